/- Sorting in parts of a list, in plain words: no program in sight -/
namespace Go.Azalai
section
variable {α : Type} (key : α → Int)
/-- the key at a place -/
def ky (l : List α) (i : Nat) : Int := match l[i]? with | some x => key x | none => 0
def swp (l : List α) (i j : Nat) : List α := match l[i]?, l[j]? with | some x, some y => (l.set i y).set j x | _, _ => l
theorem swp_eq {l : List α} {i j : Nat} (hi : i < l.length) (hj : j < l.length) : swp l i j = (l.set i l[j]).set j l[i] := by
  unfold swp; rw [List.getElem?_eq_getElem hi, List.getElem?_eq_getElem hj]
theorem swp_len (l : List α) (i j : Nat) : (swp l i j).length = l.length := by unfold swp; split <;> simp
theorem swp_get {l : List α} {i j : Nat} (hi : i < l.length) (hj : j < l.length) (p : Nat) : (swp l i j)[p]? = if p = i then l[j]? else if p = j then l[i]? else l[p]? := by
  rw [swp_eq hi hj]
  by_cases h1 : p = j
  · subst h1
    by_cases h2 : p = i
    · subst h2; simp [hi]
    · simp [h2, hi, hj]
  · rw [List.getElem?_set_ne (Ne.symm h1)]
    by_cases h2 : p = i
    · subst h2; simp [hi, hj]
    · rw [List.getElem?_set_ne (Ne.symm h2), if_neg h2, if_neg h1]
theorem swp_perm {l : List α} {i j : Nat} (hi : i < l.length) (hj : j < l.length) : (swp l i j).Perm l := by
  rw [swp_eq hi hj]; exact List.set_set_perm hi hj
theorem swp_ky {l : List α} {i j : Nat} (hi : i < l.length) (hj : j < l.length) (p : Nat) : ky key (swp l i j) p = if p = i then ky key l j else if p = j then ky key l i else ky key l p := by
  unfold ky; rw [swp_get hi hj]
  by_cases h1 : p = i
  · simp only [if_pos h1]
  · by_cases h2 : p = j
    · simp only [if_neg h1, if_pos h2]
    · simp only [if_neg h1, if_neg h2]
/-- one list is another one but for an order among the places from a to b -/
structure PIn (a b : Nat) (l l' : List α) : Prop where
  len : l'.length = l.length
  perm : l'.Perm l
  out : ∀ i, i < a ∨ b ≤ i → l'[i]? = l[i]?
  all : ∀ p : α → Prop, (∀ i x, a ≤ i → i < b → l[i]? = some x → p x) → ∀ i x, a ≤ i → i < b → l'[i]? = some x → p x
theorem PIn.refl (a b : Nat) (l : List α) : PIn a b l l := ⟨rfl, .refl _, fun _ _ => rfl, fun _ h => h⟩
theorem PIn.trans {a b : Nat} {l l' l'' : List α} (h : PIn a b l l') (h' : PIn a b l' l'') : PIn a b l l'' :=
  ⟨h'.len.trans h.len, h'.perm.trans h.perm, fun i hi => (h'.out i hi).trans (h.out i hi), fun p hp => h'.all p (h.all p hp)⟩
theorem PIn.mono {a b a' b' : Nat} {l l' : List α} (h : PIn a b l l') (ha : a' ≤ a) (hb : b ≤ b') : PIn a' b' l l' := by
  refine ⟨h.len, h.perm, fun i hi => h.out i (by omega), fun p hp i x h1 h2 hx => ?_⟩
  by_cases hi : a ≤ i ∧ i < b
  · exact h.all p (fun i x q1 q2 => hp i x (by omega) (by omega)) i x hi.1 hi.2 hx
  · rw [h.out i (by omega)] at hx; exact hp i x h1 h2 hx
theorem PIn.swap {a b i j : Nat} {l : List α} (hi : a ≤ i) (hi' : i < b) (hj : a ≤ j) (hj' : j < b) (hb : b ≤ l.length) : PIn a b l (swp l i j) := by
  have h1 : i < l.length := by omega
  have h2 : j < l.length := by omega
  refine ⟨swp_len _ _ _, swp_perm h1 h2, fun p hp => ?_, fun q hq p x g1 g2 hx => ?_⟩
  · rw [swp_get h1 h2, if_neg (by omega), if_neg (by omega)]
  · rw [swp_get h1 h2] at hx
    split at hx
    · exact hq j x hj hj' hx
    · split at hx
      · exact hq i x hi hi' hx
      · exact hq p x g1 g2 hx
theorem PIn.ky {a b : Nat} {l l' : List α} (h : PIn a b l l') {i : Nat} (hi : i < a ∨ b ≤ i) : ky key l' i = ky key l i := by unfold Go.Azalai.ky; rw [h.out i hi]
/-- bounds of keys stay -/
theorem PIn.kall {a b : Nat} {l l' : List α} (h : PIn a b l l') (hb : b ≤ l.length) (p : Int → Prop) (hp : ∀ i, a ≤ i → i < b → p (Go.Azalai.ky key l i)) : ∀ i, a ≤ i → i < b → p (Go.Azalai.ky key l' i) := fun i h1 h2 => by
  have hl : i < l'.length := by rw [h.len]; omega
  have := h.all (fun x => p (key x)) (fun i x q1 q2 hx => by have := hp i q1 q2; unfold Go.Azalai.ky at this; rw [hx] at this; exact this) i l'[i] h1 h2 (List.getElem?_eq_getElem hl)
  unfold Go.Azalai.ky; rw [List.getElem?_eq_getElem hl]; exact this
def Srt (a b : Nat) (l : List α) : Prop := ∀ i j, a ≤ i → i < j → j < b → ky key l i ≤ ky key l j
theorem Srt.le {a b : Nat} {l : List α} (h : Srt key a b l) {i j : Nat} (h1 : a ≤ i) (h2 : i ≤ j) (h3 : j < b) : ky key l i ≤ ky key l j := by
  rcases Nat.lt_or_ge i j with q | q
  · exact h i j h1 q h3
  · rw [show i = j from by omega]; exact Int.le_refl _
/-- two sorted parts, the one not above the other -/
theorem Srt.join {a c b : Nat} {l : List α} (h1 : Srt key a c l) (h2 : Srt key c b l) (h : ∀ i j, a ≤ i → i < c → c ≤ j → j < b → ky key l i ≤ ky key l j) : Srt key a b l := fun i j g1 g2 g3 => by
  by_cases hj : j < c
  · exact h1 i j g1 g2 hj
  · by_cases hi : i < c
    · exact h i j g1 hi (by omega) g3
    · exact h2 i j (by omega) g2 g3
/-! insertion -/
structure Ins1 (a i j : Nat) (l : List α) : Prop where
  up : ∀ p q, a ≤ p → p < q → q ≤ i → p ≠ j → q ≠ j → ky key l p ≤ ky key l q
  lo : ∀ q, j < q → q ≤ i → ky key l j ≤ ky key l q
theorem ins_start {a i : Nat} {l : List α} (h : Srt key a i l) : Ins1 key a i i l := ⟨fun p q h1 h2 h3 h4 h5 => h p q h1 h2 (by omega), fun q h1 h2 => by omega⟩
theorem ins_step {a i j : Nat} {l : List α} (h : Ins1 key a i j l) (hj : a < j) (hji : j ≤ i) (hl : i < l.length) (hk : ky key l j < ky key l (j - 1)) : Ins1 key a i (j - 1) (swp l j (j - 1)) := by
  have e := swp_ky key (l := l) (i := j) (j := j - 1) (by omega) (by omega)
  refine ⟨fun p q h1 h2 h3 h4 h5 => ?_, fun q h1 h2 => ?_⟩
  · rw [e, e, if_neg (c := p = j - 1) (by omega), if_neg (c := q = j - 1) (by omega)]
    by_cases hp : p = j
    · subst hp; rw [if_pos rfl, if_neg (by omega)]; exact h.up _ _ (by omega) (by omega) h3 (by omega) (by omega)
    · rw [if_neg hp]
      by_cases hq : q = j
      · subst hq; rw [if_pos rfl]; exact h.up _ _ h1 (by omega) (by omega) (by omega) (by omega)
      · rw [if_neg hq]; exact h.up _ _ h1 h2 h3 hp hq
  · rw [e, e, if_neg (c := j - 1 = j) (by omega), if_pos rfl]
    by_cases hq : q = j
    · subst hq; rw [if_pos rfl]; omega
    · rw [if_neg hq, if_neg (by omega)]; exact h.lo q (by omega) h2
theorem ins_end {a i j : Nat} {l : List α} (h : Ins1 key a i j l) (hji : j ≤ i) (hj : j ≤ a ∨ ky key l (j - 1) ≤ ky key l j) : Srt key a (i + 1) l := fun p q h1 h2 h3 => by
  by_cases hp : p = j
  · subst hp; exact h.lo q h2 (by omega)
  · by_cases hq : q = j
    · subst hq
      rcases hj with hj | hj
      · omega
      · by_cases hp1 : p = q - 1
        · rw [hp1]; exact hj
        · have := h.up p (q - 1) h1 (by omega) (by omega) hp (by omega)
          omega
    · exact h.up p q h1 h2 (by omega) hp hq
end
end Go.Azalai
