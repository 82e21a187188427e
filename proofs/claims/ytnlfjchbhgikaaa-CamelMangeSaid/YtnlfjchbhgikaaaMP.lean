import Derived.Test.YtnlfjchbhgikaaaMG
namespace Go.Azalai
/-! mange, in plain words: since when an animal can be sick -/
inductive Inf (first : List Int) (M : Meet → Prop) (w : Int) : Int → Int → Prop
  | base {i : Int} : i ∈ first → Inf first M w i 0
  | l {m : Meet} {t : Int} : M m → Inf first M w m.a t → t ≤ m.day → Inf first M w m.b (m.day + w)
  | r {m : Meet} {t : Int} : M m → Inf first M w m.b t → t ≤ m.day → Inf first M w m.a (m.day + w)
def Sick (first : List Int) (M : Meet → Prop) (w i day : Int) : Prop := ∃ t, t ≤ day ∧ Inf first M w i t
theorem Inf.mono {first : List Int} {M M' : Meet → Prop} {w i t : Int} (h : ∀ m, M m → M' m) (hi : Inf first M w i t) : Inf first M' w i t := by
  induction hi with
  | base hb => exact .base hb
  | l hm _ ht ih => exact .l (h _ hm) ih ht
  | r hm _ ht ih => exact .r (h _ hm) ih ht
theorem Inf.rng {n : Int} {first : List Int} {M : Meet → Prop} {w i t : Int} (hf : ∀ i ∈ first, 0 ≤ i ∧ i < n) (hm : ∀ m, M m → okM n m) (hi : Inf first M w i t) : 0 ≤ i ∧ i < n := by
  cases hi with
  | base hb => exact hf _ hb
  | l h _ _ => exact (hm _ h).2.1
  | r h _ _ => exact (hm _ h).1
theorem Inf.earlier {first : List Int} {M M' : Meet → Prop} {w w' i t : Int} (h : ∀ m, M m → M' m) (hw : w' ≤ w) (hi : Inf first M w i t) : ∃ t', t' ≤ t ∧ Inf first M' w' i t' := by
  induction hi with
  | base hb => exact ⟨0, Int.le_refl _, .base hb⟩
  | l hm _ ht ih => obtain ⟨t', h1, h2⟩ := ih; exact ⟨_, by omega, .l (h _ hm) h2 (by omega)⟩
  | r hm _ ht ih => obtain ⟨t', h1, h2⟩ := ih; exact ⟨_, by omega, .r (h _ hm) h2 (by omega)⟩
theorem gI_set {s : List Int} {b i x : Int} (hb : 0 ≤ b) (hbl : b < s.length) (hi : 0 ≤ i) : gI (s.set b.toNat x) i = if i = b then x else gI s i := by
  unfold gI
  rw [List.getD_eq_getElem?_getD, List.getD_eq_getElem?_getD]
  by_cases h : i = b
  · subst h; rw [if_pos rfl, List.getElem?_set_self (by omega)]; rfl
  · rw [if_neg h, List.getElem?_set_ne (by omega)]
theorem inf1_le {w d a b i : Int} {s : List Int} (hb : 0 ≤ b) (hbl : b < s.length) (hi : 0 ≤ i) : gI (inf1 w d a b s) i ≤ gI s i := by
  unfold inf1
  split
  · rw [gI_set hb hbl hi]; split
    · rename_i h; subst h; omega
    · exact Int.le_refl _
  · exact Int.le_refl _
theorem inf1_new {w d a b : Int} {s : List Int} (hb : 0 ≤ b) (hbl : b < s.length) (ha : gI s a ≤ d) : gI (inf1 w d a b s) b ≤ d + w := by
  unfold inf1
  rw [if_pos ha, gI_set hb hbl hb, if_pos rfl]; omega
theorem meetS_len (w : Int) (m : Meet) (s : List Int) : (meetS w m s).length = s.length := by unfold meetS; rw [inf1_len, inf1_len]
/-- one more meeting, not before the others -/
theorem inf_add {first : List Int} {P : Meet → Prop} {w : Int} {m : Meet} (hw : 1 ≤ w) (hd : ∀ p, P p → p.day ≤ m.day) {i t : Int} (hi : Inf first (fun x => P x ∨ x = m) w i t) :
    Inf first P w i t ∨ (i = m.b ∧ t = m.day + w ∧ ∃ t', Inf first P w m.a t' ∧ t' ≤ m.day) ∨ (i = m.a ∧ t = m.day + w ∧ ∃ t', Inf first P w m.b t' ∧ t' ≤ m.day) := by
  induction hi with
  | base hb => exact .inl (.base hb)
  | l hm hp ht ih =>
    rename_i m' t'
    have hle : m'.day ≤ m.day := by
      rcases hm with h | h
      · exact hd _ h
      · rw [h]; exact Int.le_refl _
    rcases ih with h | ⟨_, h, _⟩ | ⟨_, h, _⟩
    · rcases hm with hm | hm
      · exact .inl (.l hm h ht)
      · subst hm; exact .inr (.inl ⟨rfl, rfl, t', h, ht⟩)
    · omega
    · omega
  | r hm hp ht ih =>
    rename_i m' t'
    have hle : m'.day ≤ m.day := by
      rcases hm with h | h
      · exact hd _ h
      · rw [h]; exact Int.le_refl _
    rcases ih with h | ⟨_, h, _⟩ | ⟨_, h, _⟩
    · rcases hm with hm | hm
      · exact .inl (.r hm h ht)
      · subst hm; exact .inr (.inr ⟨rfl, rfl, t', h, ht⟩)
    · omega
    · omega
/-- what is before a day hangs on the meetings before it alone -/
theorem inf_cut {first : List Int} {Q P : Meet → Prop} {w last : Int} (hw : 1 ≤ w) (h : ∀ m, Q m → m.day ≤ last → P m) {i t : Int} (hi : Inf first Q w i t) (ht : t ≤ last) : Inf first P w i t := by
  induction hi with
  | base hb => exact .base hb
  | l hm hp htt ih => exact .l (h _ hm (by omega)) (ih (by omega)) htt
  | r hm hp htt ih => exact .r (h _ hm (by omega)) (ih (by omega)) htt
theorem spread_le {n : Int} {first : List Int} {w last : Int} (hw : 1 ≤ w) (hf : ∀ i ∈ first, 0 ≤ i ∧ i < n) : ∀ (l : List Meet) (P : Meet → Prop) (s : List Int), s.length = n → (∀ m ∈ l, okM n m) → (∀ m, P m → okM n m) → l.Pairwise (fun x y => x.day ≤ y.day) → (∀ p, P p → ∀ m ∈ l, p.day ≤ m.day) →
    (∀ i t, Inf first P w i t → gI s i ≤ t) → ∀ i t, Inf first (fun m => P m ∨ m ∈ l) w i t → t ≤ last → gI (spreadF w last l s) i ≤ t
  | [], P, s, hs, hm, hP, hso, hd, hA, i, t, hi, ht => hA i t (hi.mono fun m h => by simpa using h)
  | m :: l, P, s, hs, hm, hP, hso, hd, hA, i, t, hi, ht => by
    have hso' := List.pairwise_cons.1 hso
    unfold spreadF
    by_cases hlast : m.day > last
    · rw [if_pos hlast]
      refine hA i t (inf_cut hw (fun q hq hql => ?_) hi ht)
      rcases hq with hq | hq
      · exact hq
      · rcases List.mem_cons.1 hq with rfl | hq
        · omega
        · have := hso'.1 q hq; omega
    · rw [if_neg hlast]
      have hmo := hm m (by simp)
      refine spread_le hw hf l (fun x => P x ∨ x = m) (meetS w m s) (by rw [meetS_len]; exact hs) (fun x hx => hm x (by simp [hx])) (fun x hx => by rcases hx with h | h; exact hP x h; rw [h]; exact hmo) hso'.2 (fun p hp x hx => ?_) (fun j t' hj => ?_) i t (hi.mono fun x hx => ?_) ht
      · rcases hp with hp | rfl
        · exact hd p hp x (by simp [hx])
        · exact hso'.1 x hx
      · have hr := hj.rng hf (fun x hx => by rcases hx with h | h; exact hP x h; rw [h]; exact hmo)
        obtain ⟨⟨a0, a1⟩, ⟨b0, b1⟩, _, _, _⟩ := hmo
        have l1 : (inf1 w m.day m.a m.b s).length = n := by rw [inf1_len]; exact hs
        have q1 := inf1_le (w := w) (d := m.day) (a := m.b) (b := m.a) (i := j) (s := inf1 w m.day m.a m.b s) a0 (by omega) hr.1
        have q2 := inf1_le (w := w) (d := m.day) (a := m.a) (b := m.b) (i := j) (s := s) b0 (by omega) hr.1
        rcases inf_add hw (fun p hp => hd p hp m (by simp)) hj with h | ⟨rfl, rfl, t1, h1, h2⟩ | ⟨rfl, rfl, t1, h1, h2⟩
        · have := hA j t' h; unfold meetS; omega
        · have h3 := hA _ _ h1
          have := inf1_new (w := w) (d := m.day) (a := m.a) (b := m.b) (s := s) b0 (by omega) (by omega)
          unfold meetS; omega
        · have h3 := hA _ _ h1
          have q3 := inf1_le (w := w) (d := m.day) (a := m.a) (b := m.b) (i := m.b) (s := s) b0 (by omega) b0
          exact inf1_new (w := w) (d := m.day) (a := m.b) (b := m.a) (s := inf1 w m.day m.a m.b s) a0 (by omega) (by omega)
      · rcases hx with hx | hx
        · exact .inl (.inl hx)
        · rcases List.mem_cons.1 hx with h | h
          · exact .inl (.inr h)
          · exact .inr h
theorem inf1_ok {n : Int} {first : List Int} {Q : Meet → Prop} {w W : Int} {s : List Int} {a b d : Int} (hs : s.length = n) (hb0 : 0 ≤ b) (hb1 : b < n) (ha0 : 0 ≤ a) (ha1 : a < n) (hd : d < W) (hB : ∀ i, 0 ≤ i → i < n → gI s i = W ∨ Inf first Q w i (gI s i)) (hQ : ∀ t, Inf first Q w a t → t ≤ d → Inf first Q w b (d + w)) :
    ∀ i, 0 ≤ i → i < n → gI (inf1 w d a b s) i = W ∨ Inf first Q w i (gI (inf1 w d a b s) i) := fun i h0 h1 => by
  unfold inf1
  by_cases ha : gI s a ≤ d
  · rw [if_pos ha, gI_set hb0 (by omega) h0]
    by_cases hib : i = b
    · subst hib
      rw [if_pos rfl]
      rcases Int.le_total (gI s i) (d + w) with h | h
      · rw [Int.min_eq_left h]; exact hB i h0 h1
      · rw [Int.min_eq_right h]
        rcases hB a ha0 ha1 with h2 | h2
        · omega
        · exact .inr (hQ _ h2 ha)
    · rw [if_neg hib]; exact hB i h0 h1
  · rw [if_neg ha]; exact hB i h0 h1
theorem spread_inf {n : Int} {first : List Int} {Q : Meet → Prop} {w last W : Int} (hW : 100000 < W) : ∀ (l : List Meet) (s : List Int), s.length = n → (∀ m ∈ l, okM n m ∧ Q m) → (∀ i, 0 ≤ i → i < n → gI s i = W ∨ Inf first Q w i (gI s i)) →
    ∀ i, 0 ≤ i → i < n → gI (spreadF w last l s) i = W ∨ Inf first Q w i (gI (spreadF w last l s) i)
  | [], s, hs, hm, hB => hB
  | m :: l, s, hs, hm, hB => by
    unfold spreadF
    split
    · exact hB
    · obtain ⟨⟨⟨a0, a1⟩, ⟨b0, b1⟩, _, d0, d1⟩, hQ⟩ := hm m (by simp)
      refine spread_inf hW l (meetS w m s) (by rw [meetS_len]; exact hs) (fun x hx => hm x (by simp [hx])) ?_
      unfold meetS
      refine inf1_ok (by rw [inf1_len]; exact hs) a0 a1 b0 b1 (by omega) (inf1_ok hs b0 b1 a0 a1 (by omega) hB (fun t h1 h2 => .l hQ h1 h2)) (fun t h1 h2 => .r hQ h1 h2)
theorem baseF_len : ∀ (l s : List Int), (baseF l s).length = s.length
  | [], s => rfl
  | i :: l, s => by rw [baseF, baseF_len l]; simp
theorem spreadF_len (w last : Int) : ∀ (l : List Meet) (s : List Int), (spreadF w last l s).length = s.length
  | [], s => rfl
  | m :: l, s => by unfold spreadF; split; rfl; rw [spreadF_len w last l, meetS_len]
theorem baseF_gI {n : Int} : ∀ (l s : List Int), s.length = n → (∀ i ∈ l, 0 ≤ i ∧ i < n) → ∀ i, 0 ≤ i → gI (baseF l s) i = if i ∈ l then 0 else gI s i
  | [], s, hs, hl, i, hi => by simp [baseF]
  | j :: l, s, hs, hl, i, hi => by
    have hj := hl j (by simp)
    rw [baseF, baseF_gI l _ (by simpa using hs) (fun i h => hl i (by simp [h])) i hi, gI_set hj.1 (by omega) hi]
    by_cases h1 : i ∈ l
    · simp [h1]
    · by_cases h2 : i = j
      · simp [h2]
      · simp [h1, h2]
theorem gI_rep {n : Nat} {x i : Int} (h0 : 0 ≤ i) (h1 : i < n) : gI (List.replicate n x) i = x := by
  unfold gI; rw [List.getD_eq_getElem?_getD, List.getElem?_replicate, if_pos (by omega)]; rfl
/-- what the spreading says, of meetings in order of their days -/
theorem spread_sick {n : Nat} {first : List Int} {l : List Meet} {w day : Int} (hw : 1 ≤ w) (hday : day ≤ 100000) (hf : ∀ i ∈ first, 0 ≤ i ∧ i < (n : Int)) (hm : ∀ m ∈ l, okM n m) (hso : l.Pairwise (fun x y => x.day ≤ y.day)) {i : Int} (h0 : 0 ≤ i) (h1 : i < n) :
    gI (spreadF w day l (baseF first (List.replicate n 100061))) i ≤ day ↔ Sick first (· ∈ l) w i day := by
  have hlen : ((baseF first (List.replicate n (100061 : Int))).length : Int) = n := by rw [baseF_len]; simp
  have hb := baseF_gI (n := n) first (List.replicate n 100061) (by simp) hf
  constructor
  · intro h
    have := spread_inf (n := n) (first := first) (Q := (· ∈ l)) (w := w) (last := day) (W := 100061) (by omega) l _ hlen (fun m h => ⟨hm m h, h⟩) (fun j g0 g1 => by
      rw [hb j g0]
      split
      · rename_i h; exact .inr (.base h)
      · exact .inl (gI_rep g0 g1)) i h0 h1
    rcases this with h2 | h2
    · omega
    · exact ⟨_, h, h2⟩
  · rintro ⟨t, ht, hi⟩
    refine Int.le_trans (spread_le (n := n) hw hf l (fun _ => False) _ hlen hm (fun _ h => h.elim) hso (fun _ h => h.elim) (fun j t' hj => ?_) i t (hi.mono fun m h => .inr h) ht) ht
    cases hj with
    | base hj => rw [hb j (hf j hj).1, if_pos hj]; exact Int.le_refl _
    | l h _ _ => exact h.elim
    | r h _ _ => exact h.elim
end Go.Azalai
