import Derived.Test.YtnlfjchbhgikaaaMP
set_option maxRecDepth 100000
set_option maxHeartbeats 4000000
namespace Go.Azalai
def sumN : List Int → Nat
  | [] => 0
  | x :: l => x.toNat + sumN l
theorem sumN_set : ∀ (s : List Int) (k : Nat) (x : Int) (h : k < s.length), sumN (s.set k x) + s[k].toNat = sumN s + x.toNat
  | y :: l, 0, x, h => by simp [sumN]; omega
  | y :: l, k + 1, x, h => by
    have := sumN_set l k x (by simpa using h)
    simp only [List.set_cons_succ, sumN, List.getElem_cons_succ]; omega
def never : Int := 1099511627776
/-- relaxing: nothing new, or less -/
theorem inf1_dec {w d a b : Int} {s : List Int} (h0 : 0 ≤ d + w) (hb0 : 0 ≤ b) (hb1 : b < s.length) : inf1 w d a b s = s ∨ sumN (inf1 w d a b s) < sumN s := by
  unfold inf1
  split
  · obtain ⟨k, rfl⟩ : ∃ k : Nat, b = k := ⟨b.toNat, by omega⟩
    have hk : k < s.length := by omega
    rw [gI_eq rfl hk, Int.toNat_natCast]
    rcases Int.lt_or_le (d + w) s[k] with h | h
    · right
      have := sumN_set s k (min s[k] (d + w)) hk
      rw [Int.min_eq_right (by omega)] at this ⊢
      omega
    · left; rw [Int.min_eq_left h]; exact List.set_getElem_self hk
  · exact .inl rfl
theorem inf1_sle {w d a b : Int} {s : List Int} (h0 : 0 ≤ d + w) (hb0 : 0 ≤ b) (hb1 : b < s.length) : sumN (inf1 w d a b s) ≤ sumN s := by
  rcases inf1_dec (w := w) (d := d) (a := a) h0 hb0 hb1 with h | h
  · rw [h]; exact Nat.le_refl _
  · omega
theorem inf1_lt {w d a b : Int} {s : List Int} (h0 : 0 ≤ d + w) (hb0 : 0 ≤ b) (hb1 : b < s.length) (h1 : gI s a ≤ d) (h2 : d + w < gI s b) : sumN (inf1 w d a b s) < sumN s := by
  unfold inf1
  rw [if_pos h1]
  obtain ⟨k, rfl⟩ : ∃ k : Nat, b = k := ⟨b.toNat, by omega⟩
  have hk : k < s.length := by omega
  rw [gI_eq rfl hk] at h2 ⊢
  rw [Int.toNat_natCast]
  have := sumN_set s k (min s[k] (d + w)) hk
  rw [Int.min_eq_right (by omega)] at this ⊢
  omega
theorem inf1_if {w d a b : Int} {s : List Int} (hb0 : 0 ≤ b) (hb1 : b < s.length) : inf1 w d a b s = if gI s a ≤ d ∧ d + w < gI s b then s.set b.toNat (d + w) else s := by
  unfold inf1
  obtain ⟨k, rfl⟩ : ∃ k : Nat, b = k := ⟨b.toNat, by omega⟩
  have hk : k < s.length := by omega
  rw [gI_eq rfl hk, Int.toNat_natCast]
  by_cases h1 : gI s a ≤ d
  · rw [if_pos h1]
    by_cases h2 : d + w < s[k]
    · rw [if_pos ⟨h1, h2⟩, Int.min_eq_right (by omega)]
    · rw [if_neg (fun h => h2 h.2), Int.min_eq_left (by omega)]; exact List.set_getElem_self hk
  · rw [if_neg h1, if_neg (fun h => h1 h.1)]
def act (close : Bool) (meets : List Meet) (m : Meet) : Prop := m ∈ meets ∧ (close = true → m.close = true)
structure Sk (n : Nat) (first : List Int) (M : Meet → Prop) (w : Int) (s : List Int) : Prop where
  len : s.length = n
  inf : ∀ i : Int, 0 ≤ i → i < n → gI s i = never ∨ Inf first M w i (gI s i)
  fst : ∀ i ∈ first, gI s i ≤ 0
  up : ∀ i : Int, 0 ≤ i → i < n → gI s i ≤ never
theorem Sk.step {n : Nat} {first : List Int} {M : Meet → Prop} {w : Int} {s : List Int} (h : Sk n first M w s) (hf : ∀ i ∈ first, 0 ≤ i ∧ i < (n : Int)) {a b d : Int} (ha : 0 ≤ a ∧ a < n) (hb : 0 ≤ b ∧ b < n) (hd : d ≤ 100000) (hM : ∀ t, Inf first M w a t → t ≤ d → Inf first M w b (d + w)) : Sk n first M w (inf1 w d a b s) := by
  have hl := h.len
  refine ⟨by rw [inf1_len]; exact hl, inf1_ok (W := never) (n := n) (by rw [hl]) hb.1 hb.2 ha.1 ha.2 (by unfold never; omega) h.inf hM, fun i hi => ?_, fun i h0 h1 => ?_⟩
  · exact Int.le_trans (inf1_le hb.1 (by omega) (hf i hi).1) (h.fst i hi)
  · exact Int.le_trans (inf1_le hb.1 (by omega) h0) (h.up i h0 h1)
/-- nothing more to relax: the least days -/
structure Least (n : Nat) (first : List Int) (M : Meet → Prop) (w : Int) (s : List Int) : Prop extends Sk n first M w s where
  le : ∀ i t, Inf first M w i t → gI s i ≤ t
theorem Sk.least {n : Nat} {first : List Int} {M : Meet → Prop} {w : Int} {s : List Int} (h : Sk n first M w s) (hm : ∀ m, M m → okM n m) (hs : ∀ m, M m → inf1 w m.day m.a m.b s = s ∧ inf1 w m.day m.b m.a s = s) : Least n first M w s := by
  refine ⟨h, fun i t hi => ?_⟩
  have hl := h.len
  induction hi with
  | base hb => exact h.fst _ hb
  | l hM _ ht ih =>
    have := inf1_new (w := w) (hm _ hM).2.1.1 (by have := (hm _ hM).2.1.2; omega) (Int.le_trans ih ht)
    rwa [(hs _ hM).1] at this
  | r hM _ ht ih =>
    have := inf1_new (w := w) (hm _ hM).1.1 (by have := (hm _ hM).1.2; omega) (Int.le_trans ih ht)
    rwa [(hs _ hM).2] at this
theorem Least.unique {n : Nat} {first : List Int} {M : Meet → Prop} {w : Int} {s s' : List Int} (h : Least n first M w s) (h' : Least n first M w s') : s = s' := by
  have e : ∀ i : Int, 0 ≤ i → i < n → gI s i = gI s' i := fun i h0 h1 => by
    have q1 := h.up i h0 h1
    have q2 := h'.up i h0 h1
    rcases h.inf i h0 h1 with g | g <;> rcases h'.inf i h0 h1 with g' | g'
    · rw [g, g']
    · have := h.le _ _ g'; omega
    · have := h'.le _ _ g; omega
    · have := h.le _ _ g'; have := h'.le _ _ g; omega
  apply List.ext_getElem (by rw [h.len, h'.len])
  intro k k1 k2
  have := e k (by omega) (by rw [← h.len]; omega)
  rwa [gI_eq rfl k1, gI_eq rfl k2] at this
open Classical in
noncomputable def sickF (n : Nat) (first : List Int) (M : Meet → Prop) (w : Int) : List Int := if h : ∃ s, Least n first M w s then Classical.choose h else []
theorem Least.sickF {n : Nat} {first : List Int} {M : Meet → Prop} {w : Int} {s : List Int} (h : Least n first M w s) : sickF n first M w = s := by
  have : ∃ s, Least n first M w s := ⟨s, h⟩
  unfold Go.Azalai.sickF
  rw [dif_pos this]
  exact (Classical.choose_spec this).unique h
theorem Least.sick {n : Nat} {first : List Int} {M : Meet → Prop} {w : Int} {s : List Int} (h : Least n first M w s) {i day : Int} (hd : day ≤ 100000) (h0 : 0 ≤ i) (h1 : i < n) : gI s i ≤ day ↔ Sick first M w i day := by
  constructor
  · intro hs
    rcases h.inf i h0 h1 with g | g
    · unfold never at g; omega
    · exact ⟨_, hs, g⟩
  · rintro ⟨t, ht, hi⟩
    exact Int.le_trans (h.le i t hi) ht
end Go.Azalai
