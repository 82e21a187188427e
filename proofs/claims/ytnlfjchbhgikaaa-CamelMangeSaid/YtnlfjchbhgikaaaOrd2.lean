import Derived.Test.YtnlfjchbhgikaaaOrd
namespace Go.Azalai
/-! turning a part of a row round, told of keys alone -/
def swR (a b n : Nat) (K : Nat → Int) : Nat → Int := fun p => if a ≤ p ∧ p < a + n then K (p + b - a) else if b ≤ p ∧ p < b + n then K (p + a - b) else K p
def rotT (a m b : Nat) (K : Nat → Int) : Nat → Int := fun p => if a ≤ p ∧ p < a + (b - m) then K (p + (m - a)) else if a + (b - m) ≤ p ∧ p < b then K (p - (b - m)) else K p
theorem swR_0 (a b : Nat) (K : Nat → Int) (p : Nat) : swR a b 0 K p = K p := by
  unfold swR; rw [if_neg (by omega), if_neg (by omega)]
theorem swR_succ {a b n : Nat} {K : Nat → Int} (hab : a + n < b) (p : Nat) : swR a b (n + 1) K p = if p = a + n then swR a b n K (b + n) else if p = b + n then swR a b n K (a + n) else swR a b n K p := by
  unfold swR
  by_cases h1 : p = a + n
  · subst h1
    rw [if_pos (by omega), if_pos rfl, if_neg (by omega), if_neg (by omega)]; congr 1; omega
  · rw [if_neg h1]
    by_cases h2 : p = b + n
    · subst h2
      rw [if_neg (by omega), if_pos (by omega), if_pos rfl, if_neg (by omega), if_neg (by omega)]; congr 1; omega
    · rw [if_neg h2]
      by_cases h3 : a ≤ p ∧ p < a + n
      · rw [if_pos (by omega), if_pos h3]
      · rw [if_neg (by omega), if_neg h3]
        by_cases h4 : b ≤ p ∧ p < b + n
        · rw [if_pos (by omega), if_pos h4]
        · rw [if_neg (by omega), if_neg h4]
structure RotI (m i j : Nat) (K T : Nat → Int) : Prop where
  out : ∀ p, p < m - i ∨ m + j ≤ p → K p = T p
  x : ∀ p, m - i ≤ p → p < m - i + j → T p = K (p + i)
  y : ∀ p, m - i + j ≤ p → p < m + j → T p = K (p - j)
theorem rot_start {a m b : Nat} {K : Nat → Int} (h1 : a ≤ m) (h2 : m ≤ b) : RotI m (m - a) (b - m) K (rotT a m b K) := by
  have e : m - (m - a) = a := by omega
  refine ⟨fun p hp => ?_, fun p q1 q2 => ?_, fun p q1 q2 => ?_⟩ <;> unfold rotT <;> rw [e] at *
  · rw [if_neg (by omega), if_neg (by omega)]
  · rw [if_pos (by omega)]
  · rw [if_neg (by omega), if_pos (by omega)]
theorem rot_gt {m i j : Nat} {K T : Nat → Int} (h : RotI m i j K T) (hi : i ≤ m) (hj : 0 < j) (hij : j < i) : RotI m (i - j) j (swR (m - i) m j K) T := by
  refine ⟨fun p hp => ?_, fun p q1 q2 => ?_, fun p q1 q2 => ?_⟩ <;> unfold swR
  · by_cases h1 : m - i ≤ p ∧ p < m - i + j
    · rw [if_pos h1, h.x p h1.1 h1.2]; congr 1; omega
    · rw [if_neg h1, if_neg (by omega)]; exact h.out p (by omega)
  · rw [if_neg (by omega), if_pos (by omega), h.y p (by omega) (by omega)]; congr 1; omega
  · rw [if_neg (by omega), if_neg (by omega), h.y p (by omega) (by omega)]
theorem rot_lt {m i j : Nat} {K T : Nat → Int} (h : RotI m i j K T) (hi : i ≤ m) (hi0 : 0 < i) (hij : i < j) : RotI m i (j - i) (swR (m - i) (m + j - i) i K) T := by
  refine ⟨fun p hp => ?_, fun p q1 q2 => ?_, fun p q1 q2 => ?_⟩ <;> unfold swR
  · by_cases h1 : m + j - i ≤ p ∧ p < m + j
    · rw [if_neg (by omega), if_pos (by omega), h.y p (by omega) (by omega)]; congr 1; omega
    · rw [if_neg (by omega), if_neg (by omega)]; exact h.out p (by omega)
  · rw [if_neg (by omega), if_neg (by omega)]; exact h.x p (by omega) (by omega)
  · rw [if_pos (by omega), h.x p (by omega) (by omega)]; congr 1; omega
theorem rot_eq {m i : Nat} {K T : Nat → Int} (h : RotI m i i K T) (hi : i ≤ m) (p : Nat) : swR (m - i) m i K p = T p := by
  unfold swR
  by_cases h1 : m - i ≤ p ∧ p < m - i + i
  · rw [if_pos h1, h.x p h1.1 h1.2]; congr 1; omega
  · by_cases h2 : m ≤ p ∧ p < m + i
    · rw [if_neg h1, if_pos h2, h.y p (by omega) (by omega)]; congr 1; omega
    · rw [if_neg h1, if_neg h2]; exact h.out p (by omega)
/-! where two sorted parts are cut, so that what is turned round between is sorted in its halves -/
def SrtK (a b : Nat) (K : Nat → Int) : Prop := ∀ i j, a ≤ i → i < j → j < b → K i ≤ K j
theorem SrtK.le {a b : Nat} {K : Nat → Int} (h : SrtK a b K) {i j : Nat} (h1 : a ≤ i) (h2 : i ≤ j) (h3 : j < b) : K i ≤ K j := by
  rcases Nat.lt_or_ge i j with q | q
  · exact h i j h1 q h3
  · rw [show i = j from by omega]; exact Int.le_refl _
/-- the cut: 's' in the first part, 'n - s' in the second -/
structure Cut (a m b n s : Nat) (K : Nat → Int) : Prop where
  s0 : a ≤ s
  s1 : s ≤ m
  e0 : m + s ≤ n
  e1 : n ≤ b + s
  mid : 2 * (n - m) ≤ a + b ∧ a + b ≤ 2 * (n - m) + 1
  lo : a < s → n < b + s → K (s - 1) ≤ K (n - s)
  hi : s < m → m + s < n → K (n - s - 1) ≤ K s
theorem cut_ok {a m b n s : Nat} {K : Nat → Int} (h : Cut a m b n s K) (h1 : SrtK a m K) (h2 : SrtK m b K) :
    SrtK a s (rotT s m (n - s) K) ∧ SrtK s (n - m) (rotT s m (n - s) K) ∧ SrtK (n - m) (n - s) (rotT s m (n - s) K) ∧ SrtK (n - s) b (rotT s m (n - s) K) ∧
      ∀ i j, a ≤ i → i < n - m → n - m ≤ j → j < b → rotT s m (n - s) K i ≤ rotT s m (n - s) K j := by
  obtain ⟨q1, q2, q3, q4, q5, q6, q7⟩ := h
  have e : s + (n - s - m) = n - m := by omega
  have v1 : ∀ p, p < s → rotT s m (n - s) K p = K p := fun p hp => by unfold rotT; rw [if_neg (by omega), if_neg (by omega)]
  have v2 : ∀ p, s ≤ p → p < n - m → rotT s m (n - s) K p = K (p + (m - s)) := fun p g1 g2 => by unfold rotT; rw [if_pos (by omega)]
  have v3 : ∀ p, n - m ≤ p → p < n - s → rotT s m (n - s) K p = K (p - (n - s - m)) := fun p g1 g2 => by unfold rotT; rw [if_neg (by omega), if_pos (by omega)]
  have v4 : ∀ p, n - s ≤ p → rotT s m (n - s) K p = K p := fun p g1 => by unfold rotT; rw [if_neg (by omega), if_neg (by omega)]
  refine ⟨fun i j g1 g2 g3 => ?_, fun i j g1 g2 g3 => ?_, fun i j g1 g2 g3 => ?_, fun i j g1 g2 g3 => ?_, fun i j g1 g2 g3 g4 => ?_⟩
  · rw [v1 i (by omega), v1 j (by omega)]; exact h1 i j g1 g2 (by omega)
  · rw [v2 i (by omega) (by omega), v2 j (by omega) (by omega)]; exact h2 _ _ (by omega) (by omega) (by omega)
  · rw [v3 i (by omega) (by omega), v3 j (by omega) (by omega)]; exact h1 _ _ (by omega) (by omega) (by omega)
  · rw [v4 i (by omega), v4 j (by omega)]; exact h2 _ _ (by omega) g2 g3
  · by_cases hi : i < s
    · rw [v1 i hi]
      by_cases hj : j < n - s
      · rw [v3 j g3 hj]; exact h1.le g1 (by omega) (by omega)
      · rw [v4 j (by omega)]
        exact Int.le_trans (h1.le g1 (j := s - 1) (by omega) (by omega)) (Int.le_trans (q6 (by omega) (by omega)) (h2.le (i := n - s) (by omega) (by omega) g4))
    · rw [v2 i (by omega) g2]
      by_cases hj : j < n - s
      · rw [v3 j g3 hj]
        exact Int.le_trans (h2.le (j := n - s - 1) (by omega) (by omega) (by omega)) (Int.le_trans (q7 (by omega) (by omega)) (h1.le (i := s) (by omega) (by omega) (by omega)))
      · rw [v4 j (by omega)]; exact h2.le (by omega) (by omega) g4
end Go.Azalai
