import Derived.Test.YtnlfjchbhgikaaaOrd2
namespace Go.Azalai
/-! the search of the symmetric merge finds a cut -/
structure Srch (p s0 r0 s r : Nat) (K : Nat → Int) : Prop where
  lo : ∀ c, s0 ≤ c → c < s → K c ≤ K (p - c)
  hi : ∀ c, r ≤ c → c < r0 → K (p - c) < K c
theorem srch_start (p s0 r0 : Nat) (K : Nat → Int) : Srch p s0 r0 s0 r0 K := ⟨fun c h1 h2 => by omega, fun c h1 h2 => by omega⟩
/-- K rises below 'm', and falls when read from the other end -/
theorem srch_up {a m b p s0 r0 s r c : Nat} {K : Nat → Int} (h : Srch p s0 r0 s r K) (h1 : SrtK a m K) (h2 : SrtK m b K) (ha : a ≤ s0) (hr : r0 ≤ m) (hp : ∀ c, s0 ≤ c → c < r0 → m ≤ p - c ∧ p - c < b) (hc : s ≤ c) (hcr : c < r) (hrr : r ≤ r0) (hk : K c ≤ K (p - c)) (hs : s0 ≤ s) : Srch p s0 r0 (c + 1) r K := by
  refine ⟨fun c' g1 g2 => ?_, h.hi⟩
  have q1 := hp c' g1 (by omega)
  have q2 := hp c (by omega) (by omega)
  exact Int.le_trans (h1.le (by omega) (show c' ≤ c by omega) (by omega)) (Int.le_trans hk (h2.le (by omega) (by omega) (by omega)))
theorem srch_down {a m b p s0 r0 s r c : Nat} {K : Nat → Int} (h : Srch p s0 r0 s r K) (h1 : SrtK a m K) (h2 : SrtK m b K) (ha : a ≤ s0) (hr : r0 ≤ m) (hp : ∀ c, s0 ≤ c → c < r0 → m ≤ p - c ∧ p - c < b) (hc : s ≤ c) (hcr : c < r) (hrr : r ≤ r0) (hk : K (p - c) < K c) (hs : s0 ≤ s) : Srch p s0 r0 s c K := by
  refine ⟨h.lo, fun c' g1 g2 => ?_⟩
  have q1 := hp c' (by omega) g2
  have q2 := hp c (by omega) (by omega)
  have e1 := h2.le (i := p - c') (j := p - c) (by omega) (by omega) (by omega)
  have e2 := h1.le (i := c) (j := c') (by omega) (by omega) (by omega)
  omega
theorem cut_of {a m b mid s : Nat} {K : Nat → Int} (ham : a < m) (hmb : m < b) (h1 : 2 * mid ≤ a + b) (h2 : a + b ≤ 2 * mid + 1) (s0 r0 : Nat) (hs0 : s0 = if m > mid then mid + m - b else a) (hr0 : r0 = if m > mid then mid else m)
    (hs : s0 ≤ s) (hr : s ≤ r0) (h : Srch (mid + m - 1) s0 r0 s s K) : Cut a m b (mid + m) s K := by
  by_cases hm : m > mid
  · rw [if_pos hm] at hs0 hr0
    subst hs0; subst hr0
    refine ⟨by omega, by omega, by omega, by omega, by omega, fun g1 g2 => ?_, fun g1 g2 => ?_⟩
    · have := h.lo (s - 1) (by omega) (by omega)
      rwa [show r0 + m - 1 - (s - 1) = r0 + m - s from by omega] at this
    · have := h.hi s (Nat.le_refl _) (by omega)
      rw [show r0 + m - 1 - s = r0 + m - s - 1 from by omega] at this
      exact Int.le_of_lt this
  · rw [if_neg hm] at hs0 hr0
    subst hs0; subst hr0
    refine ⟨by omega, by omega, by omega, by omega, by omega, fun g1 g2 => ?_, fun g1 g2 => ?_⟩
    · have := h.lo (s - 1) (by omega) (by omega)
      rwa [show mid + r0 - 1 - (s - 1) = mid + r0 - s from by omega] at this
    · have := h.hi s (Nat.le_refl _) (by omega)
      rw [show mid + r0 - 1 - s = mid + r0 - s - 1 from by omega] at this
      exact Int.le_of_lt this
end Go.Azalai
