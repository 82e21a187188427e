import Derived.Test.YtnlfjchbhgikaaaOrd3
namespace Go.Azalai
/-! the four parts behind the turn of the symmetric merge, told of a list -/
section
variable {α : Type} (key : α → Int)
theorem srt_iff {a b : Nat} {l : List α} : Srt key a b l ↔ SrtK a b (ky key l) := Iff.rfl
structure Cutd (a i mid e b : Nat) (l : List α) : Prop where
  o1 : a ≤ i
  o2 : i ≤ mid
  o3 : mid ≤ e
  o4 : e ≤ b
  s1 : Srt key a i l
  s2 : Srt key i mid l
  s3 : Srt key mid e l
  s4 : Srt key e b l
  x : ∀ p q, a ≤ p → p < mid → mid ≤ q → q < b → ky key l p ≤ ky key l q
structure CutL (a mid e b : Nat) (l : List α) : Prop where
  o1 : a ≤ mid
  o3 : mid ≤ e
  o4 : e ≤ b
  s1 : Srt key a mid l
  s3 : Srt key mid e l
  s4 : Srt key e b l
  x : ∀ p q, a ≤ p → p < mid → mid ≤ q → q < b → ky key l p ≤ ky key l q
theorem cutd_rot {a m b mid i : Nat} {l l1 : List α} (h : Cut a m b (mid + m) i (ky key l)) (h1 : Srt key a m l) (h2 : Srt key m b l) (hk : ∀ p, ky key l1 p = rotT i m (mid + m - i) (ky key l) p) : Cutd key a i mid (mid + m - i) b l1 := by
  have e := cut_ok h h1 h2
  rw [show mid + m - m = mid from by omega] at e
  obtain ⟨q0, q1, q2, q3, q4, q5, q6⟩ := h
  have ek : ky key l1 = rotT i m (mid + m - i) (ky key l) := funext hk
  refine ⟨by omega, by omega, by omega, by omega, ?_, ?_, ?_, ?_, ?_⟩ <;> (try unfold Srt) <;> rw [ek]
  · exact e.1
  · exact e.2.1
  · exact e.2.2.1
  · exact e.2.2.2.1
  · exact e.2.2.2.2
theorem cutd_no {a m b mid i : Nat} {l : List α} (h : Cut a m b (mid + m) i (ky key l)) (h1 : Srt key a m l) (h2 : Srt key m b l) (hn : ¬ (i < m ∧ m < mid + m - i)) : Cutd key a i mid (mid + m - i) b l := by
  refine cutd_rot key h h1 h2 fun p => ?_
  obtain ⟨q0, q1, q2, q3, q4, q5, q6⟩ := h
  unfold rotT
  by_cases c1 : i ≤ p ∧ p < i + (mid + m - i - m)
  · rw [if_pos c1]; congr 1; omega
  · rw [if_neg c1]
    by_cases c2 : i + (mid + m - i - m) ≤ p ∧ p < mid + m - i
    · rw [if_pos c2]; congr 1; omega
    · rw [if_neg c2]
theorem cutl_rec {a i mid e b : Nat} {l l2 : List α} (h : Cutd key a i mid e b l) (hp : PIn a mid l l2) (hs : Srt key a mid l2) (hb : b ≤ l.length) : CutL key a mid e b l2 := by
  obtain ⟨o1, o2, o3, o4, s1, s2, s3, s4, x⟩ := h
  have ke : ∀ q, mid ≤ q → ky key l2 q = ky key l q := fun q hq => hp.ky key (.inr hq)
  refine ⟨by omega, o3, o4, hs, fun p q g1 g2 g3 => ?_, fun p q g1 g2 g3 => ?_, fun p q g1 g2 g3 g4 => ?_⟩
  · rw [ke p g1, ke q (by omega)]; exact s3 p q g1 g2 g3
  · rw [ke p (by omega), ke q (by omega)]; exact s4 p q g1 g2 g3
  · rw [ke q g3]
    exact hp.kall key (by omega) (fun k => k ≤ ky key l q) (fun p q1 q2 => x p q q1 q2 g3 g4) p g1 g2
theorem cutl_no {a i mid e b : Nat} {l : List α} (h : Cutd key a i mid e b l) (hn : ¬ (a < i ∧ i < mid)) : CutL key a mid e b l := by
  obtain ⟨o1, o2, o3, o4, s1, s2, s3, s4, x⟩ := h
  refine ⟨by omega, o3, o4, fun p q g1 g2 g3 => ?_, s3, s4, x⟩
  by_cases hq : a < i
  · exact s1 p q g1 g2 (by omega)
  · exact s2 p q (by omega) g2 g3
theorem cut_rec {a mid e b : Nat} {l l2 : List α} (h : CutL key a mid e b l) (hp : PIn mid b l l2) (hs : Srt key mid b l2) (hb : b ≤ l.length) : Srt key a b l2 := by
  obtain ⟨o1, o3, o4, s1, s3, s4, x⟩ := h
  have ke : ∀ q, q < mid → ky key l2 q = ky key l q := fun q hq => hp.ky key (.inl hq)
  refine Srt.join key (c := mid) (fun p q g1 g2 g3 => ?_) hs (fun p q g1 g2 g3 g4 => ?_)
  · rw [ke p (by omega), ke q g3]; exact s1 p q g1 g2 g3
  · rw [ke p g2]
    exact hp.kall key hb (fun k => ky key l p ≤ k) (fun q q1 q2 => x p q g1 g2 q1 q2) q g3 g4
theorem cut_no {a mid e b : Nat} {l : List α} (h : CutL key a mid e b l) (hn : ¬ (mid < e ∧ e < b)) : Srt key a b l := by
  obtain ⟨o1, o3, o4, s1, s3, s4, x⟩ := h
  refine Srt.join key (c := mid) s1 (fun p q g1 g2 g3 => ?_) x
  by_cases hq : mid < e
  · exact s3 p q g1 g2 (by omega)
  · exact s4 p q (by omega) g2 g3
end
end Go.Azalai
