import Derived.Test.YtnlfjchbhgikaaaCA
set_option maxRecDepth 100000
set_option maxHeartbeats 4000000
namespace Go.Proofs.Ytnlfjchbhgikaaa
open Go Go.Sx Go.Azalai
theorem up_wrap {a b A : Int} (h0 : 0 ≤ a) (h1 : a ≤ A) (hA : A ≤ 1000000000000000) (hb : 1 ≤ b) (hb2 : b ≤ 1000000000) :
    IntKind.i64.wrap (a + b) = a + b ∧ IntKind.i64.wrap (a + b - 1) = a + b - 1 ∧ IntKind.i64.wrap ((a + b - 1).tdiv b) = upF a b := by
  have := up_bd h0 h1 hb
  refine ⟨w64_in (by omega) (by omega), w64_in (by omega) (by omega), ?_⟩
  unfold upF at *
  exact w64_in (by omega) (by omega)
theorem ceil_ok (a b : Int) (h0 : 0 ≤ a) (h1 : a ≤ 1000000000000000) (hb : 1 ≤ b) (hb2 : b ≤ 1000000000) : Ct Try.prog 90 [I a, I b] (I (upF a b)) := by
  obtain ⟨q1, q2, q3⟩ := up_wrap h0 h1 (Int.le_refl _) hb hb2
  refine t90 (by simp [KFL, KF]) (by simp [KFL, KF]) ?_
  dsimp only [c90, r90, go_sem, Nat.reduceAdd, Nat.reduceMul, Nat.reduceSub]
  simp only [q1, q2]
  refine div0 (by omega) ?_
  dsimp only [go_sem, Nat.reduceAdd, Nat.reduceMul, Nat.reduceSub]
  rw [q3]
theorem upR_ok (a b : Int) (h0 : 0 ≤ a) (h1 : a ≤ 1000000000000000) (hb : 1 ≤ b) (hb2 : b ≤ 1000000000) : Ct Try.prog 58 [I a, I b] (I (upF a b)) := by
  obtain ⟨q1, q2, q3⟩ := up_wrap h0 h1 (Int.le_refl _) hb hb2
  refine t58 (by simp [KFL, KF]) (by simp [KFL, KF]) ?_
  dsimp only [c58, r58, go_sem, Nat.reduceAdd, Nat.reduceMul, Nat.reduceSub]
  simp only [q1, q2]
  refine div0 (by omega) ?_
  dsimp only [go_sem, Nat.reduceAdd, Nat.reduceMul, Nat.reduceSub]
  rw [q3]
/-- a span times numbers, divided: rounded down and up -/
def scl (s : Span) (b n : Int) : Span := ⟨(s.lo * n).tdiv b, upF (s.hi * n) b⟩
theorem scaled1 (s : Span) (b n A : Int) (c : Bool) (h1 : 0 ≤ s.lo) (h2 : s.lo ≤ s.hi) (h3 : 0 ≤ n) (h4 : s.hi * n ≤ 100000000000000) (hb : 1 ≤ b) (hb2 : b ≤ 1000000000) :
    Ct Try.prog 89 [.agg (spanL s), I b, .sl c 1 [[I n]]] (.agg (spanL (scl s b n))) := by
  have k1 : 0 ≤ s.lo * n := Int.mul_nonneg h1 h3
  have k2 : s.lo * n ≤ s.hi * n := Int.mul_le_mul_of_nonneg_right h2 h3
  refine t89 (by simp [spanL, KFR, KFL, KF]) (by simp [spanL, KFL, KF]) ?_
  dsimp only [c89, r89, spanL, go_sem, Nat.reduceAdd, Nat.reduceMul, Nat.reduceSub]
  refine unroll 2 ?_
  dsimp only [rnds_succ, go_sem, Nat.reduceAdd, Nat.reduceMul, Nat.reduceSub]
  refine br_t (by decide) ?_
  dsimp only [rnds_succ, go_sem, Nat.reduceAdd, Nat.reduceMul, Nat.reduceSub]
  refine ixs 0 [I n] rfl rfl ?_
  dsimp only [rnds_succ, go_sem, Nat.reduceAdd, Nat.reduceMul, Nat.reduceSub]
  refine br_f (by decide) ?_
  dsimp only [go_sem, Nat.reduceAdd, Nat.reduceMul, Nat.reduceSub]
  rw [w64_in (n := s.lo * n) (by omega) (by omega), w64_in (n := s.hi * n) (by omega) (by omega)]
  refine div0 (by omega) ?_
  dsimp only [go_sem, Nat.reduceAdd, Nat.reduceMul, Nat.reduceSub]
  refine call (ceil_ok _ _ (by omega) (by omega) hb hb2) ?_
  dsimp only [go_sem, Nat.reduceAdd, Nat.reduceMul, Nat.reduceSub]
  have := tdiv_bd k1 (Int.le_trans k2 h4) hb
  rw [w64_in (n := (s.lo * n).tdiv b) (by omega) (by omega)]
  rfl
theorem scaled2 (s : Span) (b n m A : Int) (c : Bool) (h1 : 0 ≤ s.lo) (h2 : s.lo ≤ s.hi) (h3 : 0 ≤ n) (h3' : 0 ≤ m) (h4 : s.hi * n ≤ 100000000000000) (h5 : s.hi * n * m ≤ 100000000000000) (hb : 1 ≤ b) (hb2 : b ≤ 1000000000) :
    Ct Try.prog 89 [.agg (spanL s), I b, .sl c 1 [[I n], [I m]]] (.agg (spanL ⟨(s.lo * n * m).tdiv b, upF (s.hi * n * m) b⟩)) := by
  have k1 : 0 ≤ s.lo * n := Int.mul_nonneg h1 h3
  have k2 : s.lo * n ≤ s.hi * n := Int.mul_le_mul_of_nonneg_right h2 h3
  have k3 : 0 ≤ s.lo * n * m := Int.mul_nonneg k1 h3'
  have k4 : s.lo * n * m ≤ s.hi * n * m := Int.mul_le_mul_of_nonneg_right k2 h3'
  refine t89 (by simp [spanL, KFR, KFL, KF]) (by simp [spanL, KFL, KF]) ?_
  dsimp only [c89, r89, spanL, go_sem, Nat.reduceAdd, Nat.reduceMul, Nat.reduceSub]
  refine unroll 3 ?_
  dsimp only [rnds_succ, go_sem, Nat.reduceAdd, Nat.reduceMul, Nat.reduceSub]
  refine br_t (by decide) ?_
  dsimp only [rnds_succ, go_sem, Nat.reduceAdd, Nat.reduceMul, Nat.reduceSub]
  refine ixs 0 [I n] rfl rfl ?_
  dsimp only [rnds_succ, go_sem, Nat.reduceAdd, Nat.reduceMul, Nat.reduceSub]
  refine br_t (by decide) ?_
  dsimp only [rnds_succ, go_sem, Nat.reduceAdd, Nat.reduceMul, Nat.reduceSub]
  refine ixs 1 [I m] rfl rfl ?_
  dsimp only [rnds_succ, go_sem, Nat.reduceAdd, Nat.reduceMul, Nat.reduceSub]
  refine br_f (by decide) ?_
  dsimp only [go_sem, Nat.reduceAdd, Nat.reduceMul, Nat.reduceSub]
  rw [w64_in (n := s.lo * n) (by omega) (by omega), w64_in (n := s.hi * n) (by omega) (by omega), w64_in (n := s.lo * n * m) (by omega) (by omega), w64_in (n := s.hi * n * m) (by omega) (by omega)]
  refine div0 (by omega) ?_
  dsimp only [go_sem, Nat.reduceAdd, Nat.reduceMul, Nat.reduceSub]
  refine call (ceil_ok _ _ (by omega) (by omega) hb hb2) ?_
  dsimp only [go_sem, Nat.reduceAdd, Nat.reduceMul, Nat.reduceSub]
  have := tdiv_bd k3 (Int.le_trans k4 h5) hb
  rw [w64_in (n := (s.lo * n * m).tdiv b) (by omega) (by omega)]
def bdS (A : Int) (s : Span) : Prop := 0 ≤ s.lo ∧ s.lo ≤ A ∧ 0 ≤ s.hi ∧ s.hi ≤ A
theorem plus2 (s t : Span) (c : Bool) (h1 : bdS 1000000000000000 s) (h2 : bdS 1000000000000000 t) : Ct Try.prog 72 [.sl c 2 [[I s.lo, I s.hi], [I t.lo, I t.hi]]] (.agg (spanL ⟨s.lo + t.lo, s.hi + t.hi⟩)) := by
  unfold bdS at h1 h2
  refine t72 (by simp [KFR, KFL, KF]) (by simp [spanL, KFL, KF]) ?_
  dsimp only [c72, r72, spanL, go_sem, Nat.reduceAdd, Nat.reduceMul, Nat.reduceSub]
  refine unroll 3 ?_
  dsimp only [rnds_succ, go_sem, Nat.reduceAdd, Nat.reduceMul, Nat.reduceSub]
  refine br_t (by decide) ?_
  dsimp only [rnds_succ, go_sem, Nat.reduceAdd, Nat.reduceMul, Nat.reduceSub]
  refine ixs 0 [I s.lo, I s.hi] rfl rfl ?_
  dsimp only [rnds_succ, go_sem, Nat.reduceAdd, Nat.reduceMul, Nat.reduceSub]
  refine br_t (by decide) ?_
  dsimp only [rnds_succ, go_sem, Nat.reduceAdd, Nat.reduceMul, Nat.reduceSub]
  refine ixs 1 [I t.lo, I t.hi] rfl rfl ?_
  dsimp only [rnds_succ, go_sem, Nat.reduceAdd, Nat.reduceMul, Nat.reduceSub]
  refine br_f (by decide) ?_
  dsimp only [go_sem, Nat.reduceAdd, Nat.reduceMul, Nat.reduceSub]
  simp only [Int.zero_add]
  rw [w64_in (n := s.lo) (by omega) (by omega), w64_in (n := s.hi) (by omega) (by omega), w64_in (n := s.lo + t.lo) (by omega) (by omega), w64_in (n := s.hi + t.hi) (by omega) (by omega)]
theorem plus3 (s t u : Span) (c : Bool) (h1 : bdS 1000000000000000 s) (h2 : bdS 1000000000000000 t) (h3 : bdS 1000000000000000 u) : Ct Try.prog 72 [.sl c 2 [[I s.lo, I s.hi], [I t.lo, I t.hi], [I u.lo, I u.hi]]] (.agg (spanL ⟨s.lo + t.lo + u.lo, s.hi + t.hi + u.hi⟩)) := by
  unfold bdS at h1 h2 h3
  refine t72 (by simp [KFR, KFL, KF]) (by simp [spanL, KFL, KF]) ?_
  dsimp only [c72, r72, spanL, go_sem, Nat.reduceAdd, Nat.reduceMul, Nat.reduceSub]
  refine unroll 4 ?_
  dsimp only [rnds_succ, go_sem, Nat.reduceAdd, Nat.reduceMul, Nat.reduceSub]
  refine br_t (by decide) ?_
  dsimp only [rnds_succ, go_sem, Nat.reduceAdd, Nat.reduceMul, Nat.reduceSub]
  refine ixs 0 [I s.lo, I s.hi] rfl rfl ?_
  dsimp only [rnds_succ, go_sem, Nat.reduceAdd, Nat.reduceMul, Nat.reduceSub]
  refine br_t (by decide) ?_
  dsimp only [rnds_succ, go_sem, Nat.reduceAdd, Nat.reduceMul, Nat.reduceSub]
  refine ixs 1 [I t.lo, I t.hi] rfl rfl ?_
  dsimp only [rnds_succ, go_sem, Nat.reduceAdd, Nat.reduceMul, Nat.reduceSub]
  refine br_t (by decide) ?_
  dsimp only [rnds_succ, go_sem, Nat.reduceAdd, Nat.reduceMul, Nat.reduceSub]
  refine ixs 2 [I u.lo, I u.hi] rfl rfl ?_
  dsimp only [rnds_succ, go_sem, Nat.reduceAdd, Nat.reduceMul, Nat.reduceSub]
  refine br_f (by decide) ?_
  dsimp only [go_sem, Nat.reduceAdd, Nat.reduceMul, Nat.reduceSub]
  simp only [Int.zero_add]
  rw [w64_in (n := s.lo) (by omega) (by omega), w64_in (n := s.hi) (by omega) (by omega), w64_in (n := s.lo + t.lo) (by omega) (by omega), w64_in (n := s.hi + t.hi) (by omega) (by omega), w64_in (n := s.lo + t.lo + u.lo) (by omega) (by omega), w64_in (n := s.hi + t.hi + u.hi) (by omega) (by omega)]
theorem rest_ok (n : Int) (s : Span) (h1 : 0 ≤ n) (h2 : n ≤ 1000000) (h3 : bdS 1000000 s) : Ct Try.prog 73 [I n, .agg (spanL s)] (.agg (spanL ⟨n - s.hi, n - s.lo⟩)) := by
  unfold bdS at h3
  refine t73 (by simp [spanL, KFL, KF]) (by simp [spanL, KFL, KF]) ?_
  dsimp only [c73, r73, spanL, go_sem, Nat.reduceAdd, Nat.reduceMul, Nat.reduceSub]
  rw [w64_in (n := n - s.hi) (by omega) (by omega), w64_in (n := n - s.lo) (by omega) (by omega)]
end Go.Proofs.Ytnlfjchbhgikaaa
