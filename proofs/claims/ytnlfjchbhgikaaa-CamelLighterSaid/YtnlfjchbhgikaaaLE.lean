/- Walks and plain laws that lead to the given statement, part 5 of 7. -/
import Derived.Test.YtnlfjchbhgikaaaLD
import Derived.Test.YtnlfjchbhgikaaaProg
set_option maxRecDepth 100000
set_option maxHeartbeats 4000000
namespace Go.Proofs.Ytnlfjchbhgikaaa
open Go Go.Sx Go.Azalai
theorem up_wrap {a b A : Int} (h0 : 0 ≤ a) (h1 : a ≤ A) (hA : A ≤ 1000000000000000) (hb : 1 ≤ b) (hb2 : b ≤ 1000000000) :
    IntKind.i64.wrap (a + b) = a + b ∧ IntKind.i64.wrap (a + b - 1) = a + b - 1 ∧ IntKind.i64.wrap ((a + b - 1).tdiv b) = upF a b := by
  have := up_bd h0 h1 hb
  refine ⟨w64_in (by omega) (by omega), w64_in (by omega) (by omega), ?_⟩
  unfold upF at *
  exact w64_in (by omega) (by omega)
theorem ceil_ok (a b : Int) (h0 : 0 ≤ a) (h1 : a ≤ 1000000000000000) (hb : 1 ≤ b) (hb2 : b ≤ 1000000000) : Ct Try.prog 90 [I a, I b] (I (upF a b)) := by
  obtain ⟨q1, q2, q3⟩ := up_wrap h0 h1 (Int.le_refl _) hb hb2
  refine t90 (by simp [KFL, KF]) (by simp [KFL, KF]) ?_
  dsimp only [c90, r90, go_sem, Nat.reduceAdd, Nat.reduceMul, Nat.reduceSub]
  simp only [q1, q2]
  refine div0 (by omega) ?_
  dsimp only [go_sem, Nat.reduceAdd, Nat.reduceMul, Nat.reduceSub]
  rw [q3]
/-- a span times numbers, divided: rounded down and up -/
def scl (s : Span) (b n : Int) : Span := ⟨(s.lo * n).tdiv b, upF (s.hi * n) b⟩
theorem scaled1 (s : Span) (b n A : Int) (c : Bool) (h1 : 0 ≤ s.lo) (h2 : s.lo ≤ s.hi) (h3 : 0 ≤ n) (h4 : s.hi * n ≤ 100000000000000) (hb : 1 ≤ b) (hb2 : b ≤ 1000000000) :
    Ct Try.prog 89 [.agg (spanL s), I b, .sl c 1 [[I n]]] (.agg (spanL (scl s b n))) := by
  have k1 : 0 ≤ s.lo * n := Int.mul_nonneg h1 h3
  have k2 : s.lo * n ≤ s.hi * n := Int.mul_le_mul_of_nonneg_right h2 h3
  refine t89 (by simp [spanL, KFR, KFL, KF]) (by simp [spanL, KFL, KF]) ?_
  dsimp only [c89, r89, spanL, go_sem, Nat.reduceAdd, Nat.reduceMul, Nat.reduceSub]
  refine unroll 2 ?_
  dsimp only [rnds_succ, go_sem, Nat.reduceAdd, Nat.reduceMul, Nat.reduceSub]
  refine br_t (by decide) ?_
  dsimp only [rnds_succ, go_sem, Nat.reduceAdd, Nat.reduceMul, Nat.reduceSub]
  refine ixs 0 [I n] rfl rfl ?_
  dsimp only [rnds_succ, go_sem, Nat.reduceAdd, Nat.reduceMul, Nat.reduceSub]
  refine br_f (by decide) ?_
  dsimp only [go_sem, Nat.reduceAdd, Nat.reduceMul, Nat.reduceSub]
  rw [w64_in (n := s.lo * n) (by omega) (by omega), w64_in (n := s.hi * n) (by omega) (by omega)]
  refine div0 (by omega) ?_
  dsimp only [go_sem, Nat.reduceAdd, Nat.reduceMul, Nat.reduceSub]
  refine call (ceil_ok _ _ (by omega) (by omega) hb hb2) ?_
  dsimp only [go_sem, Nat.reduceAdd, Nat.reduceMul, Nat.reduceSub]
  have := tdiv_bd k1 (Int.le_trans k2 h4) hb
  rw [w64_in (n := (s.lo * n).tdiv b) (by omega) (by omega)]
  rfl
theorem scaled2 (s : Span) (b n m A : Int) (c : Bool) (h1 : 0 ≤ s.lo) (h2 : s.lo ≤ s.hi) (h3 : 0 ≤ n) (h3' : 0 ≤ m) (h4 : s.hi * n ≤ 100000000000000) (h5 : s.hi * n * m ≤ 100000000000000) (hb : 1 ≤ b) (hb2 : b ≤ 1000000000) :
    Ct Try.prog 89 [.agg (spanL s), I b, .sl c 1 [[I n], [I m]]] (.agg (spanL ⟨(s.lo * n * m).tdiv b, upF (s.hi * n * m) b⟩)) := by
  have k1 : 0 ≤ s.lo * n := Int.mul_nonneg h1 h3
  have k2 : s.lo * n ≤ s.hi * n := Int.mul_le_mul_of_nonneg_right h2 h3
  have k3 : 0 ≤ s.lo * n * m := Int.mul_nonneg k1 h3'
  have k4 : s.lo * n * m ≤ s.hi * n * m := Int.mul_le_mul_of_nonneg_right k2 h3'
  refine t89 (by simp [spanL, KFR, KFL, KF]) (by simp [spanL, KFL, KF]) ?_
  dsimp only [c89, r89, spanL, go_sem, Nat.reduceAdd, Nat.reduceMul, Nat.reduceSub]
  refine unroll 3 ?_
  dsimp only [rnds_succ, go_sem, Nat.reduceAdd, Nat.reduceMul, Nat.reduceSub]
  refine br_t (by decide) ?_
  dsimp only [rnds_succ, go_sem, Nat.reduceAdd, Nat.reduceMul, Nat.reduceSub]
  refine ixs 0 [I n] rfl rfl ?_
  dsimp only [rnds_succ, go_sem, Nat.reduceAdd, Nat.reduceMul, Nat.reduceSub]
  refine br_t (by decide) ?_
  dsimp only [rnds_succ, go_sem, Nat.reduceAdd, Nat.reduceMul, Nat.reduceSub]
  refine ixs 1 [I m] rfl rfl ?_
  dsimp only [rnds_succ, go_sem, Nat.reduceAdd, Nat.reduceMul, Nat.reduceSub]
  refine br_f (by decide) ?_
  dsimp only [go_sem, Nat.reduceAdd, Nat.reduceMul, Nat.reduceSub]
  rw [w64_in (n := s.lo * n) (by omega) (by omega), w64_in (n := s.hi * n) (by omega) (by omega), w64_in (n := s.lo * n * m) (by omega) (by omega), w64_in (n := s.hi * n * m) (by omega) (by omega)]
  refine div0 (by omega) ?_
  dsimp only [go_sem, Nat.reduceAdd, Nat.reduceMul, Nat.reduceSub]
  refine call (ceil_ok _ _ (by omega) (by omega) hb hb2) ?_
  dsimp only [go_sem, Nat.reduceAdd, Nat.reduceMul, Nat.reduceSub]
  have := tdiv_bd k3 (Int.le_trans k4 h5) hb
  rw [w64_in (n := (s.lo * n * m).tdiv b) (by omega) (by omega)]
def bdS (A : Int) (s : Span) : Prop := 0 ≤ s.lo ∧ s.lo ≤ A ∧ 0 ≤ s.hi ∧ s.hi ≤ A
theorem plus2 (s t : Span) (c : Bool) (h1 : bdS 1000000000000000 s) (h2 : bdS 1000000000000000 t) : Ct Try.prog 72 [.sl c 2 [[I s.lo, I s.hi], [I t.lo, I t.hi]]] (.agg (spanL ⟨s.lo + t.lo, s.hi + t.hi⟩)) := by
  unfold bdS at h1 h2
  refine t72 (by simp [KFR, KFL, KF]) (by simp [spanL, KFL, KF]) ?_
  dsimp only [c72, r72, spanL, go_sem, Nat.reduceAdd, Nat.reduceMul, Nat.reduceSub]
  refine unroll 3 ?_
  dsimp only [rnds_succ, go_sem, Nat.reduceAdd, Nat.reduceMul, Nat.reduceSub]
  refine br_t (by decide) ?_
  dsimp only [rnds_succ, go_sem, Nat.reduceAdd, Nat.reduceMul, Nat.reduceSub]
  refine ixs 0 [I s.lo, I s.hi] rfl rfl ?_
  dsimp only [rnds_succ, go_sem, Nat.reduceAdd, Nat.reduceMul, Nat.reduceSub]
  refine br_t (by decide) ?_
  dsimp only [rnds_succ, go_sem, Nat.reduceAdd, Nat.reduceMul, Nat.reduceSub]
  refine ixs 1 [I t.lo, I t.hi] rfl rfl ?_
  dsimp only [rnds_succ, go_sem, Nat.reduceAdd, Nat.reduceMul, Nat.reduceSub]
  refine br_f (by decide) ?_
  dsimp only [go_sem, Nat.reduceAdd, Nat.reduceMul, Nat.reduceSub]
  simp only [Int.zero_add]
  rw [w64_in (n := s.lo) (by omega) (by omega), w64_in (n := s.hi) (by omega) (by omega), w64_in (n := s.lo + t.lo) (by omega) (by omega), w64_in (n := s.hi + t.hi) (by omega) (by omega)]
theorem plus3 (s t u : Span) (c : Bool) (h1 : bdS 1000000000000000 s) (h2 : bdS 1000000000000000 t) (h3 : bdS 1000000000000000 u) : Ct Try.prog 72 [.sl c 2 [[I s.lo, I s.hi], [I t.lo, I t.hi], [I u.lo, I u.hi]]] (.agg (spanL ⟨s.lo + t.lo + u.lo, s.hi + t.hi + u.hi⟩)) := by
  unfold bdS at h1 h2 h3
  refine t72 (by simp [KFR, KFL, KF]) (by simp [spanL, KFL, KF]) ?_
  dsimp only [c72, r72, spanL, go_sem, Nat.reduceAdd, Nat.reduceMul, Nat.reduceSub]
  refine unroll 4 ?_
  dsimp only [rnds_succ, go_sem, Nat.reduceAdd, Nat.reduceMul, Nat.reduceSub]
  refine br_t (by decide) ?_
  dsimp only [rnds_succ, go_sem, Nat.reduceAdd, Nat.reduceMul, Nat.reduceSub]
  refine ixs 0 [I s.lo, I s.hi] rfl rfl ?_
  dsimp only [rnds_succ, go_sem, Nat.reduceAdd, Nat.reduceMul, Nat.reduceSub]
  refine br_t (by decide) ?_
  dsimp only [rnds_succ, go_sem, Nat.reduceAdd, Nat.reduceMul, Nat.reduceSub]
  refine ixs 1 [I t.lo, I t.hi] rfl rfl ?_
  dsimp only [rnds_succ, go_sem, Nat.reduceAdd, Nat.reduceMul, Nat.reduceSub]
  refine br_t (by decide) ?_
  dsimp only [rnds_succ, go_sem, Nat.reduceAdd, Nat.reduceMul, Nat.reduceSub]
  refine ixs 2 [I u.lo, I u.hi] rfl rfl ?_
  dsimp only [rnds_succ, go_sem, Nat.reduceAdd, Nat.reduceMul, Nat.reduceSub]
  refine br_f (by decide) ?_
  dsimp only [go_sem, Nat.reduceAdd, Nat.reduceMul, Nat.reduceSub]
  simp only [Int.zero_add]
  rw [w64_in (n := s.lo) (by omega) (by omega), w64_in (n := s.hi) (by omega) (by omega), w64_in (n := s.lo + t.lo) (by omega) (by omega), w64_in (n := s.hi + t.hi) (by omega) (by omega), w64_in (n := s.lo + t.lo + u.lo) (by omega) (by omega), w64_in (n := s.hi + t.hi + u.hi) (by omega) (by omega)]
theorem rest_ok (n : Int) (s : Span) (h1 : 0 ≤ n) (h2 : n ≤ 1000000) (h3 : bdS 1000000 s) : Ct Try.prog 73 [I n, .agg (spanL s)] (.agg (spanL ⟨n - s.hi, n - s.lo⟩)) := by
  unfold bdS at h3
  refine t73 (by simp [spanL, KFL, KF]) (by simp [spanL, KFL, KF]) ?_
  dsimp only [c73, r73, spanL, go_sem, Nat.reduceAdd, Nat.reduceMul, Nat.reduceSub]
  rw [w64_in (n := n - s.hi) (by omega) (by omega), w64_in (n := n - s.lo) (by omega) (by omega)]
end Go.Proofs.Ytnlfjchbhgikaaa
set_option maxRecDepth 100000
set_option maxHeartbeats 4000000
namespace Go.Proofs.Ytnlfjchbhgikaaa
open Go Go.Sx Go.Azalai
theorem breed_bd {b : Breed} (h : okBreed b = true) : 1 ≤ b.full ∧ b.full ≤ 1000000 ∧ 1 ≤ b.fed ∧ b.fed ≤ 1000000 ∧ 0 ≤ b.heal ∧ b.heal ≤ 1000 ∧ (0 ≤ b.strong.lo ∧ b.strong.lo ≤ b.strong.hi ∧ b.strong.hi ≤ 1000000) ∧ (0 ≤ b.rest.lo ∧ b.rest.lo ≤ b.rest.hi ∧ b.rest.hi ≤ 100000) ∧
    (0 ≤ b.heat.lo ∧ b.heat.lo ≤ b.heat.hi ∧ b.heat.hi ≤ 100000) ∧ (0 ≤ b.toil.lo ∧ b.toil.lo ≤ b.toil.hi ∧ b.toil.hi ≤ 100000) ∧ (0 ≤ b.burn.lo ∧ b.burn.lo ≤ b.burn.hi ∧ b.burn.hi ≤ 100000) ∧ (0 ≤ b.rub.lo ∧ b.rub.lo ≤ b.rub.hi ∧ b.rub.hi ≤ 100000) ∧ (0 ≤ b.milk.lo ∧ b.milk.lo ≤ b.milk.hi ∧ b.milk.hi ≤ 100000) := by
  simp only [okBreed, okSp, inR, Bool.and_eq_true, decide_eq_true_eq] at h; omega
theorem camel_bd {b : Breed} {c : Camel} (hb : okBreed b = true) (h : okCamel b c = true) : (0 ≤ c.water.lo ∧ c.water.lo ≤ c.water.hi ∧ c.water.hi ≤ b.full) ∧ (0 ≤ c.fat.lo ∧ c.fat.lo ≤ c.fat.hi ∧ c.fat.hi ≤ b.fed) ∧ (0 ≤ c.sore.lo ∧ c.sore.lo ≤ c.sore.hi ∧ c.sore.hi ≤ 1000) := by
  simp only [okCamel, okSp, Bool.and_eq_true, decide_eq_true_eq] at h; omega
theorem march_bd {m : March} (h : okMarch m = true) : 0 ≤ m.hours ∧ m.hours ≤ 24 ∧ 0 ≤ m.load ∧ m.load ≤ 1000000 ∧ (0 ≤ m.heat.lo ∧ m.heat.lo ≤ m.heat.hi ∧ m.heat.hi ≤ 60) ∧ (0 ≤ m.grass.lo ∧ m.grass.lo ≤ m.grass.hi ∧ m.grass.hi ≤ 1000000) ∧ (0 ≤ m.drinks.lo ∧ m.drinks.lo ≤ m.drinks.hi ∧ m.drinks.hi ≤ 1000000) := by
  simp only [okMarch, okSp, inR, Bool.and_eq_true, decide_eq_true_eq] at h; omega
theorem fit_ok (b : Breed) (c : Camel) (hb : okBreed b = true) (hc : okCamel b c = true) : Ct Try.prog 55 [.agg (beastL b c)] (.agg (spanL (fitF b c))) := by
  obtain ⟨b1, b2, b3, b4, _⟩ := breed_bd hb
  obtain ⟨⟨w1, w2, w3⟩, ⟨f1, f2, f3⟩, ⟨s1, s2, s3⟩⟩ := camel_bd hb hc
  refine t55 (by simp [beastL, KFL, KF]) (by simp [spanL, KFL, KF]) ?_
  dsimp only [c55, r55, beastL, go_sem, Nat.reduceAdd, Nat.reduceMul, Nat.reduceSub]
  refine call (scaled2 c.water b.full 2 1000 0 true w1 w2 (by omega) (by omega) (by omega) (by omega) b1 (by omega)) ?_
  dsimp only [spanL, go_sem, Nat.reduceAdd, Nat.reduceMul, Nat.reduceSub]
  refine call (scaled2 c.fat b.fed 2 1000 0 true f1 f2 (by omega) (by omega) (by omega) (by omega) b3 (by omega)) ?_
  dsimp only [spanL, go_sem, Nat.reduceAdd, Nat.reduceMul, Nat.reduceSub]
  refine call (rest_ok 1000 c.sore (by omega) (by omega) ⟨by omega, by omega, by omega, by omega⟩) ?_
  dsimp only [spanL, go_sem, Nat.reduceAdd, Nat.reduceMul, Nat.reduceSub]
  refine unroll 4 ?_
  dsimp only [rnds_succ, go_sem, Nat.reduceAdd, Nat.reduceMul, Nat.reduceSub]
  refine br_t (by decide) ?_
  dsimp only [rnds_succ, go_sem, Nat.reduceAdd, Nat.reduceMul, Nat.reduceSub]
  refine ixa 0 rfl (by decide) ?_
  dsimp only [rnds_succ, go_sem, Nat.reduceAdd, Nat.reduceMul, Nat.reduceSub]
  refine br_t (by decide) ?_
  dsimp only [rnds_succ, go_sem, Nat.reduceAdd, Nat.reduceMul, Nat.reduceSub]
  refine ixa 1 rfl (by decide) ?_
  dsimp only [rnds_succ, go_sem, Nat.reduceAdd, Nat.reduceMul, Nat.reduceSub]
  refine br_t (by decide) ?_
  dsimp only [rnds_succ, go_sem, Nat.reduceAdd, Nat.reduceMul, Nat.reduceSub]
  refine ixa 2 rfl (by decide) ?_
  dsimp only [rnds_succ, go_sem, Nat.reduceAdd, Nat.reduceMul, Nat.reduceSub]
  refine br_f (by decide) ?_
  dsimp only [go_sem, Nat.reduceAdd, Nat.reduceMul, Nat.reduceSub]
  have e1 : c.water.lo * 2 * 1000 = 2000 * c.water.lo := by omega
  have e2 : c.water.hi * 2 * 1000 = 2000 * c.water.hi := by omega
  have e3 : c.fat.lo * 2 * 1000 = 2000 * c.fat.lo := by omega
  have e4 : c.fat.hi * 2 * 1000 = 2000 * c.fat.hi := by omega
  simp only [e1, e2, e3, e4, fitF, Int.min_assoc]
theorem fit_bd {b : Breed} {c : Camel} (hb : okBreed b = true) (hc : okCamel b c = true) : 0 ≤ (fitF b c).lo ∧ (fitF b c).lo ≤ 1000 ∧ 0 ≤ (fitF b c).hi ∧ (fitF b c).hi ≤ 1000 := by
  obtain ⟨b1, b2, b3, b4, _⟩ := breed_bd hb
  obtain ⟨⟨w1, w2, w3⟩, ⟨f1, f2, f3⟩, ⟨s1, s2, s3⟩⟩ := camel_bd hb hc
  have d1 := tdiv_bd (a := 2000 * c.water.lo) (A := 2000000000) (d := b.full) (by omega) (by omega) b1
  have d2 := tdiv_bd (a := 2000 * c.fat.lo) (A := 2000000000) (d := b.fed) (by omega) (by omega) b3
  have d3 := up_bd (a := 2000 * c.water.hi) (A := 2000000000) (d := b.full) (by omega) (by omega) b1
  have d4 := up_bd (a := 2000 * c.fat.hi) (A := 2000000000) (d := b.fed) (by omega) (by omega) b3
  simp only [fitF]; omega
theorem car_ok (b : Breed) (c : Camel) (hb : okBreed b = true) (hc : okCamel b c = true) : Ct Try.prog 57 [.agg (beastL b c)] (.agg (spanL (carF b c))) := by
  obtain ⟨b1, b2, b3, b4, _, _, ⟨g1, g2, g3⟩, _⟩ := breed_bd hb
  obtain ⟨q1, q2, q3, q4⟩ := fit_bd hb hc
  have k1 := mul_bd (a := b.strong.lo) (A := 1000000) (b := (fitF b c).lo) (B := 1000) (by omega) (by omega) q1 q2
  have k2 := mul_bd (a := b.strong.hi) (A := 1000000) (b := (fitF b c).hi) (B := 1000) (by omega) (by omega) q3 q4
  refine t57 (by simp [beastL, KFL, KF]) (by simp [spanL, KFL, KF]) ?_
  dsimp only [c57, r57, beastL, go_sem, Nat.reduceAdd, Nat.reduceMul, Nat.reduceSub]
  refine call (fit_ok b c hb hc) ?_
  dsimp only [spanL, go_sem, Nat.reduceAdd, Nat.reduceMul, Nat.reduceSub]
  rw [w64_in (n := b.strong.lo * (fitF b c).lo) (by omega) (by omega)]
  refine div0 (by omega) ?_
  dsimp only [go_sem, Nat.reduceAdd, Nat.reduceMul, Nat.reduceSub]
  rw [w64_in (n := b.strong.hi * (fitF b c).hi) (by omega) (by omega)]
  refine call (ceil_ok _ _ (by omega) (by omega) (by omega) (by omega)) ?_
  dsimp only [go_sem, Nat.reduceAdd, Nat.reduceMul, Nat.reduceSub]
  have d1 := tdiv_bd (a := b.strong.lo * (fitF b c).lo) (d := 1000) k1.1 k1.2 (by omega)
  rw [w64_in (n := (b.strong.lo * (fitF b c).lo).tdiv 1000) (by omega) (by omega)]
  rfl
def sres (b : Breed) (c : Camel) (s : Span) : SV := .tup [.agg (spanL (if errC b c = 0 then s else zeroS)), I (errC b c)]
theorem errC_0 {b : Breed} {c : Camel} : errC b c = 0 ↔ okBreed b = true ∧ okCamel b c = true := by
  simp only [errC]; cases okBreed b <;> cases okCamel b c <;> simp
theorem fitness_ok (b : Breed) (c : Camel) : Ct Try.prog 14 [.agg (breedL b), .agg (camelL c)] (sres b c (fitF b c)) := by
  refine t14 (by simp [breedL, camelL, KFL, KF]) (by simp [sres, spanL, KFL, KF]) ?_
  dsimp only [c14, r14, breedL, camelL, go_sem, Nat.reduceAdd, Nat.reduceMul, Nat.reduceSub]
  refine call (checkCamel_ok b c) ?_
  dsimp only [go_sem, Nat.reduceAdd, Nat.reduceMul, Nat.reduceSub]
  by_cases h : errC b c = 0
  case neg =>
    refine br_t (by simpa using h) ?_
    dsimp only [sres, spanL, go_sem, Nat.reduceAdd, Nat.reduceMul, Nat.reduceSub]
    rw [if_neg h]; rfl
  refine br_f (by simpa using h) ?_
  obtain ⟨hb, hc⟩ := errC_0.1 h
  dsimp only [go_sem, Nat.reduceAdd, Nat.reduceMul, Nat.reduceSub]
  refine call (fit_ok b c hb hc) ?_
  dsimp only [spanL, sres, go_sem, Nat.reduceAdd, Nat.reduceMul, Nat.reduceSub]
  rw [if_pos h, h]
theorem carries_ok (b : Breed) (c : Camel) : Ct Try.prog 16 [.agg (breedL b), .agg (camelL c)] (sres b c (carF b c)) := by
  refine t16 (by simp [breedL, camelL, KFL, KF]) (by simp [sres, spanL, KFL, KF]) ?_
  dsimp only [c16, r16, breedL, camelL, go_sem, Nat.reduceAdd, Nat.reduceMul, Nat.reduceSub]
  refine call (checkCamel_ok b c) ?_
  dsimp only [go_sem, Nat.reduceAdd, Nat.reduceMul, Nat.reduceSub]
  by_cases h : errC b c = 0
  case neg =>
    refine br_t (by simpa using h) ?_
    dsimp only [sres, spanL, go_sem, Nat.reduceAdd, Nat.reduceMul, Nat.reduceSub]
    rw [if_neg h]; rfl
  refine br_f (by simpa using h) ?_
  obtain ⟨hb, hc⟩ := errC_0.1 h
  dsimp only [go_sem, Nat.reduceAdd, Nat.reduceMul, Nat.reduceSub]
  refine call (car_ok b c hb hc) ?_
  dsimp only [spanL, sres, go_sem, Nat.reduceAdd, Nat.reduceMul, Nat.reduceSub]
  rw [if_pos h, h]
end Go.Proofs.Ytnlfjchbhgikaaa
set_option maxRecDepth 100000
set_option maxHeartbeats 4000000
namespace Go.Proofs.Ytnlfjchbhgikaaa
open Go Go.Sx Go.Azalai
theorem work_bd {m : March} (h : okMarch m = true) : 0 ≤ workF m ∧ workF m ≤ 26400000 := by
  obtain ⟨h1, h2, h3, h4, _⟩ := march_bd h
  have := mul_bd (a := m.hours) (A := 24) (b := 100000 + m.load) (B := 1100000) h1 h2 (by omega) (by omega)
  exact this
theorem toil_bd {m : March} {x : Int} (h : okMarch m = true) (h0 : 0 ≤ x) (h1 : x ≤ 100000) : 0 ≤ x * workF m ∧ x * workF m ≤ 2640000000000 := by
  obtain ⟨w1, w2⟩ := work_bd h
  exact mul_bd h0 h1 w1 w2
theorem heat_bd {x y : Int} (h0 : 0 ≤ x) (h1 : x ≤ 100000) (h2 : 0 ≤ y) (h3 : y ≤ 60) : 0 ≤ x * max 0 (y - 20) ∧ x * max 0 (y - 20) ≤ 4000000 :=
  mul_bd h0 h1 (B := 40) (by omega) (by omega)
theorem cost_ok (b : Breed) (k : Bool) (m : March) (hb : okBreed b = true) (hm : okMarch m = true) : Ct Try.prog 60 [.agg (breedL b), B k, .agg (marchL m)] (.agg [I (costW b k m).lo, I (costW b k m).hi, I (costF b m).lo, I (costF b m).hi]) := by
  obtain ⟨_, _, _, _, _, _, _, ⟨r1, r2, r3⟩, ⟨a1, a2, a3⟩, ⟨t1, t2, t3⟩, ⟨u1, u2, u3⟩, _, ⟨k1, k2, k3⟩⟩ := breed_bd hb
  obtain ⟨m1, m2, m3, m4, ⟨g1, g2, g3⟩, _⟩ := march_bd hm
  have w0 := work_bd hm
  have e1 := heat_bd (x := b.heat.lo) (y := m.heat.lo) (by omega) (by omega) (by omega) (by omega)
  have e2 := heat_bd (x := b.heat.hi) (y := m.heat.hi) (by omega) (by omega) (by omega) (by omega)
  have f1 := toil_bd (x := b.toil.lo) hm (by omega) (by omega)
  have f2 := toil_bd (x := b.toil.hi) hm (by omega) (by omega)
  have f3 := toil_bd (x := b.burn.lo) hm (by omega) (by omega)
  have f4 := toil_bd (x := b.burn.hi) hm (by omega) (by omega)
  have d1 := tdiv_bd f1.1 f1.2 (d := 100000) (by omega)
  have d2 := up_bd f2.1 f2.2 (d := 100000) (by omega)
  have hw : IntKind.i64.wrap (m.hours * IntKind.i64.wrap (100000 + m.load)) = workF m := by
    rw [w64_in (n := 100000 + m.load) (by omega) (by omega)]
    unfold workF at *
    exact w64_in (by omega) (by omega)
  refine t60 (by simp [breedL, marchL, KFL, KF]) (by simp [KFL, KF]) ?_
  dsimp only [c60, r60, breedL, marchL, go_sem, Nat.reduceAdd, Nat.reduceMul, Nat.reduceSub]
  rw [hw, w64_in (n := m.heat.lo - 20) (by omega) (by omega), w64_in (n := m.heat.hi - 20) (by omega) (by omega), w64_in (n := b.heat.lo * max 0 (m.heat.lo - 20)) (by omega) (by omega), w64_in (n := b.heat.hi * max 0 (m.heat.hi - 20)) (by omega) (by omega)]
  refine call (scaled1 b.toil 100000 (workF m) 0 true t1 t2 w0.1 (by omega) (by omega) (by omega)) ?_
  dsimp only [spanL, go_sem, Nat.reduceAdd, Nat.reduceMul, Nat.reduceSub]
  refine call (plus3 b.rest ⟨b.heat.lo * max 0 (m.heat.lo - 20), b.heat.hi * max 0 (m.heat.hi - 20)⟩ (scl b.toil 100000 (workF m)) true ⟨by omega, by omega, by omega, by omega⟩ ⟨e1.1, by simp only; omega, e2.1, by simp only; omega⟩
    ⟨d1.1, by simp only [scl]; omega, d2.1, by simp only [scl]; omega⟩) ?_
  dsimp only [spanL, go_sem, Nat.reduceAdd, Nat.reduceMul, Nat.reduceSub]
  refine br ?_ ?_
  · intro hk
    dsimp only [go_sem, Nat.reduceAdd, Nat.reduceMul, Nat.reduceSub]
    refine call (plus2 ⟨b.rest.lo + b.heat.lo * max 0 (m.heat.lo - 20) + (scl b.toil 100000 (workF m)).lo, b.rest.hi + b.heat.hi * max 0 (m.heat.hi - 20) + (scl b.toil 100000 (workF m)).hi⟩ b.milk true
      ⟨by simp only [scl]; omega, by simp only [scl]; omega, by simp only [scl]; omega, by simp only [scl]; omega⟩ ⟨by omega, by omega, by omega, by omega⟩) ?_
    dsimp only [spanL, go_sem, Nat.reduceAdd, Nat.reduceMul, Nat.reduceSub]
    refine call (scaled1 b.burn 100000 (workF m) 0 true u1 u2 w0.1 (by omega) (by omega) (by omega)) ?_
    dsimp only [spanL, go_sem, Nat.reduceAdd, Nat.reduceMul, Nat.reduceSub]
    simp only [costW, costF, hk, scl, if_true]
  · intro hk
    dsimp only [go_sem, Nat.reduceAdd, Nat.reduceMul, Nat.reduceSub]
    refine call (scaled1 b.burn 100000 (workF m) 0 true u1 u2 w0.1 (by omega) (by omega) (by omega)) ?_
    dsimp only [spanL, go_sem, Nat.reduceAdd, Nat.reduceMul, Nat.reduceSub]
    simp only [costW, costF, hk, scl, Bool.false_eq_true, if_false, Int.add_zero]
def errM (b : Breed) (m : March) : Int := if okBreed b = false then 10 else if okMarch m = false then 12 else 0
def cres (b : Breed) (k : Bool) (m : March) : SV := .tup [.agg (spanL (if errM b m = 0 then costW b k m else zeroS)), .agg (spanL (if errM b m = 0 then costF b m else zeroS)), I (errM b m)]
theorem Cost_ok (b : Breed) (k : Bool) (m : March) : Ct Try.prog 18 [.agg (breedL b), B k, .agg (marchL m)] (cres b k m) := by
  refine t18 (by simp [breedL, marchL, KFL, KF]) (by simp [cres, spanL, KFL, KF]) ?_
  dsimp only [c18, r18, breedL, marchL, go_sem, Nat.reduceAdd, Nat.reduceMul, Nat.reduceSub]
  refine call (checkBreed_ok b) ?_
  dsimp only [go_sem, Nat.reduceAdd, Nat.reduceMul, Nat.reduceSub]
  by_cases hb : okBreed b = true
  case neg =>
    refine br_t (by simp [errB, hb]) ?_
    dsimp only [cres, spanL, go_sem, Nat.reduceAdd, Nat.reduceMul, Nat.reduceSub]
    simp [errB, errM, hb, zeroS]
  refine br_f (by simp [errB, hb]) ?_
  dsimp only [go_sem, Nat.reduceAdd, Nat.reduceMul, Nat.reduceSub]
  refine call (checkDay1 m true) ?_
  dsimp only [go_sem, Nat.reduceAdd, Nat.reduceMul, Nat.reduceSub]
  by_cases hm : okMarch m = true
  case neg =>
    refine br_t (by simp [hm]) ?_
    dsimp only [cres, spanL, go_sem, Nat.reduceAdd, Nat.reduceMul, Nat.reduceSub]
    simp [errM, hb, hm, zeroS]
  refine br_f (by simp [hm]) ?_
  dsimp only [go_sem, Nat.reduceAdd, Nat.reduceMul, Nat.reduceSub]
  refine call (cost_ok b k m hb hm) ?_
  dsimp only [go_sem, Nat.reduceAdd, Nat.reduceMul, Nat.reduceSub]
  refine ixa 0 rfl (by decide) ?_
  dsimp only [go_sem, Nat.reduceAdd, Nat.reduceMul, Nat.reduceSub]
  refine ixa 1 rfl (by decide) ?_
  dsimp only [cres, spanL, go_sem, Nat.reduceAdd, Nat.reduceMul, Nat.reduceSub]
  simp [errM, hb, hm]
end Go.Proofs.Ytnlfjchbhgikaaa
set_option maxRecDepth 100000
set_option maxHeartbeats 4000000
namespace Go.Azalai
def errL (b : Breed) (c : Camel) (l : List March) : Int := if errC b c ≠ 0 then errC b c else if l.length > 60 then 4 else if l.all okMarch = false then 12 else 0
def thirstL (b : Breed) (sum : Span) : List Camel → Span × Int
  | [] => (sum, 0)
  | c :: r => if okCamel b c = false then (⟨0, 0⟩, 11) else thirstL b ⟨sum.lo + (b.full - c.water.hi), sum.hi + (b.full - c.water.lo)⟩ r
def thirstF (b : Breed) (l : List Camel) : Span × Int :=
  if okBreed b = false then (⟨0, 0⟩, 10) else if l.length > 30 then (⟨0, 0⟩, 4) else thirstL b ⟨0, 0⟩ l
end Go.Azalai
namespace Go.Proofs.Ytnlfjchbhgikaaa
open Go Go.Sx Go.Azalai
def tres (r : Span × Int) : SV := .tup [.agg (spanL r.1), I r.2]
theorem checkL_ok (b : Breed) (c : Camel) (l : List March) (hl : l.length < 4611686018427387904) (k : Bool) : Ct Try.prog 66 [.agg (breedL b), .agg (camelL c), .sl k 8 (l.map marchL)] (I (errL b c l)) := by
  refine t66 (by simp [breedL, camelL, marchL, KFR_iff, KFL, KF]) (by simp [KFL, KF]) ?_
  dsimp only [c66, r66, breedL, camelL, go_sem, Nat.reduceAdd, Nat.reduceMul, Nat.reduceSub]
  refine call (checkCamel_ok b c) ?_
  dsimp only [go_sem, Nat.reduceAdd, Nat.reduceMul, Nat.reduceSub]
  by_cases h0 : errC b c = 0
  case neg =>
    refine br_t (by simpa using h0) ?_
    dsimp only [go_sem, Nat.reduceAdd, Nat.reduceMul, Nat.reduceSub]
    simp [errL, h0]
  refine br_f (by simpa using h0) ?_
  dsimp only [go_sem, Nat.reduceAdd, Nat.reduceMul, Nat.reduceSub]
  simp only [List.length_map]
  by_cases h1 : l.length > 60
  case pos =>
    refine br_t (by simp; omega) ?_
    dsimp only [go_sem, Nat.reduceAdd, Nat.reduceMul, Nat.reduceSub]
    simp [errL, h0, h1]
  refine br_f (by simp; omega) ?_
  dsimp only [go_sem, Nat.reduceAdd, Nat.reduceMul, Nat.reduceSub]
  refine call (checkDays_ok l hl k) ?_
  dsimp only [go_sem, Nat.reduceAdd, Nat.reduceMul, Nat.reduceSub]
  simp only [errL, h0, h1]
  by_cases h2 : l.all okMarch = true
  · simp [h2]
  · simp [h2]
end Go.Proofs.Ytnlfjchbhgikaaa
set_option maxRecDepth 100000
set_option maxHeartbeats 4000000
namespace Go.Proofs.Ytnlfjchbhgikaaa
open Go Go.Sx Go.Azalai
end Go.Proofs.Ytnlfjchbhgikaaa
set_option maxRecDepth 100000
set_option maxHeartbeats 4000000
namespace Go.Azalai
def zeroC : Camel := ⟨⟨0, 0⟩, ⟨0, 0⟩, ⟨0, 0⟩, false⟩
def lostF (most : Int) (has cost gets : Span) : Span := ⟨min most (max 0 (has.lo - cost.hi) + gets.lo), min most (has.hi - cost.lo + gets.hi)⟩
def soreF (b : Breed) (s : Span) (m : March) : Span :=
  if m.hours = 0 then ⟨max 0 (s.lo - b.heal), max 0 (s.hi - b.heal)⟩
  else ⟨min 1000 (s.lo + (b.rub.lo * (m.hours * m.load)).tdiv 1000000), min 1000 (s.hi + upF (b.rub.hi * (m.hours * m.load)) 1000000)⟩
def afterF (b : Breed) (c : Camel) (m : March) : Camel × Int :=
  let w := costW b c.milks m
  let f := costF b m
  if c.water.hi < w.lo ∨ c.fat.hi < f.lo then (zeroC, 2)
  else (⟨lostF b.full c.water w m.drinks, lostF b.fed c.fat f m.grass, soreF b c.sore m, c.milks⟩, if c.water.lo ≥ w.hi ∧ c.fat.lo ≥ f.hi then 0 else 1)
theorem costW_bd {b : Breed} {k : Bool} {m : March} (hb : okBreed b = true) (hm : okMarch m = true) : 0 ≤ (costW b k m).lo ∧ (costW b k m).lo ≤ 1000000000 ∧ 0 ≤ (costW b k m).hi ∧ (costW b k m).hi ≤ 1000000000 := by
  have h := Go.Proofs.Ytnlfjchbhgikaaa.breed_bd hb
  have h2 := Go.Proofs.Ytnlfjchbhgikaaa.march_bd hm
  have q1 := Go.Proofs.Ytnlfjchbhgikaaa.toil_bd (x := b.toil.lo) hm (by omega) (by omega)
  have q2 := Go.Proofs.Ytnlfjchbhgikaaa.toil_bd (x := b.toil.hi) hm (by omega) (by omega)
  have q3 := Go.Proofs.Ytnlfjchbhgikaaa.heat_bd (x := b.heat.lo) (y := m.heat.lo) (by omega) (by omega) (by omega) (by omega)
  have q4 := Go.Proofs.Ytnlfjchbhgikaaa.heat_bd (x := b.heat.hi) (y := m.heat.hi) (by omega) (by omega) (by omega) (by omega)
  have r1 : 0 ≤ (b.toil.lo * workF m).tdiv 100000 ∧ (b.toil.lo * workF m).tdiv 100000 ≤ 26400000 := by
    rw [Int.tdiv_eq_ediv_of_nonneg q1.1]; omega
  have r2 : 0 ≤ upF (b.toil.hi * workF m) 100000 ∧ upF (b.toil.hi * workF m) 100000 ≤ 26400001 := by
    unfold upF; rw [Int.tdiv_eq_ediv_of_nonneg (by omega)]; omega
  simp only [costW]
  cases k <;> simp <;> omega
theorem costF_bd {b : Breed} {m : March} (hb : okBreed b = true) (hm : okMarch m = true) : 0 ≤ (costF b m).lo ∧ (costF b m).lo ≤ 1000000000 ∧ 0 ≤ (costF b m).hi ∧ (costF b m).hi ≤ 1000000000 := by
  have h := Go.Proofs.Ytnlfjchbhgikaaa.breed_bd hb
  have q1 := Go.Proofs.Ytnlfjchbhgikaaa.toil_bd (x := b.burn.lo) hm (by omega) (by omega)
  have q2 := Go.Proofs.Ytnlfjchbhgikaaa.toil_bd (x := b.burn.hi) hm (by omega) (by omega)
  have r1 : 0 ≤ (b.burn.lo * workF m).tdiv 100000 ∧ (b.burn.lo * workF m).tdiv 100000 ≤ 26400000 := by
    rw [Int.tdiv_eq_ediv_of_nonneg q1.1]; omega
  have r2 : 0 ≤ upF (b.burn.hi * workF m) 100000 ∧ upF (b.burn.hi * workF m) 100000 ≤ 26400001 := by
    unfold upF; rw [Int.tdiv_eq_ediv_of_nonneg (by omega)]; omega
  simp only [costF]
  omega
end Go.Azalai
namespace Go.Proofs.Ytnlfjchbhgikaaa
open Go Go.Sx Go.Azalai
end Go.Proofs.Ytnlfjchbhgikaaa
set_option maxRecDepth 100000
set_option maxHeartbeats 4000000
namespace Go.Proofs.Ytnlfjchbhgikaaa
open Go Go.Sx Go.Azalai
theorem day_ok (b : Breed) (c : Camel) (m : March) (hb : okBreed b = true) (hc : okCamel b c = true) (hm : okMarch m = true) (hd : (afterF b c m).2 ≠ 2) :
    Ct Try.prog 68 [.agg (beastL b c), .agg (marchL m)] (.tup [.agg (beastL b (afterF b c m).1), .v (.int .u8 (afterF b c m).2)]) := by
  have h1 := breed_bd hb
  have h2 := camel_bd hb hc
  have h3 := march_bd hm
  have w1 := costW_bd (k := c.milks) hb hm
  have w2 := costF_bd hb hm
  have k0 := mul_bd (a := m.hours) (b := m.load) (A := 24) (B := 1000000) (by omega) (by omega) (by omega) (by omega)
  have k1 := mul_bd (a := b.rub.lo) (b := m.hours * m.load) (A := 100000) (B := 24000000) (by omega) (by omega) (by omega) (by omega)
  have k2 := mul_bd (a := b.rub.hi) (b := m.hours * m.load) (A := 100000) (B := 24000000) (by omega) (by omega) (by omega) (by omega)
  have k3 := tdiv_bd k1.1 k1.2 (d := 1000000) (by omega)
  have k4 := up_bd k2.1 k2.2 (d := 1000000) (by omega)
  refine t68 (by simp [beastL, marchL, KFL, KF]) (by simp [beastL, KFL, KF]) ?_
  dsimp only [c68, r68, beastL, marchL, go_sem, Nat.reduceAdd, Nat.reduceMul, Nat.reduceSub]
  refine call (cost_ok b c.milks m hb hm) ?_
  dsimp only [go_sem, Nat.reduceAdd, Nat.reduceMul, Nat.reduceSub]
  generalize hW : costW b c.milks m = W at w1
  generalize hF : costF b m = F at w2
  have hd' : W.lo ≤ c.water.hi ∧ F.lo ≤ c.fat.hi := by
    by_cases h : c.water.hi < W.lo ∨ c.fat.hi < F.lo
    · exact absurd (by simp only [afterF, hW, hF, if_pos h]) hd
    · omega
  clear hd
  have k5 := mul_bd (a := b.rub.hi) (b := m.hours) (A := 100000) (B := 24) (by omega) (by omega) (by omega) (by omega)
  have k6 : b.rub.hi * m.hours * m.load ≤ 100000000000000 := by rw [Int.mul_assoc]; omega
  have hd0 : ¬ (c.water.hi < W.lo ∨ c.fat.hi < F.lo) := by omega
  by_cases hp : c.water.lo < W.hi <;> by_cases hq : c.fat.lo < F.hi
  · refine unroll 3 ?_
    dsimp only [rnds_succ, go_sem, Nat.reduceAdd, Nat.reduceMul, Nat.reduceSub]
    refine br_t (by decide) ?_
    dsimp only [rnds_succ, go_sem, Nat.reduceAdd, Nat.reduceMul, Nat.reduceSub]
    repeat (first | (refine ixa 0 rfl (by decide) ?_; dsimp only [rnds_succ, go_sem, Nat.reduceAdd, Nat.reduceMul, Nat.reduceSub]) | (refine br_f (by simp; omega) ?_; dsimp only [rnds_succ, go_sem, Nat.reduceAdd, Nat.reduceMul, Nat.reduceSub]) | (refine br_t (by simp; omega) ?_; dsimp only [rnds_succ, go_sem, Nat.reduceAdd, Nat.reduceMul, Nat.reduceSub]))
    simp (disch := omega) only [w64_in]
    refine call (plus2 ⟨max 0 (c.water.lo - W.hi), c.water.hi - W.lo⟩ m.drinks _ (by unfold bdS; simp only; omega) (by unfold bdS; omega)) ?_
    dsimp only [rnds_succ, spanL, go_sem, Nat.reduceAdd, Nat.reduceMul, Nat.reduceSub]
    repeat (first | (refine ixa 0 rfl (by decide) ?_; dsimp only [rnds_succ, go_sem, Nat.reduceAdd, Nat.reduceMul, Nat.reduceSub]) | (refine br_f (by simp; omega) ?_; dsimp only [rnds_succ, go_sem, Nat.reduceAdd, Nat.reduceMul, Nat.reduceSub]) | (refine br_t (by simp; omega) ?_; dsimp only [rnds_succ, go_sem, Nat.reduceAdd, Nat.reduceMul, Nat.reduceSub]))
    simp (disch := omega) only [w64_in]
    refine br_t (by decide) ?_
    dsimp only [rnds_succ, go_sem, Nat.reduceAdd, Nat.reduceMul, Nat.reduceSub]
    repeat (first | (refine ixa 1 rfl (by decide) ?_; dsimp only [rnds_succ, go_sem, Nat.reduceAdd, Nat.reduceMul, Nat.reduceSub]) | (refine br_f (by simp; omega) ?_; dsimp only [rnds_succ, go_sem, Nat.reduceAdd, Nat.reduceMul, Nat.reduceSub]) | (refine br_t (by simp; omega) ?_; dsimp only [rnds_succ, go_sem, Nat.reduceAdd, Nat.reduceMul, Nat.reduceSub]))
    simp (disch := omega) only [w64_in]
    refine call (plus2 ⟨max 0 (c.fat.lo - F.hi), c.fat.hi - F.lo⟩ m.grass _ (by unfold bdS; simp only; omega) (by unfold bdS; omega)) ?_
    dsimp only [rnds_succ, spanL, go_sem, Nat.reduceAdd, Nat.reduceMul, Nat.reduceSub]
    repeat (first | (refine ixa 1 rfl (by decide) ?_; dsimp only [rnds_succ, go_sem, Nat.reduceAdd, Nat.reduceMul, Nat.reduceSub]) | (refine br_f (by simp; omega) ?_; dsimp only [rnds_succ, go_sem, Nat.reduceAdd, Nat.reduceMul, Nat.reduceSub]) | (refine br_t (by simp; omega) ?_; dsimp only [rnds_succ, go_sem, Nat.reduceAdd, Nat.reduceMul, Nat.reduceSub]))
    refine br_f (by decide) ?_
    dsimp only [go_sem, Nat.reduceAdd, Nat.reduceMul, Nat.reduceSub]
    have e : (if c.water.lo ≥ W.hi ∧ c.fat.lo ≥ F.hi then (0 : Int) else 1) = 1 := if_neg (by omega)
    by_cases hz : m.hours = 0
    · refine br_t (by simpa using hz) ?_
      dsimp only [go_sem, Nat.reduceAdd, Nat.reduceMul, Nat.reduceSub]
      simp (disch := omega) only [w64_in]
      simp only [afterF, hW, hF, if_neg hd0, lostF, soreF, beastL, e, if_pos hz]
    · refine br_f (by simpa using hz) ?_
      dsimp only [go_sem, Nat.reduceAdd, Nat.reduceMul, Nat.reduceSub]
      refine call (scaled2 b.rub 1000000 m.hours m.load 0 _ (by omega) (by omega) (by omega) (by omega) (by omega) k6 (by omega) (by omega)) ?_
      dsimp only [spanL, go_sem, Nat.reduceAdd, Nat.reduceMul, Nat.reduceSub]
      simp only [Int.mul_assoc]
      refine call (plus2 c.sore ⟨(b.rub.lo * (m.hours * m.load)).tdiv 1000000, upF (b.rub.hi * (m.hours * m.load)) 1000000⟩ _ (by unfold bdS; omega) (by unfold bdS; simp only; omega)) ?_
      dsimp only [spanL, go_sem, Nat.reduceAdd, Nat.reduceMul, Nat.reduceSub]
      simp only [afterF, hW, hF, if_neg hd0, lostF, soreF, beastL, e, if_neg hz]
  · refine unroll 3 ?_
    dsimp only [rnds_succ, go_sem, Nat.reduceAdd, Nat.reduceMul, Nat.reduceSub]
    refine br_t (by decide) ?_
    dsimp only [rnds_succ, go_sem, Nat.reduceAdd, Nat.reduceMul, Nat.reduceSub]
    repeat (first | (refine ixa 0 rfl (by decide) ?_; dsimp only [rnds_succ, go_sem, Nat.reduceAdd, Nat.reduceMul, Nat.reduceSub]) | (refine br_f (by simp; omega) ?_; dsimp only [rnds_succ, go_sem, Nat.reduceAdd, Nat.reduceMul, Nat.reduceSub]) | (refine br_t (by simp; omega) ?_; dsimp only [rnds_succ, go_sem, Nat.reduceAdd, Nat.reduceMul, Nat.reduceSub]))
    simp (disch := omega) only [w64_in]
    refine call (plus2 ⟨max 0 (c.water.lo - W.hi), c.water.hi - W.lo⟩ m.drinks _ (by unfold bdS; simp only; omega) (by unfold bdS; omega)) ?_
    dsimp only [rnds_succ, spanL, go_sem, Nat.reduceAdd, Nat.reduceMul, Nat.reduceSub]
    repeat (first | (refine ixa 0 rfl (by decide) ?_; dsimp only [rnds_succ, go_sem, Nat.reduceAdd, Nat.reduceMul, Nat.reduceSub]) | (refine br_f (by simp; omega) ?_; dsimp only [rnds_succ, go_sem, Nat.reduceAdd, Nat.reduceMul, Nat.reduceSub]) | (refine br_t (by simp; omega) ?_; dsimp only [rnds_succ, go_sem, Nat.reduceAdd, Nat.reduceMul, Nat.reduceSub]))
    simp (disch := omega) only [w64_in]
    refine br_t (by decide) ?_
    dsimp only [rnds_succ, go_sem, Nat.reduceAdd, Nat.reduceMul, Nat.reduceSub]
    repeat (first | (refine ixa 1 rfl (by decide) ?_; dsimp only [rnds_succ, go_sem, Nat.reduceAdd, Nat.reduceMul, Nat.reduceSub]) | (refine br_f (by simp; omega) ?_; dsimp only [rnds_succ, go_sem, Nat.reduceAdd, Nat.reduceMul, Nat.reduceSub]) | (refine br_t (by simp; omega) ?_; dsimp only [rnds_succ, go_sem, Nat.reduceAdd, Nat.reduceMul, Nat.reduceSub]))
    simp (disch := omega) only [w64_in]
    refine call (plus2 ⟨max 0 (c.fat.lo - F.hi), c.fat.hi - F.lo⟩ m.grass _ (by unfold bdS; simp only; omega) (by unfold bdS; omega)) ?_
    dsimp only [rnds_succ, spanL, go_sem, Nat.reduceAdd, Nat.reduceMul, Nat.reduceSub]
    repeat (first | (refine ixa 1 rfl (by decide) ?_; dsimp only [rnds_succ, go_sem, Nat.reduceAdd, Nat.reduceMul, Nat.reduceSub]) | (refine br_f (by simp; omega) ?_; dsimp only [rnds_succ, go_sem, Nat.reduceAdd, Nat.reduceMul, Nat.reduceSub]) | (refine br_t (by simp; omega) ?_; dsimp only [rnds_succ, go_sem, Nat.reduceAdd, Nat.reduceMul, Nat.reduceSub]))
    refine br_f (by decide) ?_
    dsimp only [go_sem, Nat.reduceAdd, Nat.reduceMul, Nat.reduceSub]
    have e : (if c.water.lo ≥ W.hi ∧ c.fat.lo ≥ F.hi then (0 : Int) else 1) = 1 := if_neg (by omega)
    by_cases hz : m.hours = 0
    · refine br_t (by simpa using hz) ?_
      dsimp only [go_sem, Nat.reduceAdd, Nat.reduceMul, Nat.reduceSub]
      simp (disch := omega) only [w64_in]
      simp only [afterF, hW, hF, if_neg hd0, lostF, soreF, beastL, e, if_pos hz]
    · refine br_f (by simpa using hz) ?_
      dsimp only [go_sem, Nat.reduceAdd, Nat.reduceMul, Nat.reduceSub]
      refine call (scaled2 b.rub 1000000 m.hours m.load 0 _ (by omega) (by omega) (by omega) (by omega) (by omega) k6 (by omega) (by omega)) ?_
      dsimp only [spanL, go_sem, Nat.reduceAdd, Nat.reduceMul, Nat.reduceSub]
      simp only [Int.mul_assoc]
      refine call (plus2 c.sore ⟨(b.rub.lo * (m.hours * m.load)).tdiv 1000000, upF (b.rub.hi * (m.hours * m.load)) 1000000⟩ _ (by unfold bdS; omega) (by unfold bdS; simp only; omega)) ?_
      dsimp only [spanL, go_sem, Nat.reduceAdd, Nat.reduceMul, Nat.reduceSub]
      simp only [afterF, hW, hF, if_neg hd0, lostF, soreF, beastL, e, if_neg hz]
  · refine unroll 3 ?_
    dsimp only [rnds_succ, go_sem, Nat.reduceAdd, Nat.reduceMul, Nat.reduceSub]
    refine br_t (by decide) ?_
    dsimp only [rnds_succ, go_sem, Nat.reduceAdd, Nat.reduceMul, Nat.reduceSub]
    repeat (first | (refine ixa 0 rfl (by decide) ?_; dsimp only [rnds_succ, go_sem, Nat.reduceAdd, Nat.reduceMul, Nat.reduceSub]) | (refine br_f (by simp; omega) ?_; dsimp only [rnds_succ, go_sem, Nat.reduceAdd, Nat.reduceMul, Nat.reduceSub]) | (refine br_t (by simp; omega) ?_; dsimp only [rnds_succ, go_sem, Nat.reduceAdd, Nat.reduceMul, Nat.reduceSub]))
    simp (disch := omega) only [w64_in]
    refine call (plus2 ⟨max 0 (c.water.lo - W.hi), c.water.hi - W.lo⟩ m.drinks _ (by unfold bdS; simp only; omega) (by unfold bdS; omega)) ?_
    dsimp only [rnds_succ, spanL, go_sem, Nat.reduceAdd, Nat.reduceMul, Nat.reduceSub]
    repeat (first | (refine ixa 0 rfl (by decide) ?_; dsimp only [rnds_succ, go_sem, Nat.reduceAdd, Nat.reduceMul, Nat.reduceSub]) | (refine br_f (by simp; omega) ?_; dsimp only [rnds_succ, go_sem, Nat.reduceAdd, Nat.reduceMul, Nat.reduceSub]) | (refine br_t (by simp; omega) ?_; dsimp only [rnds_succ, go_sem, Nat.reduceAdd, Nat.reduceMul, Nat.reduceSub]))
    simp (disch := omega) only [w64_in]
    refine br_t (by decide) ?_
    dsimp only [rnds_succ, go_sem, Nat.reduceAdd, Nat.reduceMul, Nat.reduceSub]
    repeat (first | (refine ixa 1 rfl (by decide) ?_; dsimp only [rnds_succ, go_sem, Nat.reduceAdd, Nat.reduceMul, Nat.reduceSub]) | (refine br_f (by simp; omega) ?_; dsimp only [rnds_succ, go_sem, Nat.reduceAdd, Nat.reduceMul, Nat.reduceSub]) | (refine br_t (by simp; omega) ?_; dsimp only [rnds_succ, go_sem, Nat.reduceAdd, Nat.reduceMul, Nat.reduceSub]))
    simp (disch := omega) only [w64_in]
    refine call (plus2 ⟨max 0 (c.fat.lo - F.hi), c.fat.hi - F.lo⟩ m.grass _ (by unfold bdS; simp only; omega) (by unfold bdS; omega)) ?_
    dsimp only [rnds_succ, spanL, go_sem, Nat.reduceAdd, Nat.reduceMul, Nat.reduceSub]
    repeat (first | (refine ixa 1 rfl (by decide) ?_; dsimp only [rnds_succ, go_sem, Nat.reduceAdd, Nat.reduceMul, Nat.reduceSub]) | (refine br_f (by simp; omega) ?_; dsimp only [rnds_succ, go_sem, Nat.reduceAdd, Nat.reduceMul, Nat.reduceSub]) | (refine br_t (by simp; omega) ?_; dsimp only [rnds_succ, go_sem, Nat.reduceAdd, Nat.reduceMul, Nat.reduceSub]))
    refine br_f (by decide) ?_
    dsimp only [go_sem, Nat.reduceAdd, Nat.reduceMul, Nat.reduceSub]
    have e : (if c.water.lo ≥ W.hi ∧ c.fat.lo ≥ F.hi then (0 : Int) else 1) = 1 := if_neg (by omega)
    by_cases hz : m.hours = 0
    · refine br_t (by simpa using hz) ?_
      dsimp only [go_sem, Nat.reduceAdd, Nat.reduceMul, Nat.reduceSub]
      simp (disch := omega) only [w64_in]
      simp only [afterF, hW, hF, if_neg hd0, lostF, soreF, beastL, e, if_pos hz]
    · refine br_f (by simpa using hz) ?_
      dsimp only [go_sem, Nat.reduceAdd, Nat.reduceMul, Nat.reduceSub]
      refine call (scaled2 b.rub 1000000 m.hours m.load 0 _ (by omega) (by omega) (by omega) (by omega) (by omega) k6 (by omega) (by omega)) ?_
      dsimp only [spanL, go_sem, Nat.reduceAdd, Nat.reduceMul, Nat.reduceSub]
      simp only [Int.mul_assoc]
      refine call (plus2 c.sore ⟨(b.rub.lo * (m.hours * m.load)).tdiv 1000000, upF (b.rub.hi * (m.hours * m.load)) 1000000⟩ _ (by unfold bdS; omega) (by unfold bdS; simp only; omega)) ?_
      dsimp only [spanL, go_sem, Nat.reduceAdd, Nat.reduceMul, Nat.reduceSub]
      simp only [afterF, hW, hF, if_neg hd0, lostF, soreF, beastL, e, if_neg hz]
  · refine unroll 3 ?_
    dsimp only [rnds_succ, go_sem, Nat.reduceAdd, Nat.reduceMul, Nat.reduceSub]
    refine br_t (by decide) ?_
    dsimp only [rnds_succ, go_sem, Nat.reduceAdd, Nat.reduceMul, Nat.reduceSub]
    repeat (first | (refine ixa 0 rfl (by decide) ?_; dsimp only [rnds_succ, go_sem, Nat.reduceAdd, Nat.reduceMul, Nat.reduceSub]) | (refine br_f (by simp; omega) ?_; dsimp only [rnds_succ, go_sem, Nat.reduceAdd, Nat.reduceMul, Nat.reduceSub]) | (refine br_t (by simp; omega) ?_; dsimp only [rnds_succ, go_sem, Nat.reduceAdd, Nat.reduceMul, Nat.reduceSub]))
    simp (disch := omega) only [w64_in]
    refine call (plus2 ⟨max 0 (c.water.lo - W.hi), c.water.hi - W.lo⟩ m.drinks _ (by unfold bdS; simp only; omega) (by unfold bdS; omega)) ?_
    dsimp only [rnds_succ, spanL, go_sem, Nat.reduceAdd, Nat.reduceMul, Nat.reduceSub]
    repeat (first | (refine ixa 0 rfl (by decide) ?_; dsimp only [rnds_succ, go_sem, Nat.reduceAdd, Nat.reduceMul, Nat.reduceSub]) | (refine br_f (by simp; omega) ?_; dsimp only [rnds_succ, go_sem, Nat.reduceAdd, Nat.reduceMul, Nat.reduceSub]) | (refine br_t (by simp; omega) ?_; dsimp only [rnds_succ, go_sem, Nat.reduceAdd, Nat.reduceMul, Nat.reduceSub]))
    simp (disch := omega) only [w64_in]
    refine br_t (by decide) ?_
    dsimp only [rnds_succ, go_sem, Nat.reduceAdd, Nat.reduceMul, Nat.reduceSub]
    repeat (first | (refine ixa 1 rfl (by decide) ?_; dsimp only [rnds_succ, go_sem, Nat.reduceAdd, Nat.reduceMul, Nat.reduceSub]) | (refine br_f (by simp; omega) ?_; dsimp only [rnds_succ, go_sem, Nat.reduceAdd, Nat.reduceMul, Nat.reduceSub]) | (refine br_t (by simp; omega) ?_; dsimp only [rnds_succ, go_sem, Nat.reduceAdd, Nat.reduceMul, Nat.reduceSub]))
    simp (disch := omega) only [w64_in]
    refine call (plus2 ⟨max 0 (c.fat.lo - F.hi), c.fat.hi - F.lo⟩ m.grass _ (by unfold bdS; simp only; omega) (by unfold bdS; omega)) ?_
    dsimp only [rnds_succ, spanL, go_sem, Nat.reduceAdd, Nat.reduceMul, Nat.reduceSub]
    repeat (first | (refine ixa 1 rfl (by decide) ?_; dsimp only [rnds_succ, go_sem, Nat.reduceAdd, Nat.reduceMul, Nat.reduceSub]) | (refine br_f (by simp; omega) ?_; dsimp only [rnds_succ, go_sem, Nat.reduceAdd, Nat.reduceMul, Nat.reduceSub]) | (refine br_t (by simp; omega) ?_; dsimp only [rnds_succ, go_sem, Nat.reduceAdd, Nat.reduceMul, Nat.reduceSub]))
    refine br_f (by decide) ?_
    dsimp only [go_sem, Nat.reduceAdd, Nat.reduceMul, Nat.reduceSub]
    have e : (if c.water.lo ≥ W.hi ∧ c.fat.lo ≥ F.hi then (0 : Int) else 1) = 0 := if_pos (by omega)
    by_cases hz : m.hours = 0
    · refine br_t (by simpa using hz) ?_
      dsimp only [go_sem, Nat.reduceAdd, Nat.reduceMul, Nat.reduceSub]
      simp (disch := omega) only [w64_in]
      simp only [afterF, hW, hF, if_neg hd0, lostF, soreF, beastL, e, if_pos hz]
    · refine br_f (by simpa using hz) ?_
      dsimp only [go_sem, Nat.reduceAdd, Nat.reduceMul, Nat.reduceSub]
      refine call (scaled2 b.rub 1000000 m.hours m.load 0 _ (by omega) (by omega) (by omega) (by omega) (by omega) k6 (by omega) (by omega)) ?_
      dsimp only [spanL, go_sem, Nat.reduceAdd, Nat.reduceMul, Nat.reduceSub]
      simp only [Int.mul_assoc]
      refine call (plus2 c.sore ⟨(b.rub.lo * (m.hours * m.load)).tdiv 1000000, upF (b.rub.hi * (m.hours * m.load)) 1000000⟩ _ (by unfold bdS; omega) (by unfold bdS; simp only; omega)) ?_
      dsimp only [spanL, go_sem, Nat.reduceAdd, Nat.reduceMul, Nat.reduceSub]
      simp only [afterF, hW, hF, if_neg hd0, lostF, soreF, beastL, e, if_neg hz]
end Go.Proofs.Ytnlfjchbhgikaaa
set_option maxRecDepth 100000
set_option maxHeartbeats 4000000
namespace Go.Azalai
def bearsL (b : Breed) (load : Int) (c : Camel) : List March → Bool
  | [] => true
  | m :: r => if m.hours > 0 ∧ load > (carF b c).lo then false else if (afterF b c { m with load := load }).2 ≠ 0 then false else bearsL b load (afterF b c { m with load := load }).1 r
theorem tdiv_up {x y d : Int} (hd : 1 ≤ d) (h0 : 0 ≤ x) (h : x ≤ y) : x.tdiv d ≤ upF y d := by
  unfold upF
  rw [Int.tdiv_eq_ediv_of_nonneg h0, Int.tdiv_eq_ediv_of_nonneg (by omega)]
  exact Int.ediv_le_ediv (by omega) (by omega)
theorem costW_le {b : Breed} {k : Bool} {m : March} (hb : okBreed b = true) (hm : okMarch m = true) : (costW b k m).lo ≤ (costW b k m).hi := by
  have h := Go.Proofs.Ytnlfjchbhgikaaa.breed_bd hb
  have h2 := Go.Proofs.Ytnlfjchbhgikaaa.march_bd hm
  have hw := Go.Proofs.Ytnlfjchbhgikaaa.work_bd hm
  have q1 : (b.toil.lo * workF m).tdiv 100000 ≤ upF (b.toil.hi * workF m) 100000 := tdiv_up (by omega) (Int.mul_nonneg (by omega) hw.1) (Int.mul_le_mul_of_nonneg_right (by omega) hw.1)
  have q2 : b.heat.lo * max 0 (m.heat.lo - 20) ≤ b.heat.hi * max 0 (m.heat.hi - 20) := Int.mul_le_mul (by omega) (by omega) (by omega) (by omega)
  simp only [costW]
  cases k <;> simp <;> omega
theorem costF_le {b : Breed} {m : March} (hb : okBreed b = true) (hm : okMarch m = true) : (costF b m).lo ≤ (costF b m).hi := by
  have h := Go.Proofs.Ytnlfjchbhgikaaa.breed_bd hb
  have hw := Go.Proofs.Ytnlfjchbhgikaaa.work_bd hm
  exact tdiv_up (by omega) (Int.mul_nonneg (by omega) hw.1) (Int.mul_le_mul_of_nonneg_right (by omega) hw.1)
theorem after_ok {b : Breed} {c : Camel} {m : March} (hb : okBreed b = true) (hc : okCamel b c = true) (hm : okMarch m = true) (hd : (afterF b c m).2 ≠ 2) : okCamel b (afterF b c m).1 = true := by
  have h1 := Go.Proofs.Ytnlfjchbhgikaaa.breed_bd hb
  have h2 := Go.Proofs.Ytnlfjchbhgikaaa.camel_bd hb hc
  have h3 := Go.Proofs.Ytnlfjchbhgikaaa.march_bd hm
  have w1 := costW_bd (k := c.milks) hb hm
  have w2 := costF_bd hb hm
  have hlo : (costW b c.milks m).lo ≤ (costW b c.milks m).hi := costW_le hb hm
  have hlf : (costF b m).lo ≤ (costF b m).hi := costF_le hb hm
  have hr : (b.rub.lo * (m.hours * m.load)).tdiv 1000000 ≤ upF (b.rub.hi * (m.hours * m.load)) 1000000 :=
    tdiv_up (by omega) (Int.mul_nonneg (by omega) (Int.mul_nonneg (by omega) (by omega))) (Int.mul_le_mul_of_nonneg_right (by omega) (Int.mul_nonneg (by omega) (by omega)))
  have hr0 : 0 ≤ (b.rub.lo * (m.hours * m.load)).tdiv 1000000 :=
    Int.tdiv_nonneg (Int.mul_nonneg (by omega) (Int.mul_nonneg (by omega) (by omega))) (by omega)
  unfold afterF at hd ⊢
  simp only at hd ⊢
  split at hd
  · exact absurd rfl hd
  · rename_i h
    rw [if_neg h]
    simp only [okCamel, okSp, lostF, soreF, Bool.and_eq_true, decide_eq_true_eq]
    by_cases hz : m.hours = 0
    · simp only [if_pos hz, Bool.and_eq_true, decide_eq_true_eq]
      refine ⟨⟨decide_eq_true ⟨by omega, by omega, by omega⟩, decide_eq_true ⟨by omega, by omega, by omega⟩⟩, by omega, by omega, by omega⟩
    · simp only [if_neg hz, Bool.and_eq_true, decide_eq_true_eq]
      refine ⟨⟨decide_eq_true ⟨by omega, by omega, by omega⟩, decide_eq_true ⟨by omega, by omega, by omega⟩⟩, by omega, by omega, by omega⟩
end Go.Azalai
namespace Go.Proofs.Ytnlfjchbhgikaaa
open Go Go.Sx Go.Azalai
end Go.Proofs.Ytnlfjchbhgikaaa
set_option maxRecDepth 100000
set_option maxHeartbeats 4000000
namespace Go.Azalai
/-- the search between two numbers, in some rounds -/
def seekN (g : Int → Bool) : Nat → Int → Int → Int
  | 0, lo, _ => lo
  | n + 1, lo, hi => if lo < hi then (if g ((lo + hi + 1).tdiv 2) then seekN g n ((lo + hi + 1).tdiv 2) hi else seekN g n lo ((lo + hi + 1).tdiv 2 - 1)) else lo
def heavyF (b : Breed) (c : Camel) (l : List March) : Int × Int :=
  if errL b c l ≠ 0 then (0, errL b c l) else if bearsL b 0 c l = false then (0, 13) else (seekN (fun n => bearsL b n c l) 2000000 0 1000000, 0)
end Go.Azalai
namespace Go.Proofs.Ytnlfjchbhgikaaa
open Go Go.Sx Go.Azalai
end Go.Proofs.Ytnlfjchbhgikaaa
set_option maxRecDepth 100000
set_option maxHeartbeats 4000000
namespace Go.Proofs.Ytnlfjchbhgikaaa
open Go Go.Sx Go.Azalai
theorem day_dies (b : Breed) (c : Camel) (m : March) (hb : okBreed b = true) (hc : okCamel b c = true) (hm : okMarch m = true) (hd : (afterF b c m).2 = 2) :
    Ct Try.prog 68 [.agg (beastL b c), .agg (marchL m)] (.tup [.agg (beastL ⟨0, 0, ⟨0, 0⟩, ⟨0, 0⟩, ⟨0, 0⟩, ⟨0, 0⟩, ⟨0, 0⟩, ⟨0, 0⟩, 0, ⟨0, 0⟩⟩ zeroC), .v (.int .u8 2)]) := by
  have h1 := breed_bd hb
  have h2 := camel_bd hb hc
  have h3 := march_bd hm
  have w1 := costW_bd (k := c.milks) hb hm
  have w2 := costF_bd hb hm
  refine t68 (by simp [beastL, marchL, KFL, KF]) (by simp [beastL, zeroC, KFL, KF]) ?_
  dsimp only [c68, r68, beastL, marchL, go_sem, Nat.reduceAdd, Nat.reduceMul, Nat.reduceSub]
  refine call (cost_ok b c.milks m hb hm) ?_
  dsimp only [go_sem, Nat.reduceAdd, Nat.reduceMul, Nat.reduceSub]
  generalize hW : costW b c.milks m = W at w1
  generalize hF : costF b m = F at w2
  have hd' : c.water.hi < W.lo ∨ c.fat.hi < F.lo := by
    by_cases h : c.water.hi < W.lo ∨ c.fat.hi < F.lo
    · exact h
    · simp only [afterF, hW, hF, if_neg h] at hd
      split at hd <;> cases hd
  by_cases hw : c.water.hi < W.lo
  · refine unroll 3 ?_
    dsimp only [rnds_succ, go_sem, Nat.reduceAdd, Nat.reduceMul, Nat.reduceSub]
    refine br_t (by decide) ?_
    dsimp only [rnds_succ, go_sem, Nat.reduceAdd, Nat.reduceMul, Nat.reduceSub]
    repeat (first | (refine ixa 0 rfl (by decide) ?_; dsimp only [rnds_succ, go_sem, Nat.reduceAdd, Nat.reduceMul, Nat.reduceSub]) | (refine br_t (by simp; omega) ?_; dsimp only [rnds_succ, zeroC, go_sem, Nat.reduceAdd, Nat.reduceMul, Nat.reduceSub]))
  · have hf : c.fat.hi < F.lo := by omega
    by_cases hp : c.water.lo < W.hi
    · refine unroll 3 ?_
      dsimp only [rnds_succ, go_sem, Nat.reduceAdd, Nat.reduceMul, Nat.reduceSub]
      refine br_t (by decide) ?_
      dsimp only [rnds_succ, go_sem, Nat.reduceAdd, Nat.reduceMul, Nat.reduceSub]
      repeat (first | (refine ixa 0 rfl (by decide) ?_; dsimp only [rnds_succ, go_sem, Nat.reduceAdd, Nat.reduceMul, Nat.reduceSub]) | (refine br_f (by simp; omega) ?_; dsimp only [rnds_succ, go_sem, Nat.reduceAdd, Nat.reduceMul, Nat.reduceSub]) | (refine br_t (by simp; omega) ?_; dsimp only [rnds_succ, go_sem, Nat.reduceAdd, Nat.reduceMul, Nat.reduceSub]))
      simp (disch := omega) only [w64_in]
      refine call (plus2 ⟨max 0 (c.water.lo - W.hi), c.water.hi - W.lo⟩ m.drinks _ (by unfold bdS; simp only; omega) (by unfold bdS; omega)) ?_
      dsimp only [rnds_succ, spanL, go_sem, Nat.reduceAdd, Nat.reduceMul, Nat.reduceSub]
      repeat (first | (refine ixa 0 rfl (by decide) ?_; dsimp only [rnds_succ, go_sem, Nat.reduceAdd, Nat.reduceMul, Nat.reduceSub]) | (refine br_f (by simp; omega) ?_; dsimp only [rnds_succ, go_sem, Nat.reduceAdd, Nat.reduceMul, Nat.reduceSub]) | (refine br_t (by simp; omega) ?_; dsimp only [rnds_succ, go_sem, Nat.reduceAdd, Nat.reduceMul, Nat.reduceSub]))
      simp (disch := omega) only [w64_in]
      refine br_t (by decide) ?_
      dsimp only [rnds_succ, go_sem, Nat.reduceAdd, Nat.reduceMul, Nat.reduceSub]
      repeat (first | (refine ixa 1 rfl (by decide) ?_; dsimp only [rnds_succ, go_sem, Nat.reduceAdd, Nat.reduceMul, Nat.reduceSub]) | (refine br_t (by simp; omega) ?_; dsimp only [rnds_succ, zeroC, go_sem, Nat.reduceAdd, Nat.reduceMul, Nat.reduceSub]))
    · refine unroll 3 ?_
      dsimp only [rnds_succ, go_sem, Nat.reduceAdd, Nat.reduceMul, Nat.reduceSub]
      refine br_t (by decide) ?_
      dsimp only [rnds_succ, go_sem, Nat.reduceAdd, Nat.reduceMul, Nat.reduceSub]
      repeat (first | (refine ixa 0 rfl (by decide) ?_; dsimp only [rnds_succ, go_sem, Nat.reduceAdd, Nat.reduceMul, Nat.reduceSub]) | (refine br_f (by simp; omega) ?_; dsimp only [rnds_succ, go_sem, Nat.reduceAdd, Nat.reduceMul, Nat.reduceSub]) | (refine br_t (by simp; omega) ?_; dsimp only [rnds_succ, go_sem, Nat.reduceAdd, Nat.reduceMul, Nat.reduceSub]))
      simp (disch := omega) only [w64_in]
      refine call (plus2 ⟨max 0 (c.water.lo - W.hi), c.water.hi - W.lo⟩ m.drinks _ (by unfold bdS; simp only; omega) (by unfold bdS; omega)) ?_
      dsimp only [rnds_succ, spanL, go_sem, Nat.reduceAdd, Nat.reduceMul, Nat.reduceSub]
      repeat (first | (refine ixa 0 rfl (by decide) ?_; dsimp only [rnds_succ, go_sem, Nat.reduceAdd, Nat.reduceMul, Nat.reduceSub]) | (refine br_f (by simp; omega) ?_; dsimp only [rnds_succ, go_sem, Nat.reduceAdd, Nat.reduceMul, Nat.reduceSub]) | (refine br_t (by simp; omega) ?_; dsimp only [rnds_succ, go_sem, Nat.reduceAdd, Nat.reduceMul, Nat.reduceSub]))
      simp (disch := omega) only [w64_in]
      refine br_t (by decide) ?_
      dsimp only [rnds_succ, go_sem, Nat.reduceAdd, Nat.reduceMul, Nat.reduceSub]
      repeat (first | (refine ixa 1 rfl (by decide) ?_; dsimp only [rnds_succ, go_sem, Nat.reduceAdd, Nat.reduceMul, Nat.reduceSub]) | (refine br_t (by simp; omega) ?_; dsimp only [rnds_succ, zeroC, go_sem, Nat.reduceAdd, Nat.reduceMul, Nat.reduceSub]))
end Go.Proofs.Ytnlfjchbhgikaaa
set_option maxRecDepth 100000
set_option maxHeartbeats 4000000
namespace Go.Proofs.Ytnlfjchbhgikaaa
open Go Go.Sx Go.Azalai
end Go.Proofs.Ytnlfjchbhgikaaa
set_option maxRecDepth 100000
set_option maxHeartbeats 4000000
namespace Go.Azalai
def afterE (b : Breed) (c : Camel) (m : March) : Camel × Int × Int :=
  if errC b c ≠ 0 then (zeroC, 0, errC b c) else if okMarch m = false then (zeroC, 0, 12) else if (afterF b c m).2 = 2 then (zeroC, 0, 13) else ((afterF b c m).1, (afterF b c m).2, 0)
def daysG (b : Breed) (c : Camel) (out : List Camel) (worst : Int) : List March → List Camel × Int × Int × Int
  | [] => (out, worst, 0, 0)
  | m :: r => if (afterF b c m).2 = 2 then ([], 2, out.length, 13) else daysG b (afterF b c m).1 (out ++ [(afterF b c m).1]) (max worst (afterF b c m).2) r
def daysF (b : Breed) (c : Camel) (l : List March) : List Camel × Int × Int × Int := if errL b c l ≠ 0 then ([], 0, 0, errL b c l) else daysG b c [] 0 l
end Go.Azalai
namespace Go.Proofs.Ytnlfjchbhgikaaa
open Go Go.Sx Go.Azalai
def rowsE (e : Int) (l : List Camel) : SV := if e = 0 then .sl false 7 (l.map camelL) else .v (.slice none 0 0)
def U8 (n : Int) : SV := .v (.int .u8 n)
theorem after1_ok (b : Breed) (c : Camel) (m : March) : Ct Try.prog 29 [.agg (breedL b), .agg (camelL c), .agg (marchL m)] (.tup [.agg (camelL (afterE b c m).1), U8 (afterE b c m).2.1, I (afterE b c m).2.2]) := by
  refine t29 (by simp [breedL, camelL, marchL, KFL, KF]) (by simp [camelL, U8, KFL, KF]) ?_
  dsimp only [c29, r29, breedL, camelL, marchL, go_sem, Nat.reduceAdd, Nat.reduceMul, Nat.reduceSub]
  refine call (checkCamel_ok b c) ?_
  dsimp only [go_sem, Nat.reduceAdd, Nat.reduceMul, Nat.reduceSub]
  by_cases h0 : errC b c = 0
  case neg =>
    refine br_t (by simpa using h0) ?_
    dsimp only [go_sem, Nat.reduceAdd, Nat.reduceMul, Nat.reduceSub]
    simp [afterE, h0, zeroC, U8, camelL]
  refine br_f (by simpa using h0) ?_
  dsimp only [go_sem, Nat.reduceAdd, Nat.reduceMul, Nat.reduceSub]
  obtain ⟨hb, hc⟩ := errC_0.1 h0
  refine call (checkDay1 m true) ?_
  dsimp only [go_sem, Nat.reduceAdd, Nat.reduceMul, Nat.reduceSub]
  by_cases hm : okMarch m = true
  case neg =>
    refine br_t (by simp [hm]) ?_
    dsimp only [go_sem, Nat.reduceAdd, Nat.reduceMul, Nat.reduceSub]
    simp [afterE, h0, hm, zeroC, U8, camelL]
  refine br_f (by simp [hm]) ?_
  dsimp only [go_sem, Nat.reduceAdd, Nat.reduceMul, Nat.reduceSub]
  by_cases hd : (afterF b c m).2 = 2
  · refine call (day_dies b c m hb hc hm hd) ?_
    dsimp only [beastL, zeroC, go_sem, Nat.reduceAdd, Nat.reduceMul, Nat.reduceSub]
    refine br_t (by decide) ?_
    dsimp only [go_sem, Nat.reduceAdd, Nat.reduceMul, Nat.reduceSub]
    simp [afterE, h0, hm, hd, zeroC, U8, camelL]
  refine call (day_ok b c m hb hc hm hd) ?_
  dsimp only [beastL, go_sem, Nat.reduceAdd, Nat.reduceMul, Nat.reduceSub]
  refine br_f (by simpa using hd) ?_
  dsimp only [go_sem, Nat.reduceAdd, Nat.reduceMul, Nat.reduceSub]
  simp [afterE, h0, hm, hd, U8, camelL]
theorem errL_0 {b : Breed} {c : Camel} {l : List March} (h0 : errL b c l = 0) : okBreed b = true ∧ okCamel b c = true ∧ l.length ≤ 60 ∧ l.all okMarch = true := by
  unfold errL at h0
  by_cases e1 : errC b c = 0
  · obtain ⟨q1, q2⟩ := errC_0.1 e1
    by_cases e2 : l.length > 60
    · simp [e1, e2] at h0
    · by_cases e3 : l.all okMarch = true
      · exact ⟨q1, q2, by omega, e3⟩
      · simp only [e1, e2] at h0; simp at e3 h0; grind
  · simp [e1] at h0
end Go.Proofs.Ytnlfjchbhgikaaa
set_option maxRecDepth 100000
set_option maxHeartbeats 4000000
namespace Go.Proofs.Ytnlfjchbhgikaaa
open Go Go.Sx Go.Azalai
def iterO (b : Breed) (c : Camel) (l : List March) (k : Bool) : Ot := ⟨false, .cl 95 [.p 1 0, .p 0 0], [(1, .cells [.sl k 8 (l.map marchL)] 44), (0, .cells (beastL b c) 107)], 2⟩
theorem iter_ok (b : Breed) (c : Camel) (l : List March) (k : Bool) : CtM Try.prog 75 [] 0 [.agg (beastL b c), .sl k 8 (l.map marchL)] (fun o => o = iterO b c l k) := by
  refine m75 (by simp [hpb]) (fun o ho => by subst ho; simp [iterO, KX, KXL, KXP, KXH, KFR_iff, KFL, KF, marchL, beastL]) ?_
  dsimp only [c75, r75, beastL, go_sem, Nat.reduceAdd, Nat.reduceMul, Nat.reduceSub]
  refine ⟨_, rfl, ?_⟩
  simp only [iterO]
  (refine entO_id ?_ ?_ ?_ rfl <;> dsimp only [beastL, marchL, id, go_sem, Nat.reduceAdd, Nat.reduceMul, Nat.reduceSub] <;> simp [beastL, marchL, KFR_iff, KFR_app, KFR, KFL, KF, mtL_same, mtO, Nat.beq_refl])
end Go.Proofs.Ytnlfjchbhgikaaa
set_option maxRecDepth 100000
set_option maxHeartbeats 4000000
namespace Go.Sx
open Go
end Go.Sx
namespace Go.Proofs.Ytnlfjchbhgikaaa
open Go Go.Sx Go.Azalai
def U64 (n : Int) : SV := .v (.int .u64 n)
theorem uw {n : Int} (h0 : 0 ≤ n) (h1 : n < 18446744073709551616) : IntKind.u64.wrap n = n := by
  have e : n % 2 ^ IntKind.u64.bits = n := Int.emod_eq_of_lt h0 (by show n < 2 ^ 64; omega)
  simp only [IntKind.wrap, e, show IntKind.u64.signed = false from rfl, Bool.false_and]
  rfl
theorem mul64_ok (n : Int) (h0 : 0 ≤ n) (h1 : n ≤ 1000000) : Ct Try.prog 104 [U64 1, U64 n] (.tup [U64 0, U64 n]) := by
  refine t104 (by simp [U64, KFL, KF]) (by simp [U64, KFL, KF]) ?_
  dsimp only [c104, r104, U64, go_sem, Nat.reduceAdd, Nat.reduceMul, Nat.reduceSub]
  have sh : ∀ (m : Int), 0 ≤ m → m < 4294967296 → ∀ w : World, (binOp .shr 164 (.int .u64 m) (.int .u64 32)).run Try.prog w = .ok (.int .u64 0) w := fun m q0 q1 w => by
    simp only [binOp, Op.shift]
    rw [if_neg (by decide)]
    have : m.fdiv (2 ^ 32) = 0 := by rw [Int.fdiv_eq_ediv_of_nonneg _ (by decide)]; omega
    show Result.ok (Value.int .u64 (m.fdiv (2 ^ (min (32 : Int).toNat IntKind.u64.bits)))) w = _
    rw [show min (32 : Int).toNat IntKind.u64.bits = 32 from by decide, this]
  have an : ∀ (m : Int), 0 ≤ m → m < 4294967296 → ∀ w : World, (binOp .and 164 (.int .u64 m) (.int .u64 4294967295)).run Try.prog w = .ok (.int .u64 m) w := fun m q0 q1 w => by
    obtain ⟨k, rfl⟩ := Int.eq_ofNat_of_zero_le q0
    have hk : k < 4294967296 := by omega
    have e : (BitVec.ofInt 64 (k : Int) &&& BitVec.ofInt 64 4294967295).toNat = k := by
      rw [BitVec.toNat_and, show (BitVec.ofInt 64 4294967295).toNat = 2 ^ 32 - 1 from by decide, Nat.and_two_pow_sub_one_eq_mod, BitVec.ofInt_natCast, BitVec.toNat_ofNat]
      omega
    show Result.ok (Value.int .u64 (IntKind.u64.wrap (((BitVec.ofInt 64 (k : Int) &&& BitVec.ofInt 64 4294967295).toNat : Nat) : Int))) w = _
    rw [e, uw (by omega) (by omega)]
  refine raw_bin rfl (.inl rfl) (an 1 (by omega) (by omega)) rfl ?_
  dsimp only [go_sem, Nat.reduceAdd, Nat.reduceMul, Nat.reduceSub]
  refine raw_bin rfl (.inr rfl) (sh 1 (by omega) (by omega)) rfl ?_
  dsimp only [go_sem, Nat.reduceAdd, Nat.reduceMul, Nat.reduceSub]
  refine raw_bin rfl (.inl rfl) (an n (by omega) (by omega)) rfl ?_
  dsimp only [go_sem, Nat.reduceAdd, Nat.reduceMul, Nat.reduceSub]
  refine raw_bin rfl (.inr rfl) (sh n (by omega) (by omega)) rfl ?_
  dsimp only [go_sem, Nat.reduceAdd, Nat.reduceMul, Nat.reduceSub]
  simp (disch := omega) only [uw, Int.one_mul, Int.zero_mul, Int.mul_zero, Int.add_zero, Int.zero_add]
  refine raw_bin rfl (.inr rfl) (sh n (by omega) (by omega)) rfl ?_
  dsimp only [go_sem, Nat.reduceAdd, Nat.reduceMul, Nat.reduceSub]
  simp (disch := omega) only [uw, Int.one_mul, Int.zero_mul, Int.mul_zero, Int.add_zero, Int.zero_add]
  refine raw_bin rfl (.inl rfl) (an 0 (by omega) (by omega)) rfl ?_
  dsimp only [go_sem, Nat.reduceAdd, Nat.reduceMul, Nat.reduceSub]
  refine raw_bin rfl (.inr rfl) (sh 0 (by omega) (by omega)) rfl ?_
  dsimp only [go_sem, Nat.reduceAdd, Nat.reduceMul, Nat.reduceSub]
  simp (disch := omega) only [uw, Int.one_mul, Int.zero_mul, Int.mul_zero, Int.add_zero, Int.zero_add]
  refine raw_bin rfl (.inr rfl) (sh 0 (by omega) (by omega)) rfl ?_
  dsimp only [go_sem, Nat.reduceAdd, Nat.reduceMul, Nat.reduceSub]
  simp (disch := omega) only [uw, Int.one_mul, Int.zero_mul, Int.mul_zero, Int.add_zero, Int.zero_add]
theorem mul_ok (n : Int) (h0 : 0 ≤ n) (h1 : n ≤ 1000000) : Ct Try.prog 96 [U64 1, U64 n] (.tup [U64 0, U64 n]) := by
  refine t96 (by simp [U64, KFL, KF]) (by simp [U64, KFL, KF]) ?_
  dsimp only [c96, r96, U64, go_sem, Nat.reduceAdd, Nat.reduceMul, Nat.reduceSub]
  refine br_f (by decide) ?_
  dsimp only [go_sem, Nat.reduceAdd, Nat.reduceMul, Nat.reduceSub]
  refine call (mul64_ok n h0 h1) ?_
  dsimp only [U64, go_sem, Nat.reduceAdd, Nat.reduceMul, Nat.reduceSub]
theorem kfr_rep {r : List SV} (h : KFL r) : ∀ n, KFR (List.replicate n r)
  | 0 => trivial
  | n + 1 => ⟨h, kfr_rep h n⟩
theorem rep_ok (m : March) (n : Nat) (h0 : 1 ≤ n) (h1 : n ≤ 1000) (k : Bool) : Ct Try.prog 76 [.sl k 8 [marchL m], I n] (.sl false 8 (List.replicate n (marchL m))) := by
  have hm : KFL (marchL m) := by simp [marchL, KFL, KF]
  have hone : allOne (marchL m) = true := rfl
  refine t76 (by simp [marchL, KFR, KFL, KF]) (by simp only [KF]; exact kfr_rep hm n) ?_
  generalize marchL m = row at hm hone
  dsimp only [c76, r76, go_sem, Nat.reduceAdd, Nat.reduceMul, Nat.reduceSub]
  refine br_f (by simp) ?_
  dsimp only [go_sem, Nat.reduceAdd, Nat.reduceMul, Nat.reduceSub]
  rw [show ((1 : Nat) : Int) = 1 from rfl]
  simp (disch := omega) only [uw]
  refine call (mul_ok n (by omega) (by omega)) ?_
  dsimp only [U64, go_sem, Nat.reduceAdd, Nat.reduceMul, Nat.reduceSub]
  refine gb ?_
  dsimp only [go_sem, Nat.reduceAdd, Nat.reduceMul, Nat.reduceSub]
  refine gb ?_
  dsimp only [go_sem, Nat.reduceAdd, Nat.reduceMul, Nat.reduceSub]
  refine br_f (by simp; omega) ?_
  dsimp only [go_sem, Nat.reduceAdd, Nat.reduceMul, Nat.reduceSub]
  refine ⟨n, w64_in (by omega) (by omega), by omega, ?_⟩
  have hz : KFL [SV.v (Value.int IntKind.i64 0), SV.v (Value.int IntKind.i64 0), SV.v (Value.int IntKind.i64 0), SV.v (Value.int IntKind.i64 0), SV.v (Value.int IntKind.i64 0), SV.v (Value.int IntKind.i64 0), SV.v (Value.int IntKind.i64 0), SV.v (Value.int IntKind.i64 0)] := by simp [KFL, KF]
  generalize [SV.v (Value.int IntKind.i64 0), SV.v (Value.int IntKind.i64 0), SV.v (Value.int IntKind.i64 0), SV.v (Value.int IntKind.i64 0), SV.v (Value.int IntKind.i64 0), SV.v (Value.int IntKind.i64 0), SV.v (Value.int IntKind.i64 0), SV.v (Value.int IntKind.i64 0)] = z at hz
  dsimp only [go_sem, Nat.reduceAdd, Nat.reduceMul, Nat.reduceSub]
  refine ⟨(by intro c hc; simp only [List.mem_singleton] at hc; subst hc; exact hone), by simp, ?_⟩
  have hmin : min n 1 = 1 := by omega
  simp only [List.length_replicate, List.length_singleton, hmin, List.drop_replicate]
  dsimp only [go_sem, Nat.reduceAdd, Nat.reduceMul, Nat.reduceSub]
  refine loopO (fun j : Nat => [(8, I j)]) (fun j => [(0, .row 0 8 (List.replicate j row ++ List.replicate (n - j) z) 29)]) (fun j => 1 ≤ j ∧ j ≤ n) (fun j => n - j) 1 ⟨Nat.le_refl _, h0⟩ ?_ ?_
  · refine ent_id ?_ ?_ ?_ rfl rfl <;> dsimp only [id, go_sem, Nat.reduceAdd, Nat.reduceMul, Nat.reduceSub] <;> simp [KFR_app, kfr_rep, hz, hm, mtL_same, mtO, Nat.beq_refl, KFR, KFL, KF]
  rintro j ⟨hj0, hj⟩
  dsimp only [go_sem, Nat.reduceAdd, Nat.reduceMul, Nat.reduceSub]
  simp only [List.length_append, List.length_replicate, show j + (n - j) = n from by omega]
  by_cases hlt : j < n
  · refine br_t (by simpa using hlt) ?_
    dsimp only [go_sem, Nat.reduceAdd, Nat.reduceMul, Nat.reduceSub]
    refine ⟨j, n, ⟨rfl, by simp; omega, by omega, by simp; omega⟩, ?_⟩
    dsimp only [go_sem, Nat.reduceAdd, Nat.reduceMul, Nat.reduceSub]
    refine ⟨0, j, ⟨rfl, rfl, by omega, by simp⟩, ?_⟩
    dsimp only [go_sem, Nat.reduceAdd, Nat.reduceMul, Nat.reduceSub]
    have hx : List.take (j - 0) (List.replicate j row ++ List.replicate (n - j) z) = List.replicate j row := by rw [Nat.sub_zero]; exact List.take_left' (by simp)
    have hx' : List.take j (List.replicate j row ++ List.replicate (n - j) z) = List.replicate j row := List.take_left' (by simp)
    rw [hx]
    refine ⟨by simp, (by intro c hc; rw [List.eq_of_mem_replicate hc]; exact hone), by simp, ?_⟩
    simp only [List.length_replicate]
    generalize hN : min (n - j) j = N
    have e : List.take j (List.replicate j row ++ List.replicate (n - j) z) ++ (List.take N (List.replicate j row) ++ List.drop (j + N) (List.replicate j row ++ List.replicate (n - j) z)) = List.replicate (j + N) row ++ List.replicate (n - (j + N)) z := by
      rw [hx', List.take_replicate, List.drop_append, List.drop_of_length_le (l := List.replicate j row) (by simp), List.length_replicate, List.nil_append, List.drop_replicate, ← List.append_assoc, List.replicate_append_replicate, show min N j = N from by omega]
      congr 2; omega
    rw [e]
    dsimp only [go_sem, Nat.reduceAdd, Nat.reduceMul, Nat.reduceSub]
    rw [show (j : Int) + (N : Int) = ((j + N : Nat) : Int) from by omega, w64_in (n := ((j + N : Nat) : Int)) (by omega) (by omega)]
    refine ⟨j + N, ⟨by omega, by omega⟩, by omega, ?_⟩
    refine ent_id ?_ ?_ ?_ rfl rfl <;> dsimp only [id, go_sem, Nat.reduceAdd, Nat.reduceMul, Nat.reduceSub] <;> simp [KFR_app, kfr_rep, hz, hm, mtL_same, mtO, Nat.beq_refl, KFR, KFL, KF]
  refine br_f (by simp; omega) ?_
  dsimp only [go_sem, Nat.reduceAdd, Nat.reduceMul, Nat.reduceSub]
  have hje : j = n := by omega
  subst hje
  simp
end Go.Proofs.Ytnlfjchbhgikaaa
set_option maxRecDepth 100000
set_option maxHeartbeats 4000000
namespace Go.Azalai
def lastsG (b : Breed) (m : March) : Nat → Camel → Int → Int → Bool → Span
  | 0, _, lo, hi, _ => ⟨lo, hi⟩
  | k + 1, c, lo, hi, s =>
    if (afterF b c m).2 = 2 then ⟨lo, hi⟩
    else lastsG b m k (afterF b c m).1 (if (s && decide ((afterF b c m).2 = 0)) = true then lo + 1 else lo) (hi + 1) (s && decide ((afterF b c m).2 = 0))
def lastsF (b : Breed) (c : Camel) (m : March) : Span × Int := if errL b c [m] ≠ 0 then (⟨0, 0⟩, errL b c [m]) else (lastsG b m 60 c 0 0 true, 0)
theorem afterF_fate (b : Breed) (c : Camel) (m : March) : (afterF b c m).2 = 0 ∨ (afterF b c m).2 = 1 ∨ (afterF b c m).2 = 2 := by
  unfold afterF; simp only; split
  · simp
  · simp only; split <;> simp
end Go.Azalai
namespace Go.Proofs.Ytnlfjchbhgikaaa
open Go Go.Sx Go.Azalai
theorem lasts_ok (b : Breed) (c : Camel) (m : March) : Ct Try.prog 33 [.agg (breedL b), .agg (camelL c), .agg (marchL m)] (tres (lastsF b c m)) := by
  refine t33 (by simp [breedL, camelL, marchL, KFL, KF]) (by simp [tres, spanL, KFL, KF]) ?_
  dsimp only [c33, r33, breedL, camelL, marchL, tres, spanL, go_sem, Nat.reduceAdd, Nat.reduceMul, Nat.reduceSub]
  refine call (checkL_ok b c [m] (by simp) true) ?_
  dsimp only [go_sem, Nat.reduceAdd, Nat.reduceMul, Nat.reduceSub]
  by_cases h0 : errL b c [m] = 0
  case neg =>
    refine br_t (by simpa using h0) ?_
    dsimp only [go_sem, Nat.reduceAdd, Nat.reduceMul, Nat.reduceSub]
    simp [lastsF, h0]
  refine br_f (by simpa using h0) ?_
  dsimp only [go_sem, Nat.reduceAdd, Nat.reduceMul, Nat.reduceSub]
  obtain ⟨hb, hc, _, hl⟩ := errL_0 h0
  have hm : okMarch m = true := by simpa using hl
  have hF : lastsF b c m = (lastsG b m 60 c 0 0 true, 0) := by simp [lastsF, h0]
  rw [hF]
  refine call (rep_ok m 60 (by decide) (by decide) true) ?_
  rw [← List.map_replicate]
  obtain ⟨l, hl⟩ : ∃ l, l = List.replicate 60 m := ⟨_, rfl⟩
  rw [← hl]
  have hl60 : l.length = 60 := by rw [hl]; simp
  have hlm : ∀ (j : Nat) (h : j < l.length), l[j] = m := fun j h => by subst hl; exact List.getElem_replicate _
  clear hl
  dsimp only [go_sem, Nat.reduceAdd, Nat.reduceMul, Nat.reduceSub]
  refine callmL [] (iter_ok b c l false) rfl rfl rfl ?_ ?_ ?_
  · exact mtL_same (by simp [breedL, camelL, beastL, marchL, KFR_iff, KFL, KF])
  · trivial
  dsimp only [iterO, beastL, go_sem, Nat.reduceAdd, Nat.reduceMul, Nat.reduceSub]
  refine gh ent_refl ?_
  dsimp only [go_sem, Nat.reduceAdd, Nat.reduceMul, Nat.reduceSub]
  refine ⟨b95, fun rec => ?_⟩
  refine y95 ?_
  dsimp only [c95, r95, go_sem, Nat.reduceAdd, Nat.reduceMul, Nat.reduceSub]
  refine loopO (fun s : Nat × Camel × Int × Bool => [(10, I s.1)]) (fun s => [(6, .cells (beastL b s.2.1) 107), (4, .cells [I s.2.2.1, I s.1] 23), (5, .cells [B s.2.2.2] 4)])
    (fun s => s.1 ≤ 60 ∧ okCamel b s.2.1 = true ∧ (0 ≤ s.2.2.1 ∧ s.2.2.1 ≤ s.1) ∧ lastsG b m (60 - s.1) s.2.1 s.2.2.1 s.1 s.2.2.2 = lastsG b m 60 c 0 0 true) (fun s => 60 - s.1) (0, c, 0, true) ⟨by simp, hc, by simp, rfl⟩ ?_ ?_
  · (refine ent_id ?_ ?_ ?_ rfl rfl <;> dsimp only [breedL, camelL, marchL, beastL, id, go_sem, Nat.reduceAdd, Nat.reduceMul, Nat.reduceSub] <;> simp [breedL, camelL, marchL, beastL, KFR_iff, KFR_app, KFR, KFL, KF, mtL_same, mtO, Nat.beq_refl])
  rintro ⟨j, c1, lo, s⟩ ⟨hj, hc1, hs, hi⟩
  simp only at hj hc1 hs hi
  dsimp only [beastL, go_sem, Nat.reduceAdd, Nat.reduceMul, Nat.reduceSub]
  simp only [List.length_map, hl60]
  by_cases hlt : j < 60
  · refine br_t (by simp; omega) ?_
    dsimp only [go_sem, Nat.reduceAdd, Nat.reduceMul, Nat.reduceSub]
    rw [show 60 - j = (60 - (j + 1)) + 1 from by omega, lastsG] at hi
    refine ixs_map j (by omega) rfl ?_
    rw [hlm]
    dsimp only [marchL, go_sem, Nat.reduceAdd, Nat.reduceMul, Nat.reduceSub]
    by_cases hf2 : (afterF b c1 m).2 = 2
    · refine call (day_dies b c1 m hb hc1 hm hf2) ?_
      dsimp only [beastL, zeroC, go_sem, Nat.reduceAdd, Nat.reduceMul, Nat.reduceSub]
      refine ⟨rfl, rfl, ?_⟩
      refine br_t (by decide) ?_
      dsimp only [go_sem, Nat.reduceAdd, Nat.reduceMul, Nat.reduceSub]
      refine ⟨rfl, ?_⟩
      refine gb ?_
      dsimp only [go_sem, Nat.reduceAdd, Nat.reduceMul, Nat.reduceSub]
      refine gb ?_
      dsimp only [go_sem, Nat.reduceAdd, Nat.reduceMul, Nat.reduceSub]
      refine br_t (by decide) ?_
      dsimp only [go_sem, Nat.reduceAdd, Nat.reduceMul, Nat.reduceSub]
      rw [if_pos hf2] at hi
      rw [← hi]
    refine call (day_ok b c1 m hb hc1 hm hf2) ?_
    dsimp only [beastL, go_sem, Nat.reduceAdd, Nat.reduceMul, Nat.reduceSub]
    refine ⟨rfl, rfl, ?_⟩
    refine br_f (by simpa using hf2) ?_
    dsimp only [go_sem, Nat.reduceAdd, Nat.reduceMul, Nat.reduceSub]
    rw [if_neg hf2] at hi
    rw [w64_in (n := (j : Int) + 1) (by omega) (by omega)]
    cases s
    · refine gb ?_
      dsimp only [go_sem, Nat.reduceAdd, Nat.reduceMul, Nat.reduceSub]
      refine gb ?_
      dsimp only [go_sem, Nat.reduceAdd, Nat.reduceMul, Nat.reduceSub]
      have hf0 : True := trivial
      simp only [Bool.false_and]
      refine br_f rfl ?_
      dsimp only [go_sem, Nat.reduceAdd, Nat.reduceMul, Nat.reduceSub]
      refine ⟨rfl, ?_⟩
      refine gb ?_
      dsimp only [go_sem, Nat.reduceAdd, Nat.reduceMul, Nat.reduceSub]
      refine gb ?_
      dsimp only [go_sem, Nat.reduceAdd, Nat.reduceMul, Nat.reduceSub]
      refine br_f (by simpa using hf2) ?_
      dsimp only [go_sem, Nat.reduceAdd, Nat.reduceMul, Nat.reduceSub]
      rw [w64_in (n := (j : Int) + 1) (by omega) (by omega)]
      refine ⟨(j + 1, (afterF b c1 m).1, lo, false), ⟨by simp only; omega, after_ok hb hc1 hm hf2, by simp only; omega, by simpa [hf0] using hi⟩, by simp only; omega, ?_⟩
      (refine ent_id ?_ ?_ ?_ rfl rfl <;> dsimp only [breedL, camelL, marchL, beastL, id, go_sem, Nat.reduceAdd, Nat.reduceMul, Nat.reduceSub] <;> simp [breedL, camelL, marchL, beastL, KFR_iff, KFR_app, KFR, KFL, KF, mtL_same, mtO, Nat.beq_refl])
    · refine gb ?_
      dsimp only [go_sem, Nat.reduceAdd, Nat.reduceMul, Nat.reduceSub]
      refine gb ?_
      dsimp only [go_sem, Nat.reduceAdd, Nat.reduceMul, Nat.reduceSub]
      by_cases hf0 : (afterF b c1 m).2 = 0
      · rw [show (true && (afterF b c1 m).2 == 0) = true from by simp [hf0]]
        refine br_t rfl ?_
        dsimp only [go_sem, Nat.reduceAdd, Nat.reduceMul, Nat.reduceSub]
        rw [w64_in (n := lo + 1) (by omega) (by omega)]
        refine ⟨rfl, ?_⟩
        refine gb ?_
        dsimp only [go_sem, Nat.reduceAdd, Nat.reduceMul, Nat.reduceSub]
        refine gb ?_
        dsimp only [go_sem, Nat.reduceAdd, Nat.reduceMul, Nat.reduceSub]
        refine br_f (by simpa using hf2) ?_
        dsimp only [go_sem, Nat.reduceAdd, Nat.reduceMul, Nat.reduceSub]
        rw [w64_in (n := (j : Int) + 1) (by omega) (by omega)]
        refine ⟨(j + 1, (afterF b c1 m).1, lo + 1, true), ⟨by simp only; omega, after_ok hb hc1 hm hf2, by simp only; omega, by simpa [hf0] using hi⟩, by simp only; omega, ?_⟩
        (refine ent_id ?_ ?_ ?_ rfl rfl <;> dsimp only [breedL, camelL, marchL, beastL, id, go_sem, Nat.reduceAdd, Nat.reduceMul, Nat.reduceSub] <;> simp [breedL, camelL, marchL, beastL, KFR_iff, KFR_app, KFR, KFL, KF, mtL_same, mtO, Nat.beq_refl])
      · rw [show (true && (afterF b c1 m).2 == 0) = false from by simp [hf0]]
        refine br_f rfl ?_
        dsimp only [go_sem, Nat.reduceAdd, Nat.reduceMul, Nat.reduceSub]
        refine ⟨rfl, ?_⟩
        refine gb ?_
        dsimp only [go_sem, Nat.reduceAdd, Nat.reduceMul, Nat.reduceSub]
        refine gb ?_
        dsimp only [go_sem, Nat.reduceAdd, Nat.reduceMul, Nat.reduceSub]
        refine br_f (by simpa using hf2) ?_
        dsimp only [go_sem, Nat.reduceAdd, Nat.reduceMul, Nat.reduceSub]
        rw [w64_in (n := (j : Int) + 1) (by omega) (by omega)]
        refine ⟨(j + 1, (afterF b c1 m).1, lo, false), ⟨by simp only; omega, after_ok hb hc1 hm hf2, by simp only; omega, by simpa [hf0] using hi⟩, by simp only; omega, ?_⟩
        (refine ent_id ?_ ?_ ?_ rfl rfl <;> dsimp only [breedL, camelL, marchL, beastL, id, go_sem, Nat.reduceAdd, Nat.reduceMul, Nat.reduceSub] <;> simp [breedL, camelL, marchL, beastL, KFR_iff, KFR_app, KFR, KFL, KF, mtL_same, mtO, Nat.beq_refl])
  refine br_f (by simp; omega) ?_
  dsimp only [go_sem, Nat.reduceAdd, Nat.reduceMul, Nat.reduceSub]
  have hje : j = 60 := by omega
  subst hje
  rw [show 60 - 60 = 0 from rfl, lastsG] at hi
  rw [← hi]
end Go.Proofs.Ytnlfjchbhgikaaa
set_option maxRecDepth 100000
set_option maxHeartbeats 4000000
namespace Go.Azalai
end Go.Azalai
namespace Go.Proofs.Ytnlfjchbhgikaaa
open Go Go.Sx Go.Azalai
end Go.Proofs.Ytnlfjchbhgikaaa
set_option maxRecDepth 100000
namespace Go.Proofs.Ytnlfjchbhgikaaa
open Go Go.Sx
def c7 : SC := (.seq (.reg [
  ⟨some 4, .box (.t 0) 0 25, none, []⟩,
  ⟨some 5, .box (.t 1) 0 27, none, []⟩,
  ⟨some 8, .mv (.c (.bool false)), none, []⟩])
  (.seq (.reg [
  ⟨some 24, .call 38 [], none, []⟩,
  ⟨some 9, .mv (.t 24), none, []⟩])
  (.seq (.seq (.reg [
  ⟨some 25, .mv (.t 9), none, []⟩,
  ⟨some 26, .un .not (.t 25), none, []⟩])
  (.cond (.t 26)
  (.seq (.reg [
   ⟨some 8, .mv (.c (.bool false)), none, []⟩])
   .ret)
  .skip))
  (.seq (.seq (.reg [
  ⟨some 27, .ld (.t 4) 17 true, none, []⟩,
  ⟨some 28, .ld (.t 5) 7 true, none, []⟩,
  ⟨some 29, .mv (.t 2), none, []⟩,
  ⟨some 30, .call 39 [.t 27, .t 28, .t 29], none, []⟩,
  ⟨some 31, .un .not (.t 30), none, []⟩])
  (.cond (.t 31)
  (.seq (.reg [
   ⟨some 32, .mv (.t 9), none, []⟩,
   ⟨some 8, .mv (.t 32), none, []⟩])
   .ret)
  .skip))
  (.seq (.reg [
  ⟨some 33, .ld (.t 5) 7 true, none, []⟩,
  ⟨some 34, .mv (.t 3), none, []⟩,
  ⟨some 35, .call 40 [.t 33, .t 34], none, []⟩,
  ⟨some 10, .alloc [.int .i64 0, .int .i64 0, .int .i64 0] 80, none, []⟩,
  ⟨none, .st (.t 10) (.t 35) 3, none, []⟩])
  (.seq (.seq (.reg [
  ⟨some 36, .mv (.t 2), none, []⟩,
  ⟨some 37, .len (.t 36), none, []⟩,
  ⟨some 38, .mv (.c (.int .i64 0)), none, []⟩])
  (.block 0 (.loop (.seq (.reg [
    ⟨some 39, .bin .lss (.t 38) (.t 37), none, []⟩])
    (.seq (.cond (.t 39)
    .skip
    (.exit 0))
    (.seq (.block 1 (.seq (.reg [
     ⟨some 40, .mv (.t 38), none, []⟩,
     ⟨some 41, .ixs (.t 36) (.t 38) 8, none, []⟩,
     ⟨some 42, .ld (.t 41) 8 true, none, []⟩,
     ⟨some 12, .alloc [.int .i64 0, .int .i64 0, .int .i64 0, .int .i64 0, .int .i64 0, .int .i64 0, .int .i64 0, .int .i64 0] 29, none, []⟩,
     ⟨some 11, .mv (.t 40), none, []⟩,
     ⟨none, .st (.t 12) (.t 42) 8, none, []⟩])
     (.seq (.reg [
     ⟨some 44, .ld (.t 4) 17 true, none, []⟩,
     ⟨some 45, .ld (.t 5) 7 true, none, []⟩,
     ⟨some 46, .ld (.t 12) 8 true, none, []⟩,
     ⟨some 47, .call 29 [.t 44, .t 45, .t 46], none, []⟩,
     ⟨some 43, .mv (.t 47), none, []⟩,
     ⟨some 48, .ext (.t 43) 0, none, []⟩,
     ⟨some 49, .ext (.t 43) 1, none, []⟩,
     ⟨some 50, .ext (.t 43) 2, none, []⟩,
     ⟨some 13, .alloc [.int .i64 0, .int .i64 0, .int .i64 0, .int .i64 0, .int .i64 0, .int .i64 0, .bool false] 27, none, []⟩,
     ⟨none, .st (.t 13) (.t 48) 7, none, []⟩,
     ⟨some 14, .mv (.t 49), none, []⟩,
     ⟨some 15, .mv (.t 50), none, []⟩])
     (.seq (.reg [
     ⟨some 51, .ld (.t 4) 17 true, none, []⟩,
     ⟨some 52, .addo (.t 5) 6, none, []⟩,
     ⟨some 53, .ld (.t 52) 1 false, none, []⟩,
     ⟨some 54, .ld (.t 12) 8 true, none, []⟩,
     ⟨some 55, .mv (.t 3), none, []⟩,
     ⟨some 56, .mv (.t 11), none, []⟩,
     ⟨some 57, .callm 41 [.t 10, .t 51, .t 53, .t 54, .t 55, .t 56], none, []⟩,
     ⟨some 16, .mv (.t 57), none, []⟩])
     (.seq (.seq (.reg [
     ⟨some 58, .mv (.t 15), none, []⟩,
     ⟨some 59, .bin .neq (.t 58) (.c (.int .i64 0)), none, []⟩])
     (.cond (.t 59)
     (.seq (.reg [
      ⟨some 60, .mv (.t 9), none, []⟩,
      ⟨some 61, .mv (.t 60), none, []⟩,
      ⟨some 62, .mv (.t 15), some (61, true), []⟩,
      ⟨some 63, .bin .eql (.t 62) (.c (.int .i64 13)), some (61, true), []⟩,
      ⟨some 64, .pick (.t 61) (.t 63) (.c (.bool false)), none, []⟩,
      ⟨some 65, .mv (.t 64), none, []⟩,
      ⟨some 66, .mv (.t 16), some (65, true), []⟩,
      ⟨some 67, .un .not (.t 66), some (65, true), []⟩,
      ⟨some 68, .pick (.t 65) (.t 67) (.c (.bool false)), none, []⟩,
      ⟨some 8, .mv (.t 68), none, []⟩])
      .ret)
     .skip))
     (.seq (.seq (.reg [
     ⟨some 69, .mv (.t 14), none, []⟩,
     ⟨some 70, .bin .gtr (.t 69) (.c (.int .u8 1)), none, []⟩,
     ⟨some 71, .mv (.t 70), none, []⟩,
     ⟨some 72, .mv (.t 14), some (71, false), []⟩,
     ⟨some 73, .bin .eql (.t 72) (.c (.int .u8 0)), some (71, false), []⟩,
     ⟨some 74, .mv (.t 73), some (71, false), []⟩,
     ⟨some 75, .mv (.t 16), some (74, true), []⟩,
     ⟨some 76, .un .not (.t 75), some (74, true), []⟩,
     ⟨some 77, .pick (.t 74) (.t 76) (.c (.bool false)), some (71, false), []⟩,
     ⟨some 78, .pick (.t 71) (.c (.bool true)) (.t 77), none, []⟩])
     (.cond (.t 78)
     (.seq (.reg [
      ⟨some 8, .mv (.c (.bool false)), none, []⟩])
      .ret)
     .skip))
     (.seq (.seq (.reg [
     ⟨some 79, .mv (.t 16), none, []⟩,
     ⟨some 80, .un .not (.t 79), none, []⟩])
     (.cond (.t 80)
     (.seq (.reg [
      ⟨some 81, .mv (.t 9), none, []⟩,
      ⟨some 8, .mv (.t 81), none, []⟩])
      .ret)
     .skip))
     (.seq (.seq (.reg [
     ⟨some 82, .addo (.t 13) 6, none, []⟩,
     ⟨some 83, .ld (.t 82) 1 false, none, []⟩,
     ⟨some 84, .addo (.t 5) 6, none, []⟩,
     ⟨some 85, .ld (.t 84) 1 false, none, []⟩,
     ⟨some 86, .eqs true false [0] (.t 83) (.t 85), none, []⟩,
     ⟨some 87, .mv (.t 86), none, []⟩,
     ⟨some 88, .ld (.t 4) 17 true, some (87, false), []⟩,
     ⟨some 89, .ld (.t 13) 7 true, some (87, false), []⟩,
     ⟨some 90, .call 42 [.t 88, .t 89], some (87, false), []⟩,
     ⟨some 91, .un .not (.t 90), some (87, false), []⟩,
     ⟨some 92, .pick (.t 87) (.c (.bool true)) (.t 91), none, []⟩,
     ⟨some 93, .mv (.t 92), none, []⟩,
     ⟨some 94, .ld (.t 13) 7 true, some (93, false), []⟩,
     ⟨some 95, .call 43 [.t 10, .t 94], some (93, false), []⟩,
     ⟨some 96, .un .not (.t 95), some (93, false), []⟩,
     ⟨some 97, .pick (.t 93) (.c (.bool true)) (.t 96), none, []⟩])
     (.cond (.t 97)
     (.seq (.reg [
      ⟨some 8, .mv (.c (.bool false)), none, []⟩])
      .ret)
     .skip))
     (.seq (.reg [
     ⟨some 99, .ld (.t 4) 17 true, none, []⟩,
     ⟨some 100, .ld (.t 13) 7 true, none, []⟩,
     ⟨some 101, .call 14 [.t 99, .t 100], none, []⟩,
     ⟨some 98, .mv (.t 101), none, []⟩,
     ⟨some 102, .ext (.t 98) 0, none, []⟩,
     ⟨some 103, .ext (.t 98) 1, none, []⟩,
     ⟨some 17, .alloc [.int .i64 0, .int .i64 0] 23, none, []⟩,
     ⟨none, .st (.t 17) (.t 102) 2, none, []⟩,
     ⟨some 18, .mv (.t 103), none, []⟩])
     (.seq (.reg [
     ⟨some 105, .ld (.t 4) 17 true, none, []⟩,
     ⟨some 106, .ld (.t 13) 7 true, none, []⟩,
     ⟨some 107, .call 16 [.t 105, .t 106], none, []⟩,
     ⟨some 104, .mv (.t 107), none, []⟩,
     ⟨some 108, .ext (.t 104) 0, none, []⟩,
     ⟨some 109, .ext (.t 104) 1, none, []⟩,
     ⟨some 19, .alloc [.int .i64 0, .int .i64 0] 23, none, []⟩,
     ⟨none, .st (.t 19) (.t 108) 2, none, []⟩,
     ⟨some 20, .mv (.t 109), none, []⟩])
     (.seq (.seq (.reg [
     ⟨some 110, .mv (.t 18), none, []⟩,
     ⟨some 111, .bin .neq (.t 110) (.c (.int .i64 0)), none, []⟩,
     ⟨some 112, .mv (.t 111), none, []⟩,
     ⟨some 113, .mv (.t 20), some (112, false), []⟩,
     ⟨some 114, .bin .neq (.t 113) (.c (.int .i64 0)), some (112, false), []⟩,
     ⟨some 115, .pick (.t 112) (.c (.bool true)) (.t 114), none, []⟩])
     (.cond (.t 115)
     (.seq (.reg [
      ⟨some 8, .mv (.c (.bool false)), none, []⟩])
      .ret)
     .skip))
     (.seq (.regd [0, 1, 2, 3, 4, 5, 6, 7] [
     .op ⟨some 116, .addo (.t 10) 0, none, []⟩,
     .op ⟨some 117, .ld (.t 116) 1 false, none, [0]⟩,
     .op ⟨some 118, .bin .mul (.c (.int .i64 2000)) (.t 117), none, [1]⟩,
     .op ⟨some 119, .addo (.t 10) 1, none, []⟩,
     .op ⟨some 120, .ld (.t 119) 1 false, none, [3]⟩,
     .op ⟨some 121, .bin .mul (.c (.int .i64 2000)) (.t 120), none, [4]⟩,
     .op ⟨some 21, .mv (.t 118), none, [0, 1, 2]⟩,
     .op ⟨some 22, .mv (.t 121), none, [0, 1, 2, 3, 4, 5, 6]⟩] 0 0 [
])
     (.seq (.seq (.reg [
     ⟨some 122, .addo (.t 17) 0, none, []⟩,
     ⟨some 123, .ld (.t 122) 1 false, none, []⟩,
     ⟨some 124, .bin .gtr (.t 123) (.c (.int .i64 1000)), none, []⟩,
     ⟨some 125, .mv (.t 124), none, []⟩,
     ⟨some 126, .mv (.t 21), some (125, false), []⟩,
     ⟨some 127, .addo (.t 17) 0, some (125, false), []⟩,
     ⟨some 128, .ld (.t 127) 1 false, some (125, false), []⟩,
     ⟨some 129, .bin .mul (.t 128) (.c (.int .i64 100000)), some (125, false), []⟩,
     ⟨some 130, .addo (.t 4) 0, some (125, false), []⟩,
     ⟨some 131, .ld (.t 130) 1 false, some (125, false), []⟩,
     ⟨some 132, .bin .mul (.t 129) (.t 131), some (125, false), []⟩,
     ⟨some 133, .bin .lss (.t 126) (.t 132), some (125, false), []⟩,
     ⟨some 134, .pick (.t 125) (.c (.bool true)) (.t 133), none, []⟩,
     ⟨some 135, .mv (.t 134), none, []⟩,
     ⟨some 136, .mv (.t 22), some (135, false), []⟩,
     ⟨some 137, .addo (.t 17) 0, some (135, false), []⟩,
     ⟨some 138, .ld (.t 137) 1 false, some (135, false), []⟩,
     ⟨some 139, .bin .mul (.t 138) (.c (.int .i64 100000)), some (135, false), []⟩,
     ⟨some 140, .addo (.t 4) 1, some (135, false), []⟩,
     ⟨some 141, .ld (.t 140) 1 false, some (135, false), []⟩,
     ⟨some 142, .bin .mul (.t 139) (.t 141), some (135, false), []⟩,
     ⟨some 143, .bin .lss (.t 136) (.t 142), some (135, false), []⟩,
     ⟨some 144, .pick (.t 135) (.c (.bool true)) (.t 143), none, []⟩,
     ⟨some 145, .mv (.t 144), none, []⟩,
     ⟨some 146, .addo (.t 10) 2, some (145, false), []⟩,
     ⟨some 147, .ld (.t 146) 1 false, some (145, false), []⟩,
     ⟨some 148, .bin .sub (.c (.int .i64 1000000000)) (.t 147), some (145, false), []⟩,
     ⟨some 149, .addo (.t 17) 0, some (145, false), []⟩,
     ⟨some 150, .ld (.t 149) 1 false, some (145, false), []⟩,
     ⟨some 151, .bin .mul (.c (.int .i64 1000000)) (.t 150), some (145, false), []⟩,
     ⟨some 152, .bin .lss (.t 148) (.t 151), some (145, false), []⟩,
     ⟨some 153, .pick (.t 145) (.c (.bool true)) (.t 152), none, []⟩])
     (.cond (.t 153)
     (.seq (.reg [
      ⟨some 8, .mv (.c (.bool false)), none, []⟩])
      .ret)
     .skip))
     (.seq (.seq (.reg [
     ⟨some 154, .addo (.t 17) 1, none, []⟩,
     ⟨some 155, .ld (.t 154) 1 false, none, []⟩,
     ⟨some 156, .bin .lss (.t 155) (.c (.int .i64 1000)), none, []⟩,
     ⟨some 157, .mv (.t 156), none, []⟩,
     ⟨some 158, .mv (.t 21), some (157, true), []⟩,
     ⟨some 159, .addo (.t 17) 1, some (157, true), []⟩,
     ⟨some 160, .ld (.t 159) 1 false, some (157, true), []⟩,
     ⟨some 161, .bin .mul (.t 160) (.c (.int .i64 100000)), some (157, true), []⟩,
     ⟨some 162, .addo (.t 4) 0, some (157, true), []⟩,
     ⟨some 163, .ld (.t 162) 1 false, some (157, true), []⟩,
     ⟨some 164, .bin .mul (.t 161) (.t 163), some (157, true), []⟩,
     ⟨some 165, .bin .gtr (.t 158) (.t 164), some (157, true), []⟩,
     ⟨some 166, .pick (.t 157) (.t 165) (.c (.bool false)), none, []⟩,
     ⟨some 167, .mv (.t 166), none, []⟩,
     ⟨some 168, .mv (.t 22), some (167, true), []⟩,
     ⟨some 169, .addo (.t 17) 1, some (167, true), []⟩,
     ⟨some 170, .ld (.t 169) 1 false, some (167, true), []⟩,
     ⟨some 171, .bin .mul (.t 170) (.c (.int .i64 100000)), some (167, true), []⟩,
     ⟨some 172, .addo (.t 4) 1, some (167, true), []⟩,
     ⟨some 173, .ld (.t 172) 1 false, some (167, true), []⟩,
     ⟨some 174, .bin .mul (.t 171) (.t 173), some (167, true), []⟩,
     ⟨some 175, .bin .gtr (.t 168) (.t 174), some (167, true), []⟩,
     ⟨some 176, .pick (.t 167) (.t 175) (.c (.bool false)), none, []⟩,
     ⟨some 177, .mv (.t 176), none, []⟩,
     ⟨some 178, .addo (.t 10) 2, some (177, true), []⟩,
     ⟨some 179, .ld (.t 178) 1 false, some (177, true), []⟩,
     ⟨some 180, .bin .sub (.c (.int .i64 1000000000)) (.t 179), some (177, true), []⟩,
     ⟨some 181, .addo (.t 17) 1, some (177, true), []⟩,
     ⟨some 182, .ld (.t 181) 1 false, some (177, true), []⟩,
     ⟨some 183, .bin .mul (.c (.int .i64 1000000)) (.t 182), some (177, true), []⟩,
     ⟨some 184, .bin .gtr (.t 180) (.t 183), some (177, true), []⟩,
     ⟨some 185, .pick (.t 177) (.t 184) (.c (.bool false)), none, []⟩])
     (.cond (.t 185)
     (.seq (.reg [
      ⟨some 8, .mv (.c (.bool false)), none, []⟩])
      .ret)
     .skip))
     (.seq (.regd [0, 1, 2, 3, 4, 5, 6] [
     .op ⟨some 186, .addo (.t 4) 15, none, []⟩,
     .op ⟨some 187, .ld (.t 186) 2 true, none, [0]⟩,
     .op ⟨some 188, .mv (.t 3), none, []⟩,
     .op ⟨some 189, .mv (.t 11), none, []⟩,
     .op ⟨some 190, .call 45 [.t 188, .t 189], none, [2, 3]⟩,
     .op ⟨some 191, .call 44 [.t 187, .t 190], none, [1, 4]⟩,
     .op ⟨some 23, .mv (.t 191), none, [0, 1, 2, 3, 4, 5]⟩] 0 0 [
])
     (.seq (.seq (.reg [
     ⟨some 192, .addo (.t 19) 0, none, []⟩,
     ⟨some 193, .ld (.t 192) 1 false, none, []⟩,
     ⟨some 194, .bin .mul (.t 193) (.c (.int .i64 1000)), none, []⟩,
     ⟨some 195, .mv (.t 23), none, []⟩,
     ⟨some 196, .addo (.t 17) 0, none, []⟩,
     ⟨some 197, .ld (.t 196) 1 false, none, []⟩,
     ⟨some 198, .bin .mul (.t 195) (.t 197), none, []⟩,
     ⟨some 199, .bin .gtr (.t 194) (.t 198), none, []⟩,
     ⟨some 200, .mv (.t 199), none, []⟩,
     ⟨some 201, .addo (.t 19) 1, some (200, false), []⟩,
     ⟨some 202, .ld (.t 201) 1 false, some (200, false), []⟩,
     ⟨some 203, .bin .mul (.t 202) (.c (.int .i64 1000)), some (200, false), []⟩,
     ⟨some 204, .mv (.t 23), some (200, false), []⟩,
     ⟨some 205, .addo (.t 17) 1, some (200, false), []⟩,
     ⟨some 206, .ld (.t 205) 1 false, some (200, false), []⟩,
     ⟨some 207, .bin .mul (.t 204) (.t 206), some (200, false), []⟩,
     ⟨some 208, .bin .lss (.t 203) (.t 207), some (200, false), []⟩,
     ⟨some 209, .mv (.t 208), some (200, false), []⟩,
     ⟨some 210, .addo (.t 19) 1, some (209, true), []⟩,
     ⟨some 211, .ld (.t 210) 1 false, some (209, true), []⟩,
     ⟨some 212, .bin .mul (.t 211) (.c (.int .i64 1000)), some (209, true), []⟩,
     ⟨some 213, .addo (.t 4) 15, some (209, true), []⟩,
     ⟨some 214, .addo (.t 213) 1, some (209, true), []⟩,
     ⟨some 215, .ld (.t 214) 1 false, some (209, true), []⟩,
     ⟨some 216, .addo (.t 17) 1, some (209, true), []⟩,
     ⟨some 217, .ld (.t 216) 1 false, some (209, true), []⟩,
     ⟨some 218, .bin .mul (.t 215) (.t 217), some (209, true), []⟩,
     ⟨some 219, .bin .lss (.t 212) (.t 218), some (209, true), []⟩,
     ⟨some 220, .pick (.t 209) (.t 219) (.c (.bool false)), some (200, false), []⟩,
     ⟨some 221, .pick (.t 200) (.c (.bool true)) (.t 220), none, []⟩])
     (.cond (.t 221)
     (.seq (.reg [
      ⟨some 8, .mv (.c (.bool false)), none, []⟩])
      .ret)
     .skip))
     (.reg [
     ⟨some 222, .ld (.t 13) 7 true, none, []⟩,
     ⟨none, .st (.t 5) (.t 222) 7, none, []⟩])))))))))))))))))
    (.reg [
    ⟨some 223, .bin .add (.t 38) (.c (.int .i64 1)), none, []⟩,
    ⟨some 38, .mv (.t 223), none, []⟩])))))))
  (.seq (.reg [
  ⟨some 224, .mv (.t 9), none, []⟩,
  ⟨some 8, .mv (.t 224), none, []⟩])
  .ret)))))))
def r7 : List RV := [.tmp 8]
def c8 : SC := (.seq (.reg [
  ⟨some 4, .box (.t 0) 0 25, none, []⟩,
  ⟨some 5, .box (.t 1) 0 27, none, []⟩,
  ⟨some 6, .box (.t 2) 0 29, none, []⟩,
  ⟨some 8, .mv (.c (.bool false)), none, []⟩])
  (.seq (.reg [
  ⟨some 32, .call 38 [], none, []⟩,
  ⟨some 9, .mv (.t 32), none, []⟩])
  (.seq (.seq (.reg [
  ⟨some 33, .mv (.t 9), none, []⟩,
  ⟨some 34, .un .not (.t 33), none, []⟩])
  (.cond (.t 34)
  (.seq (.reg [
   ⟨some 8, .mv (.c (.bool false)), none, []⟩])
   .ret)
  .skip))
  (.seq (.seq (.reg [
  ⟨some 35, .ld (.t 4) 17 true, none, []⟩,
  ⟨some 36, .ld (.t 5) 7 true, none, []⟩,
  ⟨some 37, .ld (.t 6) 8 true, none, []⟩,
  ⟨some 38, .bsl 8 29 [.t 37], none, []⟩,
  ⟨some 39, .call 39 [.t 35, .t 36, .t 38], none, []⟩,
  ⟨some 40, .un .not (.t 39), none, []⟩])
  (.cond (.t 40)
  (.seq (.reg [
   ⟨some 41, .mv (.t 9), none, []⟩,
   ⟨some 8, .mv (.t 41), none, []⟩])
   .ret)
  .skip))
  (.seq (.regd [0, 1, 2, 3, 4, 5, 6, 7, 8] [
  .op ⟨some 42, .ld (.t 4) 17 true, none, []⟩,
  .op ⟨some 43, .ld (.t 5) 7 true, none, []⟩,
  .op ⟨some 44, .ld (.t 6) 8 true, none, []⟩] 3 3 [
  ⟨some 10, .alloc [.int .i64 0, .int .i64 0, .int .i64 0, .int .i64 0, .int .i64 0, .int .i64 0, .int .i64 0, .int .i64 0, .int .i64 0, .int .i64 0, .int .i64 0, .int .i64 0, .int .i64 0, .int .i64 0, .int .i64 0, .int .i64 0, .int .i64 0] 25, none, []⟩,
  ⟨some 11, .alloc [.int .i64 0, .int .i64 0, .int .i64 0, .int .i64 0, .int .i64 0, .int .i64 0, .bool false] 27, none, []⟩,
  ⟨some 12, .alloc [.int .i64 0, .int .i64 0, .int .i64 0, .int .i64 0, .int .i64 0, .int .i64 0, .int .i64 0, .int .i64 0] 29, none, []⟩,
  ⟨none, .st (.t 10) (.t 42) 17, none, [0, 3, 4, 5]⟩,
  ⟨none, .st (.t 11) (.t 43) 7, none, [0, 1, 3, 4, 5, 6]⟩,
  ⟨none, .st (.t 12) (.t 44) 8, none, [0, 1, 2, 3, 4, 5, 6, 7]⟩])
  (.seq (.reg [
  ⟨some 13, .mv (.c (.int .i64 0)), none, []⟩])
  (.seq (.seq (.reg [
  ⟨some 45, .addo (.t 10) 2, none, []⟩,
  ⟨some 46, .addo (.t 10) 4, none, []⟩,
  ⟨some 47, .addo (.t 10) 6, none, []⟩,
  ⟨some 48, .addo (.t 10) 8, none, []⟩,
  ⟨some 49, .addo (.t 10) 10, none, []⟩,
  ⟨some 50, .addo (.t 10) 12, none, []⟩,
  ⟨some 51, .addo (.t 10) 15, none, []⟩,
  ⟨some 52, .addo (.t 11) 0, none, []⟩,
  ⟨some 53, .addo (.t 11) 2, none, []⟩,
  ⟨some 54, .addo (.t 11) 4, none, []⟩,
  ⟨some 55, .addo (.t 12) 2, none, []⟩,
  ⟨some 56, .addo (.t 12) 4, none, []⟩,
  ⟨some 57, .addo (.t 12) 6, none, []⟩,
  ⟨some 58, .bsl 1 89 [.t 45, .t 46, .t 47, .t 48, .t 49, .t 50, .t 51, .t 52, .t 53, .t 54, .t 55, .t 56, .t 57], none, []⟩,
  ⟨some 59, .len (.t 58), none, []⟩,
  ⟨some 60, .mv (.c (.int .i64 0)), none, []⟩])
  (.block 0 (.loop (.seq (.reg [
    ⟨some 61, .bin .lss (.t 60) (.t 59), none, []⟩])
    (.seq (.cond (.t 61)
    .skip
    (.exit 0))
    (.seq (.block 1 (.seq (.reg [
     ⟨some 62, .ixs (.t 58) (.t 60) 1, none, []⟩,
     ⟨some 63, .ld (.t 62) 1 false, none, []⟩,
     ⟨some 15, .mv (.t 63), none, []⟩])
     (.seq (.regd [0, 1, 2, 3, 4, 5, 6, 7, 8, 9, 10, 11, 12, 13] [
     .op ⟨some 64, .mv (.t 15), none, []⟩,
     .op ⟨some 65, .mv (.t 15), none, []⟩,
     .op ⟨some 66, .nilc (.t 65), none, [1]⟩,
     .op ⟨some 67, .ld (.t 66) 2 true, none, [2]⟩,
     .op ⟨some 68, .mv (.t 3), none, []⟩,
     .op ⟨some 69, .mv (.t 13), none, []⟩,
     .op ⟨some 70, .call 45 [.t 68, .t 69], none, [4, 5]⟩,
     .op ⟨some 71, .mv (.t 3), none, []⟩,
     .op ⟨some 72, .mv (.t 13), none, []⟩,
     .op ⟨some 73, .bin .add (.t 72) (.c (.int .i64 1)), none, [8]⟩,
     .op ⟨some 74, .call 45 [.t 71, .t 73], none, [6, 7, 9]⟩,
     .op ⟨some 75, .call 46 [.t 67, .t 70, .t 74], none, [3, 6, 10]⟩,
     .op ⟨some 76, .nilc (.t 64), none, [0, 1, 2, 3, 4, 5, 6, 7, 8, 9, 10, 11]⟩] 0 1 [
     ⟨none, .st (.t 76) (.t 75) 2, none, [0, 1, 2, 3, 4, 5, 6, 7, 8, 9, 10, 11, 12]⟩])
     (.reg [
     ⟨some 77, .mv (.t 13), none, []⟩,
     ⟨some 78, .bin .add (.t 77) (.c (.int .i64 2)), none, []⟩,
     ⟨some 13, .mv (.t 78), none, []⟩]))))
    (.reg [
    ⟨some 79, .bin .add (.t 60) (.c (.int .i64 1)), none, []⟩,
    ⟨some 60, .mv (.t 79), none, []⟩])))))))
  (.seq (.reg [
  ⟨some 81, .ld (.t 4) 17 true, none, []⟩,
  ⟨some 82, .ld (.t 5) 7 true, none, []⟩,
  ⟨some 83, .call 16 [.t 81, .t 82], none, []⟩,
  ⟨some 80, .mv (.t 83), none, []⟩,
  ⟨some 84, .ext (.t 80) 0, none, []⟩,
  ⟨some 85, .ext (.t 80) 1, none, []⟩,
  ⟨some 16, .alloc [.int .i64 0, .int .i64 0] 23, none, []⟩,
  ⟨none, .st (.t 16) (.t 84) 2, none, []⟩,
  ⟨some 17, .mv (.t 85), none, []⟩])
  (.seq (.reg [
  ⟨some 87, .ld (.t 10) 17 true, none, []⟩,
  ⟨some 88, .ld (.t 11) 7 true, none, []⟩,
  ⟨some 89, .call 16 [.t 87, .t 88], none, []⟩,
  ⟨some 86, .mv (.t 89), none, []⟩,
  ⟨some 90, .ext (.t 86) 0, none, []⟩,
  ⟨some 91, .ext (.t 86) 1, none, []⟩,
  ⟨some 18, .alloc [.int .i64 0, .int .i64 0] 23, none, []⟩,
  ⟨none, .st (.t 18) (.t 90) 2, none, []⟩,
  ⟨some 19, .mv (.t 91), none, []⟩])
  (.seq (.reg [
  ⟨some 93, .ld (.t 4) 17 true, none, []⟩,
  ⟨some 94, .addo (.t 5) 6, none, []⟩,
  ⟨some 95, .ld (.t 94) 1 false, none, []⟩,
  ⟨some 96, .ld (.t 6) 8 true, none, []⟩,
  ⟨some 97, .call 18 [.t 93, .t 95, .t 96], none, []⟩,
  ⟨some 92, .mv (.t 97), none, []⟩,
  ⟨some 98, .ext (.t 92) 0, none, []⟩,
  ⟨some 99, .ext (.t 92) 1, none, []⟩,
  ⟨some 100, .ext (.t 92) 2, none, []⟩,
  ⟨some 20, .alloc [.int .i64 0, .int .i64 0] 23, none, []⟩,
  ⟨some 21, .alloc [.int .i64 0, .int .i64 0] 23, none, []⟩,
  ⟨none, .st (.t 20) (.t 98) 2, none, []⟩,
  ⟨none, .st (.t 21) (.t 99) 2, none, []⟩,
  ⟨some 22, .mv (.t 100), none, []⟩])
  (.seq (.reg [
  ⟨some 102, .ld (.t 10) 17 true, none, []⟩,
  ⟨some 103, .addo (.t 11) 6, none, []⟩,
  ⟨some 104, .ld (.t 103) 1 false, none, []⟩,
  ⟨some 105, .ld (.t 12) 8 true, none, []⟩,
  ⟨some 106, .call 18 [.t 102, .t 104, .t 105], none, []⟩,
  ⟨some 101, .mv (.t 106), none, []⟩,
  ⟨some 107, .ext (.t 101) 0, none, []⟩,
  ⟨some 108, .ext (.t 101) 1, none, []⟩,
  ⟨some 109, .ext (.t 101) 2, none, []⟩,
  ⟨some 23, .alloc [.int .i64 0, .int .i64 0] 23, none, []⟩,
  ⟨some 24, .alloc [.int .i64 0, .int .i64 0] 23, none, []⟩,
  ⟨none, .st (.t 23) (.t 107) 2, none, []⟩,
  ⟨none, .st (.t 24) (.t 108) 2, none, []⟩,
  ⟨some 25, .mv (.t 109), none, []⟩])
  (.seq (.seq (.reg [
  ⟨some 110, .mv (.t 17), none, []⟩,
  ⟨some 111, .bin .neq (.t 110) (.c (.int .i64 0)), none, []⟩,
  ⟨some 112, .mv (.t 111), none, []⟩,
  ⟨some 113, .mv (.t 19), some (112, false), []⟩,
  ⟨some 114, .bin .neq (.t 113) (.c (.int .i64 0)), some (112, false), []⟩,
  ⟨some 115, .pick (.t 112) (.c (.bool true)) (.t 114), none, []⟩,
  ⟨some 116, .mv (.t 115), none, []⟩,
  ⟨some 117, .mv (.t 22), some (116, false), []⟩,
  ⟨some 118, .bin .neq (.t 117) (.c (.int .i64 0)), some (116, false), []⟩,
  ⟨some 119, .pick (.t 116) (.c (.bool true)) (.t 118), none, []⟩,
  ⟨some 120, .mv (.t 119), none, []⟩,
  ⟨some 121, .mv (.t 25), some (120, false), []⟩,
  ⟨some 122, .bin .neq (.t 121) (.c (.int .i64 0)), some (120, false), []⟩,
  ⟨some 123, .pick (.t 120) (.c (.bool true)) (.t 122), none, []⟩,
  ⟨some 124, .mv (.t 123), none, []⟩,
  ⟨some 125, .ld (.t 18) 2 true, some (124, false), []⟩,
  ⟨some 126, .ld (.t 16) 2 true, some (124, false), []⟩,
  ⟨some 127, .call 47 [.t 125, .t 126], some (124, false), []⟩,
  ⟨some 128, .un .not (.t 127), some (124, false), []⟩,
  ⟨some 129, .pick (.t 124) (.c (.bool true)) (.t 128), none, []⟩,
  ⟨some 130, .mv (.t 129), none, []⟩,
  ⟨some 131, .ld (.t 23) 2 true, some (130, false), []⟩,
  ⟨some 132, .ld (.t 20) 2 true, some (130, false), []⟩,
  ⟨some 133, .call 47 [.t 131, .t 132], some (130, false), []⟩,
  ⟨some 134, .un .not (.t 133), some (130, false), []⟩,
  ⟨some 135, .pick (.t 130) (.c (.bool true)) (.t 134), none, []⟩,
  ⟨some 136, .mv (.t 135), none, []⟩,
  ⟨some 137, .ld (.t 24) 2 true, some (136, false), []⟩,
  ⟨some 138, .ld (.t 21) 2 true, some (136, false), []⟩,
  ⟨some 139, .call 47 [.t 137, .t 138], some (136, false), []⟩,
  ⟨some 140, .un .not (.t 139), some (136, false), []⟩,
  ⟨some 141, .pick (.t 136) (.c (.bool true)) (.t 140), none, []⟩])
  (.cond (.t 141)
  (.seq (.reg [
   ⟨some 8, .mv (.c (.bool false)), none, []⟩])
   .ret)
  .skip))
  (.seq (.reg [
  ⟨some 143, .ld (.t 4) 17 true, none, []⟩,
  ⟨some 144, .ld (.t 5) 7 true, none, []⟩,
  ⟨some 145, .ld (.t 6) 8 true, none, []⟩,
  ⟨some 146, .call 29 [.t 143, .t 144, .t 145], none, []⟩,
  ⟨some 142, .mv (.t 146), none, []⟩,
  ⟨some 147, .ext (.t 142) 0, none, []⟩,
  ⟨some 148, .ext (.t 142) 1, none, []⟩,
  ⟨some 149, .ext (.t 142) 2, none, []⟩,
  ⟨some 26, .alloc [.int .i64 0, .int .i64 0, .int .i64 0, .int .i64 0, .int .i64 0, .int .i64 0, .bool false] 27, none, []⟩,
  ⟨none, .st (.t 26) (.t 147) 7, none, []⟩,
  ⟨some 27, .mv (.t 148), none, []⟩,
  ⟨some 28, .mv (.t 149), none, []⟩])
  (.seq (.reg [
  ⟨some 151, .ld (.t 10) 17 true, none, []⟩,
  ⟨some 152, .ld (.t 11) 7 true, none, []⟩,
  ⟨some 153, .ld (.t 12) 8 true, none, []⟩,
  ⟨some 154, .call 29 [.t 151, .t 152, .t 153], none, []⟩,
  ⟨some 150, .mv (.t 154), none, []⟩,
  ⟨some 155, .ext (.t 150) 0, none, []⟩,
  ⟨some 156, .ext (.t 150) 1, none, []⟩,
  ⟨some 157, .ext (.t 150) 2, none, []⟩,
  ⟨some 29, .alloc [.int .i64 0, .int .i64 0, .int .i64 0, .int .i64 0, .int .i64 0, .int .i64 0, .bool false] 27, none, []⟩,
  ⟨none, .st (.t 29) (.t 155) 7, none, []⟩,
  ⟨some 30, .mv (.t 156), none, []⟩,
  ⟨some 31, .mv (.t 157), none, []⟩])
  (.seq (.seq (.reg [
  ⟨some 158, .mv (.t 28), none, []⟩,
  ⟨some 159, .bin .neq (.t 158) (.c (.int .i64 0)), none, []⟩])
  (.cond (.t 159)
  (.seq (.reg [
   ⟨some 160, .mv (.t 9), none, []⟩,
   ⟨some 161, .mv (.t 160), none, []⟩,
   ⟨some 162, .mv (.t 28), some (161, true), []⟩,
   ⟨some 163, .bin .eql (.t 162) (.c (.int .i64 13)), some (161, true), []⟩,
   ⟨some 164, .pick (.t 161) (.t 163) (.c (.bool false)), none, []⟩,
   ⟨some 165, .mv (.t 164), none, []⟩,
   ⟨some 166, .mv (.t 31), some (165, true), []⟩,
   ⟨some 167, .bin .eql (.t 166) (.c (.int .i64 13)), some (165, true), []⟩,
   ⟨some 168, .pick (.t 165) (.t 167) (.c (.bool false)), none, []⟩,
   ⟨some 8, .mv (.t 168), none, []⟩])
   .ret)
  .skip))
  (.seq (.seq (.reg [
  ⟨some 169, .mv (.t 31), none, []⟩,
  ⟨some 170, .bin .neq (.t 169) (.c (.int .i64 0)), none, []⟩])
  (.cond (.t 170)
  (.seq (.reg [
   ⟨some 171, .mv (.t 9), none, []⟩,
   ⟨some 172, .mv (.t 171), none, []⟩,
   ⟨some 173, .mv (.t 31), some (172, true), []⟩,
   ⟨some 174, .bin .eql (.t 173) (.c (.int .i64 13)), some (172, true), []⟩,
   ⟨some 175, .pick (.t 172) (.t 174) (.c (.bool false)), none, []⟩,
   ⟨some 176, .mv (.t 175), none, []⟩,
   ⟨some 177, .mv (.t 27), some (176, true), []⟩,
   ⟨some 178, .bin .eql (.t 177) (.c (.int .u8 1)), some (176, true), []⟩,
   ⟨some 179, .pick (.t 176) (.t 178) (.c (.bool false)), none, []⟩,
   ⟨some 8, .mv (.t 179), none, []⟩])
   .ret)
  .skip))
  (.seq (.reg [
  ⟨some 180, .mv (.t 9), none, []⟩,
  ⟨some 181, .mv (.t 180), none, []⟩,
  ⟨some 182, .addo (.t 29) 0, some (181, true), []⟩,
  ⟨some 183, .ld (.t 182) 2 true, some (181, true), []⟩,
  ⟨some 184, .addo (.t 26) 0, some (181, true), []⟩,
  ⟨some 185, .ld (.t 184) 2 true, some (181, true), []⟩,
  ⟨some 186, .call 47 [.t 183, .t 185], some (181, true), []⟩,
  ⟨some 187, .pick (.t 181) (.t 186) (.c (.bool false)), none, []⟩,
  ⟨some 188, .mv (.t 187), none, []⟩,
  ⟨some 189, .addo (.t 29) 2, some (188, true), []⟩,
  ⟨some 190, .ld (.t 189) 2 true, some (188, true), []⟩,
  ⟨some 191, .addo (.t 26) 2, some (188, true), []⟩,
  ⟨some 192, .ld (.t 191) 2 true, some (188, true), []⟩,
  ⟨some 193, .call 47 [.t 190, .t 192], some (188, true), []⟩,
  ⟨some 194, .pick (.t 188) (.t 193) (.c (.bool false)), none, []⟩,
  ⟨some 195, .mv (.t 194), none, []⟩,
  ⟨some 196, .addo (.t 29) 4, some (195, true), []⟩,
  ⟨some 197, .ld (.t 196) 2 true, some (195, true), []⟩,
  ⟨some 198, .addo (.t 26) 4, some (195, true), []⟩,
  ⟨some 199, .ld (.t 198) 2 true, some (195, true), []⟩,
  ⟨some 200, .call 47 [.t 197, .t 199], some (195, true), []⟩,
  ⟨some 201, .pick (.t 195) (.t 200) (.c (.bool false)), none, []⟩,
  ⟨some 202, .mv (.t 201), none, []⟩,
  ⟨some 203, .mv (.t 27), some (202, true), []⟩,
  ⟨some 204, .bin .neq (.t 203) (.c (.int .u8 0)), some (202, true), []⟩,
  ⟨some 205, .mv (.t 204), some (202, true), []⟩,
  ⟨some 206, .mv (.t 30), some (205, false), []⟩,
  ⟨some 207, .bin .eql (.t 206) (.c (.int .u8 0)), some (205, false), []⟩,
  ⟨some 208, .pick (.t 205) (.c (.bool true)) (.t 207), some (202, true), []⟩,
  ⟨some 209, .pick (.t 202) (.t 208) (.c (.bool false)), none, []⟩,
  ⟨some 8, .mv (.t 209), none, []⟩])
  .ret)))))))))))))))))
def c9 : SC := (.seq (.reg [
  ⟨some 4, .box (.t 0) 0 25, none, []⟩,
  ⟨some 5, .box (.t 1) 0 27, none, []⟩,
  ⟨some 6, .box (.t 2) 0 29, none, []⟩,
  ⟨some 8, .mv (.c (.bool false)), none, []⟩])
  (.seq (.reg [
  ⟨some 19, .call 38 [], none, []⟩,
  ⟨some 9, .mv (.t 19), none, []⟩])
  (.seq (.seq (.reg [
  ⟨some 20, .mv (.t 9), none, []⟩,
  ⟨some 21, .un .not (.t 20), none, []⟩])
  (.cond (.t 21)
  (.seq (.reg [
   ⟨some 8, .mv (.c (.bool false)), none, []⟩])
   .ret)
  .skip))
  (.seq (.seq (.reg [
  ⟨some 22, .ld (.t 4) 17 true, none, []⟩,
  ⟨some 23, .ld (.t 5) 7 true, none, []⟩,
  ⟨some 24, .ld (.t 6) 8 true, none, []⟩,
  ⟨some 25, .bsl 8 29 [.t 24], none, []⟩,
  ⟨some 26, .call 39 [.t 22, .t 23, .t 25], none, []⟩,
  ⟨some 27, .un .not (.t 26), none, []⟩])
  (.cond (.t 27)
  (.seq (.reg [
   ⟨some 28, .mv (.t 9), none, []⟩,
   ⟨some 8, .mv (.t 28), none, []⟩])
   .ret)
  .skip))
  (.seq (.reg [
  ⟨some 29, .ld (.t 6) 8 true, none, []⟩,
  ⟨some 10, .alloc [.int .i64 0, .int .i64 0, .int .i64 0, .int .i64 0, .int .i64 0, .int .i64 0, .int .i64 0, .int .i64 0] 29, none, []⟩,
  ⟨none, .st (.t 10) (.t 29) 8, none, []⟩])
  (.seq (.regd [0, 1, 2, 3, 4, 5, 6, 7, 8, 9, 10, 11] [
  .op ⟨some 30, .addo (.t 10) 1, none, []⟩,
  .op ⟨some 31, .ld (.t 30) 1 false, none, [0]⟩,
  .op ⟨some 32, .mv (.t 3), none, []⟩,
  .op ⟨some 33, .call 45 [.t 32, .c (.int .i64 0)], none, [2]⟩,
  .op ⟨some 34, .conv .i64 (.t 33), none, [3]⟩,
  .op ⟨some 35, .addo (.t 6) 1, none, []⟩,
  .op ⟨some 36, .ld (.t 35) 1 false, none, [5]⟩,
  .op ⟨some 37, .bin .add (.t 36) (.c (.int .i64 1)), none, [6]⟩,
  .op ⟨some 38, .div .rem (.t 34) (.t 37), none, [4, 7]⟩,
  .op ⟨some 39, .bin .sub (.t 31) (.t 38), none, [1, 8]⟩,
  .op ⟨some 40, .addo (.t 10) 1, none, [0, 1, 2, 3, 4, 5, 6, 7, 8, 9]⟩] 0 1 [
  ⟨none, .st (.t 40) (.t 39) 1, none, [0, 1, 2, 3, 4, 5, 6, 7, 8, 9, 10]⟩])
  (.seq (.seq (.reg [
  ⟨some 41, .addo (.t 6) 0, none, []⟩,
  ⟨some 42, .ld (.t 41) 1 false, none, []⟩,
  ⟨some 43, .bin .gtr (.t 42) (.c (.int .i64 0)), none, []⟩])
  (.cond (.t 43)
  (.regd [0, 1, 2, 3, 4, 5, 6, 7, 8, 9, 10] [
   .op ⟨some 44, .addo (.t 10) 0, none, []⟩,
   .op ⟨some 45, .ld (.t 44) 1 false, none, [0]⟩,
   .op ⟨some 46, .mv (.t 3), none, []⟩,
   .op ⟨some 47, .call 45 [.t 46, .c (.int .i64 1)], none, [2]⟩,
   .op ⟨some 48, .conv .i64 (.t 47), none, [3]⟩,
   .op ⟨some 49, .addo (.t 6) 0, none, []⟩,
   .op ⟨some 50, .ld (.t 49) 1 false, none, [5]⟩,
   .op ⟨some 51, .div .rem (.t 48) (.t 50), none, [4, 6]⟩,
   .op ⟨some 52, .bin .sub (.t 45) (.t 51), none, [1, 7]⟩,
   .op ⟨some 53, .addo (.t 10) 0, none, [0, 1, 2, 3, 4, 5, 6, 7, 8]⟩] 0 1 [
   ⟨none, .st (.t 53) (.t 52) 1, none, [0, 1, 2, 3, 4, 5, 6, 7, 8, 9]⟩])
  .skip))
  (.seq (.regd [0, 1, 2, 3, 4, 5, 6, 7, 8, 9] [
  .op ⟨some 54, .mv (.t 3), none, []⟩,
  .op ⟨some 55, .call 45 [.t 54, .c (.int .i64 2)], none, [0]⟩,
  .op ⟨some 56, .conv .i64 (.t 55), none, [1]⟩,
  .op ⟨some 57, .addo (.t 6) 6, none, []⟩,
  .op ⟨some 58, .addo (.t 57) 1, none, [3]⟩,
  .op ⟨some 59, .ld (.t 58) 1 false, none, [4]⟩,
  .op ⟨some 60, .bin .sub (.c (.int .i64 1000000)) (.t 59), none, [5]⟩,
  .op ⟨some 61, .bin .add (.t 60) (.c (.int .i64 1)), none, [6]⟩,
  .op ⟨some 62, .div .rem (.t 56) (.t 61), none, [2, 7]⟩,
  .op ⟨some 11, .mv (.t 62), none, [0, 1, 2, 3, 4, 5, 6, 7, 8]⟩] 0 0 [
])
  (.seq (.reg [
  ⟨some 63, .addo (.t 6) 6, none, []⟩,
  ⟨some 64, .addo (.t 63) 0, none, []⟩,
  ⟨some 65, .ld (.t 64) 1 false, none, []⟩,
  ⟨some 66, .mv (.t 11), none, []⟩,
  ⟨some 67, .bin .add (.t 65) (.t 66), none, []⟩,
  ⟨some 68, .addo (.t 6) 6, none, []⟩,
  ⟨some 69, .addo (.t 68) 1, none, []⟩,
  ⟨some 70, .ld (.t 69) 1 false, none, []⟩,
  ⟨some 71, .mv (.t 11), none, []⟩,
  ⟨some 72, .bin .add (.t 70) (.t 71), none, []⟩,
  ⟨some 73, .call 48 [.t 67, .t 72], none, []⟩,
  ⟨some 74, .addo (.t 10) 6, none, []⟩,
  ⟨none, .st (.t 74) (.t 73) 2, none, []⟩])
  (.seq (.regd [0, 1, 2, 3, 4, 5, 6, 7, 8, 9] [
  .op ⟨some 75, .mv (.t 3), none, []⟩,
  .op ⟨some 76, .call 45 [.t 75, .c (.int .i64 3)], none, [0]⟩,
  .op ⟨some 77, .conv .i64 (.t 76), none, [1]⟩,
  .op ⟨some 78, .addo (.t 6) 4, none, []⟩,
  .op ⟨some 79, .addo (.t 78) 1, none, [3]⟩,
  .op ⟨some 80, .ld (.t 79) 1 false, none, [4]⟩,
  .op ⟨some 81, .bin .sub (.c (.int .i64 1000000)) (.t 80), none, [5]⟩,
  .op ⟨some 82, .bin .add (.t 81) (.c (.int .i64 1)), none, [6]⟩,
  .op ⟨some 83, .div .rem (.t 77) (.t 82), none, [2, 7]⟩,
  .op ⟨some 12, .mv (.t 83), none, [0, 1, 2, 3, 4, 5, 6, 7, 8]⟩] 0 0 [
])
  (.seq (.reg [
  ⟨some 84, .addo (.t 6) 4, none, []⟩,
  ⟨some 85, .addo (.t 84) 0, none, []⟩,
  ⟨some 86, .ld (.t 85) 1 false, none, []⟩,
  ⟨some 87, .mv (.t 12), none, []⟩,
  ⟨some 88, .bin .add (.t 86) (.t 87), none, []⟩,
  ⟨some 89, .addo (.t 6) 4, none, []⟩,
  ⟨some 90, .addo (.t 89) 1, none, []⟩,
  ⟨some 91, .ld (.t 90) 1 false, none, []⟩,
  ⟨some 92, .mv (.t 12), none, []⟩,
  ⟨some 93, .bin .add (.t 91) (.t 92), none, []⟩,
  ⟨some 94, .call 48 [.t 88, .t 93], none, []⟩,
  ⟨some 95, .addo (.t 10) 4, none, []⟩,
  ⟨none, .st (.t 95) (.t 94) 2, none, []⟩])
  (.seq (.reg [
  ⟨some 97, .ld (.t 4) 17 true, none, []⟩,
  ⟨some 98, .ld (.t 5) 7 true, none, []⟩,
  ⟨some 99, .ld (.t 6) 8 true, none, []⟩,
  ⟨some 100, .call 29 [.t 97, .t 98, .t 99], none, []⟩,
  ⟨some 96, .mv (.t 100), none, []⟩,
  ⟨some 101, .ext (.t 96) 0, none, []⟩,
  ⟨some 102, .ext (.t 96) 1, none, []⟩,
  ⟨some 103, .ext (.t 96) 2, none, []⟩,
  ⟨some 13, .alloc [.int .i64 0, .int .i64 0, .int .i64 0, .int .i64 0, .int .i64 0, .int .i64 0, .bool false] 27, none, []⟩,
  ⟨none, .st (.t 13) (.t 101) 7, none, []⟩,
  ⟨some 14, .mv (.t 102), none, []⟩,
  ⟨some 15, .mv (.t 103), none, []⟩])
  (.seq (.reg [
  ⟨some 105, .ld (.t 4) 17 true, none, []⟩,
  ⟨some 106, .ld (.t 5) 7 true, none, []⟩,
  ⟨some 107, .ld (.t 10) 8 true, none, []⟩,
  ⟨some 108, .call 29 [.t 105, .t 106, .t 107], none, []⟩,
  ⟨some 104, .mv (.t 108), none, []⟩,
  ⟨some 109, .ext (.t 104) 0, none, []⟩,
  ⟨some 110, .ext (.t 104) 1, none, []⟩,
  ⟨some 111, .ext (.t 104) 2, none, []⟩,
  ⟨some 16, .alloc [.int .i64 0, .int .i64 0, .int .i64 0, .int .i64 0, .int .i64 0, .int .i64 0, .bool false] 27, none, []⟩,
  ⟨none, .st (.t 16) (.t 109) 7, none, []⟩,
  ⟨some 17, .mv (.t 110), none, []⟩,
  ⟨some 18, .mv (.t 111), none, []⟩])
  (.seq (.seq (.reg [
  ⟨some 112, .mv (.t 15), none, []⟩,
  ⟨some 113, .bin .neq (.t 112) (.c (.int .i64 0)), none, []⟩])
  (.cond (.t 113)
  (.seq (.reg [
   ⟨some 114, .mv (.t 9), none, []⟩,
   ⟨some 115, .mv (.t 114), none, []⟩,
   ⟨some 116, .mv (.t 15), some (115, true), []⟩,
   ⟨some 117, .bin .eql (.t 116) (.c (.int .i64 13)), some (115, true), []⟩,
   ⟨some 118, .pick (.t 115) (.t 117) (.c (.bool false)), none, []⟩,
   ⟨some 119, .mv (.t 118), none, []⟩,
   ⟨some 120, .mv (.t 18), some (119, true), []⟩,
   ⟨some 121, .bin .eql (.t 120) (.c (.int .i64 0)), some (119, true), []⟩,
   ⟨some 122, .mv (.t 121), some (119, true), []⟩,
   ⟨some 123, .mv (.t 18), some (122, false), []⟩,
   ⟨some 124, .bin .eql (.t 123) (.c (.int .i64 13)), some (122, false), []⟩,
   ⟨some 125, .pick (.t 122) (.c (.bool true)) (.t 124), some (119, true), []⟩,
   ⟨some 126, .pick (.t 119) (.t 125) (.c (.bool false)), none, []⟩,
   ⟨some 8, .mv (.t 126), none, []⟩])
   .ret)
  .skip))
  (.seq (.seq (.reg [
  ⟨some 127, .mv (.t 18), none, []⟩,
  ⟨some 128, .bin .neq (.t 127) (.c (.int .i64 0)), none, []⟩,
  ⟨some 129, .mv (.t 128), none, []⟩,
  ⟨some 130, .mv (.t 14), some (129, false), []⟩,
  ⟨some 131, .bin .eql (.t 130) (.c (.int .u8 0)), some (129, false), []⟩,
  ⟨some 132, .mv (.t 131), some (129, false), []⟩,
  ⟨some 133, .mv (.t 17), some (132, true), []⟩,
  ⟨some 134, .bin .neq (.t 133) (.c (.int .u8 0)), some (132, true), []⟩,
  ⟨some 135, .pick (.t 132) (.t 134) (.c (.bool false)), some (129, false), []⟩,
  ⟨some 136, .pick (.t 129) (.c (.bool true)) (.t 135), none, []⟩])
  (.cond (.t 136)
  (.seq (.reg [
   ⟨some 8, .mv (.c (.bool false)), none, []⟩])
   .ret)
  .skip))
  (.seq (.reg [
  ⟨some 137, .mv (.t 9), none, []⟩,
  ⟨some 138, .mv (.t 137), none, []⟩,
  ⟨some 139, .addo (.t 16) 0, some (138, true), []⟩,
  ⟨some 140, .addo (.t 139) 0, some (138, true), []⟩,
  ⟨some 141, .ld (.t 140) 1 false, some (138, true), []⟩,
  ⟨some 142, .addo (.t 13) 0, some (138, true), []⟩,
  ⟨some 143, .addo (.t 142) 0, some (138, true), []⟩,
  ⟨some 144, .ld (.t 143) 1 false, some (138, true), []⟩,
  ⟨some 145, .bin .geq (.t 141) (.t 144), some (138, true), []⟩,
  ⟨some 146, .pick (.t 138) (.t 145) (.c (.bool false)), none, []⟩,
  ⟨some 147, .mv (.t 146), none, []⟩,
  ⟨some 148, .addo (.t 16) 0, some (147, true), []⟩,
  ⟨some 149, .addo (.t 148) 1, some (147, true), []⟩,
  ⟨some 150, .ld (.t 149) 1 false, some (147, true), []⟩,
  ⟨some 151, .addo (.t 13) 0, some (147, true), []⟩,
  ⟨some 152, .addo (.t 151) 1, some (147, true), []⟩,
  ⟨some 153, .ld (.t 152) 1 false, some (147, true), []⟩,
  ⟨some 154, .bin .geq (.t 150) (.t 153), some (147, true), []⟩,
  ⟨some 155, .pick (.t 147) (.t 154) (.c (.bool false)), none, []⟩,
  ⟨some 156, .mv (.t 155), none, []⟩,
  ⟨some 157, .addo (.t 16) 2, some (156, true), []⟩,
  ⟨some 158, .addo (.t 157) 0, some (156, true), []⟩,
  ⟨some 159, .ld (.t 158) 1 false, some (156, true), []⟩,
  ⟨some 160, .addo (.t 13) 2, some (156, true), []⟩,
  ⟨some 161, .addo (.t 160) 0, some (156, true), []⟩,
  ⟨some 162, .ld (.t 161) 1 false, some (156, true), []⟩,
  ⟨some 163, .bin .geq (.t 159) (.t 162), some (156, true), []⟩,
  ⟨some 164, .pick (.t 156) (.t 163) (.c (.bool false)), none, []⟩,
  ⟨some 165, .mv (.t 164), none, []⟩,
  ⟨some 166, .addo (.t 16) 2, some (165, true), []⟩,
  ⟨some 167, .addo (.t 166) 1, some (165, true), []⟩,
  ⟨some 168, .ld (.t 167) 1 false, some (165, true), []⟩,
  ⟨some 169, .addo (.t 13) 2, some (165, true), []⟩,
  ⟨some 170, .addo (.t 169) 1, some (165, true), []⟩,
  ⟨some 171, .ld (.t 170) 1 false, some (165, true), []⟩,
  ⟨some 172, .bin .geq (.t 168) (.t 171), some (165, true), []⟩,
  ⟨some 173, .pick (.t 165) (.t 172) (.c (.bool false)), none, []⟩,
  ⟨some 174, .mv (.t 173), none, []⟩,
  ⟨some 175, .addo (.t 16) 4, some (174, true), []⟩,
  ⟨some 176, .addo (.t 175) 0, some (174, true), []⟩,
  ⟨some 177, .ld (.t 176) 1 false, some (174, true), []⟩,
  ⟨some 178, .addo (.t 13) 4, some (174, true), []⟩,
  ⟨some 179, .addo (.t 178) 0, some (174, true), []⟩,
  ⟨some 180, .ld (.t 179) 1 false, some (174, true), []⟩,
  ⟨some 181, .bin .leq (.t 177) (.t 180), some (174, true), []⟩,
  ⟨some 182, .pick (.t 174) (.t 181) (.c (.bool false)), none, []⟩,
  ⟨some 183, .mv (.t 182), none, []⟩,
  ⟨some 184, .addo (.t 16) 4, some (183, true), []⟩,
  ⟨some 185, .addo (.t 184) 1, some (183, true), []⟩,
  ⟨some 186, .ld (.t 185) 1 false, some (183, true), []⟩,
  ⟨some 187, .addo (.t 13) 4, some (183, true), []⟩,
  ⟨some 188, .addo (.t 187) 1, some (183, true), []⟩,
  ⟨some 189, .ld (.t 188) 1 false, some (183, true), []⟩,
  ⟨some 190, .bin .leq (.t 186) (.t 189), some (183, true), []⟩,
  ⟨some 191, .pick (.t 183) (.t 190) (.c (.bool false)), none, []⟩,
  ⟨some 8, .mv (.t 191), none, []⟩])
  .ret))))))))))))))))
def r9 : List RV := [.tmp 8]
theorem n9 : Try.f9.ntmps = 192 := by kernel_rfl
theorem b9 : bodyB Try.prog 9 = true := by kernel_rfl
theorem c9_ok : cmpC Try.prog c9 ((Try.f9.body).getD .skip) = true := by kernel_rfl
theorem r9_ok : cmpR Try.prog r9 Try.f9.results.toList = true := by kernel_rfl
theorem t9 {args : List SV} {res : SV} (ka : KFL args) (kr : KF res) (h : sx Try.prog Y0 0 c9 (st0 args 192) (retK r9 res)) (hA : Nat.ble args.length 192 = true := by rfl) : Ct Try.prog 9 args res := ct_intro Try.func9 rfl b9 c9_ok r9_ok n9 (Nat.le_of_ble_eq_true hA) ka kr h
def c38 : SC := (.seq (.reg [
  ⟨some 0, .mv (.c (.bool false)), none, []⟩])
  (.seq (.reg [
  ⟨some 16, .call 52 [], none, []⟩,
  ⟨some 17, .call 53 [], none, []⟩,
  ⟨some 18, .call 14 [.t 16, .t 17], none, []⟩,
  ⟨some 15, .mv (.t 18), none, []⟩,
  ⟨some 19, .ext (.t 15) 0, none, []⟩,
  ⟨some 20, .ext (.t 15) 1, none, []⟩,
  ⟨some 1, .alloc [.int .i64 0, .int .i64 0] 23, none, []⟩,
  ⟨none, .st (.t 1) (.t 19) 2, none, []⟩,
  ⟨some 2, .mv (.t 20), none, []⟩])
  (.seq (.reg [
  ⟨some 22, .call 52 [], none, []⟩,
  ⟨some 23, .call 53 [], none, []⟩,
  ⟨some 24, .call 16 [.t 22, .t 23], none, []⟩,
  ⟨some 21, .mv (.t 24), none, []⟩,
  ⟨some 25, .ext (.t 21) 0, none, []⟩,
  ⟨some 26, .ext (.t 21) 1, none, []⟩,
  ⟨some 3, .alloc [.int .i64 0, .int .i64 0] 23, none, []⟩,
  ⟨none, .st (.t 3) (.t 25) 2, none, []⟩,
  ⟨some 4, .mv (.t 26), none, []⟩])
  (.seq (.reg [
  ⟨some 28, .call 52 [], none, []⟩,
  ⟨some 29, .call 54 [], none, []⟩,
  ⟨some 30, .call 18 [.t 28, .c (.bool false), .t 29], none, []⟩,
  ⟨some 27, .mv (.t 30), none, []⟩,
  ⟨some 31, .ext (.t 27) 0, none, []⟩,
  ⟨some 32, .ext (.t 27) 1, none, []⟩,
  ⟨some 33, .ext (.t 27) 2, none, []⟩,
  ⟨some 5, .alloc [.int .i64 0, .int .i64 0] 23, none, []⟩,
  ⟨some 6, .alloc [.int .i64 0, .int .i64 0] 23, none, []⟩,
  ⟨none, .st (.t 5) (.t 31) 2, none, []⟩,
  ⟨none, .st (.t 6) (.t 32) 2, none, []⟩,
  ⟨some 7, .mv (.t 33), none, []⟩])
  (.seq (.reg [
  ⟨some 35, .call 52 [], none, []⟩,
  ⟨some 36, .call 53 [], none, []⟩,
  ⟨some 37, .call 54 [], none, []⟩,
  ⟨some 38, .call 29 [.t 35, .t 36, .t 37], none, []⟩,
  ⟨some 34, .mv (.t 38), none, []⟩,
  ⟨some 39, .ext (.t 34) 0, none, []⟩,
  ⟨some 40, .ext (.t 34) 1, none, []⟩,
  ⟨some 41, .ext (.t 34) 2, none, []⟩,
  ⟨some 8, .alloc [.int .i64 0, .int .i64 0, .int .i64 0, .int .i64 0, .int .i64 0, .int .i64 0, .bool false] 27, none, []⟩,
  ⟨none, .st (.t 8) (.t 39) 7, none, []⟩,
  ⟨some 9, .mv (.t 40), none, []⟩,
  ⟨some 10, .mv (.t 41), none, []⟩])
  (.seq (.reg [
  ⟨some 43, .call 52 [], none, []⟩,
  ⟨some 44, .call 53 [], none, []⟩,
  ⟨some 45, .call 54 [], none, []⟩,
  ⟨some 46, .call 33 [.t 43, .t 44, .t 45], none, []⟩,
  ⟨some 42, .mv (.t 46), none, []⟩,
  ⟨some 47, .ext (.t 42) 0, none, []⟩,
  ⟨some 48, .ext (.t 42) 1, none, []⟩,
  ⟨some 11, .alloc [.int .i64 0, .int .i64 0] 23, none, []⟩,
  ⟨none, .st (.t 11) (.t 47) 2, none, []⟩,
  ⟨some 12, .mv (.t 48), none, []⟩])
  (.seq (.reg [
  ⟨some 50, .bsl 1 3 [.c (.int .i64 0)], none, []⟩,
  ⟨some 51, .call 51 [], none, []⟩,
  ⟨some 52, .call 48 [.c (.int .i64 3), .c (.int .i64 5)], none, []⟩,
  ⟨some 53, .call 35 [.c (.int .i64 3), .t 50, .t 51, .t 52, .c (.int .i64 8)], none, []⟩,
  ⟨some 49, .mv (.t 53), none, []⟩,
  ⟨some 54, .ext (.t 49) 0, none, []⟩,
  ⟨some 55, .ext (.t 49) 1, none, []⟩,
  ⟨some 13, .mv (.t 54), none, []⟩,
  ⟨some 14, .mv (.t 55), none, []⟩])
  (.seq (.regd [0, 1, 2, 3, 4, 5, 6, 7, 8, 9, 10, 11, 12, 13, 14, 15, 16, 17, 18, 19, 20, 21, 22, 23, 24, 25, 26, 27, 28, 29, 30, 31, 32, 33, 34, 35, 36, 37, 38, 39, 40, 41, 42, 43, 44, 45, 46, 47, 48, 49, 50, 51, 52, 53, 54, 55, 56, 57, 58, 59, 60, 61, 62, 63, 64] [
  .op ⟨some 56, .mv (.t 2), none, []⟩,
  .op ⟨some 57, .bin .eql (.t 56) (.c (.int .i64 0)), none, [0]⟩,
  .op ⟨some 58, .mv (.t 57), none, [1]⟩,
  .op ⟨some 59, .ld (.t 1) 2 true, some (58, true), [2]⟩,
  .op ⟨some 60, .call 48 [.c (.int .i64 800), .c (.int .i64 1000)], some (58, true), [2]⟩,
  .op ⟨some 61, .eqs false true [1, 1] (.t 59) (.t 60), some (58, true), [2, 3, 4]⟩,
  .op ⟨some 62, .pick (.t 58) (.t 61) (.c (.bool false)), none, [2, 5]⟩,
  .op ⟨some 63, .mv (.t 62), none, [4, 6]⟩,
  .op ⟨some 64, .mv (.t 4), some (63, true), [7]⟩,
  .op ⟨some 65, .bin .eql (.t 64) (.c (.int .i64 0)), some (63, true), [7, 8]⟩,
  .op ⟨some 66, .pick (.t 63) (.t 65) (.c (.bool false)), none, [7, 9]⟩,
  .op ⟨some 67, .mv (.t 66), none, [7, 10]⟩,
  .op ⟨some 68, .ld (.t 3) 2 true, some (67, true), [11]⟩,
  .op ⟨some 69, .call 48 [.c (.int .i64 120000), .c (.int .i64 200000)], some (67, true), [11]⟩,
  .op ⟨some 70, .eqs false true [1, 1] (.t 68) (.t 69), some (67, true), [11, 12, 13]⟩,
  .op ⟨some 71, .pick (.t 67) (.t 70) (.c (.bool false)), none, [11, 14]⟩,
  .op ⟨some 72, .mv (.t 71), none, [13, 15]⟩,
  .op ⟨some 73, .mv (.t 7), some (72, true), [16]⟩,
  .op ⟨some 74, .bin .eql (.t 73) (.c (.int .i64 0)), some (72, true), [16, 17]⟩,
  .op ⟨some 75, .pick (.t 72) (.t 74) (.c (.bool false)), none, [16, 18]⟩,
  .op ⟨some 76, .mv (.t 75), none, [16, 19]⟩,
  .op ⟨some 77, .ld (.t 5) 2 true, some (76, true), [20]⟩,
  .op ⟨some 78, .call 48 [.c (.int .i64 7000), .c (.int .i64 9500)], some (76, true), [20]⟩,
  .op ⟨some 79, .eqs false true [1, 1] (.t 77) (.t 78), some (76, true), [20, 21, 22]⟩,
  .op ⟨some 80, .pick (.t 76) (.t 79) (.c (.bool false)), none, [20, 23]⟩,
  .op ⟨some 81, .mv (.t 80), none, [22, 24]⟩,
  .op ⟨some 82, .ld (.t 6) 2 true, some (81, true), [25]⟩,
  .op ⟨some 83, .call 48 [.c (.int .i64 800), .c (.int .i64 1000)], some (81, true), [25]⟩,
  .op ⟨some 84, .eqs false true [1, 1] (.t 82) (.t 83), some (81, true), [25, 26, 27]⟩,
  .op ⟨some 85, .pick (.t 81) (.t 84) (.c (.bool false)), none, [25, 28]⟩,
  .op ⟨some 86, .mv (.t 85), none, [27, 29]⟩,
  .op ⟨some 87, .mv (.t 10), some (86, true), [30]⟩,
  .op ⟨some 88, .bin .eql (.t 87) (.c (.int .i64 0)), some (86, true), [30, 31]⟩,
  .op ⟨some 89, .pick (.t 86) (.t 88) (.c (.bool false)), none, [30, 32]⟩,
  .op ⟨some 90, .mv (.t 89), none, [30, 33]⟩,
  .op ⟨some 91, .mv (.t 9), some (90, true), [34]⟩,
  .op ⟨some 92, .bin .eql (.t 91) (.c (.int .u8 0)), some (90, true), [34, 35]⟩,
  .op ⟨some 93, .pick (.t 90) (.t 92) (.c (.bool false)), none, [34, 36]⟩,
  .op ⟨some 94, .mv (.t 93), none, [34, 37]⟩,
  .op ⟨some 95, .ld (.t 8) 7 true, some (94, true), [38]⟩,
  .op ⟨some 96, .call 48 [.c (.int .i64 50500), .c (.int .i64 63000)], some (94, true), [38]⟩,
  .op ⟨some 97, .call 48 [.c (.int .i64 19000), .c (.int .i64 29200)], some (94, true), [38, 40]⟩,
  .op ⟨some 98, .call 48 [.c (.int .i64 100), .c (.int .i64 300)], some (94, true), [38, 41]⟩,
  .op ⟨some 99, .build [.int .i64 0, .int .i64 0, .int .i64 0, .int .i64 0, .int .i64 0, .int .i64 0, .bool false] [(0, 2, .t 96), (2, 2, .t 97), (4, 2, .t 98)], some (94, true), [38, 40, 41, 42]⟩,
  .op ⟨some 100, .eqs false true [1, 1, 1, 1, 1, 1, 0] (.t 95) (.t 99), some (94, true), [38, 39, 43]⟩,
  .op ⟨some 101, .pick (.t 94) (.t 100) (.c (.bool false)), none, [38, 44]⟩,
  .op ⟨some 102, .mv (.t 101), none, [42, 45]⟩,
  .op ⟨some 103, .mv (.t 12), some (102, true), [46]⟩,
  .op ⟨some 104, .bin .eql (.t 103) (.c (.int .i64 0)), some (102, true), [46, 47]⟩,
  .op ⟨some 105, .pick (.t 102) (.t 104) (.c (.bool false)), none, [46, 48]⟩,
  .op ⟨some 106, .mv (.t 105), none, [46, 49]⟩,
  .op ⟨some 107, .ld (.t 11) 2 true, some (106, true), [50]⟩,
  .op ⟨some 108, .call 48 [.c (.int .i64 6), .c (.int .i64 10)], some (106, true), [50]⟩,
  .op ⟨some 109, .eqs false true [1, 1] (.t 107) (.t 108), some (106, true), [50, 51, 52]⟩,
  .op ⟨some 110, .pick (.t 106) (.t 109) (.c (.bool false)), none, [50, 53]⟩,
  .op ⟨some 111, .mv (.t 110), none, [52, 54]⟩,
  .op ⟨some 112, .mv (.t 14), some (111, true), [55]⟩,
  .op ⟨some 113, .bin .eql (.t 112) (.c (.int .i64 0)), some (111, true), [55, 56]⟩,
  .op ⟨some 114, .pick (.t 111) (.t 113) (.c (.bool false)), none, [55, 57]⟩,
  .op ⟨some 115, .mv (.t 114), none, [55, 58]⟩,
  .op ⟨some 116, .mv (.t 13), some (115, true), [59]⟩] 0 0 [
  ⟨some 117, .raw (Go.Op.convert 67 9 (Go.Operand.tmp 116)) 9, some (115, true), [59, 60]⟩,
  ⟨some 118, .raw (Go.Op.binOp Go.BinOp.eql 9 (Go.Operand.tmp 117) (Go.Operand.const (Go.Value.string { data := #[2, 1, 0] })) 9) 4, some (115, true), [59, 61]⟩,
  ⟨some 119, .pick (.t 115) (.t 118) (.c (.bool false)), none, [59, 62]⟩,
  ⟨some 0, .mv (.t 119), none, [0, 1, 2, 3, 4, 5, 6, 7, 8, 9, 10, 11, 12, 13, 14, 15, 16, 17, 18, 19, 20, 21, 22, 23, 24, 25, 26, 27, 28, 29, 30, 31, 32, 33, 34, 35, 36, 37, 38, 39, 40, 41, 42, 43, 44, 45, 46, 47, 48, 49, 50, 51, 52, 53, 54, 55, 56, 57, 58, 59, 60, 61, 62, 63]⟩])
  .ret))))))))
def r38 : List RV := [.tmp 0]
theorem n38 : Try.f38.ntmps = 120 := by kernel_rfl
theorem b38 : bodyB Try.prog 38 = true := by kernel_rfl
theorem c38_ok : cmpC Try.prog c38 ((Try.f38.body).getD .skip) = true := by kernel_rfl
theorem r38_ok : cmpR Try.prog r38 Try.f38.results.toList = true := by kernel_rfl
theorem t38 {args : List SV} {res : SV} (ka : KFL args) (kr : KF res) (h : sx Try.prog Y0 0 c38 (st0 args 120) (retK r38 res)) (hA : Nat.ble args.length 120 = true := by rfl) : Ct Try.prog 38 args res := ct_intro Try.func38 rfl b38 c38_ok r38_ok n38 (Nat.le_of_ble_eq_true hA) ka kr h
def c39 : SC := (.seq (.reg [
  ⟨some 3, .box (.t 0) 0 25, none, []⟩,
  ⟨some 4, .box (.t 1) 0 27, none, []⟩,
  ⟨some 6, .mv (.c (.bool false)), none, []⟩])
  (.seq (.seq (.reg [
  ⟨some 9, .ld (.t 3) 17 true, none, []⟩,
  ⟨some 10, .ld (.t 4) 7 true, none, []⟩,
  ⟨some 11, .call 23 [.t 9, .t 10], none, []⟩,
  ⟨some 12, .bin .neq (.t 11) (.c (.int .i64 0)), none, []⟩,
  ⟨some 13, .mv (.t 12), none, []⟩,
  ⟨some 14, .mv (.t 2), some (13, false), []⟩,
  ⟨some 15, .len (.t 14), some (13, false), []⟩,
  ⟨some 16, .bin .gtr (.t 15) (.c (.int .i64 60)), some (13, false), []⟩,
  ⟨some 17, .pick (.t 13) (.c (.bool true)) (.t 16), none, []⟩])
  (.cond (.t 17)
  (.seq (.reg [
   ⟨some 6, .mv (.c (.bool false)), none, []⟩])
   .ret)
  .skip))
  (.seq (.seq (.reg [
  ⟨some 18, .mv (.t 2), none, []⟩,
  ⟨some 19, .len (.t 18), none, []⟩,
  ⟨some 20, .mv (.c (.int .i64 0)), none, []⟩])
  (.block 0 (.loop (.seq (.reg [
    ⟨some 21, .bin .lss (.t 20) (.t 19), none, []⟩])
    (.seq (.cond (.t 21)
    .skip
    (.exit 0))
    (.seq (.block 1 (.seq (.reg [
     ⟨some 22, .ixs (.t 18) (.t 20) 8, none, []⟩,
     ⟨some 23, .ld (.t 22) 8 true, none, []⟩,
     ⟨some 8, .alloc [.int .i64 0, .int .i64 0, .int .i64 0, .int .i64 0, .int .i64 0, .int .i64 0, .int .i64 0, .int .i64 0] 29, none, []⟩,
     ⟨none, .st (.t 8) (.t 23) 8, none, []⟩])
     (.seq (.reg [
     ⟨some 24, .ld (.t 8) 8 true, none, []⟩,
     ⟨some 25, .call 62 [.t 24], none, []⟩,
     ⟨some 26, .un .not (.t 25), none, []⟩])
     (.cond (.t 26)
     (.seq (.reg [
      ⟨some 6, .mv (.c (.bool false)), none, []⟩])
      .ret)
     .skip))))
    (.reg [
    ⟨some 27, .bin .add (.t 20) (.c (.int .i64 1)), none, []⟩,
    ⟨some 20, .mv (.t 27), none, []⟩])))))))
  (.seq (.reg [
  ⟨some 6, .mv (.c (.bool true)), none, []⟩])
  .ret))))
def r39 : List RV := [.tmp 6]
theorem n39 : Try.f39.ntmps = 28 := by kernel_rfl
theorem b39 : bodyB Try.prog 39 = true := by kernel_rfl
theorem c39_ok : cmpC Try.prog c39 ((Try.f39.body).getD .skip) = true := by kernel_rfl
theorem r39_ok : cmpR Try.prog r39 Try.f39.results.toList = true := by kernel_rfl
theorem t39 {args : List SV} {res : SV} (ka : KFL args) (kr : KF res) (h : sx Try.prog Y0 0 c39 (st0 args 28) (retK r39 res)) (hA : Nat.ble args.length 28 = true := by rfl) : Ct Try.prog 39 args res := ct_intro Try.func39 rfl b39 c39_ok r39_ok n39 (Nat.le_of_ble_eq_true hA) ka kr h
def c45 : SC := (.seq (.reg [
  ⟨some 4, .mv (.c (.int .u32 0)), none, []⟩])
  (.seq (.seq (.reg [
  ⟨some 5, .mv (.t 0), none, []⟩,
  ⟨some 6, .len (.t 5), none, []⟩,
  ⟨some 7, .bin .eql (.t 6) (.c (.int .i64 0)), none, []⟩])
  (.cond (.t 7)
  (.seq (.reg [
   ⟨some 4, .mv (.c (.int .u32 0)), none, []⟩])
   .ret)
  .skip))
  (.seq (.reg [
  ⟨some 8, .mv (.t 0), none, []⟩,
  ⟨some 9, .mv (.t 1), none, []⟩,
  ⟨some 10, .mv (.t 0), none, []⟩,
  ⟨some 11, .len (.t 10), none, []⟩,
  ⟨some 12, .div .rem (.t 9) (.t 11), none, []⟩,
  ⟨some 13, .ixs (.t 8) (.t 12) 1, none, []⟩,
  ⟨some 14, .ld (.t 13) 1 false, none, []⟩,
  ⟨some 4, .mv (.t 14), none, []⟩])
  .ret)))
def r45 : List RV := [.tmp 4]
theorem n45 : Try.f45.ntmps = 15 := by kernel_rfl
theorem b45 : bodyB Try.prog 45 = true := by kernel_rfl
theorem c45_ok : cmpC Try.prog c45 ((Try.f45.body).getD .skip) = true := by kernel_rfl
theorem r45_ok : cmpR Try.prog r45 Try.f45.results.toList = true := by kernel_rfl
theorem t45 {args : List SV} {res : SV} (ka : KFL args) (kr : KF res) (h : sx Try.prog Y0 0 c45 (st0 args 15) (retK r45 res)) (hA : Nat.ble args.length 15 = true := by rfl) : Ct Try.prog 45 args res := ct_intro Try.func45 rfl b45 c45_ok r45_ok n45 (Nat.le_of_ble_eq_true hA) ka kr h
def c48 : SC := (.seq (.reg [
  ⟨some 4, .alloc [.int .i64 0, .int .i64 0] 23, none, []⟩])
  (.seq (.reg [
  ⟨some 5, .mv (.t 0), none, []⟩,
  ⟨some 6, .mv (.t 1), none, []⟩,
  ⟨some 7, .build [.int .i64 0, .int .i64 0] [(0, 1, .t 5), (1, 1, .t 6)], none, []⟩,
  ⟨none, .st (.t 4) (.t 7) 2, none, []⟩])
  .ret))
def r48 : List RV := [.cell 4 2 true]
theorem n48 : Try.f48.ntmps = 8 := by kernel_rfl
theorem b48 : bodyB Try.prog 48 = true := by kernel_rfl
theorem c48_ok : cmpC Try.prog c48 ((Try.f48.body).getD .skip) = true := by kernel_rfl
theorem r48_ok : cmpR Try.prog r48 Try.f48.results.toList = true := by kernel_rfl
theorem t48 {args : List SV} {res : SV} (ka : KFL args) (kr : KF res) (h : sx Try.prog Y0 0 c48 (st0 args 8) (retK r48 res)) (hA : Nat.ble args.length 8 = true := by rfl) : Ct Try.prog 48 args res := ct_intro Try.func48 rfl b48 c48_ok r48_ok n48 (Nat.le_of_ble_eq_true hA) ka kr h
def c51 : SC := (.seq (.reg [
  ⟨some 0, .mv (.c (.slice none 0 0)), none, []⟩])
  (.seq (.reg [
  ⟨some 1, .build [.int .i64 0, .int .i64 0, .int .i64 0, .bool false] [(0, 1, .c (.int .i64 0)), (1, 1, .c (.int .i64 1)), (2, 1, .c (.int .i64 5))], none, []⟩,
  ⟨some 2, .build [.int .i64 0, .int .i64 0, .int .i64 0, .bool false] [(0, 1, .c (.int .i64 1)), (1, 1, .c (.int .i64 2)), (2, 1, .c (.int .i64 9)), (3, 1, .c (.bool true))], none, []⟩,
  ⟨some 3, .bsl 4 73 [.t 1, .t 2], none, []⟩,
  ⟨some 0, .mv (.t 3), none, []⟩])
  .ret))
def r51 : List RV := [.tmp 0]
theorem n51 : Try.f51.ntmps = 4 := by kernel_rfl
theorem b51 : bodyB Try.prog 51 = true := by kernel_rfl
theorem c51_ok : cmpC Try.prog c51 ((Try.f51.body).getD .skip) = true := by kernel_rfl
theorem r51_ok : cmpR Try.prog r51 Try.f51.results.toList = true := by kernel_rfl
theorem t51 {args : List SV} {res : SV} (ka : KFL args) (kr : KF res) (h : sx Try.prog Y0 0 c51 (st0 args 4) (retK r51 res)) (hA : Nat.ble args.length 4 = true := by rfl) : Ct Try.prog 51 args res := ct_intro Try.func51 rfl b51 c51_ok r51_ok n51 (Nat.le_of_ble_eq_true hA) ka kr h
def c52 : SC := (.seq (.reg [
  ⟨some 0, .alloc [.int .i64 0, .int .i64 0, .int .i64 0, .int .i64 0, .int .i64 0, .int .i64 0, .int .i64 0, .int .i64 0, .int .i64 0, .int .i64 0, .int .i64 0, .int .i64 0, .int .i64 0, .int .i64 0, .int .i64 0, .int .i64 0, .int .i64 0] 25, none, []⟩])
  (.seq (.reg [
  ⟨some 1, .call 48 [.c (.int .i64 2000), .c (.int .i64 2500)], none, []⟩,
  ⟨some 2, .call 48 [.c (.int .i64 100), .c (.int .i64 100)], none, []⟩,
  ⟨some 3, .call 48 [.c (.int .i64 200), .c (.int .i64 250)], none, []⟩,
  ⟨some 4, .call 48 [.c (.int .i64 40), .c (.int .i64 50)], none, []⟩,
  ⟨some 5, .call 48 [.c (.int .i64 100), .c (.int .i64 200)], none, []⟩,
  ⟨some 6, .call 48 [.c (.int .i64 1000), .c (.int .i64 1500)], none, []⟩,
  ⟨some 7, .call 48 [.c (.int .i64 150000), .c (.int .i64 200000)], none, []⟩,
  ⟨some 8, .build [.int .i64 0, .int .i64 0, .int .i64 0, .int .i64 0, .int .i64 0, .int .i64 0, .int .i64 0, .int .i64 0, .int .i64 0, .int .i64 0, .int .i64 0, .int .i64 0, .int .i64 0, .int .i64 0, .int .i64 0, .int .i64 0, .int .i64 0] [(0, 1, .c (.int .i64 100000)), (1, 1, .c (.int .i64 50000)), (2, 2, .t 1), (4, 2, .t 2), (6, 2, .t 3), (8, 2, .t 4), (10, 2, .t 5), (12, 2, .t 6), (14, 1, .c (.int .i64 50)), (15, 2, .t 7)], none, []⟩,
  ⟨none, .st (.t 0) (.t 8) 17, none, []⟩])
  .ret))
def r52 : List RV := [.cell 0 17 true]
theorem n52 : Try.f52.ntmps = 9 := by kernel_rfl
theorem b52 : bodyB Try.prog 52 = true := by kernel_rfl
theorem c52_ok : cmpC Try.prog c52 ((Try.f52.body).getD .skip) = true := by kernel_rfl
theorem r52_ok : cmpR Try.prog r52 Try.f52.results.toList = true := by kernel_rfl
theorem t52 {args : List SV} {res : SV} (ka : KFL args) (kr : KF res) (h : sx Try.prog Y0 0 c52 (st0 args 9) (retK r52 res)) (hA : Nat.ble args.length 9 = true := by rfl) : Ct Try.prog 52 args res := ct_intro Try.func52 rfl b52 c52_ok r52_ok n52 (Nat.le_of_ble_eq_true hA) ka kr h
def c53 : SC := (.seq (.reg [
  ⟨some 0, .alloc [.int .i64 0, .int .i64 0, .int .i64 0, .int .i64 0, .int .i64 0, .int .i64 0, .bool false] 27, none, []⟩])
  (.seq (.reg [
  ⟨some 1, .call 48 [.c (.int .i64 60000), .c (.int .i64 70000)], none, []⟩,
  ⟨some 2, .call 48 [.c (.int .i64 20000), .c (.int .i64 30000)], none, []⟩,
  ⟨some 3, .call 48 [.c (.int .i64 0), .c (.int .i64 100)], none, []⟩,
  ⟨some 4, .build [.int .i64 0, .int .i64 0, .int .i64 0, .int .i64 0, .int .i64 0, .int .i64 0, .bool false] [(0, 2, .t 1), (2, 2, .t 2), (4, 2, .t 3)], none, []⟩,
  ⟨none, .st (.t 0) (.t 4) 7, none, []⟩])
  .ret))
def r53 : List RV := [.cell 0 7 true]
theorem n53 : Try.f53.ntmps = 5 := by kernel_rfl
theorem b53 : bodyB Try.prog 53 = true := by kernel_rfl
theorem c53_ok : cmpC Try.prog c53 ((Try.f53.body).getD .skip) = true := by kernel_rfl
theorem r53_ok : cmpR Try.prog r53 Try.f53.results.toList = true := by kernel_rfl
theorem t53 {args : List SV} {res : SV} (ka : KFL args) (kr : KF res) (h : sx Try.prog Y0 0 c53 (st0 args 5) (retK r53 res)) (hA : Nat.ble args.length 5 = true := by rfl) : Ct Try.prog 53 args res := ct_intro Try.func53 rfl b53 c53_ok r53_ok n53 (Nat.le_of_ble_eq_true hA) ka kr h
def c54 : SC := (.seq (.reg [
  ⟨some 0, .alloc [.int .i64 0, .int .i64 0, .int .i64 0, .int .i64 0, .int .i64 0, .int .i64 0, .int .i64 0, .int .i64 0] 29, none, []⟩])
  (.seq (.reg [
  ⟨some 1, .call 48 [.c (.int .i64 30), .c (.int .i64 40)], none, []⟩,
  ⟨some 2, .build [.int .i64 0, .int .i64 0, .int .i64 0, .int .i64 0, .int .i64 0, .int .i64 0, .int .i64 0, .int .i64 0] [(0, 1, .c (.int .i64 10)), (1, 1, .c (.int .i64 100000)), (2, 2, .t 1)], none, []⟩,
  ⟨none, .st (.t 0) (.t 2) 8, none, []⟩])
  .ret))
def r54 : List RV := [.cell 0 8 true]
theorem n54 : Try.f54.ntmps = 3 := by kernel_rfl
theorem b54 : bodyB Try.prog 54 = true := by kernel_rfl
theorem c54_ok : cmpC Try.prog c54 ((Try.f54.body).getD .skip) = true := by kernel_rfl
theorem r54_ok : cmpR Try.prog r54 Try.f54.results.toList = true := by kernel_rfl
theorem t54 {args : List SV} {res : SV} (ka : KFL args) (kr : KF res) (h : sx Try.prog Y0 0 c54 (st0 args 3) (retK r54 res)) (hA : Nat.ble args.length 3 = true := by rfl) : Ct Try.prog 54 args res := ct_intro Try.func54 rfl b54 c54_ok r54_ok n54 (Nat.le_of_ble_eq_true hA) ka kr h
end Go.Proofs.Ytnlfjchbhgikaaa
set_option maxRecDepth 100000
set_option maxHeartbeats 4000000
namespace Go.Azalai
def W32 := {n : Int // 0 ≤ n ∧ n < 4294967296}
def atF (l : List W32) (i : Nat) : Int := match l[i % l.length]? with | some x => x.val | none => 0
theorem atF_bd (l : List W32) (i : Nat) : 0 ≤ atF l i ∧ atF l i < 4294967296 := by
  unfold atF; split
  · rename_i x _; exact x.property
  · omega
def breedE : Breed := ⟨100000, 50000, ⟨2000, 2500⟩, ⟨100, 100⟩, ⟨200, 250⟩, ⟨40, 50⟩, ⟨100, 200⟩, ⟨1000, 1500⟩, 50, ⟨150000, 200000⟩⟩
def animalE : Camel := ⟨⟨60000, 70000⟩, ⟨20000, 30000⟩, ⟨0, 100⟩, false⟩
def dayE : March := ⟨10, 100000, ⟨30, 40⟩, ⟨0, 0⟩, ⟨0, 0⟩⟩
def readyF (b : Breed) (c : Camel) (l : List March) : Bool := decide (errC b c = 0) && decide (l.length ≤ 60) && l.all okMarch
end Go.Azalai
namespace Go.Proofs.Ytnlfjchbhgikaaa
open Go Go.Sx Go.Azalai
def U32 (n : Int) : SV := .v (.int .u32 n)
def w32L (x : W32) : List SV := [U32 x.val]
theorem wf32 {n : Int} (h : (Lit.int .u32 n).wf = true) : 0 ≤ n ∧ n < 4294967296 := by
  simp only [Lit.wf, Bool.and_eq_true, decide_eq_true_eq] at h
  have e1 : IntKind.u32.min = 0 := rfl
  have e2 : IntKind.u32.max = 4294967295 := rfl
  omega
theorem span_ok (lo hi : Int) : Ct Try.prog 48 [I lo, I hi] (.agg [I lo, I hi]) := by
  refine t48 (by simp [KFL, KF]) (by simp [KFL, KF]) ?_
  dsimp only [c48, r48, go_sem, Nat.reduceAdd, Nat.reduceMul, Nat.reduceSub]
theorem breedE_ok : Ct Try.prog 52 [] (.agg (breedL breedE)) := by
  refine t52 (by simp [KFL, KF]) (by simp [breedL, KFL, KF]) ?_
  dsimp only [c52, r52, go_sem, Nat.reduceAdd, Nat.reduceMul, Nat.reduceSub]
  repeat (first | (refine call (span_ok _ _) ?_; dsimp only [go_sem, Nat.reduceAdd, Nat.reduceMul, Nat.reduceSub]))
  rfl
theorem animalE_ok : Ct Try.prog 53 [] (.agg (camelL animalE)) := by
  refine t53 (by simp [KFL, KF]) (by simp [camelL, KFL, KF]) ?_
  dsimp only [c53, r53, go_sem, Nat.reduceAdd, Nat.reduceMul, Nat.reduceSub]
  repeat (first | (refine call (span_ok _ _) ?_; dsimp only [go_sem, Nat.reduceAdd, Nat.reduceMul, Nat.reduceSub]))
  rfl
theorem dayE_ok : Ct Try.prog 54 [] (.agg (marchL dayE)) := by
  refine t54 (by simp [KFL, KF]) (by simp [marchL, KFL, KF]) ?_
  dsimp only [c54, r54, go_sem, Nat.reduceAdd, Nat.reduceMul, Nat.reduceSub]
  repeat (first | (refine call (span_ok _ _) ?_; dsimp only [go_sem, Nat.reduceAdd, Nat.reduceMul, Nat.reduceSub]))
  rfl
theorem at_ok (l : List W32) (i : Nat) (hl : l.length ≤ 9223372036854775807) (hi : i ≤ 1000000) (c : Bool) : Ct Try.prog 45 [.sl c 1 (l.map w32L), I i] (U32 (atF l i)) := by
  refine t45 (by simp [KFR_iff, w32L, U32, KFL, KF]) (by simp [U32, KFL, KF]) ?_
  dsimp only [c45, r45, go_sem, Nat.reduceAdd, Nat.reduceMul, Nat.reduceSub]
  simp only [List.length_map]
  by_cases h0 : l.length = 0
  · refine br_t (by simpa using h0) ?_
    dsimp only [go_sem, Nat.reduceAdd, Nat.reduceMul, Nat.reduceSub]
    have : l = [] := List.eq_nil_of_length_eq_zero h0
    subst this
    rfl
  refine br_f (by simpa using h0) ?_
  dsimp only [go_sem, Nat.reduceAdd, Nat.reduceMul, Nat.reduceSub]
  refine div0 (by simpa using h0) ?_
  dsimp only [go_sem, Nat.reduceAdd, Nat.reduceMul, Nat.reduceSub]
  have hlt : i % l.length < l.length := Nat.mod_lt _ (by omega)
  simp only [List.length_map, divr]
  rw [show ((i : Int)).tmod (l.length : Int) = ((i % l.length : Nat) : Int) from by rw [Int.tmod_eq_emod_of_nonneg (by omega)]; rfl]
  refine ixs_map (i % l.length) hlt rfl ?_
  dsimp only [w32L, U32, go_sem, Nat.reduceAdd, Nat.reduceMul, Nat.reduceSub]
  unfold atF
  rw [List.getElem?_eq_getElem hlt]
theorem ready_ok (b : Breed) (c : Camel) (l : List March) (hl : l.length < 4611686018427387904) (k : Bool) : Ct Try.prog 39 [.agg (breedL b), .agg (camelL c), .sl k 8 (l.map marchL)] (B (readyF b c l)) := by
  refine t39 (by simp [breedL, camelL, marchL, KFR_iff, KFL, KF]) (by simp [KFL, KF]) ?_
  dsimp only [c39, r39, breedL, camelL, go_sem, Nat.reduceAdd, Nat.reduceMul, Nat.reduceSub]
  refine call (checkCamelR_ok b c) ?_
  dsimp only [go_sem, Nat.reduceAdd, Nat.reduceMul, Nat.reduceSub]
  repeat (refine gb ?_; dsimp only [go_sem, Nat.reduceAdd, Nat.reduceMul, Nat.reduceSub])
  simp only [List.length_map]
  by_cases h1 : errC b c ≠ 0 ∨ l.length > 60
  · refine br_t (by simp; omega) ?_
    dsimp only [go_sem, Nat.reduceAdd, Nat.reduceMul, Nat.reduceSub]
    unfold readyF
    rcases h1 with h | h
    · simp [h]
    · rw [show decide (l.length ≤ 60) = false from by simp; omega]; simp
  refine br_f (by simp; omega) ?_
  dsimp only [go_sem, Nat.reduceAdd, Nat.reduceMul, Nat.reduceSub]
  simp only [List.length_map]
  have hF : readyF b c l = l.all okMarch := by
    unfold readyF
    rw [show decide (errC b c = 0) = true from by simp; omega, show decide (l.length ≤ 60) = true from by simp; omega]; simp
  rw [hF]
  refine loopO (fun j : Nat => [(20, I j)]) (fun _ => []) (fun j => j ≤ l.length ∧ (l.drop j).all okMarch = l.all okMarch) (fun j => l.length - j) 0 ⟨Nat.zero_le _, rfl⟩ ?_ ?_
  · (refine ent_id ?_ ?_ ?_ rfl rfl <;> dsimp only [breedL, camelL, marchL, id, go_sem, Nat.reduceAdd, Nat.reduceMul, Nat.reduceSub] <;> simp [breedL, camelL, marchL, KFR_iff, KFR_app, KFR, KFL, KF, mtL_same, mtO, Nat.beq_refl])
  rintro j ⟨hj, hi⟩
  dsimp only [go_sem, Nat.reduceAdd, Nat.reduceMul, Nat.reduceSub]
  by_cases hlt : j < l.length
  · refine br_t (by simpa using hlt) ?_
    dsimp only [go_sem, Nat.reduceAdd, Nat.reduceMul, Nat.reduceSub]
    refine ixs_map j hlt rfl ?_
    dsimp only [marchL, go_sem, Nat.reduceAdd, Nat.reduceMul, Nat.reduceSub]
    refine call (marchR_ok l[j]) ?_
    dsimp only [go_sem, Nat.reduceAdd, Nat.reduceMul, Nat.reduceSub]
    rw [List.drop_eq_getElem_cons hlt, List.all_cons] at hi
    by_cases hm : okMarch l[j] = true
    · refine br_f (by simp [hm]) ?_
      dsimp only [go_sem, Nat.reduceAdd, Nat.reduceMul, Nat.reduceSub]
      rw [w64_in (n := (j : Int) + 1) (by omega) (by omega)]
      refine ⟨j + 1, ⟨hlt, by simpa [hm] using hi⟩, by omega, ?_⟩
      (refine ent_id ?_ ?_ ?_ rfl rfl <;> dsimp only [breedL, camelL, marchL, id, go_sem, Nat.reduceAdd, Nat.reduceMul, Nat.reduceSub] <;> simp [breedL, camelL, marchL, KFR_iff, KFR_app, KFR, KFL, KF, mtL_same, mtO, Nat.beq_refl])
    · refine br_t (by simp [hm]) ?_
      dsimp only [go_sem, Nat.reduceAdd, Nat.reduceMul, Nat.reduceSub]
      rw [← hi]; simp [hm]
  refine br_f (by simp; omega) ?_
  dsimp only [go_sem, Nat.reduceAdd, Nat.reduceMul, Nat.reduceSub]
  rw [show j = l.length from by omega, List.drop_length] at hi
  rw [← hi]
  simp
end Go.Proofs.Ytnlfjchbhgikaaa
set_option maxRecDepth 100000
namespace Go.Proofs.Ytnlfjchbhgikaaa
open Go Go.Sx
def c6 : SC := (.seq (.reg [
  ⟨some 8, .box (.t 3) 0 23, none, []⟩,
  ⟨some 10, .mv (.c (.bool false)), none, []⟩])
  (.seq (.seq (.reg [
  ⟨some 18, .mv (.t 1), none, []⟩,
  ⟨some 19, .len (.t 18), none, []⟩,
  ⟨some 20, .bin .gtr (.t 19) (.c (.int .i64 50)), none, []⟩,
  ⟨some 21, .mv (.t 20), none, []⟩,
  ⟨some 22, .mv (.t 2), some (21, false), []⟩,
  ⟨some 23, .len (.t 22), some (21, false), []⟩,
  ⟨some 24, .bin .gtr (.t 23) (.c (.int .i64 250)), some (21, false), []⟩,
  ⟨some 25, .pick (.t 21) (.c (.bool true)) (.t 24), none, []⟩])
  (.cond (.t 25)
  (.seq (.reg [
   ⟨some 10, .mv (.c (.bool true)), none, []⟩])
   .ret)
  .skip))
  (.seq (.reg [
  ⟨some 26, .bsl 1 3 [], none, []⟩,
  ⟨some 27, .mv (.t 1), none, []⟩,
  ⟨some 28, .app 1 8 3 (.t 26) (.t 27), none, []⟩,
  ⟨some 29, .bsl 4 73 [], none, []⟩,
  ⟨some 30, .mv (.t 2), none, []⟩,
  ⟨some 31, .app 4 32 73 (.t 29) (.t 30), none, []⟩,
  ⟨some 11, .mv (.t 28), none, []⟩,
  ⟨some 12, .mv (.t 31), none, []⟩])
  (.seq (.reg [
  ⟨some 33, .mv (.t 0), none, []⟩,
  ⟨some 34, .mv (.t 11), none, []⟩,
  ⟨some 35, .mv (.t 12), none, []⟩,
  ⟨some 36, .ld (.t 8) 2 true, none, []⟩,
  ⟨some 37, .mv (.t 4), none, []⟩,
  ⟨some 38, .call 35 [.t 33, .t 34, .t 35, .t 36, .t 37], none, []⟩,
  ⟨some 32, .mv (.t 38), none, []⟩,
  ⟨some 39, .ext (.t 32) 0, none, []⟩,
  ⟨some 40, .ext (.t 32) 1, none, []⟩,
  ⟨some 13, .mv (.t 39), none, []⟩,
  ⟨some 14, .mv (.t 40), none, []⟩])
  (.seq (.reg [
  ⟨some 42, .mv (.t 0), none, []⟩,
  ⟨some 43, .mv (.t 1), none, []⟩,
  ⟨some 44, .mv (.t 2), none, []⟩,
  ⟨some 45, .ld (.t 8) 2 true, none, []⟩,
  ⟨some 46, .mv (.t 4), none, []⟩,
  ⟨some 47, .call 36 [.t 42, .t 43, .t 44, .t 45, .t 46], none, []⟩,
  ⟨some 41, .mv (.t 47), none, []⟩,
  ⟨some 48, .ext (.t 41) 0, none, []⟩,
  ⟨some 49, .ext (.t 41) 1, none, []⟩,
  ⟨some 15, .mv (.t 48), none, []⟩,
  ⟨some 16, .mv (.t 49), none, []⟩])
  (.seq (.seq (.reg [
  ⟨some 50, .mv (.t 2), none, []⟩,
  ⟨some 51, .len (.t 50), none, []⟩,
  ⟨some 52, .mv (.c (.int .i64 0)), none, []⟩])
  (.block 0 (.loop (.seq (.reg [
    ⟨some 53, .bin .lss (.t 52) (.t 51), none, []⟩])
    (.seq (.cond (.t 53)
    .skip
    (.exit 0))
    (.seq (.block 1 (.seq (.reg [
     ⟨some 54, .mv (.t 52), none, []⟩,
     ⟨some 17, .mv (.t 54), none, []⟩])
     (.seq (.regd [0, 1, 2, 3, 4, 5, 6, 7, 8] [
     .op ⟨some 55, .mv (.t 12), none, []⟩,
     .op ⟨some 56, .mv (.t 17), none, []⟩,
     .op ⟨some 57, .ixs (.t 55) (.t 56) 4, none, [0, 1]⟩,
     .op ⟨some 58, .ld (.t 57) 4 true, none, [2]⟩,
     .op ⟨some 59, .mv (.t 2), none, []⟩,
     .op ⟨some 60, .mv (.t 17), none, []⟩,
     .op ⟨some 61, .ixs (.t 59) (.t 60) 4, none, [4, 5]⟩,
     .op ⟨some 62, .ld (.t 61) 4 true, none, [6]⟩,
     .op ⟨some 63, .eqs true true [1, 1, 1, 0] (.t 58) (.t 62), none, [3, 7]⟩] 0 0 [
])
     (.cond (.t 63)
     (.seq (.reg [
      ⟨some 10, .mv (.c (.bool false)), none, []⟩])
      .ret)
     .skip))))
    (.reg [
    ⟨some 64, .bin .add (.t 52) (.c (.int .i64 1)), none, []⟩,
    ⟨some 52, .mv (.t 64), none, []⟩])))))))
  (.seq (.reg [
  ⟨some 65, .mv (.t 13), none, []⟩,
  ⟨some 66, .raw (Go.Op.convert 67 9 (Go.Operand.tmp 65)) 9, none, []⟩,
  ⟨some 67, .mv (.t 15), none, []⟩,
  ⟨some 68, .raw (Go.Op.convert 67 9 (Go.Operand.tmp 67)) 9, none, []⟩,
  ⟨some 69, .raw (Go.Op.binOp Go.BinOp.eql 9 (Go.Operand.tmp 66) (Go.Operand.tmp 68) 9) 4, none, []⟩,
  ⟨some 70, .mv (.t 69), none, []⟩,
  ⟨some 71, .mv (.t 14), some (70, true), []⟩,
  ⟨some 72, .mv (.t 16), some (70, true), []⟩,
  ⟨some 73, .bin .eql (.t 71) (.t 72), some (70, true), []⟩,
  ⟨some 74, .pick (.t 70) (.t 73) (.c (.bool false)), none, []⟩,
  ⟨some 75, .mv (.t 74), none, []⟩,
  ⟨some 76, .mv (.t 11), some (75, true), []⟩,
  ⟨some 77, .mv (.t 1), some (75, true), []⟩,
  ⟨some 78, .call 37 [.t 76, .t 77], some (75, true), []⟩,
  ⟨some 79, .pick (.t 75) (.t 78) (.c (.bool false)), none, []⟩,
  ⟨some 10, .mv (.t 79), none, []⟩])
  .ret)))))))
def r6 : List RV := [.tmp 10]
def c35 : SC := (.seq (.reg [
  ⟨some 5, .box (.t 0) 0 3, none, []⟩,
  ⟨some 8, .box (.t 3) 0 23, none, []⟩,
  ⟨some 10, .mv (.c (.slice none 0 0)), none, []⟩,
  ⟨some 11, .mv (.c (.int .i64 0)), none, []⟩])
  (.seq (.seq (.reg [
  ⟨some 19, .ld (.t 5) 1 false, none, []⟩,
  ⟨some 20, .bsl 1 3 [.t 19], none, []⟩,
  ⟨some 21, .call 64 [.c (.int .i64 1), .c (.int .i64 30), .t 20], none, []⟩,
  ⟨some 22, .un .not (.t 21), none, []⟩,
  ⟨some 23, .mv (.t 22), none, []⟩,
  ⟨some 24, .ld (.t 8) 2 true, some (23, false), []⟩,
  ⟨some 25, .bsl 2 23 [.t 24], some (23, false), []⟩,
  ⟨some 26, .call 65 [.c (.int .i64 1), .c (.int .i64 60), .t 25], some (23, false), []⟩,
  ⟨some 27, .un .not (.t 26), some (23, false), []⟩,
  ⟨some 28, .pick (.t 23) (.c (.bool true)) (.t 27), none, []⟩,
  ⟨some 29, .mv (.t 28), none, []⟩,
  ⟨some 30, .mv (.t 4), some (29, false), []⟩,
  ⟨some 31, .bsl 1 3 [.t 30], some (29, false), []⟩,
  ⟨some 32, .call 64 [.c (.int .i64 0), .c (.int .i64 100000), .t 31], some (29, false), []⟩,
  ⟨some 33, .un .not (.t 32), some (29, false), []⟩,
  ⟨some 34, .pick (.t 29) (.c (.bool true)) (.t 33), none, []⟩])
  (.cond (.t 34)
  (.seq (.reg [
   ⟨some 10, .mv (.c (.slice none 0 0)), none, []⟩,
   ⟨some 11, .mv (.c (.int .i64 2)), none, []⟩])
   .ret)
  .skip))
  (.seq (.seq (.reg [
  ⟨some 35, .mv (.t 1), none, []⟩,
  ⟨some 36, .len (.t 35), none, []⟩,
  ⟨some 37, .bin .gtr (.t 36) (.c (.int .i64 30)), none, []⟩,
  ⟨some 38, .mv (.t 37), none, []⟩,
  ⟨some 39, .mv (.t 2), some (38, false), []⟩,
  ⟨some 40, .len (.t 39), some (38, false), []⟩,
  ⟨some 41, .bin .gtr (.t 40) (.c (.int .i64 200)), some (38, false), []⟩,
  ⟨some 42, .pick (.t 38) (.c (.bool true)) (.t 41), none, []⟩])
  (.cond (.t 42)
  (.seq (.reg [
   ⟨some 10, .mv (.c (.slice none 0 0)), none, []⟩,
   ⟨some 11, .mv (.c (.int .i64 4)), none, []⟩])
   .ret)
  .skip))
  (.seq (.reg [
  ⟨some 43, .mkf 77 [.t 5], none, []⟩,
  ⟨some 12, .mv (.t 43), none, []⟩])
  (.seq (.seq (.reg [
  ⟨some 44, .ld (.t 5) 1 false, none, []⟩,
  ⟨some 45, .bin .sub (.t 44) (.c (.int .i64 1)), none, []⟩,
  ⟨some 46, .mv (.t 1), none, []⟩,
  ⟨some 47, .call 64 [.c (.int .i64 0), .t 45, .t 46], none, []⟩,
  ⟨some 48, .un .not (.t 47), none, []⟩,
  ⟨some 49, .mv (.t 48), none, []⟩,
  ⟨some 50, .mv (.t 2), some (49, false), []⟩,
  ⟨some 51, .mv (.t 12), some (49, false), []⟩,
  ⟨some 52, .call 78 [.t 50, .t 51], some (49, false), []⟩,
  ⟨some 53, .pick (.t 49) (.c (.bool true)) (.t 52), none, []⟩])
  (.cond (.t 53)
  (.seq (.reg [
   ⟨some 10, .mv (.c (.slice none 0 0)), none, []⟩,
   ⟨some 11, .mv (.c (.int .i64 14)), none, []⟩])
   .ret)
  .skip))
  (.seq (.reg [
  ⟨some 54, .mv (.t 2), none, []⟩,
  ⟨some 55, .callm 79 [.t 54], none, []⟩,
  ⟨some 13, .mv (.t 55), none, []⟩])
  (.gh (.seq (.reg [
  ⟨some 56, .mv (.t 13), none, []⟩,
  ⟨some 57, .callm 80 [.t 56, .f 81], none, []⟩])
  (.gh (.seq (.reg [
  ⟨some 58, .ld (.t 5) 1 false, none, []⟩,
  ⟨some 59, .mv (.t 1), none, []⟩,
  ⟨some 60, .mv (.t 13), none, []⟩,
  ⟨some 61, .addo (.t 8) 0, none, []⟩,
  ⟨some 62, .ld (.t 61) 1 false, none, []⟩,
  ⟨some 63, .mv (.t 4), none, []⟩,
  ⟨some 64, .call 83 [.t 58, .t 59, .t 60, .t 62, .t 63], none, []⟩,
  ⟨some 14, .mv (.t 64), none, []⟩])
  (.seq (.reg [
  ⟨some 65, .mv (.t 13), none, []⟩,
  ⟨some 66, .callm 79 [.t 65], none, []⟩,
  ⟨some 67, .callm 84 [.t 66, .f 85], none, []⟩,
  ⟨some 15, .mv (.t 67), none, []⟩])
  (.gh (.seq (.reg [
  ⟨some 68, .ld (.t 5) 1 false, none, []⟩,
  ⟨some 69, .mv (.t 1), none, []⟩,
  ⟨some 70, .mv (.t 15), none, []⟩,
  ⟨some 71, .addo (.t 8) 1, none, []⟩,
  ⟨some 72, .ld (.t 71) 1 false, none, []⟩,
  ⟨some 73, .mv (.t 4), none, []⟩,
  ⟨some 74, .call 83 [.t 68, .t 69, .t 70, .t 72, .t 73], none, []⟩,
  ⟨some 16, .mv (.t 74), none, []⟩])
  (.seq (.reg [
  ⟨some 75, .ld (.t 5) 1 false, none, []⟩,
  ⟨some 76, .mks 1 1 [.int .u8 0] 5 (.t 75), none, []⟩,
  ⟨some 17, .mv (.t 76), none, []⟩])
  (.seq (.seq (.reg [
  ⟨some 77, .mv (.t 17), none, []⟩,
  ⟨some 78, .len (.t 77), none, []⟩,
  ⟨some 79, .mv (.c (.int .i64 0)), none, []⟩])
  (.block 0 (.loop (.seq (.reg [
    ⟨some 80, .bin .lss (.t 79) (.t 78), none, []⟩])
    (.seq (.cond (.t 80)
    .skip
    (.exit 0))
    (.seq (.block 1 (.seq (.reg [
     ⟨some 81, .mv (.t 79), none, []⟩,
     ⟨some 18, .mv (.t 81), none, []⟩])
     (.block 2 (.seq (.reg [
      ⟨some 83, .mv (.t 16), none, []⟩,
      ⟨some 84, .mv (.t 18), none, []⟩,
      ⟨some 85, .ixs (.t 83) (.t 84) 1, none, []⟩,
      ⟨some 86, .ld (.t 85) 1 false, none, []⟩,
      ⟨some 87, .mv (.t 4), none, []⟩,
      ⟨some 88, .bin .leq (.t 86) (.t 87), none, []⟩,
      ⟨some 82, .mv (.t 88), none, []⟩])
      (.cond (.t 82)
      (.reg [
       ⟨some 89, .mv (.t 17), none, []⟩,
       ⟨some 90, .mv (.t 18), none, []⟩,
       ⟨some 91, .ixs (.t 89) (.t 90) 1, none, []⟩,
       ⟨none, .st (.t 91) (.c (.int .u8 2)) 1, none, []⟩])
      (.seq (.reg [
       ⟨some 93, .mv (.t 14), none, []⟩,
       ⟨some 94, .mv (.t 18), none, []⟩,
       ⟨some 95, .ixs (.t 93) (.t 94) 1, none, []⟩,
       ⟨some 96, .ld (.t 95) 1 false, none, []⟩,
       ⟨some 97, .mv (.t 4), none, []⟩,
       ⟨some 98, .bin .leq (.t 96) (.t 97), none, []⟩,
       ⟨some 92, .mv (.t 98), none, []⟩])
       (.cond (.t 92)
       (.reg [
        ⟨some 99, .mv (.t 17), none, []⟩,
        ⟨some 100, .mv (.t 18), none, []⟩,
        ⟨some 101, .ixs (.t 99) (.t 100) 1, none, []⟩,
        ⟨none, .st (.t 101) (.c (.int .u8 1)) 1, none, []⟩])
       .skip)))))))
    (.reg [
    ⟨some 102, .bin .add (.t 79) (.c (.int .i64 1)), none, []⟩,
    ⟨some 79, .mv (.t 102), none, []⟩])))))))
  (.seq (.reg [
  ⟨some 103, .mv (.t 17), none, []⟩,
  ⟨some 10, .mv (.t 103), none, []⟩,
  ⟨some 11, .mv (.c (.int .i64 0)), none, []⟩])
  .ret))))))))))))))))
def r35 : List RV := [.tmp 10, .tmp 11]
theorem n35 : Try.f35.ntmps = 104 := by kernel_rfl
theorem b35 : bodyB Try.prog 35 = true := by kernel_rfl
theorem c35_ok : cmpC Try.prog c35 ((Try.f35.body).getD .skip) = true := by kernel_rfl
theorem r35_ok : cmpR Try.prog r35 Try.f35.results.toList = true := by kernel_rfl
theorem t35 {args : List SV} {res : SV} (ka : KFL args) (kr : KF res) (h : sx Try.prog Y0 0 c35 (st0 args 104) (retK r35 res)) (hA : Nat.ble args.length 104 = true := by rfl) : Ct Try.prog 35 args res := ct_intro Try.func35 rfl b35 c35_ok r35_ok n35 (Nat.le_of_ble_eq_true hA) ka kr h
def c77 : SC := (.seq (.reg [
  ⟨some 2, .box (.t 0) 0 73, none, []⟩,
  ⟨some 3, .mv (.c (.bool false)), none, []⟩])
  (.seq (.reg [
  ⟨some 4, .ld (.t 1) 1 false, none, []⟩,
  ⟨some 5, .bin .sub (.t 4) (.c (.int .i64 1)), none, []⟩,
  ⟨some 6, .addo (.t 2) 0, none, []⟩,
  ⟨some 7, .ld (.t 6) 1 false, none, []⟩,
  ⟨some 8, .addo (.t 2) 1, none, []⟩,
  ⟨some 9, .ld (.t 8) 1 false, none, []⟩,
  ⟨some 10, .bsl 1 3 [.t 7, .t 9], none, []⟩,
  ⟨some 11, .call 64 [.c (.int .i64 0), .t 5, .t 10], none, []⟩,
  ⟨some 12, .un .not (.t 11), none, []⟩,
  ⟨some 13, .mv (.t 12), none, []⟩,
  ⟨some 14, .addo (.t 2) 0, some (13, false), []⟩,
  ⟨some 15, .ld (.t 14) 1 false, some (13, false), []⟩,
  ⟨some 16, .addo (.t 2) 1, some (13, false), []⟩,
  ⟨some 17, .ld (.t 16) 1 false, some (13, false), []⟩,
  ⟨some 18, .bin .eql (.t 15) (.t 17), some (13, false), []⟩,
  ⟨some 19, .pick (.t 13) (.c (.bool true)) (.t 18), none, []⟩,
  ⟨some 20, .mv (.t 19), none, []⟩,
  ⟨some 21, .addo (.t 2) 2, some (20, false), []⟩,
  ⟨some 22, .ld (.t 21) 1 false, some (20, false), []⟩,
  ⟨some 23, .bsl 1 3 [.t 22], some (20, false), []⟩,
  ⟨some 24, .call 64 [.c (.int .i64 0), .c (.int .i64 100000), .t 23], some (20, false), []⟩,
  ⟨some 25, .un .not (.t 24), some (20, false), []⟩,
  ⟨some 26, .pick (.t 20) (.c (.bool true)) (.t 25), none, []⟩,
  ⟨some 3, .mv (.t 26), none, []⟩])
  .ret))
def r77 : List RV := [.tmp 3]
theorem n77 : Try.f77.ntmps = 27 := by kernel_rfl
theorem b77 : bodyB Try.prog 77 = true := by kernel_rfl
theorem c77_ok : cmpC Try.prog c77 ((Try.f77.body).getD .skip) = true := by kernel_rfl
theorem r77_ok : cmpR Try.prog r77 Try.f77.results.toList = true := by kernel_rfl
theorem t77 {args : List SV} {res : SV} (ka : KFL args) (kr : KF res) (h : sx Try.prog Y0 0 c77 (st0 args 27) (retK r77 res)) (hA : Nat.ble args.length 27 = true := by rfl) : Ct Try.prog 77 args res := ct_intro Try.func77 rfl b77 c77_ok r77_ok n77 (Nat.le_of_ble_eq_true hA) ka kr h
def c78 : SC := (.seq (.reg [
  ⟨some 4, .mv (.c (.bool false)), none, []⟩])
  (.seq (.reg [
  ⟨some 5, .mv (.t 0), none, []⟩,
  ⟨some 6, .mv (.t 1), none, []⟩,
  ⟨some 7, .call 97 [.t 5, .t 6], none, []⟩,
  ⟨some 8, .bin .geq (.t 7) (.c (.int .i64 0)), none, []⟩,
  ⟨some 4, .mv (.t 8), none, []⟩])
  .ret))
def r78 : List RV := [.tmp 4]
theorem n78 : Try.f78.ntmps = 9 := by kernel_rfl
theorem b78 : bodyB Try.prog 78 = true := by kernel_rfl
theorem c78_ok : cmpC Try.prog c78 ((Try.f78.body).getD .skip) = true := by kernel_rfl
theorem r78_ok : cmpR Try.prog r78 Try.f78.results.toList = true := by kernel_rfl
theorem t78 {args : List SV} {res : SV} (ka : KFL args) (kr : KF res) (h : sx Try.prog Y0 0 c78 (st0 args 9) (retK r78 res)) (hA : Nat.ble args.length 9 = true := by rfl) : Ct Try.prog 78 args res := ct_intro Try.func78 rfl b78 c78_ok r78_ok n78 (Nat.le_of_ble_eq_true hA) ka kr h
def c79 : SC := (.seq (.reg [
  ⟨some 2, .mv (.c (.slice none 0 0)), none, []⟩])
  (.seq (.seq (.reg [
  ⟨some 3, .mv (.t 0), none, []⟩,
  ⟨some 4, .isn (.t 3), none, []⟩])
  (.cond (.t 4)
  (.seq (.reg [
   ⟨some 2, .mv (.c (.slice none 0 0)), none, []⟩])
   .ret)
  .skip))
  (.seq (.reg [
  ⟨some 5, .bsl 4 73 [], none, []⟩,
  ⟨some 6, .mv (.t 0), none, []⟩,
  ⟨some 7, .cln 4 32 73 (.t 5) (.t 6), none, []⟩,
  ⟨some 2, .mv (.t 7), none, []⟩])
  .ret)))
def r79 : List RV := [.tmp 2]
theorem n79 : Try.f79.ntmps = 8 := by kernel_rfl
theorem b79 : bodyB Try.prog 79 = true := by kernel_rfl
theorem c79_ok : cmpC Try.prog c79 ((Try.f79.body).getD .skip) = true := by kernel_rfl
theorem r79_ok : cmpR Try.prog r79 Try.f79.results.toList = true := by kernel_rfl
theorem m79 {n0 : Nat} {hp0 : List (Nat × HB)} {args : List SV} {Post : Ot → Prop} (hh : hpb n0 hp0) (hx : ∀ o, Post o → KX o.res ∧ KXP o.hp) (h : sx Try.prog Y0 n0 c79 ⟨enum 0 args, hp0, n0, 8, []⟩ (retM r79 fun o => ∃ o', Post o' ∧ EntO n0 o o')) (hA : Nat.ble args.length 8 = true := by rfl) : CtM Try.prog 79 hp0 n0 args Post := ctm_intro Try.func79 rfl b79 c79_ok r79_ok n79 (Nat.le_of_ble_eq_true hA) hh hx h
def c80 : SC := (.reg [
  ⟨some 4, .mv (.t 0), none, []⟩,
  ⟨some 5, .mv (.t 0), none, []⟩,
  ⟨some 6, .len (.t 5), none, []⟩,
  ⟨some 7, .mv (.t 1), none, []⟩,
  ⟨some 8, .callm 98 [.t 4, .t 6, .t 7], none, []⟩])
def r80 : List RV := []
theorem n80 : Try.f80.ntmps = 9 := by kernel_rfl
theorem b80 : bodyB Try.prog 80 = true := by kernel_rfl
theorem c80_ok : cmpC Try.prog c80 ((Try.f80.body).getD .skip) = true := by kernel_rfl
theorem r80_ok : cmpR Try.prog r80 Try.f80.results.toList = true := by kernel_rfl
theorem m80 {n0 : Nat} {hp0 : List (Nat × HB)} {args : List SV} {Post : Ot → Prop} (hh : hpb n0 hp0) (hx : ∀ o, Post o → KX o.res ∧ KXP o.hp) (h : sx Try.prog Y0 n0 c80 ⟨enum 0 args, hp0, n0, 9, []⟩ (retM r80 fun o => ∃ o', Post o' ∧ EntO n0 o o')) (hA : Nat.ble args.length 9 = true := by rfl) : CtM Try.prog 80 hp0 n0 args Post := ctm_intro Try.func80 rfl b80 c80_ok r80_ok n80 (Nat.le_of_ble_eq_true hA) hh hx h
def c81 : SC := (.seq (.reg [
  ⟨some 2, .box (.t 0) 0 73, none, []⟩,
  ⟨some 3, .box (.t 1) 0 73, none, []⟩,
  ⟨some 4, .mv (.c (.int .i64 0)), none, []⟩])
  (.seq (.reg [
  ⟨some 5, .addo (.t 2) 2, none, []⟩,
  ⟨some 6, .ld (.t 5) 1 false, none, []⟩,
  ⟨some 7, .addo (.t 3) 2, none, []⟩,
  ⟨some 8, .ld (.t 7) 1 false, none, []⟩,
  ⟨some 9, .call 82 [.t 6, .t 8], none, []⟩,
  ⟨some 4, .mv (.t 9), none, []⟩])
  .ret))
def r81 : List RV := [.tmp 4]
theorem n81 : Try.f81.ntmps = 10 := by kernel_rfl
theorem b81 : bodyB Try.prog 81 = true := by kernel_rfl
theorem c81_ok : cmpC Try.prog c81 ((Try.f81.body).getD .skip) = true := by kernel_rfl
theorem r81_ok : cmpR Try.prog r81 Try.f81.results.toList = true := by kernel_rfl
theorem t81 {args : List SV} {res : SV} (ka : KFL args) (kr : KF res) (h : sx Try.prog Y0 0 c81 (st0 args 10) (retK r81 res)) (hA : Nat.ble args.length 10 = true := by rfl) : Ct Try.prog 81 args res := ct_intro Try.func81 rfl b81 c81_ok r81_ok n81 (Nat.le_of_ble_eq_true hA) ka kr h
def c82 : SC := (.seq (.reg [
  ⟨some 4, .mv (.c (.int .i64 0)), none, []⟩])
  (.seq (.reg [
  ⟨some 7, .mv (.t 0), none, []⟩,
  ⟨some 8, .call 99 [.t 7], none, []⟩,
  ⟨some 5, .mv (.t 8), none, []⟩])
  (.seq (.reg [
  ⟨some 9, .mv (.t 1), none, []⟩,
  ⟨some 10, .call 99 [.t 9], none, []⟩,
  ⟨some 6, .mv (.t 10), none, []⟩])
  (.seq (.seq (.reg [
  ⟨some 11, .mv (.t 5), none, []⟩])
  (.cond (.t 11)
  (.seq (.seq (.reg [
   ⟨some 12, .mv (.t 6), none, []⟩])
   (.cond (.t 12)
   (.seq (.reg [
    ⟨some 4, .mv (.c (.int .i64 0)), none, []⟩])
    .ret)
   .skip))
   (.seq (.reg [
   ⟨some 4, .mv (.c (.int .i64 (-1))), none, []⟩])
   .ret))
  .skip))
  (.seq (.seq (.reg [
  ⟨some 13, .mv (.t 6), none, []⟩])
  (.cond (.t 13)
  (.seq (.reg [
   ⟨some 4, .mv (.c (.int .i64 1)), none, []⟩])
   .ret)
  .skip))
  (.seq (.seq (.reg [
  ⟨some 14, .mv (.t 0), none, []⟩,
  ⟨some 15, .mv (.t 1), none, []⟩,
  ⟨some 16, .bin .lss (.t 14) (.t 15), none, []⟩])
  (.cond (.t 16)
  (.seq (.reg [
   ⟨some 4, .mv (.c (.int .i64 (-1))), none, []⟩])
   .ret)
  .skip))
  (.seq (.seq (.reg [
  ⟨some 17, .mv (.t 0), none, []⟩,
  ⟨some 18, .mv (.t 1), none, []⟩,
  ⟨some 19, .bin .gtr (.t 17) (.t 18), none, []⟩])
  (.cond (.t 19)
  (.seq (.reg [
   ⟨some 4, .mv (.c (.int .i64 1)), none, []⟩])
   .ret)
  .skip))
  (.seq (.reg [
  ⟨some 4, .mv (.c (.int .i64 0)), none, []⟩])
  .ret))))))))
def r82 : List RV := [.tmp 4]
theorem n82 : Try.f82.ntmps = 20 := by kernel_rfl
theorem b82 : bodyB Try.prog 82 = true := by kernel_rfl
theorem c82_ok : cmpC Try.prog c82 ((Try.f82.body).getD .skip) = true := by kernel_rfl
theorem r82_ok : cmpR Try.prog r82 Try.f82.results.toList = true := by kernel_rfl
theorem t82 {args : List SV} {res : SV} (ka : KFL args) (kr : KF res) (h : sx Try.prog Y0 0 c82 (st0 args 20) (retK r82 res)) (hA : Nat.ble args.length 20 = true := by rfl) : Ct Try.prog 82 args res := ct_intro Try.func82 rfl b82 c82_ok r82_ok n82 (Nat.le_of_ble_eq_true hA) ka kr h
def c83 : SC := (.seq (.reg [
  ⟨some 10, .mv (.c (.slice none 0 0)), none, []⟩])
  (.scope (.seq (.reg [
  ⟨some 17, .bsl 1 3 [.c (.int .i64 100061)], none, []⟩,
  ⟨some 18, .mv (.t 0), none, []⟩,
  ⟨some 19, .callm 100 [.t 17, .t 18], none, []⟩,
  ⟨some 11, .mv (.t 19), none, []⟩])
  (.seq (.seq (.reg [
  ⟨some 20, .mv (.t 1), none, []⟩,
  ⟨some 21, .len (.t 20), none, []⟩,
  ⟨some 22, .mv (.c (.int .i64 0)), none, []⟩])
  (.block 0 (.loop (.seq (.reg [
    ⟨some 23, .bin .lss (.t 22) (.t 21), none, []⟩])
    (.seq (.cond (.t 23)
    .skip
    (.exit 0))
    (.seq (.block 1 (.seq (.reg [
     ⟨some 24, .ixs (.t 20) (.t 22) 1, none, []⟩,
     ⟨some 25, .ld (.t 24) 1 false, none, []⟩,
     ⟨some 13, .mv (.t 25), none, []⟩])
     (.reg [
     ⟨some 26, .mv (.t 11), none, []⟩,
     ⟨some 27, .mv (.t 13), none, []⟩,
     ⟨some 28, .ixs (.t 26) (.t 27) 1, none, []⟩,
     ⟨none, .st (.t 28) (.c (.int .i64 0)) 1, none, []⟩])))
    (.reg [
    ⟨some 29, .bin .add (.t 22) (.c (.int .i64 1)), none, []⟩,
    ⟨some 22, .mv (.t 29), none, []⟩])))))))
  (.seq (.label 0)
  (.seq (.seq (.reg [
  ⟨some 30, .mv (.t 2), none, []⟩,
  ⟨some 31, .len (.t 30), none, []⟩,
  ⟨some 32, .mv (.c (.int .i64 0)), none, []⟩])
  (.block 2 (.loop (.seq (.reg [
    ⟨some 33, .bin .lss (.t 32) (.t 31), none, []⟩])
    (.seq (.cond (.t 33)
    .skip
    (.exit 2))
    (.seq (.block 3 (.seq (.reg [
     ⟨some 34, .mv (.t 32), none, []⟩,
     ⟨some 14, .mv (.t 34), none, []⟩])
     (.seq (.regd [0, 1, 2, 3, 4, 5, 6, 7, 8, 9, 10, 11, 12, 13, 14, 15, 16, 17, 18, 19, 20, 21, 22, 23] [
     .op ⟨some 35, .mv (.t 2), none, []⟩,
     .op ⟨some 36, .mv (.t 14), none, []⟩,
     .op ⟨some 37, .ixs (.t 35) (.t 36) 4, none, [0, 1]⟩,
     .op ⟨some 38, .addo (.t 37) 0, none, [2]⟩,
     .op ⟨some 39, .ld (.t 38) 1 false, none, [3]⟩,
     .op ⟨some 40, .mv (.t 2), none, []⟩,
     .op ⟨some 41, .mv (.t 14), none, []⟩,
     .op ⟨some 42, .ixs (.t 40) (.t 41) 4, none, [5, 6]⟩,
     .op ⟨some 43, .addo (.t 42) 1, none, [7]⟩,
     .op ⟨some 44, .ld (.t 43) 1 false, none, [8]⟩,
     .op ⟨some 45, .build [.int .i64 0, .int .i64 0] [(0, 1, .t 39), (1, 1, .t 44)], none, [4, 9]⟩,
     .op ⟨some 46, .mv (.t 2), none, []⟩,
     .op ⟨some 47, .mv (.t 14), none, []⟩,
     .op ⟨some 48, .ixs (.t 46) (.t 47) 4, none, [11, 12]⟩,
     .op ⟨some 49, .addo (.t 48) 1, none, [13]⟩,
     .op ⟨some 50, .ld (.t 49) 1 false, none, [14]⟩,
     .op ⟨some 51, .mv (.t 2), none, []⟩,
     .op ⟨some 52, .mv (.t 14), none, []⟩,
     .op ⟨some 53, .ixs (.t 51) (.t 52) 4, none, [16, 17]⟩,
     .op ⟨some 54, .addo (.t 53) 0, none, [18]⟩,
     .op ⟨some 55, .ld (.t 54) 1 false, none, [19]⟩,
     .op ⟨some 56, .build [.int .i64 0, .int .i64 0] [(0, 1, .t 50), (1, 1, .t 55)], none, [15, 20]⟩,
     .op ⟨some 57, .build [.int .i64 0, .int .i64 0, .int .i64 0, .int .i64 0] [(0, 2, .t 45), (2, 2, .t 56)], none, [10, 21]⟩,
     .op ⟨some 58, .mv (.c (.int .i64 0)), none, []⟩] 0 0 [
])
     (.block 4 (.loop (.seq (.reg [
       ⟨some 59, .bin .lss (.t 58) (.c (.int .i64 2)), none, []⟩])
       (.seq (.cond (.t 59)
       .skip
       (.exit 4))
       (.seq (.block 5 (.seq (.reg [
        ⟨some 60, .idx (.t 57) (.t 58) 2 2 true, none, []⟩,
        ⟨some 16, .alloc [.int .i64 0, .int .i64 0] 97, none, []⟩,
        ⟨none, .st (.t 16) (.t 60) 2, none, []⟩])
        (.seq (.seq (.reg [
        ⟨some 61, .mv (.t 2), none, []⟩,
        ⟨some 62, .mv (.t 14), none, []⟩,
        ⟨some 63, .ixs (.t 61) (.t 62) 4, none, []⟩,
        ⟨some 64, .addo (.t 63) 2, none, []⟩,
        ⟨some 65, .ld (.t 64) 1 false, none, []⟩,
        ⟨some 66, .mv (.t 4), none, []⟩,
        ⟨some 67, .bin .gtr (.t 65) (.t 66), none, []⟩])
        (.cond (.t 67)
        (.exit 2)
        .skip))
        (.seq (.regd [0, 1, 2, 3, 4, 5, 6, 7, 8, 9, 10] [
        .op ⟨some 68, .mv (.t 11), none, []⟩,
        .op ⟨some 69, .ixa (.t 16) (.c (.int .i64 0)) 2 1, none, []⟩,
        .op ⟨some 70, .ld (.t 69) 1 false, none, [1]⟩,
        .op ⟨some 71, .ixs (.t 68) (.t 70) 1, none, [0, 2]⟩,
        .op ⟨some 72, .ld (.t 71) 1 false, none, [3]⟩,
        .op ⟨some 73, .mv (.t 2), none, []⟩,
        .op ⟨some 74, .mv (.t 14), none, []⟩,
        .op ⟨some 75, .ixs (.t 73) (.t 74) 4, none, [5, 6]⟩,
        .op ⟨some 76, .addo (.t 75) 2, none, [7]⟩,
        .op ⟨some 77, .ld (.t 76) 1 false, none, [8]⟩,
        .op ⟨some 78, .bin .leq (.t 72) (.t 77), none, [4, 9]⟩] 0 0 [
])
        (.cond (.t 78)
        (.regd [0, 1, 2, 3, 4, 5, 6, 7, 8, 9, 10, 11, 12, 13, 14, 15, 16, 17] [
         .op ⟨some 79, .mv (.t 11), none, []⟩,
         .op ⟨some 80, .ixa (.t 16) (.c (.int .i64 1)) 2 1, none, []⟩,
         .op ⟨some 81, .ld (.t 80) 1 false, none, [1]⟩,
         .op ⟨some 82, .mv (.t 11), none, []⟩,
         .op ⟨some 83, .ixa (.t 16) (.c (.int .i64 1)) 2 1, none, []⟩,
         .op ⟨some 84, .ld (.t 83) 1 false, none, [4]⟩,
         .op ⟨some 85, .ixs (.t 82) (.t 84) 1, none, [3, 5]⟩,
         .op ⟨some 86, .ld (.t 85) 1 false, none, [6]⟩,
         .op ⟨some 87, .mv (.t 2), none, []⟩,
         .op ⟨some 88, .mv (.t 14), none, []⟩,
         .op ⟨some 89, .ixs (.t 87) (.t 88) 4, none, [8, 9]⟩,
         .op ⟨some 90, .addo (.t 89) 2, none, [10]⟩,
         .op ⟨some 91, .ld (.t 90) 1 false, none, [11]⟩,
         .op ⟨some 92, .mv (.t 3), none, []⟩,
         .op ⟨some 93, .bin .add (.t 91) (.t 92), none, [12, 13]⟩,
         .op ⟨some 94, .mm false [.t 86, .t 93], none, [7, 14]⟩,
         .op ⟨some 95, .ixs (.t 79) (.t 81) 1, none, [0, 1, 2, 3, 4, 5, 6, 7, 8, 9, 10, 11, 12, 13, 14, 15]⟩] 0 1 [
         ⟨none, .st (.t 95) (.t 94) 1, none, [0, 1, 2, 3, 4, 5, 6, 7, 8, 9, 10, 11, 12, 13, 14, 15, 16]⟩])
        .skip)))))
       (.reg [
       ⟨some 96, .bin .add (.t 58) (.c (.int .i64 1)), none, []⟩,
       ⟨some 58, .mv (.t 96), none, []⟩])))))))))
    (.reg [
    ⟨some 97, .bin .add (.t 32) (.c (.int .i64 1)), none, []⟩,
    ⟨some 32, .mv (.t 97), none, []⟩])))))))
  (.seq (.reg [
  ⟨some 98, .mv (.t 11), none, []⟩,
  ⟨some 10, .mv (.t 98), none, []⟩])
  .ret)))))))
def r83 : List RV := [.tmp 10]
theorem n83 : Try.f83.ntmps = 99 := by kernel_rfl
theorem b83 : bodyB Try.prog 83 = true := by kernel_rfl
theorem c83_ok : cmpC Try.prog c83 ((Try.f83.body).getD .skip) = true := by kernel_rfl
theorem r83_ok : cmpR Try.prog r83 Try.f83.results.toList = true := by kernel_rfl
theorem t83 {args : List SV} {res : SV} (ka : KFL args) (kr : KF res) (h : sx Try.prog Y0 0 c83 (st0 args 99) (retK r83 res)) (hA : Nat.ble args.length 99 = true := by rfl) : Ct Try.prog 83 args res := ct_intro Try.func83 rfl b83 c83_ok r83_ok n83 (Nat.le_of_ble_eq_true hA) ka kr h
def c84 : SC := (.seq (.reg [
  ⟨some 4, .mv (.c (.slice none 0 0)), none, []⟩])
  (.seq (.reg [
  ⟨some 8, .mv (.t 0), none, []⟩,
  ⟨some 9, .mv (.t 1), none, []⟩,
  ⟨some 10, .call 97 [.t 8, .t 9], none, []⟩,
  ⟨some 5, .mv (.t 10), none, []⟩])
  (.seq (.seq (.reg [
  ⟨some 11, .mv (.t 5), none, []⟩,
  ⟨some 12, .bin .eql (.t 11) (.c (.int .i64 (-1))), none, []⟩])
  (.cond (.t 12)
  (.seq (.reg [
   ⟨some 13, .mv (.t 0), none, []⟩,
   ⟨some 4, .mv (.t 13), none, []⟩])
   .ret)
  .skip))
  (.seq (.seq (.reg [
  ⟨some 14, .mv (.t 5), none, []⟩,
  ⟨some 15, .bin .add (.t 14) (.c (.int .i64 1)), none, []⟩,
  ⟨some 6, .mv (.t 15), none, []⟩])
  (.block 0 (.loop (.seq (.seq (.reg [
    ⟨some 16, .mv (.t 6), none, []⟩,
    ⟨some 17, .mv (.t 0), none, []⟩,
    ⟨some 18, .len (.t 17), none, []⟩,
    ⟨some 19, .bin .lss (.t 16) (.t 18), none, []⟩])
    (.cond (.t 19)
    .skip
    (.exit 0)))
    (.seq (.block 1 (.seq (.reg [
     ⟨some 22, .mv (.t 0), none, []⟩,
     ⟨some 23, .mv (.t 6), none, []⟩,
     ⟨some 24, .ixs (.t 22) (.t 23) 4, none, []⟩,
     ⟨some 25, .ld (.t 24) 4 true, none, []⟩,
     ⟨some 7, .alloc [.int .i64 0, .int .i64 0, .int .i64 0, .bool false] 73, none, []⟩,
     ⟨none, .st (.t 7) (.t 25) 4, none, []⟩])
     (.seq (.reg [
     ⟨some 26, .mv (.t 1), none, []⟩,
     ⟨some 27, .ld (.t 7) 4 true, none, []⟩,
     ⟨some 28, .calv (.t 26) [.t 27], none, []⟩,
     ⟨some 29, .un .not (.t 28), none, []⟩])
     (.cond (.t 29)
     (.seq (.reg [
      ⟨some 30, .mv (.t 0), none, []⟩,
      ⟨some 31, .mv (.t 5), none, []⟩,
      ⟨some 32, .ld (.t 7) 4 true, none, []⟩,
      ⟨some 33, .ixs (.t 30) (.t 31) 4, none, []⟩,
      ⟨none, .st (.t 33) (.t 32) 4, none, []⟩])
      (.reg [
      ⟨some 34, .mv (.t 5), none, []⟩,
      ⟨some 35, .bin .add (.t 34) (.c (.int .i64 1)), none, []⟩,
      ⟨some 5, .mv (.t 35), none, []⟩]))
     .skip))))
    (.reg [
    ⟨some 20, .mv (.t 6), none, []⟩,
    ⟨some 21, .bin .add (.t 20) (.c (.int .i64 1)), none, []⟩,
    ⟨some 6, .mv (.t 21), none, []⟩]))))))
  (.seq (.reg [
  ⟨some 36, .mv (.t 0), none, []⟩,
  ⟨some 37, .mv (.t 5), none, []⟩,
  ⟨some 38, .sub 4 (.t 36) (some (.t 37)) none, none, []⟩,
  ⟨none, .raw (Go.Op.call { callee := (Go.Callee.builtin Go.Builtin.clear), args := #[(Go.Operand.tmp 38)], argTypes := #[66] }) 0, none, []⟩])
  (.seq (.reg [
  ⟨some 39, .mv (.t 0), none, []⟩,
  ⟨some 40, .mv (.t 5), none, []⟩,
  ⟨some 41, .sub 4 (.t 39) none (some (.t 40)), none, []⟩,
  ⟨some 4, .mv (.t 41), none, []⟩])
  .ret))))))
def r84 : List RV := [.tmp 4]
theorem n84 : Try.f84.ntmps = 42 := by kernel_rfl
theorem b84 : bodyB Try.prog 84 = true := by kernel_rfl
theorem c84_ok : cmpC Try.prog c84 ((Try.f84.body).getD .skip) = true := by kernel_rfl
theorem r84_ok : cmpR Try.prog r84 Try.f84.results.toList = true := by kernel_rfl
theorem m84 {n0 : Nat} {hp0 : List (Nat × HB)} {args : List SV} {Post : Ot → Prop} (hh : hpb n0 hp0) (hx : ∀ o, Post o → KX o.res ∧ KXP o.hp) (h : sx Try.prog Y0 n0 c84 ⟨enum 0 args, hp0, n0, 42, []⟩ (retM r84 fun o => ∃ o', Post o' ∧ EntO n0 o o')) (hA : Nat.ble args.length 42 = true := by rfl) : CtM Try.prog 84 hp0 n0 args Post := ctm_intro Try.func84 rfl b84 c84_ok r84_ok n84 (Nat.le_of_ble_eq_true hA) hh hx h
def c85 : SC := (.seq (.reg [
  ⟨some 1, .box (.t 0) 0 73, none, []⟩,
  ⟨some 2, .mv (.c (.bool false)), none, []⟩])
  (.seq (.reg [
  ⟨some 3, .addo (.t 1) 3, none, []⟩,
  ⟨some 4, .ld (.t 3) 1 false, none, []⟩,
  ⟨some 5, .un .not (.t 4), none, []⟩,
  ⟨some 2, .mv (.t 5), none, []⟩])
  .ret))
def r85 : List RV := [.tmp 2]
theorem n85 : Try.f85.ntmps = 6 := by kernel_rfl
theorem b85 : bodyB Try.prog 85 = true := by kernel_rfl
theorem c85_ok : cmpC Try.prog c85 ((Try.f85.body).getD .skip) = true := by kernel_rfl
theorem r85_ok : cmpR Try.prog r85 Try.f85.results.toList = true := by kernel_rfl
theorem t85 {args : List SV} {res : SV} (ka : KFL args) (kr : KF res) (h : sx Try.prog Y0 0 c85 (st0 args 6) (retK r85 res)) (hA : Nat.ble args.length 6 = true := by rfl) : Ct Try.prog 85 args res := ct_intro Try.func85 rfl b85 c85_ok r85_ok n85 (Nat.le_of_ble_eq_true hA) ka kr h
def c97 : SC := (.seq (.reg [
  ⟨some 4, .mv (.c (.int .i64 0)), none, []⟩])
  (.seq (.seq (.reg [
  ⟨some 6, .mv (.t 0), none, []⟩,
  ⟨some 7, .len (.t 6), none, []⟩,
  ⟨some 8, .mv (.c (.int .i64 0)), none, []⟩])
  (.block 0 (.loop (.seq (.reg [
    ⟨some 9, .bin .lss (.t 8) (.t 7), none, []⟩])
    (.seq (.cond (.t 9)
    .skip
    (.exit 0))
    (.seq (.block 1 (.seq (.reg [
     ⟨some 10, .mv (.t 8), none, []⟩,
     ⟨some 5, .mv (.t 10), none, []⟩])
     (.seq (.reg [
     ⟨some 11, .mv (.t 1), none, []⟩,
     ⟨some 12, .mv (.t 0), none, []⟩,
     ⟨some 13, .mv (.t 5), none, []⟩,
     ⟨some 14, .ixs (.t 12) (.t 13) 4, none, []⟩,
     ⟨some 15, .ld (.t 14) 4 true, none, []⟩,
     ⟨some 16, .calv (.t 11) [.t 15], none, []⟩])
     (.cond (.t 16)
     (.seq (.reg [
      ⟨some 17, .mv (.t 5), none, []⟩,
      ⟨some 4, .mv (.t 17), none, []⟩])
      .ret)
     .skip))))
    (.reg [
    ⟨some 18, .bin .add (.t 8) (.c (.int .i64 1)), none, []⟩,
    ⟨some 8, .mv (.t 18), none, []⟩])))))))
  (.seq (.reg [
  ⟨some 4, .mv (.c (.int .i64 (-1))), none, []⟩])
  .ret)))
def r97 : List RV := [.tmp 4]
theorem n97 : Try.f97.ntmps = 19 := by kernel_rfl
theorem b97 : bodyB Try.prog 97 = true := by kernel_rfl
theorem c97_ok : cmpC Try.prog c97 ((Try.f97.body).getD .skip) = true := by kernel_rfl
theorem r97_ok : cmpR Try.prog r97 Try.f97.results.toList = true := by kernel_rfl
theorem t97 {args : List SV} {res : SV} (ka : KFL args) (kr : KF res) (h : sx Try.prog Y0 0 c97 (st0 args 19) (retK r97 res)) (hA : Nat.ble args.length 19 = true := by rfl) : Ct Try.prog 97 args res := ct_intro Try.func97 rfl b97 c97_ok r97_ok n97 (Nat.le_of_ble_eq_true hA) ka kr h
def c98 : SC := (.seq (.reg [
  ⟨some 6, .mv (.c (.int .i64 20)), none, []⟩])
  (.seq (.reg [
  ⟨some 10, .mv (.t 6), none, []⟩,
  ⟨some 7, .mv (.c (.int .i64 0)), none, []⟩,
  ⟨some 8, .mv (.t 10), none, []⟩])
  (.seq (.block 0 (.loop (.seq (.seq (.reg [
    ⟨some 11, .mv (.t 8), none, []⟩,
    ⟨some 12, .mv (.t 1), none, []⟩,
    ⟨some 13, .bin .leq (.t 11) (.t 12), none, []⟩])
    (.cond (.t 13)
    .skip
    (.exit 0)))
    (.block 1 (.seq (.reg [
     ⟨some 14, .mv (.t 0), none, []⟩,
     ⟨some 15, .mv (.t 7), none, []⟩,
     ⟨some 16, .mv (.t 8), none, []⟩,
     ⟨some 17, .mv (.t 2), none, []⟩,
     ⟨some 18, .callm 105 [.t 14, .t 15, .t 16, .t 17], none, []⟩])
     (.seq (.reg [
     ⟨some 19, .mv (.t 8), none, []⟩,
     ⟨some 7, .mv (.t 19), none, []⟩])
     (.reg [
     ⟨some 20, .mv (.t 8), none, []⟩,
     ⟨some 21, .mv (.t 6), none, []⟩,
     ⟨some 22, .bin .add (.t 20) (.t 21), none, []⟩,
     ⟨some 8, .mv (.t 22), none, []⟩])))))))
  (.seq (.reg [
  ⟨some 23, .mv (.t 0), none, []⟩,
  ⟨some 24, .mv (.t 7), none, []⟩,
  ⟨some 25, .mv (.t 1), none, []⟩,
  ⟨some 26, .mv (.t 2), none, []⟩,
  ⟨some 27, .callm 105 [.t 23, .t 24, .t 25, .t 26], none, []⟩])
  (.block 2 (.loop (.seq (.seq (.reg [
    ⟨some 28, .mv (.t 6), none, []⟩,
    ⟨some 29, .mv (.t 1), none, []⟩,
    ⟨some 30, .bin .lss (.t 28) (.t 29), none, []⟩])
    (.cond (.t 30)
    .skip
    (.exit 2)))
    (.block 3 (.seq (.reg [
     ⟨some 31, .mv (.t 6), none, []⟩,
     ⟨some 32, .bin .mul (.c (.int .i64 2)) (.t 31), none, []⟩,
     ⟨some 7, .mv (.c (.int .i64 0)), none, []⟩,
     ⟨some 8, .mv (.t 32), none, []⟩])
     (.seq (.block 4 (.loop (.seq (.seq (.reg [
       ⟨some 33, .mv (.t 8), none, []⟩,
       ⟨some 34, .mv (.t 1), none, []⟩,
       ⟨some 35, .bin .leq (.t 33) (.t 34), none, []⟩])
       (.cond (.t 35)
       .skip
       (.exit 4)))
       (.block 5 (.seq (.reg [
        ⟨some 36, .mv (.t 0), none, []⟩,
        ⟨some 37, .mv (.t 7), none, []⟩,
        ⟨some 38, .mv (.t 7), none, []⟩,
        ⟨some 39, .mv (.t 6), none, []⟩,
        ⟨some 40, .bin .add (.t 38) (.t 39), none, []⟩,
        ⟨some 41, .mv (.t 8), none, []⟩,
        ⟨some 42, .mv (.t 2), none, []⟩,
        ⟨some 43, .callm 106 [.t 36, .t 37, .t 40, .t 41, .t 42], none, []⟩])
        (.seq (.reg [
        ⟨some 44, .mv (.t 8), none, []⟩,
        ⟨some 7, .mv (.t 44), none, []⟩])
        (.reg [
        ⟨some 45, .mv (.t 8), none, []⟩,
        ⟨some 46, .mv (.t 6), none, []⟩,
        ⟨some 47, .bin .mul (.c (.int .i64 2)) (.t 46), none, []⟩,
        ⟨some 48, .bin .add (.t 45) (.t 47), none, []⟩,
        ⟨some 8, .mv (.t 48), none, []⟩])))))))
     (.seq (.seq (.reg [
     ⟨some 49, .mv (.t 7), none, []⟩,
     ⟨some 50, .mv (.t 6), none, []⟩,
     ⟨some 51, .bin .add (.t 49) (.t 50), none, []⟩,
     ⟨some 9, .mv (.t 51), none, []⟩])
     (.seq (.reg [
     ⟨some 52, .mv (.t 9), none, []⟩,
     ⟨some 53, .mv (.t 1), none, []⟩,
     ⟨some 54, .bin .lss (.t 52) (.t 53), none, []⟩])
     (.cond (.t 54)
     (.reg [
      ⟨some 55, .mv (.t 0), none, []⟩,
      ⟨some 56, .mv (.t 7), none, []⟩,
      ⟨some 57, .mv (.t 9), none, []⟩,
      ⟨some 58, .mv (.t 1), none, []⟩,
      ⟨some 59, .mv (.t 2), none, []⟩,
      ⟨some 60, .callm 106 [.t 55, .t 56, .t 57, .t 58, .t 59], none, []⟩])
     .skip)))
     (.reg [
     ⟨some 61, .mv (.t 6), none, []⟩,
     ⟨some 62, .bin .mul (.t 61) (.c (.int .i64 2)), none, []⟩,
     ⟨some 6, .mv (.t 62), none, []⟩]))))))))))))
def r98 : List RV := []
theorem n98 : Try.f98.ntmps = 63 := by kernel_rfl
theorem b98 : bodyB Try.prog 98 = true := by kernel_rfl
theorem c98_ok : cmpC Try.prog c98 ((Try.f98.body).getD .skip) = true := by kernel_rfl
theorem r98_ok : cmpR Try.prog r98 Try.f98.results.toList = true := by kernel_rfl
theorem m98 {n0 : Nat} {hp0 : List (Nat × HB)} {args : List SV} {Post : Ot → Prop} (hh : hpb n0 hp0) (hx : ∀ o, Post o → KX o.res ∧ KXP o.hp) (h : sx Try.prog Y0 n0 c98 ⟨enum 0 args, hp0, n0, 63, []⟩ (retM r98 fun o => ∃ o', Post o' ∧ EntO n0 o o')) (hA : Nat.ble args.length 63 = true := by rfl) : CtM Try.prog 98 hp0 n0 args Post := ctm_intro Try.func98 rfl b98 c98_ok r98_ok n98 (Nat.le_of_ble_eq_true hA) hh hx h
def c99 : SC := (.seq (.reg [
  ⟨some 2, .mv (.c (.bool false)), none, []⟩])
  (.seq (.reg [
  ⟨some 3, .mv (.t 0), none, []⟩,
  ⟨some 4, .mv (.t 0), none, []⟩,
  ⟨some 5, .bin .neq (.t 3) (.t 4), none, []⟩,
  ⟨some 2, .mv (.t 5), none, []⟩])
  .ret))
def r99 : List RV := [.tmp 2]
theorem n99 : Try.f99.ntmps = 6 := by kernel_rfl
theorem b99 : bodyB Try.prog 99 = true := by kernel_rfl
theorem c99_ok : cmpC Try.prog c99 ((Try.f99.body).getD .skip) = true := by kernel_rfl
theorem r99_ok : cmpR Try.prog r99 Try.f99.results.toList = true := by kernel_rfl
theorem t99 {args : List SV} {res : SV} (ka : KFL args) (kr : KF res) (h : sx Try.prog Y0 0 c99 (st0 args 6) (retK r99 res)) (hA : Nat.ble args.length 6 = true := by rfl) : Ct Try.prog 99 args res := ct_intro Try.func99 rfl b99 c99_ok r99_ok n99 (Nat.le_of_ble_eq_true hA) ka kr h
def c100 : SC := (.seq (.reg [
  ⟨some 4, .mv (.c (.slice none 0 0)), none, []⟩])
  (.seq (.seq (.reg [
  ⟨some 9, .mv (.t 1), none, []⟩,
  ⟨some 10, .bin .lss (.t 9) (.c (.int .i64 0)), none, []⟩])
  (.cond (.t 10)
  (.reg [
   ⟨some 11, .raw (Go.Op.makeInterface 9 (Go.Operand.const (Go.Value.string { data := #[99, 97, 110, 110, 111, 116, 32, 98, 101, 32, 110, 101, 103, 97, 116, 105, 118, 101] }))) 20, none, []⟩,
   ⟨none, .raw (Go.Op.panic (Go.Operand.tmp 11)) 0, none, []⟩])
  .skip))
  (.seq (.reg [
  ⟨some 13, .mv (.t 0), none, []⟩,
  ⟨some 14, .len (.t 13), none, []⟩,
  ⟨some 15, .conv .u64 (.t 14), none, []⟩,
  ⟨some 16, .mv (.t 1), none, []⟩,
  ⟨some 17, .conv .u64 (.t 16), none, []⟩,
  ⟨some 18, .call 96 [.t 15, .t 17], none, []⟩,
  ⟨some 12, .mv (.t 18), none, []⟩,
  ⟨some 19, .ext (.t 12) 0, none, []⟩,
  ⟨some 20, .ext (.t 12) 1, none, []⟩,
  ⟨some 5, .mv (.t 19), none, []⟩,
  ⟨some 6, .mv (.t 20), none, []⟩])
  (.seq (.seq (.reg [
  ⟨some 21, .mv (.t 5), none, []⟩,
  ⟨some 22, .bin .gtr (.t 21) (.c (.int .u64 0)), none, []⟩,
  ⟨some 23, .mv (.t 22), none, []⟩,
  ⟨some 24, .mv (.t 6), some (23, false), []⟩,
  ⟨some 25, .bin .gtr (.t 24) (.c (.int .u64 9223372036854775807)), some (23, false), []⟩,
  ⟨some 26, .pick (.t 23) (.c (.bool true)) (.t 25), none, []⟩])
  (.cond (.t 26)
  (.reg [
   ⟨some 27, .raw (Go.Op.makeInterface 9 (Go.Operand.const (Go.Value.string { data := #[116, 104, 101, 32, 114, 101, 115, 117, 108, 116, 32, 111, 102, 32, 40, 108, 101, 110, 40, 120, 41, 32, 42, 32, 99, 111, 117, 110, 116, 41, 32, 111, 118, 101, 114, 102, 108, 111, 119, 115] }))) 20, none, []⟩,
   ⟨none, .raw (Go.Op.panic (Go.Operand.tmp 27)) 0, none, []⟩])
  .skip))
  (.seq (.reg [
  ⟨some 28, .mv (.t 6), none, []⟩,
  ⟨some 29, .conv .i64 (.t 28), none, []⟩,
  ⟨some 30, .mks 1 8 [.int .i64 0] 3 (.t 29), none, []⟩,
  ⟨some 7, .mv (.t 30), none, []⟩])
  (.seq (.reg [
  ⟨some 31, .mv (.t 7), none, []⟩,
  ⟨some 32, .mv (.t 0), none, []⟩,
  ⟨some 33, .cpy 1 (.t 31) (.t 32), none, []⟩,
  ⟨some 8, .mv (.t 33), none, []⟩])
  (.seq (.block 0 (.loop (.seq (.seq (.reg [
    ⟨some 34, .mv (.t 8), none, []⟩,
    ⟨some 35, .mv (.t 7), none, []⟩,
    ⟨some 36, .len (.t 35), none, []⟩,
    ⟨some 37, .bin .lss (.t 34) (.t 36), none, []⟩])
    (.cond (.t 37)
    .skip
    (.exit 0)))
    (.block 1 (.regd [1, 2, 3, 4, 5, 6, 0, 7, 8, 9] [
     .op ⟨some 39, .mv (.t 7), none, []⟩,
     .op ⟨some 40, .mv (.t 8), none, []⟩,
     .op ⟨some 41, .sub 1 (.t 39) (some (.t 40)) none, none, [1, 2]⟩,
     .op ⟨some 42, .mv (.t 7), none, []⟩,
     .op ⟨some 43, .mv (.t 8), none, []⟩,
     .op ⟨some 44, .sub 1 (.t 42) none (some (.t 43)), none, [4, 5]⟩,
     .hide (.t 41),
     .op ⟨some 38, .mv (.t 8), none, []⟩] 0 1 [
     ⟨some 45, .cpy 1 (.t 41) (.t 44), none, [3, 6]⟩,
     ⟨some 46, .bin .add (.t 38) (.t 45), none, [0, 7]⟩,
     ⟨some 8, .mv (.t 46), none, [0, 1, 2, 3, 4, 5, 6, 7, 8]⟩])))))
  (.seq (.reg [
  ⟨some 47, .mv (.t 7), none, []⟩,
  ⟨some 4, .mv (.t 47), none, []⟩])
  .ret))))))))
def r100 : List RV := [.tmp 4]
theorem n100 : Try.f100.ntmps = 48 := by kernel_rfl
theorem b100 : bodyB Try.prog 100 = true := by kernel_rfl
theorem c100_ok : cmpC Try.prog c100 ((Try.f100.body).getD .skip) = true := by kernel_rfl
theorem r100_ok : cmpR Try.prog r100 Try.f100.results.toList = true := by kernel_rfl
theorem m100 {n0 : Nat} {hp0 : List (Nat × HB)} {args : List SV} {Post : Ot → Prop} (hh : hpb n0 hp0) (hx : ∀ o, Post o → KX o.res ∧ KXP o.hp) (h : sx Try.prog Y0 n0 c100 ⟨enum 0 args, hp0, n0, 48, []⟩ (retM r100 fun o => ∃ o', Post o' ∧ EntO n0 o o')) (hA : Nat.ble args.length 48 = true := by rfl) : CtM Try.prog 100 hp0 n0 args Post := ctm_intro Try.func100 rfl b100 c100_ok r100_ok n100 (Nat.le_of_ble_eq_true hA) hh hx h
def c105 : SC := (.seq (.reg [
  ⟨some 10, .mv (.t 1), none, []⟩,
  ⟨some 11, .bin .add (.t 10) (.c (.int .i64 1)), none, []⟩,
  ⟨some 8, .mv (.t 11), none, []⟩])
  (.block 0 (.loop (.seq (.seq (.reg [
    ⟨some 12, .mv (.t 8), none, []⟩,
    ⟨some 13, .mv (.t 2), none, []⟩,
    ⟨some 14, .bin .lss (.t 12) (.t 13), none, []⟩])
    (.cond (.t 14)
    .skip
    (.exit 0)))
    (.seq (.block 1 (.seq (.reg [
     ⟨some 17, .mv (.t 8), none, []⟩,
     ⟨some 9, .mv (.t 17), none, []⟩])
     (.block 2 (.loop (.seq (.seq (.regd [0, 1, 2, 3, 4, 5, 6, 7, 8, 9, 10, 11, 12, 13, 14, 15, 16] [
       .op ⟨some 18, .mv (.t 9), none, []⟩,
       .op ⟨some 19, .mv (.t 1), none, []⟩,
       .op ⟨some 20, .bin .gtr (.t 18) (.t 19), none, [0, 1]⟩,
       .op ⟨some 21, .mv (.t 20), none, [2]⟩,
       .op ⟨some 22, .mv (.t 3), some (21, true), [3]⟩,
       .op ⟨some 23, .mv (.t 0), some (21, true), [3]⟩,
       .op ⟨some 24, .mv (.t 9), some (21, true), [3]⟩,
       .op ⟨some 25, .ixs (.t 23) (.t 24) 4, some (21, true), [3, 5, 6]⟩,
       .op ⟨some 26, .ld (.t 25) 4 true, some (21, true), [3, 7]⟩,
       .op ⟨some 27, .mv (.t 0), some (21, true), [3]⟩,
       .op ⟨some 28, .mv (.t 9), some (21, true), [3]⟩,
       .op ⟨some 29, .bin .sub (.t 28) (.c (.int .i64 1)), some (21, true), [3, 10]⟩,
       .op ⟨some 30, .ixs (.t 27) (.t 29) 4, some (21, true), [3, 9, 11]⟩,
       .op ⟨some 31, .ld (.t 30) 4 true, some (21, true), [3, 12]⟩,
       .op ⟨some 32, .calv (.t 22) [.t 26, .t 31], some (21, true), [3, 4, 8, 13]⟩,
       .op ⟨some 33, .bin .lss (.t 32) (.c (.int .i64 0)), some (21, true), [3, 14]⟩,
       .op ⟨some 34, .pick (.t 21) (.t 33) (.c (.bool false)), none, [3, 15]⟩] 0 0 [
])
       (.cond (.t 34)
       .skip
       (.exit 2)))
       (.seq (.block 3 (.regd [0, 1, 5, 6, 7, 8, 9, 10, 11, 12, 13, 14, 2, 3, 4, 15, 16, 17] [
        .op ⟨some 37, .mv (.t 0), none, []⟩,
        .op ⟨some 38, .mv (.t 9), none, []⟩,
        .op ⟨some 42, .mv (.t 0), none, []⟩,
        .op ⟨some 43, .mv (.t 9), none, []⟩,
        .op ⟨some 44, .bin .sub (.t 43) (.c (.int .i64 1)), none, [6]⟩,
        .op ⟨some 45, .ixs (.t 42) (.t 44) 4, none, [5, 7]⟩,
        .op ⟨some 46, .ld (.t 45) 4 true, none, [8]⟩,
        .op ⟨some 47, .mv (.t 0), none, []⟩,
        .op ⟨some 48, .mv (.t 9), none, []⟩,
        .op ⟨some 49, .ixs (.t 47) (.t 48) 4, none, [10, 11]⟩,
        .op ⟨some 50, .ld (.t 49) 4 true, none, [12]⟩,
        .op ⟨some 51, .ixs (.t 37) (.t 38) 4, none, [0, 1, 5, 6, 7, 8, 9, 13]⟩,
        .hide (.t 51),
        .op ⟨some 39, .mv (.t 0), none, []⟩,
        .op ⟨some 40, .mv (.t 9), none, []⟩,
        .op ⟨some 41, .bin .sub (.t 40) (.c (.int .i64 1)), none, [3]⟩] 0 1 [
        ⟨none, .st (.t 51) (.t 46) 4, none, [0, 1, 5, 6, 7, 8, 9, 13, 14]⟩,
        ⟨some 52, .ixs (.t 39) (.t 41) 4, none, [0, 1, 2, 3, 4, 5, 6, 7, 8, 9, 10, 11, 12, 13, 14, 15]⟩,
        ⟨none, .st (.t 52) (.t 50) 4, none, [0, 1, 2, 3, 4, 5, 6, 7, 8, 9, 10, 11, 12, 13, 14, 15, 16]⟩]))
       (.reg [
       ⟨some 35, .mv (.t 9), none, []⟩,
       ⟨some 36, .bin .sub (.t 35) (.c (.int .i64 1)), none, []⟩,
       ⟨some 9, .mv (.t 36), none, []⟩])))))))
    (.reg [
    ⟨some 15, .mv (.t 8), none, []⟩,
    ⟨some 16, .bin .add (.t 15) (.c (.int .i64 1)), none, []⟩,
    ⟨some 8, .mv (.t 16), none, []⟩]))))))
def r105 : List RV := []
theorem n105 : Try.f105.ntmps = 53 := by kernel_rfl
theorem b105 : bodyB Try.prog 105 = true := by kernel_rfl
theorem c105_ok : cmpC Try.prog c105 ((Try.f105.body).getD .skip) = true := by kernel_rfl
theorem r105_ok : cmpR Try.prog r105 Try.f105.results.toList = true := by kernel_rfl
theorem m105 {n0 : Nat} {hp0 : List (Nat × HB)} {args : List SV} {Post : Ot → Prop} (hh : hpb n0 hp0) (hx : ∀ o, Post o → KX o.res ∧ KXP o.hp) (h : sx Try.prog Y0 n0 c105 ⟨enum 0 args, hp0, n0, 53, []⟩ (retM r105 fun o => ∃ o', Post o' ∧ EntO n0 o o')) (hA : Nat.ble args.length 53 = true := by rfl) : CtM Try.prog 105 hp0 n0 args Post := ctm_intro Try.func105 rfl b105 c105_ok r105_ok n105 (Nat.le_of_ble_eq_true hA) hh hx h
def c106 : SC := (.seq (.seq (.reg [
  ⟨some 25, .mv (.t 2), none, []⟩,
  ⟨some 26, .mv (.t 1), none, []⟩,
  ⟨some 27, .bin .sub (.t 25) (.t 26), none, []⟩,
  ⟨some 28, .bin .eql (.t 27) (.c (.int .i64 1)), none, []⟩])
  (.cond (.t 28)
  (.seq (.reg [
   ⟨some 29, .mv (.t 2), none, []⟩,
   ⟨some 10, .mv (.t 29), none, []⟩])
   (.seq (.reg [
   ⟨some 30, .mv (.t 3), none, []⟩,
   ⟨some 11, .mv (.t 30), none, []⟩])
   (.seq (.block 0 (.loop (.seq (.seq (.reg [
     ⟨some 31, .mv (.t 10), none, []⟩,
     ⟨some 32, .mv (.t 11), none, []⟩,
     ⟨some 33, .bin .lss (.t 31) (.t 32), none, []⟩])
     (.cond (.t 33)
     .skip
     (.exit 0)))
     (.block 1 (.seq (.reg [
      ⟨some 34, .mv (.t 10), none, []⟩,
      ⟨some 35, .mv (.t 11), none, []⟩,
      ⟨some 36, .bin .add (.t 34) (.t 35), none, []⟩,
      ⟨some 37, .conv .u64 (.t 36), none, []⟩,
      ⟨some 38, .raw (Go.Op.binOp Go.BinOp.shr 153 (Go.Operand.tmp 37) (Go.Operand.const (Go.Value.int Go.IntKind.u64 1)) 153) 153, none, []⟩,
      ⟨some 39, .conv .i64 (.t 38), none, []⟩,
      ⟨some 12, .mv (.t 39), none, []⟩])
      (.seq (.regd [0, 1, 2, 3, 4, 5, 6, 7, 8, 9, 10] [
      .op ⟨some 40, .mv (.t 4), none, []⟩,
      .op ⟨some 41, .mv (.t 0), none, []⟩,
      .op ⟨some 42, .mv (.t 12), none, []⟩,
      .op ⟨some 43, .ixs (.t 41) (.t 42) 4, none, [1, 2]⟩,
      .op ⟨some 44, .ld (.t 43) 4 true, none, [3]⟩,
      .op ⟨some 45, .mv (.t 0), none, []⟩,
      .op ⟨some 46, .mv (.t 1), none, []⟩,
      .op ⟨some 47, .ixs (.t 45) (.t 46) 4, none, [5, 6]⟩,
      .op ⟨some 48, .ld (.t 47) 4 true, none, [7]⟩,
      .op ⟨some 49, .calv (.t 40) [.t 44, .t 48], none, [0, 4, 8]⟩,
      .op ⟨some 50, .bin .lss (.t 49) (.c (.int .i64 0)), none, [9]⟩] 0 0 [
])
      (.cond (.t 50)
      (.reg [
       ⟨some 51, .mv (.t 12), none, []⟩,
       ⟨some 52, .bin .add (.t 51) (.c (.int .i64 1)), none, []⟩,
       ⟨some 10, .mv (.t 52), none, []⟩])
      (.reg [
       ⟨some 53, .mv (.t 12), none, []⟩,
       ⟨some 11, .mv (.t 53), none, []⟩]))))))))
   (.seq (.seq (.reg [
   ⟨some 54, .mv (.t 1), none, []⟩,
   ⟨some 13, .mv (.t 54), none, []⟩])
   (.block 2 (.loop (.seq (.seq (.reg [
     ⟨some 55, .mv (.t 13), none, []⟩,
     ⟨some 56, .mv (.t 10), none, []⟩,
     ⟨some 57, .bin .sub (.t 56) (.c (.int .i64 1)), none, []⟩,
     ⟨some 58, .bin .lss (.t 55) (.t 57), none, []⟩])
     (.cond (.t 58)
     .skip
     (.exit 2)))
     (.seq (.block 3 (.regd [0, 1, 5, 6, 7, 8, 9, 10, 11, 12, 13, 14, 2, 3, 4, 15, 16, 17] [
      .op ⟨some 61, .mv (.t 0), none, []⟩,
      .op ⟨some 62, .mv (.t 13), none, []⟩,
      .op ⟨some 66, .mv (.t 0), none, []⟩,
      .op ⟨some 67, .mv (.t 13), none, []⟩,
      .op ⟨some 68, .bin .add (.t 67) (.c (.int .i64 1)), none, [6]⟩,
      .op ⟨some 69, .ixs (.t 66) (.t 68) 4, none, [5, 7]⟩,
      .op ⟨some 70, .ld (.t 69) 4 true, none, [8]⟩,
      .op ⟨some 71, .mv (.t 0), none, []⟩,
      .op ⟨some 72, .mv (.t 13), none, []⟩,
      .op ⟨some 73, .ixs (.t 71) (.t 72) 4, none, [10, 11]⟩,
      .op ⟨some 74, .ld (.t 73) 4 true, none, [12]⟩,
      .op ⟨some 75, .ixs (.t 61) (.t 62) 4, none, [0, 1, 5, 6, 7, 8, 9, 13]⟩,
      .hide (.t 75),
      .op ⟨some 63, .mv (.t 0), none, []⟩,
      .op ⟨some 64, .mv (.t 13), none, []⟩,
      .op ⟨some 65, .bin .add (.t 64) (.c (.int .i64 1)), none, [3]⟩] 0 1 [
      ⟨none, .st (.t 75) (.t 70) 4, none, [0, 1, 5, 6, 7, 8, 9, 13, 14]⟩,
      ⟨some 76, .ixs (.t 63) (.t 65) 4, none, [0, 1, 2, 3, 4, 5, 6, 7, 8, 9, 10, 11, 12, 13, 14, 15]⟩,
      ⟨none, .st (.t 76) (.t 74) 4, none, [0, 1, 2, 3, 4, 5, 6, 7, 8, 9, 10, 11, 12, 13, 14, 15, 16]⟩]))
     (.reg [
     ⟨some 59, .mv (.t 13), none, []⟩,
     ⟨some 60, .bin .add (.t 59) (.c (.int .i64 1)), none, []⟩,
     ⟨some 13, .mv (.t 60), none, []⟩]))))))
   .ret))))
  .skip))
  (.seq (.seq (.reg [
  ⟨some 77, .mv (.t 3), none, []⟩,
  ⟨some 78, .mv (.t 2), none, []⟩,
  ⟨some 79, .bin .sub (.t 77) (.t 78), none, []⟩,
  ⟨some 80, .bin .eql (.t 79) (.c (.int .i64 1)), none, []⟩])
  (.cond (.t 80)
  (.seq (.reg [
   ⟨some 81, .mv (.t 1), none, []⟩,
   ⟨some 14, .mv (.t 81), none, []⟩])
   (.seq (.reg [
   ⟨some 82, .mv (.t 2), none, []⟩,
   ⟨some 15, .mv (.t 82), none, []⟩])
   (.seq (.block 4 (.loop (.seq (.seq (.reg [
     ⟨some 83, .mv (.t 14), none, []⟩,
     ⟨some 84, .mv (.t 15), none, []⟩,
     ⟨some 85, .bin .lss (.t 83) (.t 84), none, []⟩])
     (.cond (.t 85)
     .skip
     (.exit 4)))
     (.block 5 (.seq (.reg [
      ⟨some 86, .mv (.t 14), none, []⟩,
      ⟨some 87, .mv (.t 15), none, []⟩,
      ⟨some 88, .bin .add (.t 86) (.t 87), none, []⟩,
      ⟨some 89, .conv .u64 (.t 88), none, []⟩,
      ⟨some 90, .raw (Go.Op.binOp Go.BinOp.shr 153 (Go.Operand.tmp 89) (Go.Operand.const (Go.Value.int Go.IntKind.u64 1)) 153) 153, none, []⟩,
      ⟨some 91, .conv .i64 (.t 90), none, []⟩,
      ⟨some 16, .mv (.t 91), none, []⟩])
      (.seq (.regd [0, 1, 2, 3, 4, 5, 6, 7, 8, 9, 10, 11] [
      .op ⟨some 92, .mv (.t 4), none, []⟩,
      .op ⟨some 93, .mv (.t 0), none, []⟩,
      .op ⟨some 94, .mv (.t 2), none, []⟩,
      .op ⟨some 95, .ixs (.t 93) (.t 94) 4, none, [1, 2]⟩,
      .op ⟨some 96, .ld (.t 95) 4 true, none, [3]⟩,
      .op ⟨some 97, .mv (.t 0), none, []⟩,
      .op ⟨some 98, .mv (.t 16), none, []⟩,
      .op ⟨some 99, .ixs (.t 97) (.t 98) 4, none, [5, 6]⟩,
      .op ⟨some 100, .ld (.t 99) 4 true, none, [7]⟩,
      .op ⟨some 101, .calv (.t 92) [.t 96, .t 100], none, [0, 4, 8]⟩,
      .op ⟨some 102, .bin .lss (.t 101) (.c (.int .i64 0)), none, [9]⟩,
      .op ⟨some 103, .un .not (.t 102), none, [10]⟩] 0 0 [
])
      (.cond (.t 103)
      (.reg [
       ⟨some 104, .mv (.t 16), none, []⟩,
       ⟨some 105, .bin .add (.t 104) (.c (.int .i64 1)), none, []⟩,
       ⟨some 14, .mv (.t 105), none, []⟩])
      (.reg [
       ⟨some 106, .mv (.t 16), none, []⟩,
       ⟨some 15, .mv (.t 106), none, []⟩]))))))))
   (.seq (.seq (.reg [
   ⟨some 107, .mv (.t 2), none, []⟩,
   ⟨some 17, .mv (.t 107), none, []⟩])
   (.block 6 (.loop (.seq (.seq (.reg [
     ⟨some 108, .mv (.t 17), none, []⟩,
     ⟨some 109, .mv (.t 14), none, []⟩,
     ⟨some 110, .bin .gtr (.t 108) (.t 109), none, []⟩])
     (.cond (.t 110)
     .skip
     (.exit 6)))
     (.seq (.block 7 (.regd [0, 1, 5, 6, 7, 8, 9, 10, 11, 12, 13, 14, 2, 3, 4, 15, 16, 17] [
      .op ⟨some 113, .mv (.t 0), none, []⟩,
      .op ⟨some 114, .mv (.t 17), none, []⟩,
      .op ⟨some 118, .mv (.t 0), none, []⟩,
      .op ⟨some 119, .mv (.t 17), none, []⟩,
      .op ⟨some 120, .bin .sub (.t 119) (.c (.int .i64 1)), none, [6]⟩,
      .op ⟨some 121, .ixs (.t 118) (.t 120) 4, none, [5, 7]⟩,
      .op ⟨some 122, .ld (.t 121) 4 true, none, [8]⟩,
      .op ⟨some 123, .mv (.t 0), none, []⟩,
      .op ⟨some 124, .mv (.t 17), none, []⟩,
      .op ⟨some 125, .ixs (.t 123) (.t 124) 4, none, [10, 11]⟩,
      .op ⟨some 126, .ld (.t 125) 4 true, none, [12]⟩,
      .op ⟨some 127, .ixs (.t 113) (.t 114) 4, none, [0, 1, 5, 6, 7, 8, 9, 13]⟩,
      .hide (.t 127),
      .op ⟨some 115, .mv (.t 0), none, []⟩,
      .op ⟨some 116, .mv (.t 17), none, []⟩,
      .op ⟨some 117, .bin .sub (.t 116) (.c (.int .i64 1)), none, [3]⟩] 0 1 [
      ⟨none, .st (.t 127) (.t 122) 4, none, [0, 1, 5, 6, 7, 8, 9, 13, 14]⟩,
      ⟨some 128, .ixs (.t 115) (.t 117) 4, none, [0, 1, 2, 3, 4, 5, 6, 7, 8, 9, 10, 11, 12, 13, 14, 15]⟩,
      ⟨none, .st (.t 128) (.t 126) 4, none, [0, 1, 2, 3, 4, 5, 6, 7, 8, 9, 10, 11, 12, 13, 14, 15, 16]⟩]))
     (.reg [
     ⟨some 111, .mv (.t 17), none, []⟩,
     ⟨some 112, .bin .sub (.t 111) (.c (.int .i64 1)), none, []⟩,
     ⟨some 17, .mv (.t 112), none, []⟩]))))))
   .ret))))
  .skip))
  (.seq (.reg [
  ⟨some 129, .mv (.t 1), none, []⟩,
  ⟨some 130, .mv (.t 3), none, []⟩,
  ⟨some 131, .bin .add (.t 129) (.t 130), none, []⟩,
  ⟨some 132, .conv .u64 (.t 131), none, []⟩,
  ⟨some 133, .raw (Go.Op.binOp Go.BinOp.shr 153 (Go.Operand.tmp 132) (Go.Operand.const (Go.Value.int Go.IntKind.u64 1)) 153) 153, none, []⟩,
  ⟨some 134, .conv .i64 (.t 133), none, []⟩,
  ⟨some 18, .mv (.t 134), none, []⟩])
  (.seq (.reg [
  ⟨some 135, .mv (.t 18), none, []⟩,
  ⟨some 136, .mv (.t 2), none, []⟩,
  ⟨some 137, .bin .add (.t 135) (.t 136), none, []⟩,
  ⟨some 19, .mv (.t 137), none, []⟩])
  (.seq (.reg [
  ⟨some 20, .mv (.c (.int .i64 0)), none, []⟩,
  ⟨some 21, .mv (.c (.int .i64 0)), none, []⟩])
  (.seq (.seq (.reg [
  ⟨some 138, .mv (.t 2), none, []⟩,
  ⟨some 139, .mv (.t 18), none, []⟩,
  ⟨some 140, .bin .gtr (.t 138) (.t 139), none, []⟩])
  (.cond (.t 140)
  (.seq (.reg [
   ⟨some 141, .mv (.t 19), none, []⟩,
   ⟨some 142, .mv (.t 3), none, []⟩,
   ⟨some 143, .bin .sub (.t 141) (.t 142), none, []⟩,
   ⟨some 20, .mv (.t 143), none, []⟩])
   (.reg [
   ⟨some 144, .mv (.t 18), none, []⟩,
   ⟨some 21, .mv (.t 144), none, []⟩]))
  (.seq (.reg [
   ⟨some 145, .mv (.t 1), none, []⟩,
   ⟨some 20, .mv (.t 145), none, []⟩])
   (.reg [
   ⟨some 146, .mv (.t 2), none, []⟩,
   ⟨some 21, .mv (.t 146), none, []⟩]))))
  (.seq (.reg [
  ⟨some 147, .mv (.t 19), none, []⟩,
  ⟨some 148, .bin .sub (.t 147) (.c (.int .i64 1)), none, []⟩,
  ⟨some 22, .mv (.t 148), none, []⟩])
  (.seq (.block 8 (.loop (.seq (.seq (.reg [
    ⟨some 149, .mv (.t 20), none, []⟩,
    ⟨some 150, .mv (.t 21), none, []⟩,
    ⟨some 151, .bin .lss (.t 149) (.t 150), none, []⟩])
    (.cond (.t 151)
    .skip
    (.exit 8)))
    (.block 9 (.seq (.reg [
     ⟨some 152, .mv (.t 20), none, []⟩,
     ⟨some 153, .mv (.t 21), none, []⟩,
     ⟨some 154, .bin .add (.t 152) (.t 153), none, []⟩,
     ⟨some 155, .conv .u64 (.t 154), none, []⟩,
     ⟨some 156, .raw (Go.Op.binOp Go.BinOp.shr 153 (Go.Operand.tmp 155) (Go.Operand.const (Go.Value.int Go.IntKind.u64 1)) 153) 153, none, []⟩,
     ⟨some 157, .conv .i64 (.t 156), none, []⟩,
     ⟨some 23, .mv (.t 157), none, []⟩])
     (.seq (.regd [0, 1, 2, 3, 4, 5, 6, 7, 8, 9, 10, 11, 12, 13] [
     .op ⟨some 158, .mv (.t 4), none, []⟩,
     .op ⟨some 159, .mv (.t 0), none, []⟩,
     .op ⟨some 160, .mv (.t 22), none, []⟩,
     .op ⟨some 161, .mv (.t 23), none, []⟩,
     .op ⟨some 162, .bin .sub (.t 160) (.t 161), none, [2, 3]⟩,
     .op ⟨some 163, .ixs (.t 159) (.t 162) 4, none, [1, 4]⟩,
     .op ⟨some 164, .ld (.t 163) 4 true, none, [5]⟩,
     .op ⟨some 165, .mv (.t 0), none, []⟩,
     .op ⟨some 166, .mv (.t 23), none, []⟩,
     .op ⟨some 167, .ixs (.t 165) (.t 166) 4, none, [7, 8]⟩,
     .op ⟨some 168, .ld (.t 167) 4 true, none, [9]⟩,
     .op ⟨some 169, .calv (.t 158) [.t 164, .t 168], none, [0, 6, 10]⟩,
     .op ⟨some 170, .bin .lss (.t 169) (.c (.int .i64 0)), none, [11]⟩,
     .op ⟨some 171, .un .not (.t 170), none, [12]⟩] 0 0 [
])
     (.cond (.t 171)
     (.reg [
      ⟨some 172, .mv (.t 23), none, []⟩,
      ⟨some 173, .bin .add (.t 172) (.c (.int .i64 1)), none, []⟩,
      ⟨some 20, .mv (.t 173), none, []⟩])
     (.reg [
      ⟨some 174, .mv (.t 23), none, []⟩,
      ⟨some 21, .mv (.t 174), none, []⟩]))))))))
  (.seq (.reg [
  ⟨some 175, .mv (.t 19), none, []⟩,
  ⟨some 176, .mv (.t 20), none, []⟩,
  ⟨some 177, .bin .sub (.t 175) (.t 176), none, []⟩,
  ⟨some 24, .mv (.t 177), none, []⟩])
  (.seq (.seq (.reg [
  ⟨some 178, .mv (.t 20), none, []⟩,
  ⟨some 179, .mv (.t 2), none, []⟩,
  ⟨some 180, .bin .lss (.t 178) (.t 179), none, []⟩,
  ⟨some 181, .mv (.t 180), none, []⟩,
  ⟨some 182, .mv (.t 2), some (181, true), []⟩,
  ⟨some 183, .mv (.t 24), some (181, true), []⟩,
  ⟨some 184, .bin .lss (.t 182) (.t 183), some (181, true), []⟩,
  ⟨some 185, .pick (.t 181) (.t 184) (.c (.bool false)), none, []⟩])
  (.cond (.t 185)
  (.reg [
   ⟨some 186, .mv (.t 0), none, []⟩,
   ⟨some 187, .mv (.t 20), none, []⟩,
   ⟨some 188, .mv (.t 2), none, []⟩,
   ⟨some 189, .mv (.t 24), none, []⟩,
   ⟨some 190, .mv (.t 4), none, []⟩,
   ⟨some 191, .callm 107 [.t 186, .t 187, .t 188, .t 189, .t 190], none, []⟩])
  .skip))
  (.seq (.seq (.reg [
  ⟨some 192, .mv (.t 1), none, []⟩,
  ⟨some 193, .mv (.t 20), none, []⟩,
  ⟨some 194, .bin .lss (.t 192) (.t 193), none, []⟩,
  ⟨some 195, .mv (.t 194), none, []⟩,
  ⟨some 196, .mv (.t 20), some (195, true), []⟩,
  ⟨some 197, .mv (.t 18), some (195, true), []⟩,
  ⟨some 198, .bin .lss (.t 196) (.t 197), some (195, true), []⟩,
  ⟨some 199, .pick (.t 195) (.t 198) (.c (.bool false)), none, []⟩])
  (.cond (.t 199)
  (.reg [
   ⟨some 200, .mv (.t 0), none, []⟩,
   ⟨some 201, .mv (.t 1), none, []⟩,
   ⟨some 202, .mv (.t 20), none, []⟩,
   ⟨some 203, .mv (.t 18), none, []⟩,
   ⟨some 204, .mv (.t 4), none, []⟩,
   ⟨some 205, .callm 106 [.t 200, .t 201, .t 202, .t 203, .t 204], none, []⟩])
  .skip))
  (.seq (.reg [
  ⟨some 206, .mv (.t 18), none, []⟩,
  ⟨some 207, .mv (.t 24), none, []⟩,
  ⟨some 208, .bin .lss (.t 206) (.t 207), none, []⟩,
  ⟨some 209, .mv (.t 208), none, []⟩,
  ⟨some 210, .mv (.t 24), some (209, true), []⟩,
  ⟨some 211, .mv (.t 3), some (209, true), []⟩,
  ⟨some 212, .bin .lss (.t 210) (.t 211), some (209, true), []⟩,
  ⟨some 213, .pick (.t 209) (.t 212) (.c (.bool false)), none, []⟩])
  (.cond (.t 213)
  (.reg [
   ⟨some 214, .mv (.t 0), none, []⟩,
   ⟨some 215, .mv (.t 18), none, []⟩,
   ⟨some 216, .mv (.t 24), none, []⟩,
   ⟨some 217, .mv (.t 3), none, []⟩,
   ⟨some 218, .mv (.t 4), none, []⟩,
   ⟨some 219, .callm 106 [.t 214, .t 215, .t 216, .t 217, .t 218], none, []⟩])
  .skip)))))))))))))
def r106 : List RV := []
theorem n106 : Try.f106.ntmps = 220 := by kernel_rfl
theorem b106 : bodyB Try.prog 106 = true := by kernel_rfl
theorem c106_ok : cmpC Try.prog c106 ((Try.f106.body).getD .skip) = true := by kernel_rfl
theorem r106_ok : cmpR Try.prog r106 Try.f106.results.toList = true := by kernel_rfl
theorem m106 {n0 : Nat} {hp0 : List (Nat × HB)} {args : List SV} {Post : Ot → Prop} (hh : hpb n0 hp0) (hx : ∀ o, Post o → KX o.res ∧ KXP o.hp) (h : sx Try.prog Y0 n0 c106 ⟨enum 0 args, hp0, n0, 220, []⟩ (retM r106 fun o => ∃ o', Post o' ∧ EntO n0 o o')) (hA : Nat.ble args.length 220 = true := by rfl) : CtM Try.prog 106 hp0 n0 args Post := ctm_intro Try.func106 rfl b106 c106_ok r106_ok n106 (Nat.le_of_ble_eq_true hA) hh hx h
def c107 : SC := (.seq (.reg [
  ⟨some 12, .mv (.t 2), none, []⟩,
  ⟨some 13, .mv (.t 1), none, []⟩,
  ⟨some 14, .bin .sub (.t 12) (.t 13), none, []⟩,
  ⟨some 10, .mv (.t 14), none, []⟩])
  (.seq (.reg [
  ⟨some 15, .mv (.t 3), none, []⟩,
  ⟨some 16, .mv (.t 2), none, []⟩,
  ⟨some 17, .bin .sub (.t 15) (.t 16), none, []⟩,
  ⟨some 11, .mv (.t 17), none, []⟩])
  (.seq (.block 0 (.loop (.seq (.seq (.reg [
    ⟨some 18, .mv (.t 10), none, []⟩,
    ⟨some 19, .mv (.t 11), none, []⟩,
    ⟨some 20, .bin .neq (.t 18) (.t 19), none, []⟩])
    (.cond (.t 20)
    .skip
    (.exit 0)))
    (.block 1 (.seq (.reg [
     ⟨some 21, .mv (.t 10), none, []⟩,
     ⟨some 22, .mv (.t 11), none, []⟩,
     ⟨some 23, .bin .gtr (.t 21) (.t 22), none, []⟩])
     (.cond (.t 23)
     (.seq (.reg [
      ⟨some 24, .mv (.t 0), none, []⟩,
      ⟨some 25, .mv (.t 2), none, []⟩,
      ⟨some 26, .mv (.t 10), none, []⟩,
      ⟨some 27, .bin .sub (.t 25) (.t 26), none, []⟩,
      ⟨some 28, .mv (.t 2), none, []⟩,
      ⟨some 29, .mv (.t 11), none, []⟩,
      ⟨some 30, .mv (.t 4), none, []⟩,
      ⟨some 31, .callm 108 [.t 24, .t 27, .t 28, .t 29, .t 30], none, []⟩])
      (.reg [
      ⟨some 32, .mv (.t 10), none, []⟩,
      ⟨some 33, .mv (.t 11), none, []⟩,
      ⟨some 34, .bin .sub (.t 32) (.t 33), none, []⟩,
      ⟨some 10, .mv (.t 34), none, []⟩]))
     (.seq (.reg [
      ⟨some 35, .mv (.t 0), none, []⟩,
      ⟨some 36, .mv (.t 2), none, []⟩,
      ⟨some 37, .mv (.t 10), none, []⟩,
      ⟨some 38, .bin .sub (.t 36) (.t 37), none, []⟩,
      ⟨some 39, .mv (.t 2), none, []⟩,
      ⟨some 40, .mv (.t 11), none, []⟩,
      ⟨some 41, .bin .add (.t 39) (.t 40), none, []⟩,
      ⟨some 42, .mv (.t 10), none, []⟩,
      ⟨some 43, .bin .sub (.t 41) (.t 42), none, []⟩,
      ⟨some 44, .mv (.t 10), none, []⟩,
      ⟨some 45, .mv (.t 4), none, []⟩,
      ⟨some 46, .callm 108 [.t 35, .t 38, .t 43, .t 44, .t 45], none, []⟩])
      (.reg [
      ⟨some 47, .mv (.t 11), none, []⟩,
      ⟨some 48, .mv (.t 10), none, []⟩,
      ⟨some 49, .bin .sub (.t 47) (.t 48), none, []⟩,
      ⟨some 11, .mv (.t 49), none, []⟩]))))))))
  (.reg [
  ⟨some 50, .mv (.t 0), none, []⟩,
  ⟨some 51, .mv (.t 2), none, []⟩,
  ⟨some 52, .mv (.t 10), none, []⟩,
  ⟨some 53, .bin .sub (.t 51) (.t 52), none, []⟩,
  ⟨some 54, .mv (.t 2), none, []⟩,
  ⟨some 55, .mv (.t 10), none, []⟩,
  ⟨some 56, .mv (.t 4), none, []⟩,
  ⟨some 57, .callm 108 [.t 50, .t 53, .t 54, .t 55, .t 56], none, []⟩]))))
def r107 : List RV := []
theorem n107 : Try.f107.ntmps = 58 := by kernel_rfl
theorem b107 : bodyB Try.prog 107 = true := by kernel_rfl
theorem c107_ok : cmpC Try.prog c107 ((Try.f107.body).getD .skip) = true := by kernel_rfl
theorem r107_ok : cmpR Try.prog r107 Try.f107.results.toList = true := by kernel_rfl
theorem m107 {n0 : Nat} {hp0 : List (Nat × HB)} {args : List SV} {Post : Ot → Prop} (hh : hpb n0 hp0) (hx : ∀ o, Post o → KX o.res ∧ KXP o.hp) (h : sx Try.prog Y0 n0 c107 ⟨enum 0 args, hp0, n0, 58, []⟩ (retM r107 fun o => ∃ o', Post o' ∧ EntO n0 o o')) (hA : Nat.ble args.length 58 = true := by rfl) : CtM Try.prog 107 hp0 n0 args Post := ctm_intro Try.func107 rfl b107 c107_ok r107_ok n107 (Nat.le_of_ble_eq_true hA) hh hx h
def c108 : SC := (.seq (.reg [
  ⟨some 10, .mv (.c (.int .i64 0)), none, []⟩])
  (.block 0 (.loop (.seq (.seq (.reg [
    ⟨some 11, .mv (.t 10), none, []⟩,
    ⟨some 12, .mv (.t 3), none, []⟩,
    ⟨some 13, .bin .lss (.t 11) (.t 12), none, []⟩])
    (.cond (.t 13)
    .skip
    (.exit 0)))
    (.seq (.block 1 (.regd [0, 1, 2, 3, 8, 9, 10, 11, 12, 13, 14, 15, 16, 17, 18, 19, 20, 4, 5, 6, 7, 21, 22, 23] [
     .op ⟨some 16, .mv (.t 0), none, []⟩,
     .op ⟨some 17, .mv (.t 1), none, []⟩,
     .op ⟨some 18, .mv (.t 10), none, []⟩,
     .op ⟨some 19, .bin .add (.t 17) (.t 18), none, [1, 2]⟩,
     .op ⟨some 24, .mv (.t 0), none, []⟩,
     .op ⟨some 25, .mv (.t 2), none, []⟩,
     .op ⟨some 26, .mv (.t 10), none, []⟩,
     .op ⟨some 27, .bin .add (.t 25) (.t 26), none, [9, 10]⟩,
     .op ⟨some 28, .ixs (.t 24) (.t 27) 4, none, [8, 11]⟩,
     .op ⟨some 29, .ld (.t 28) 4 true, none, [12]⟩,
     .op ⟨some 30, .mv (.t 0), none, []⟩,
     .op ⟨some 31, .mv (.t 1), none, []⟩,
     .op ⟨some 32, .mv (.t 10), none, []⟩,
     .op ⟨some 33, .bin .add (.t 31) (.t 32), none, [15, 16]⟩,
     .op ⟨some 34, .ixs (.t 30) (.t 33) 4, none, [14, 17]⟩,
     .op ⟨some 35, .ld (.t 34) 4 true, none, [18]⟩,
     .op ⟨some 36, .ixs (.t 16) (.t 19) 4, none, [0, 1, 2, 3, 8, 9, 10, 11, 12, 13, 19]⟩,
     .hide (.t 36),
     .op ⟨some 20, .mv (.t 0), none, []⟩,
     .op ⟨some 21, .mv (.t 2), none, []⟩,
     .op ⟨some 22, .mv (.t 10), none, []⟩,
     .op ⟨some 23, .bin .add (.t 21) (.t 22), none, [5, 6]⟩] 0 1 [
     ⟨none, .st (.t 36) (.t 29) 4, none, [0, 1, 2, 3, 8, 9, 10, 11, 12, 13, 19, 20]⟩,
     ⟨some 37, .ixs (.t 20) (.t 23) 4, none, [0, 1, 2, 3, 4, 5, 6, 7, 8, 9, 10, 11, 12, 13, 14, 15, 16, 17, 18, 19, 20, 21]⟩,
     ⟨none, .st (.t 37) (.t 35) 4, none, [0, 1, 2, 3, 4, 5, 6, 7, 8, 9, 10, 11, 12, 13, 14, 15, 16, 17, 18, 19, 20, 21, 22]⟩]))
    (.reg [
    ⟨some 14, .mv (.t 10), none, []⟩,
    ⟨some 15, .bin .add (.t 14) (.c (.int .i64 1)), none, []⟩,
    ⟨some 10, .mv (.t 15), none, []⟩]))))))
def r108 : List RV := []
theorem n108 : Try.f108.ntmps = 38 := by kernel_rfl
theorem b108 : bodyB Try.prog 108 = true := by kernel_rfl
theorem c108_ok : cmpC Try.prog c108 ((Try.f108.body).getD .skip) = true := by kernel_rfl
theorem r108_ok : cmpR Try.prog r108 Try.f108.results.toList = true := by kernel_rfl
theorem m108 {n0 : Nat} {hp0 : List (Nat × HB)} {args : List SV} {Post : Ot → Prop} (hh : hpb n0 hp0) (hx : ∀ o, Post o → KX o.res ∧ KXP o.hp) (h : sx Try.prog Y0 n0 c108 ⟨enum 0 args, hp0, n0, 38, []⟩ (retM r108 fun o => ∃ o', Post o' ∧ EntO n0 o o')) (hA : Nat.ble args.length 38 = true := by rfl) : CtM Try.prog 108 hp0 n0 args Post := ctm_intro Try.func108 rfl b108 c108_ok r108_ok n108 (Nat.le_of_ble_eq_true hA) hh hx h
end Go.Proofs.Ytnlfjchbhgikaaa
namespace Go.Azalai
section
variable {α : Type} (key : α → Int)
/-- the key at a place -/
def ky (l : List α) (i : Nat) : Int := match l[i]? with | some x => key x | none => 0
def swp (l : List α) (i j : Nat) : List α := match l[i]?, l[j]? with | some x, some y => (l.set i y).set j x | _, _ => l
theorem swp_eq {l : List α} {i j : Nat} (hi : i < l.length) (hj : j < l.length) : swp l i j = (l.set i l[j]).set j l[i] := by
  unfold swp; rw [List.getElem?_eq_getElem hi, List.getElem?_eq_getElem hj]
theorem swp_len (l : List α) (i j : Nat) : (swp l i j).length = l.length := by unfold swp; split <;> simp
theorem swp_get {l : List α} {i j : Nat} (hi : i < l.length) (hj : j < l.length) (p : Nat) : (swp l i j)[p]? = if p = i then l[j]? else if p = j then l[i]? else l[p]? := by
  rw [swp_eq hi hj]
  by_cases h1 : p = j
  · subst h1
    by_cases h2 : p = i
    · subst h2; simp [hi]
    · simp [h2, hi, hj]
  · rw [List.getElem?_set_ne (Ne.symm h1)]
    by_cases h2 : p = i
    · subst h2; simp [hi, hj]
    · rw [List.getElem?_set_ne (Ne.symm h2), if_neg h2, if_neg h1]
theorem swp_perm {l : List α} {i j : Nat} (hi : i < l.length) (hj : j < l.length) : (swp l i j).Perm l := by
  rw [swp_eq hi hj]; exact List.set_set_perm hi hj
theorem swp_ky {l : List α} {i j : Nat} (hi : i < l.length) (hj : j < l.length) (p : Nat) : ky key (swp l i j) p = if p = i then ky key l j else if p = j then ky key l i else ky key l p := by
  unfold ky; rw [swp_get hi hj]
  by_cases h1 : p = i
  · simp only [if_pos h1]
  · by_cases h2 : p = j
    · simp only [if_neg h1, if_pos h2]
    · simp only [if_neg h1, if_neg h2]
/-- one list is another one but for an order among the places from a to b -/
structure PIn (a b : Nat) (l l' : List α) : Prop where
  len : l'.length = l.length
  perm : l'.Perm l
  out : ∀ i, i < a ∨ b ≤ i → l'[i]? = l[i]?
  all : ∀ p : α → Prop, (∀ i x, a ≤ i → i < b → l[i]? = some x → p x) → ∀ i x, a ≤ i → i < b → l'[i]? = some x → p x
theorem PIn.refl (a b : Nat) (l : List α) : PIn a b l l := ⟨rfl, .refl _, fun _ _ => rfl, fun _ h => h⟩
theorem PIn.trans {a b : Nat} {l l' l'' : List α} (h : PIn a b l l') (h' : PIn a b l' l'') : PIn a b l l'' :=
  ⟨h'.len.trans h.len, h'.perm.trans h.perm, fun i hi => (h'.out i hi).trans (h.out i hi), fun p hp => h'.all p (h.all p hp)⟩
theorem PIn.mono {a b a' b' : Nat} {l l' : List α} (h : PIn a b l l') (ha : a' ≤ a) (hb : b ≤ b') : PIn a' b' l l' := by
  refine ⟨h.len, h.perm, fun i hi => h.out i (by omega), fun p hp i x h1 h2 hx => ?_⟩
  by_cases hi : a ≤ i ∧ i < b
  · exact h.all p (fun i x q1 q2 => hp i x (by omega) (by omega)) i x hi.1 hi.2 hx
  · rw [h.out i (by omega)] at hx; exact hp i x h1 h2 hx
theorem PIn.swap {a b i j : Nat} {l : List α} (hi : a ≤ i) (hi' : i < b) (hj : a ≤ j) (hj' : j < b) (hb : b ≤ l.length) : PIn a b l (swp l i j) := by
  have h1 : i < l.length := by omega
  have h2 : j < l.length := by omega
  refine ⟨swp_len _ _ _, swp_perm h1 h2, fun p hp => ?_, fun q hq p x g1 g2 hx => ?_⟩
  · rw [swp_get h1 h2, if_neg (by omega), if_neg (by omega)]
  · rw [swp_get h1 h2] at hx
    split at hx
    · exact hq j x hj hj' hx
    · split at hx
      · exact hq i x hi hi' hx
      · exact hq p x g1 g2 hx
theorem PIn.ky {a b : Nat} {l l' : List α} (h : PIn a b l l') {i : Nat} (hi : i < a ∨ b ≤ i) : ky key l' i = ky key l i := by unfold Go.Azalai.ky; rw [h.out i hi]
/-- bounds of keys stay -/
theorem PIn.kall {a b : Nat} {l l' : List α} (h : PIn a b l l') (hb : b ≤ l.length) (p : Int → Prop) (hp : ∀ i, a ≤ i → i < b → p (Go.Azalai.ky key l i)) : ∀ i, a ≤ i → i < b → p (Go.Azalai.ky key l' i) := fun i h1 h2 => by
  have hl : i < l'.length := by rw [h.len]; omega
  have := h.all (fun x => p (key x)) (fun i x q1 q2 hx => by have := hp i q1 q2; unfold Go.Azalai.ky at this; rw [hx] at this; exact this) i l'[i] h1 h2 (List.getElem?_eq_getElem hl)
  unfold Go.Azalai.ky; rw [List.getElem?_eq_getElem hl]; exact this
def Srt (a b : Nat) (l : List α) : Prop := ∀ i j, a ≤ i → i < j → j < b → ky key l i ≤ ky key l j
theorem Srt.le {a b : Nat} {l : List α} (h : Srt key a b l) {i j : Nat} (h1 : a ≤ i) (h2 : i ≤ j) (h3 : j < b) : ky key l i ≤ ky key l j := by
  rcases Nat.lt_or_ge i j with q | q
  · exact h i j h1 q h3
  · rw [show i = j from by omega]; exact Int.le_refl _
/-- two sorted parts, the one not above the other -/
theorem Srt.join {a c b : Nat} {l : List α} (h1 : Srt key a c l) (h2 : Srt key c b l) (h : ∀ i j, a ≤ i → i < c → c ≤ j → j < b → ky key l i ≤ ky key l j) : Srt key a b l := fun i j g1 g2 g3 => by
  by_cases hj : j < c
  · exact h1 i j g1 g2 hj
  · by_cases hi : i < c
    · exact h i j g1 hi (by omega) g3
    · exact h2 i j (by omega) g2 g3
structure Ins1 (a i j : Nat) (l : List α) : Prop where
  up : ∀ p q, a ≤ p → p < q → q ≤ i → p ≠ j → q ≠ j → ky key l p ≤ ky key l q
  lo : ∀ q, j < q → q ≤ i → ky key l j ≤ ky key l q
theorem ins_start {a i : Nat} {l : List α} (h : Srt key a i l) : Ins1 key a i i l := ⟨fun p q h1 h2 h3 h4 h5 => h p q h1 h2 (by omega), fun q h1 h2 => by omega⟩
theorem ins_step {a i j : Nat} {l : List α} (h : Ins1 key a i j l) (hj : a < j) (hji : j ≤ i) (hl : i < l.length) (hk : ky key l j < ky key l (j - 1)) : Ins1 key a i (j - 1) (swp l j (j - 1)) := by
  have e := swp_ky key (l := l) (i := j) (j := j - 1) (by omega) (by omega)
  refine ⟨fun p q h1 h2 h3 h4 h5 => ?_, fun q h1 h2 => ?_⟩
  · rw [e, e, if_neg (c := p = j - 1) (by omega), if_neg (c := q = j - 1) (by omega)]
    by_cases hp : p = j
    · subst hp; rw [if_pos rfl, if_neg (by omega)]; exact h.up _ _ (by omega) (by omega) h3 (by omega) (by omega)
    · rw [if_neg hp]
      by_cases hq : q = j
      · subst hq; rw [if_pos rfl]; exact h.up _ _ h1 (by omega) (by omega) (by omega) (by omega)
      · rw [if_neg hq]; exact h.up _ _ h1 h2 h3 hp hq
  · rw [e, e, if_neg (c := j - 1 = j) (by omega), if_pos rfl]
    by_cases hq : q = j
    · subst hq; rw [if_pos rfl]; omega
    · rw [if_neg hq, if_neg (by omega)]; exact h.lo q (by omega) h2
theorem ins_end {a i j : Nat} {l : List α} (h : Ins1 key a i j l) (hji : j ≤ i) (hj : j ≤ a ∨ ky key l (j - 1) ≤ ky key l j) : Srt key a (i + 1) l := fun p q h1 h2 h3 => by
  by_cases hp : p = j
  · subst hp; exact h.lo q h2 (by omega)
  · by_cases hq : q = j
    · subst hq
      rcases hj with hj | hj
      · omega
      · by_cases hp1 : p = q - 1
        · rw [hp1]; exact hj
        · have := h.up p (q - 1) h1 (by omega) (by omega) hp (by omega)
          omega
    · exact h.up p q h1 h2 (by omega) hp hq
end
end Go.Azalai
namespace Go.Azalai
def swR (a b n : Nat) (K : Nat → Int) : Nat → Int := fun p => if a ≤ p ∧ p < a + n then K (p + b - a) else if b ≤ p ∧ p < b + n then K (p + a - b) else K p
def rotT (a m b : Nat) (K : Nat → Int) : Nat → Int := fun p => if a ≤ p ∧ p < a + (b - m) then K (p + (m - a)) else if a + (b - m) ≤ p ∧ p < b then K (p - (b - m)) else K p
theorem swR_0 (a b : Nat) (K : Nat → Int) (p : Nat) : swR a b 0 K p = K p := by
  unfold swR; rw [if_neg (by omega), if_neg (by omega)]
theorem swR_succ {a b n : Nat} {K : Nat → Int} (hab : a + n < b) (p : Nat) : swR a b (n + 1) K p = if p = a + n then swR a b n K (b + n) else if p = b + n then swR a b n K (a + n) else swR a b n K p := by
  unfold swR
  by_cases h1 : p = a + n
  · subst h1
    rw [if_pos (by omega), if_pos rfl, if_neg (by omega), if_neg (by omega)]; congr 1; omega
  · rw [if_neg h1]
    by_cases h2 : p = b + n
    · subst h2
      rw [if_neg (by omega), if_pos (by omega), if_pos rfl, if_neg (by omega), if_neg (by omega)]; congr 1; omega
    · rw [if_neg h2]
      by_cases h3 : a ≤ p ∧ p < a + n
      · rw [if_pos (by omega), if_pos h3]
      · rw [if_neg (by omega), if_neg h3]
        by_cases h4 : b ≤ p ∧ p < b + n
        · rw [if_pos (by omega), if_pos h4]
        · rw [if_neg (by omega), if_neg h4]
structure RotI (m i j : Nat) (K T : Nat → Int) : Prop where
  out : ∀ p, p < m - i ∨ m + j ≤ p → K p = T p
  x : ∀ p, m - i ≤ p → p < m - i + j → T p = K (p + i)
  y : ∀ p, m - i + j ≤ p → p < m + j → T p = K (p - j)
theorem rot_start {a m b : Nat} {K : Nat → Int} (h1 : a ≤ m) (h2 : m ≤ b) : RotI m (m - a) (b - m) K (rotT a m b K) := by
  have e : m - (m - a) = a := by omega
  refine ⟨fun p hp => ?_, fun p q1 q2 => ?_, fun p q1 q2 => ?_⟩ <;> unfold rotT <;> rw [e] at *
  · rw [if_neg (by omega), if_neg (by omega)]
  · rw [if_pos (by omega)]
  · rw [if_neg (by omega), if_pos (by omega)]
theorem rot_gt {m i j : Nat} {K T : Nat → Int} (h : RotI m i j K T) (hi : i ≤ m) (hj : 0 < j) (hij : j < i) : RotI m (i - j) j (swR (m - i) m j K) T := by
  refine ⟨fun p hp => ?_, fun p q1 q2 => ?_, fun p q1 q2 => ?_⟩ <;> unfold swR
  · by_cases h1 : m - i ≤ p ∧ p < m - i + j
    · rw [if_pos h1, h.x p h1.1 h1.2]; congr 1; omega
    · rw [if_neg h1, if_neg (by omega)]; exact h.out p (by omega)
  · rw [if_neg (by omega), if_pos (by omega), h.y p (by omega) (by omega)]; congr 1; omega
  · rw [if_neg (by omega), if_neg (by omega), h.y p (by omega) (by omega)]
theorem rot_lt {m i j : Nat} {K T : Nat → Int} (h : RotI m i j K T) (hi : i ≤ m) (hi0 : 0 < i) (hij : i < j) : RotI m i (j - i) (swR (m - i) (m + j - i) i K) T := by
  refine ⟨fun p hp => ?_, fun p q1 q2 => ?_, fun p q1 q2 => ?_⟩ <;> unfold swR
  · by_cases h1 : m + j - i ≤ p ∧ p < m + j
    · rw [if_neg (by omega), if_pos (by omega), h.y p (by omega) (by omega)]; congr 1; omega
    · rw [if_neg (by omega), if_neg (by omega)]; exact h.out p (by omega)
  · rw [if_neg (by omega), if_neg (by omega)]; exact h.x p (by omega) (by omega)
  · rw [if_pos (by omega), h.x p (by omega) (by omega)]; congr 1; omega
theorem rot_eq {m i : Nat} {K T : Nat → Int} (h : RotI m i i K T) (hi : i ≤ m) (p : Nat) : swR (m - i) m i K p = T p := by
  unfold swR
  by_cases h1 : m - i ≤ p ∧ p < m - i + i
  · rw [if_pos h1, h.x p h1.1 h1.2]; congr 1; omega
  · by_cases h2 : m ≤ p ∧ p < m + i
    · rw [if_neg h1, if_pos h2, h.y p (by omega) (by omega)]; congr 1; omega
    · rw [if_neg h1, if_neg h2]; exact h.out p (by omega)
def SrtK (a b : Nat) (K : Nat → Int) : Prop := ∀ i j, a ≤ i → i < j → j < b → K i ≤ K j
theorem SrtK.le {a b : Nat} {K : Nat → Int} (h : SrtK a b K) {i j : Nat} (h1 : a ≤ i) (h2 : i ≤ j) (h3 : j < b) : K i ≤ K j := by
  rcases Nat.lt_or_ge i j with q | q
  · exact h i j h1 q h3
  · rw [show i = j from by omega]; exact Int.le_refl _
/-- the cut: 's' in the first part, 'n - s' in the second -/
structure Cut (a m b n s : Nat) (K : Nat → Int) : Prop where
  s0 : a ≤ s
  s1 : s ≤ m
  e0 : m + s ≤ n
  e1 : n ≤ b + s
  mid : 2 * (n - m) ≤ a + b ∧ a + b ≤ 2 * (n - m) + 1
  lo : a < s → n < b + s → K (s - 1) ≤ K (n - s)
  hi : s < m → m + s < n → K (n - s - 1) ≤ K s
theorem cut_ok {a m b n s : Nat} {K : Nat → Int} (h : Cut a m b n s K) (h1 : SrtK a m K) (h2 : SrtK m b K) :
    SrtK a s (rotT s m (n - s) K) ∧ SrtK s (n - m) (rotT s m (n - s) K) ∧ SrtK (n - m) (n - s) (rotT s m (n - s) K) ∧ SrtK (n - s) b (rotT s m (n - s) K) ∧
      ∀ i j, a ≤ i → i < n - m → n - m ≤ j → j < b → rotT s m (n - s) K i ≤ rotT s m (n - s) K j := by
  obtain ⟨q1, q2, q3, q4, q5, q6, q7⟩ := h
  have e : s + (n - s - m) = n - m := by omega
  have v1 : ∀ p, p < s → rotT s m (n - s) K p = K p := fun p hp => by unfold rotT; rw [if_neg (by omega), if_neg (by omega)]
  have v2 : ∀ p, s ≤ p → p < n - m → rotT s m (n - s) K p = K (p + (m - s)) := fun p g1 g2 => by unfold rotT; rw [if_pos (by omega)]
  have v3 : ∀ p, n - m ≤ p → p < n - s → rotT s m (n - s) K p = K (p - (n - s - m)) := fun p g1 g2 => by unfold rotT; rw [if_neg (by omega), if_pos (by omega)]
  have v4 : ∀ p, n - s ≤ p → rotT s m (n - s) K p = K p := fun p g1 => by unfold rotT; rw [if_neg (by omega), if_neg (by omega)]
  refine ⟨fun i j g1 g2 g3 => ?_, fun i j g1 g2 g3 => ?_, fun i j g1 g2 g3 => ?_, fun i j g1 g2 g3 => ?_, fun i j g1 g2 g3 g4 => ?_⟩
  · rw [v1 i (by omega), v1 j (by omega)]; exact h1 i j g1 g2 (by omega)
  · rw [v2 i (by omega) (by omega), v2 j (by omega) (by omega)]; exact h2 _ _ (by omega) (by omega) (by omega)
  · rw [v3 i (by omega) (by omega), v3 j (by omega) (by omega)]; exact h1 _ _ (by omega) (by omega) (by omega)
  · rw [v4 i (by omega), v4 j (by omega)]; exact h2 _ _ (by omega) g2 g3
  · by_cases hi : i < s
    · rw [v1 i hi]
      by_cases hj : j < n - s
      · rw [v3 j g3 hj]; exact h1.le g1 (by omega) (by omega)
      · rw [v4 j (by omega)]
        exact Int.le_trans (h1.le g1 (j := s - 1) (by omega) (by omega)) (Int.le_trans (q6 (by omega) (by omega)) (h2.le (i := n - s) (by omega) (by omega) g4))
    · rw [v2 i (by omega) g2]
      by_cases hj : j < n - s
      · rw [v3 j g3 hj]
        exact Int.le_trans (h2.le (j := n - s - 1) (by omega) (by omega) (by omega)) (Int.le_trans (q7 (by omega) (by omega)) (h1.le (i := s) (by omega) (by omega) (by omega)))
      · rw [v4 j (by omega)]; exact h2.le (by omega) (by omega) g4
end Go.Azalai
set_option maxRecDepth 100000
set_option maxHeartbeats 4000000
namespace Go.Azalai
structure Meet where
  a : Int
  b : Int
  day : Int
  close : Bool
deriving DecidableEq
end Go.Azalai
namespace Go.Proofs.Ytnlfjchbhgikaaa
open Go Go.Sx Go.Azalai
def meetL (m : Meet) : List SV := [I m.a, I m.b, I m.day, B m.close]
def rowO (v : Nat) (l : List Meet) : Ot := ⟨false, .tup [], [(0, .row v 4 (l.map meetL) 73)], 1⟩
theorem swr_ok (v a b n : Nat) (l : List Meet) (hab : a + n ≤ b) (hb : b + n ≤ l.length) (hL : l.length < 4611686018427387904) :
    CtM Try.prog 108 [(0, .row v 4 (l.map meetL) 73)] 1 [.mr 0 v, I a, I b, I n, .cl 81 []] (fun o => ∃ l', PIn a (b + n) l l' ∧ (∀ p, ky Meet.day l' p = swR a b n (ky Meet.day l) p) ∧ o = rowO v l') := by
  refine m108 (by simp [hpb]) (fun o ho => by obtain ⟨l', _, _, rfl⟩ := ho; simp [rowO, KX, KXL, KXP, KXH, KFR_iff, KFL, KF, meetL]) ?_
  dsimp only [c108, r108, go_sem, Nat.reduceAdd, Nat.reduceMul, Nat.reduceSub]
  refine loopO (fun s : Nat × List Meet => [(10, I s.1)]) (fun s => [(0, .row v 4 (s.2.map meetL) 73)]) (fun s => s.1 ≤ n ∧ PIn a (b + n) l s.2 ∧ ∀ p, ky Meet.day s.2 p = swR a b s.1 (ky Meet.day l) p) (fun s => n - s.1) (0, l) ⟨Nat.zero_le _, .refl _ _ _, fun p => (swR_0 _ _ _ _).symm⟩ ?_ ?_
  · (refine ent_id ?_ ?_ ?_ rfl rfl <;> dsimp only [meetL, id, go_sem, Nat.reduceAdd, Nat.reduceMul, Nat.reduceSub] <;> simp [meetL, KFR_iff, KFR_app, KFR, KFL, KF, mtL_same, mtO, Nat.beq_refl])
  rintro ⟨j, l1⟩ ⟨hj, hp, hk⟩
  simp only at hj hp hk
  have hl1 := hp.len
  dsimp only [go_sem, Nat.reduceAdd, Nat.reduceMul, Nat.reduceSub]
  by_cases hlt : j < n
  · refine br_t (by simpa using hlt) ?_
    ((try dsimp only [go_sem, Nat.reduceAdd, Nat.reduceMul, Nat.reduceSub]); repeat (simp only [Nat.beq_refl]; try dsimp only [go_sem, Nat.reduceAdd, Nat.reduceMul, Nat.reduceSub]))
    simp (disch := omega) only [w64_in, List.length_map]
    refine ixrm (b + j) (by omega) (by omega) ?_
    ((try dsimp only [go_sem, Nat.reduceAdd, Nat.reduceMul, Nat.reduceSub]); repeat (simp only [Nat.beq_refl]; try dsimp only [go_sem, Nat.reduceAdd, Nat.reduceMul, Nat.reduceSub]))
    refine ldrm (by omega) ?_
    ((try dsimp only [meetL, go_sem, Nat.reduceAdd, Nat.reduceMul, Nat.reduceSub]); repeat (simp only [Nat.beq_refl]; try dsimp only [go_sem, Nat.reduceAdd, Nat.reduceMul, Nat.reduceSub]))
    simp (disch := omega) only [w64_in, List.length_map]
    refine ixrm (a + j) (by omega) (by omega) ?_
    ((try dsimp only [go_sem, Nat.reduceAdd, Nat.reduceMul, Nat.reduceSub]); repeat (simp only [Nat.beq_refl]; try dsimp only [go_sem, Nat.reduceAdd, Nat.reduceMul, Nat.reduceSub]))
    refine ldrm (by omega) ?_
    ((try dsimp only [meetL, go_sem, Nat.reduceAdd, Nat.reduceMul, Nat.reduceSub]); repeat (simp only [Nat.beq_refl]; try dsimp only [go_sem, Nat.reduceAdd, Nat.reduceMul, Nat.reduceSub]))
    refine ixrm (a + j) (by omega) (by simp; omega) ?_
    ((try dsimp only [go_sem, Nat.reduceAdd, Nat.reduceMul, Nat.reduceSub]); repeat (simp only [Nat.beq_refl]; try dsimp only [go_sem, Nat.reduceAdd, Nat.reduceMul, Nat.reduceSub]))
    refine strm l1[b + j] (by omega) (by simp [meetL]) (by simp [meetL, splice]) ?_
    ((try dsimp only [go_sem, Nat.reduceAdd, Nat.reduceMul, Nat.reduceSub]); repeat (simp only [Nat.beq_refl]; try dsimp only [go_sem, Nat.reduceAdd, Nat.reduceMul, Nat.reduceSub]))
    refine ixrm (b + j) (w64_in (by omega) (by omega)) (by simp; omega) ?_
    ((try dsimp only [go_sem, Nat.reduceAdd, Nat.reduceMul, Nat.reduceSub]); repeat (simp only [Nat.beq_refl]; try dsimp only [go_sem, Nat.reduceAdd, Nat.reduceMul, Nat.reduceSub]))
    refine strm l1[a + j] (by simp; omega) (by simp [meetL]) (by simp [meetL, splice]) ?_
    rw [← swp_eq (l := l1) (i := a + j) (j := b + j) (by omega) (by omega)]
    ((try dsimp only [go_sem, Nat.reduceAdd, Nat.reduceMul, Nat.reduceSub]); repeat (simp only [Nat.beq_refl]; try dsimp only [go_sem, Nat.reduceAdd, Nat.reduceMul, Nat.reduceSub]))
    rw [w64_in (n := (j : Int) + 1) (by omega) (by omega)]
    refine ⟨(j + 1, swp l1 (a + j) (b + j)), ⟨hlt, hp.trans (.swap (by omega) (by omega) (by omega) (by omega) (by omega)), fun p => ?_⟩, by simp only; omega, ?_⟩
    · rw [swp_ky Meet.day (by omega) (by omega), swR_succ (by omega), hk, hk, hk]
    (refine ent_id ?_ ?_ ?_ rfl rfl <;> dsimp only [meetL, id, go_sem, Nat.reduceAdd, Nat.reduceMul, Nat.reduceSub] <;> simp [meetL, KFR_iff, KFR_app, KFR, KFL, KF, mtL_same, mtO, Nat.beq_refl])
  refine br_f (by simp; omega) ?_
  dsimp only [go_sem, Nat.reduceAdd, Nat.reduceMul, Nat.reduceSub]
  refine ⟨_, ⟨l1, hp, fun p => by rw [hk p, show j = n from by omega], rfl⟩, ?_⟩
  simp only [rowO]
  (refine entO_id ?_ ?_ ?_ rfl <;> dsimp only [meetL, id, go_sem, Nat.reduceAdd, Nat.reduceMul, Nat.reduceSub] <;> simp [meetL, KFR_iff, KFR_app, KFR, KFL, KF, mtL_same, mtO, Nat.beq_refl])
theorem rot_ok (v a m b : Nat) (l : List Meet) (ham : a < m) (hmb : m < b) (hb : b ≤ l.length) (hL : l.length < 4611686018427387904) :
    CtM Try.prog 107 [(0, .row v 4 (l.map meetL) 73)] 1 [.mr 0 v, I a, I m, I b, .cl 81 []] (fun o => ∃ l', PIn a b l l' ∧ (∀ p, ky Meet.day l' p = rotT a m b (ky Meet.day l) p) ∧ o = rowO v l') := by
  refine m107 (by simp [hpb]) (fun o ho => by obtain ⟨l', _, _, rfl⟩ := ho; simp [rowO, KX, KXL, KXP, KXH, KFR_iff, KFL, KF, meetL]) ?_
  dsimp only [c107, r107, go_sem, Nat.reduceAdd, Nat.reduceMul, Nat.reduceSub]
  rw [w64_in (n := (m : Int) - (a : Int)) (by omega) (by omega), w64_in (n := (b : Int) - (m : Int)) (by omega) (by omega), show (m : Int) - (a : Int) = ((m - a : Nat) : Int) from by omega, show (b : Int) - (m : Int) = ((b - m : Nat) : Int) from by omega]
  refine loopO (fun s : Nat × Nat × List Meet => [(10, I s.1), (11, I s.2.1)]) (fun s => [(0, .row v 4 (s.2.2.map meetL) 73)]) (fun s => (0 < s.1 ∧ 0 < s.2.1 ∧ a + s.1 ≤ m ∧ m + s.2.1 ≤ b) ∧ PIn a b l s.2.2 ∧ RotI m s.1 s.2.1 (ky Meet.day s.2.2) (rotT a m b (ky Meet.day l))) (fun s => s.1 + s.2.1) (m - a, b - m, l) ⟨by simp only; omega, .refl _ _ _, rot_start (by omega) (by omega)⟩ ?_ ?_
  · (refine ent_id ?_ ?_ ?_ rfl rfl <;> dsimp only [meetL, id, go_sem, Nat.reduceAdd, Nat.reduceMul, Nat.reduceSub] <;> simp [meetL, KFR_iff, KFR_app, KFR, KFL, KF, mtL_same, mtO, Nat.beq_refl])
  rintro ⟨i, j, l1⟩ ⟨⟨hi0, hj0, hi, hj⟩, hp, hk⟩
  simp only at hi0 hj0 hi hj hp hk
  have hl1 := hp.len
  dsimp only [go_sem, Nat.reduceAdd, Nat.reduceMul, Nat.reduceSub]
  by_cases hij : i = j
  case pos =>
    subst hij
    refine br_f (by simp) ?_
    dsimp only [go_sem, Nat.reduceAdd, Nat.reduceMul, Nat.reduceSub]
    rw [w64_in (n := (m : Int) - (i : Int)) (by omega) (by omega), show (m : Int) - (i : Int) = ((m - i : Nat) : Int) from by omega]
    refine callmP [0] (swr_ok v (m - i) m i l1 (by omega) (by omega) (by omega)) rfl rfl rfl ?_ ?_ ?_
    · ((try dsimp only [go_sem, Nat.reduceAdd, Nat.reduceMul, Nat.reduceSub]); repeat (simp only [Nat.beq_refl]; try dsimp only [go_sem, Nat.reduceAdd, Nat.reduceMul, Nat.reduceSub]))
      simp [mtL, mtB, mtS]
    · ((try dsimp only [go_sem, Nat.reduceAdd, Nat.reduceMul, Nat.reduceSub]); repeat (simp only [Nat.beq_refl]; try dsimp only [go_sem, Nat.reduceAdd, Nat.reduceMul, Nat.reduceSub]))
      simp [KFR_iff, meetL, KFL, KF]
    rintro _ ⟨l2, hp2, hk2, rfl⟩
    ((try dsimp only [rowO, go_sem, Nat.reduceAdd, Nat.reduceMul, Nat.reduceSub]); repeat (simp only [Nat.beq_refl]; try dsimp only [go_sem, Nat.reduceAdd, Nat.reduceMul, Nat.reduceSub]))
    refine ⟨_, ⟨l2, hp.trans (hp2.mono (by omega) (by omega)), fun p => by rw [hk2 p]; exact rot_eq hk (by omega) p, rfl⟩, ?_⟩
    (refine entO_id ?_ ?_ ?_ rfl <;> dsimp only [meetL, id, go_sem, Nat.reduceAdd, Nat.reduceMul, Nat.reduceSub] <;> simp [meetL, KFR_iff, KFR_app, KFR, KFL, KF, mtL_same, mtO, Nat.beq_refl])
  refine br_t (by simp; omega) ?_
  dsimp only [go_sem, Nat.reduceAdd, Nat.reduceMul, Nat.reduceSub]
  by_cases hgt : j < i
  · refine br_t (by simp; omega) ?_
    dsimp only [go_sem, Nat.reduceAdd, Nat.reduceMul, Nat.reduceSub]
    rw [w64_in (n := (m : Int) - (i : Int)) (by omega) (by omega), show (m : Int) - (i : Int) = ((m - i : Nat) : Int) from by omega]
    refine callmP [0] (swr_ok v (m - i) m j l1 (by omega) (by omega) (by omega)) rfl rfl rfl ?_ ?_ ?_
    · ((try dsimp only [go_sem, Nat.reduceAdd, Nat.reduceMul, Nat.reduceSub]); repeat (simp only [Nat.beq_refl]; try dsimp only [go_sem, Nat.reduceAdd, Nat.reduceMul, Nat.reduceSub]))
      simp [mtL, mtB, mtS]
    · ((try dsimp only [go_sem, Nat.reduceAdd, Nat.reduceMul, Nat.reduceSub]); repeat (simp only [Nat.beq_refl]; try dsimp only [go_sem, Nat.reduceAdd, Nat.reduceMul, Nat.reduceSub]))
      simp [KFR_iff, meetL, KFL, KF]
    rintro _ ⟨l2, hp2, hk2, rfl⟩
    ((try dsimp only [rowO, go_sem, Nat.reduceAdd, Nat.reduceMul, Nat.reduceSub]); repeat (simp only [Nat.beq_refl]; try dsimp only [go_sem, Nat.reduceAdd, Nat.reduceMul, Nat.reduceSub]))
    rw [w64_in (n := (i : Int) - (j : Int)) (by omega) (by omega), show (i : Int) - (j : Int) = ((i - j : Nat) : Int) from by omega]
    refine ⟨(i - j, j, l2), ⟨by simp only; omega, hp.trans (hp2.mono (by omega) (by omega)), ?_⟩, by simp only; omega, ?_⟩
    · have := rot_gt hk (by omega) hj0 hgt
      rwa [← show ky Meet.day l2 = swR (m - i) m j (ky Meet.day l1) from funext hk2] at this
    (refine ent_id ?_ ?_ ?_ rfl rfl <;> dsimp only [meetL, id, go_sem, Nat.reduceAdd, Nat.reduceMul, Nat.reduceSub] <;> simp [meetL, KFR_iff, KFR_app, KFR, KFL, KF, mtL_same, mtO, Nat.beq_refl])
  refine br_f (by simp; omega) ?_
  dsimp only [go_sem, Nat.reduceAdd, Nat.reduceMul, Nat.reduceSub]
  simp (disch := omega) only [w64_in]
  rw [show (m : Int) - (i : Int) = ((m - i : Nat) : Int) from by omega, show (m : Int) + (j : Int) - (i : Int) = ((m + j - i : Nat) : Int) from by omega]
  refine callmP [0] (swr_ok v (m - i) (m + j - i) i l1 (by omega) (by omega) (by omega)) rfl rfl rfl ?_ ?_ ?_
  · ((try dsimp only [go_sem, Nat.reduceAdd, Nat.reduceMul, Nat.reduceSub]); repeat (simp only [Nat.beq_refl]; try dsimp only [go_sem, Nat.reduceAdd, Nat.reduceMul, Nat.reduceSub]))
    simp [mtL, mtB, mtS]
  · ((try dsimp only [go_sem, Nat.reduceAdd, Nat.reduceMul, Nat.reduceSub]); repeat (simp only [Nat.beq_refl]; try dsimp only [go_sem, Nat.reduceAdd, Nat.reduceMul, Nat.reduceSub]))
    simp [KFR_iff, meetL, KFL, KF]
  rintro _ ⟨l2, hp2, hk2, rfl⟩
  ((try dsimp only [rowO, go_sem, Nat.reduceAdd, Nat.reduceMul, Nat.reduceSub]); repeat (simp only [Nat.beq_refl]; try dsimp only [go_sem, Nat.reduceAdd, Nat.reduceMul, Nat.reduceSub]))
  rw [w64_in (n := (j : Int) - (i : Int)) (by omega) (by omega), show (j : Int) - (i : Int) = ((j - i : Nat) : Int) from by omega]
  refine ⟨(i, j - i, l2), ⟨by simp only; omega, hp.trans (hp2.mono (by omega) (by omega)), ?_⟩, by simp only; omega, ?_⟩
  · have := rot_lt hk (by omega) hi0 (by omega)
    rwa [← show ky Meet.day l2 = swR (m - i) (m + j - i) i (ky Meet.day l1) from funext hk2] at this
  (refine ent_id ?_ ?_ ?_ rfl rfl <;> dsimp only [meetL, id, go_sem, Nat.reduceAdd, Nat.reduceMul, Nat.reduceSub] <;> simp [meetL, KFR_iff, KFR_app, KFR, KFL, KF, mtL_same, mtO, Nat.beq_refl])
end Go.Proofs.Ytnlfjchbhgikaaa
set_option maxRecDepth 100000
set_option maxHeartbeats 4000000
namespace Go.Azalai
theorem ky_eq {α : Type} (key : α → Int) {l : List α} {i : Nat} (h : i < l.length) : ky key l i = key l[i] := by unfold ky; rw [List.getElem?_eq_getElem h]
def cmpZ (a b : Int) : Int := if a < b then -1 else if b < a then 1 else 0
end Go.Azalai
namespace Go.Proofs.Ytnlfjchbhgikaaa
open Go Go.Sx Go.Azalai
theorem nan_ok (a : Int) : Ct Try.prog 99 [I a] (B false) := by
  refine t99 (by simp [KFL, KF]) (by simp [KFL, KF]) ?_
  dsimp only [c99, r99, go_sem, Nat.reduceAdd, Nat.reduceMul, Nat.reduceSub]
  simp
theorem cmp_ok (a b : Int) : Ct Try.prog 82 [I a, I b] (I (cmpZ a b)) := by
  refine t82 (by simp [KFL, KF]) (by simp [KFL, KF]) ?_
  dsimp only [c82, r82, go_sem, Nat.reduceAdd, Nat.reduceMul, Nat.reduceSub]
  refine call (nan_ok a) ?_
  dsimp only [go_sem, Nat.reduceAdd, Nat.reduceMul, Nat.reduceSub]
  refine call (nan_ok b) ?_
  dsimp only [go_sem, Nat.reduceAdd, Nat.reduceMul, Nat.reduceSub]
  refine br_f rfl ?_
  dsimp only [go_sem, Nat.reduceAdd, Nat.reduceMul, Nat.reduceSub]
  refine br_f rfl ?_
  dsimp only [go_sem, Nat.reduceAdd, Nat.reduceMul, Nat.reduceSub]
  by_cases h1 : a < b
  · refine br_t (by simpa using h1) ?_
    dsimp only [go_sem, Nat.reduceAdd, Nat.reduceMul, Nat.reduceSub]
    simp [cmpZ, h1]
  refine br_f (by simpa using h1) ?_
  dsimp only [go_sem, Nat.reduceAdd, Nat.reduceMul, Nat.reduceSub]
  by_cases h2 : b < a
  · refine br_t (by simpa using h2) ?_
    dsimp only [go_sem, Nat.reduceAdd, Nat.reduceMul, Nat.reduceSub]
    simp [cmpZ, h1, h2]
  refine br_f (by simpa using h2) ?_
  dsimp only [go_sem, Nat.reduceAdd, Nat.reduceMul, Nat.reduceSub]
  simp [cmpZ, h1, h2]
theorem less_ok (x y : Meet) : Ct Try.prog 81 [.agg (meetL x), .agg (meetL y)] (I (cmpZ x.day y.day)) := by
  refine t81 (by simp [meetL, KFL, KF]) (by simp [KFL, KF]) ?_
  dsimp only [c81, r81, meetL, go_sem, Nat.reduceAdd, Nat.reduceMul, Nat.reduceSub]
  refine call (cmp_ok x.day y.day) ?_
  dsimp only [go_sem, Nat.reduceAdd, Nat.reduceMul, Nat.reduceSub]
theorem inss_ok (v a b : Nat) (l : List Meet) (hab : a ≤ b) (hb : b ≤ l.length) (hL : l.length < 4611686018427387904) :
    CtM Try.prog 105 [(0, .row v 4 (l.map meetL) 73)] 1 [.mr 0 v, I a, I b, .cl 81 []] (fun o => ∃ l', PIn a b l l' ∧ Srt Meet.day a b l' ∧ o = rowO v l') := by
  refine m105 (by simp [hpb]) (fun o ho => by obtain ⟨l', _, _, rfl⟩ := ho; simp [rowO, KX, KXL, KXP, KXH, KFR_iff, KFL, KF, meetL]) ?_
  dsimp only [c105, r105, go_sem, Nat.reduceAdd, Nat.reduceMul, Nat.reduceSub]
  rw [w64_in (n := (a : Int) + 1) (by omega) (by omega)]
  refine loopO (fun s : Nat × List Meet => [(8, I (s.1 : Nat))]) (fun s => [(0, .row v 4 (s.2.map meetL) 73)]) (fun s => (a < s.1 ∧ s.1 ≤ max b (a + 1)) ∧ PIn a b l s.2 ∧ Srt Meet.day a s.1 s.2) (fun s => b - s.1) (a + 1, l) ⟨by simp only; omega, .refl _ _ _, fun i j h1 h2 h3 => by simp only at h3; omega⟩ ?_ ?_
  · (refine ent_id ?_ ?_ ?_ rfl rfl <;> dsimp only [meetL, id, go_sem, Nat.reduceAdd, Nat.reduceMul, Nat.reduceSub] <;> simp [meetL, KFR_iff, KFR_app, KFR, KFL, KF, mtL_same, mtO, Nat.beq_refl])
  rintro ⟨i, l1⟩ ⟨⟨hi0, hi⟩, hp, hs⟩
  simp only at hi0 hi hp hs
  have hl1 := hp.len
  dsimp only [go_sem, Nat.reduceAdd, Nat.reduceMul, Nat.reduceSub]
  by_cases hib : i < b
  case neg =>
    refine br_f (by simp; omega) ?_
    dsimp only [go_sem, Nat.reduceAdd, Nat.reduceMul, Nat.reduceSub]
    refine ⟨_, ⟨l1, hp, fun p q g1 g2 g3 => hs p q g1 g2 (by omega), rfl⟩, ?_⟩
    simp only [rowO]
    (refine entO_id ?_ ?_ ?_ rfl <;> dsimp only [meetL, id, go_sem, Nat.reduceAdd, Nat.reduceMul, Nat.reduceSub] <;> simp [meetL, KFR_iff, KFR_app, KFR, KFL, KF, mtL_same, mtO, Nat.beq_refl])
  refine br_t (by simpa using hib) ?_
  dsimp only [go_sem, Nat.reduceAdd, Nat.reduceMul, Nat.reduceSub]
  refine loopO (fun s : Nat × List Meet => [(9, I (s.1 : Nat))]) (fun s => [(0, .row v 4 (s.2.map meetL) 73)]) (fun s => (a ≤ s.1 ∧ s.1 ≤ i) ∧ PIn a b l s.2 ∧ Ins1 Meet.day a i s.1 s.2) (fun s => s.1) (i, l1) ⟨by simp only; omega, hp, ins_start Meet.day hs⟩ ?_ ?_
  · (refine ent_id ?_ ?_ ?_ rfl rfl <;> dsimp only [meetL, id, go_sem, Nat.reduceAdd, Nat.reduceMul, Nat.reduceSub] <;> simp [meetL, KFR_iff, KFR_app, KFR, KFL, KF, mtL_same, mtO, Nat.beq_refl])
  rintro ⟨j, l2⟩ ⟨⟨hj0, hj⟩, hp2, hs2⟩
  simp only at hj0 hj hp2 hs2
  have hl2 := hp2.len
  dsimp only [go_sem, Nat.reduceAdd, Nat.reduceMul, Nat.reduceSub]
  by_cases hja : a < j
  case neg =>
    rw [show decide ((j : Int) > (a : Int)) = false from by simp; omega]
    repeat (refine gb ?_; ((try dsimp only [go_sem, Nat.reduceAdd, Nat.reduceMul, Nat.reduceSub]); repeat (simp only [Nat.beq_refl]; try dsimp only [go_sem, Nat.reduceAdd, Nat.reduceMul, Nat.reduceSub])))
    refine ixrm_v 0 rfl (fun h => by cases h) ?_
    ((try dsimp only [go_sem, Nat.reduceAdd, Nat.reduceMul, Nat.reduceSub]); repeat (simp only [Nat.beq_refl]; try dsimp only [go_sem, Nat.reduceAdd, Nat.reduceMul, Nat.reduceSub]))
    refine gb ?_
    ((try dsimp only [go_sem, Nat.reduceAdd, Nat.reduceMul, Nat.reduceSub]); repeat (simp only [Nat.beq_refl]; try dsimp only [go_sem, Nat.reduceAdd, Nat.reduceMul, Nat.reduceSub]))
    refine ⟨meetL ⟨0, 0, 0, false⟩, imp_v rfl (fun h => by cases h), ?_⟩
    ((try dsimp only [meetL, go_sem, Nat.reduceAdd, Nat.reduceMul, Nat.reduceSub]); repeat (simp only [Nat.beq_refl]; try dsimp only [go_sem, Nat.reduceAdd, Nat.reduceMul, Nat.reduceSub]))
    repeat (refine gb ?_; ((try dsimp only [go_sem, Nat.reduceAdd, Nat.reduceMul, Nat.reduceSub]); repeat (simp only [Nat.beq_refl]; try dsimp only [go_sem, Nat.reduceAdd, Nat.reduceMul, Nat.reduceSub])))
    refine ixrm_v 0 rfl (fun h => by cases h) ?_
    ((try dsimp only [go_sem, Nat.reduceAdd, Nat.reduceMul, Nat.reduceSub]); repeat (simp only [Nat.beq_refl]; try dsimp only [go_sem, Nat.reduceAdd, Nat.reduceMul, Nat.reduceSub]))
    refine gb ?_
    ((try dsimp only [go_sem, Nat.reduceAdd, Nat.reduceMul, Nat.reduceSub]); repeat (simp only [Nat.beq_refl]; try dsimp only [go_sem, Nat.reduceAdd, Nat.reduceMul, Nat.reduceSub]))
    refine ⟨meetL ⟨0, 0, 0, false⟩, imp_v rfl (fun h => by cases h), ?_⟩
    ((try dsimp only [meetL, go_sem, Nat.reduceAdd, Nat.reduceMul, Nat.reduceSub]); repeat (simp only [Nat.beq_refl]; try dsimp only [go_sem, Nat.reduceAdd, Nat.reduceMul, Nat.reduceSub]))
    refine gb ?_
    ((try dsimp only [go_sem, Nat.reduceAdd, Nat.reduceMul, Nat.reduceSub]); repeat (simp only [Nat.beq_refl]; try dsimp only [go_sem, Nat.reduceAdd, Nat.reduceMul, Nat.reduceSub]))
    refine call (less_ok ⟨0, 0, 0, false⟩ ⟨0, 0, 0, false⟩) ?_
    ((try dsimp only [go_sem, Nat.reduceAdd, Nat.reduceMul, Nat.reduceSub]); repeat (simp only [Nat.beq_refl]; try dsimp only [go_sem, Nat.reduceAdd, Nat.reduceMul, Nat.reduceSub]))
    refine gb ?_
    ((try dsimp only [go_sem, Nat.reduceAdd, Nat.reduceMul, Nat.reduceSub]); repeat (simp only [Nat.beq_refl]; try dsimp only [go_sem, Nat.reduceAdd, Nat.reduceMul, Nat.reduceSub]))
    refine br_f rfl ?_
    ((try dsimp only [go_sem, Nat.reduceAdd, Nat.reduceMul, Nat.reduceSub]); repeat (simp only [Nat.beq_refl]; try dsimp only [go_sem, Nat.reduceAdd, Nat.reduceMul, Nat.reduceSub]))
    rw [w64_in (n := (i : Int) + 1) (by omega) (by omega)]
    refine ⟨(i + 1, l2), ⟨by simp only; omega, hp2, ins_end Meet.day hs2 hj (.inl (by omega))⟩, by simp only; omega, ?_⟩
    (refine ent_id ?_ ?_ ?_ rfl rfl <;> dsimp only [meetL, id, go_sem, Nat.reduceAdd, Nat.reduceMul, Nat.reduceSub] <;> simp [meetL, KFR_iff, KFR_app, KFR, KFL, KF, mtL_same, mtO, Nat.beq_refl])
  rw [show decide ((j : Int) > (a : Int)) = true from by simp; omega]
  repeat (refine .inl ⟨rfl, ?_⟩; ((try dsimp only [go_sem, Nat.reduceAdd, Nat.reduceMul, Nat.reduceSub]); repeat (simp only [Nat.beq_refl]; try dsimp only [go_sem, Nat.reduceAdd, Nat.reduceMul, Nat.reduceSub])))
  refine ixrm j rfl (by simp; omega) ?_
  ((try dsimp only [go_sem, Nat.reduceAdd, Nat.reduceMul, Nat.reduceSub]); repeat (simp only [Nat.beq_refl]; try dsimp only [go_sem, Nat.reduceAdd, Nat.reduceMul, Nat.reduceSub]))
  refine .inl ⟨rfl, ?_⟩
  ((try dsimp only [go_sem, Nat.reduceAdd, Nat.reduceMul, Nat.reduceSub]); repeat (simp only [Nat.beq_refl]; try dsimp only [go_sem, Nat.reduceAdd, Nat.reduceMul, Nat.reduceSub]))
  refine ldrm (by omega) ?_
  ((try dsimp only [meetL, go_sem, Nat.reduceAdd, Nat.reduceMul, Nat.reduceSub]); repeat (simp only [Nat.beq_refl]; try dsimp only [go_sem, Nat.reduceAdd, Nat.reduceMul, Nat.reduceSub]))
  repeat (refine .inl ⟨rfl, ?_⟩; ((try dsimp only [go_sem, Nat.reduceAdd, Nat.reduceMul, Nat.reduceSub]); repeat (simp only [Nat.beq_refl]; try dsimp only [go_sem, Nat.reduceAdd, Nat.reduceMul, Nat.reduceSub])))
  rw [w64_in (n := (j : Int) - 1) (by omega) (by omega)]
  refine ixrm (j - 1) (by omega) (by simp; omega) ?_
  ((try dsimp only [go_sem, Nat.reduceAdd, Nat.reduceMul, Nat.reduceSub]); repeat (simp only [Nat.beq_refl]; try dsimp only [go_sem, Nat.reduceAdd, Nat.reduceMul, Nat.reduceSub]))
  refine .inl ⟨rfl, ?_⟩
  ((try dsimp only [go_sem, Nat.reduceAdd, Nat.reduceMul, Nat.reduceSub]); repeat (simp only [Nat.beq_refl]; try dsimp only [go_sem, Nat.reduceAdd, Nat.reduceMul, Nat.reduceSub]))
  refine ldrm (by omega) ?_
  ((try dsimp only [meetL, go_sem, Nat.reduceAdd, Nat.reduceMul, Nat.reduceSub]); repeat (simp only [Nat.beq_refl]; try dsimp only [go_sem, Nat.reduceAdd, Nat.reduceMul, Nat.reduceSub]))
  repeat (refine .inl ⟨rfl, ?_⟩; ((try dsimp only [go_sem, Nat.reduceAdd, Nat.reduceMul, Nat.reduceSub]); repeat (simp only [Nat.beq_refl]; try dsimp only [go_sem, Nat.reduceAdd, Nat.reduceMul, Nat.reduceSub])))
  refine call (less_ok l2[j] l2[j - 1]) ?_
  ((try dsimp only [go_sem, Nat.reduceAdd, Nat.reduceMul, Nat.reduceSub]); repeat (simp only [Nat.beq_refl]; try dsimp only [go_sem, Nat.reduceAdd, Nat.reduceMul, Nat.reduceSub]))
  repeat (refine .inl ⟨rfl, ?_⟩; ((try dsimp only [go_sem, Nat.reduceAdd, Nat.reduceMul, Nat.reduceSub]); repeat (simp only [Nat.beq_refl]; try dsimp only [go_sem, Nat.reduceAdd, Nat.reduceMul, Nat.reduceSub])))
  by_cases hlt : l2[j].day < l2[j - 1].day
  case neg =>
    refine br_f (by simp [cmpZ, hlt]; split <;> decide) ?_
    ((try dsimp only [go_sem, Nat.reduceAdd, Nat.reduceMul, Nat.reduceSub]); repeat (simp only [Nat.beq_refl]; try dsimp only [go_sem, Nat.reduceAdd, Nat.reduceMul, Nat.reduceSub]))
    have hkk : ky Meet.day l2 (j - 1) ≤ ky Meet.day l2 j := by rw [ky_eq Meet.day (l := l2) (i := j - 1) (by omega), ky_eq Meet.day (l := l2) (i := j) (by omega)]; exact Int.not_lt.1 hlt
    rw [w64_in (n := (i : Int) + 1) (by omega) (by omega)]
    refine ⟨(i + 1, l2), ⟨by simp only; omega, hp2, ins_end Meet.day hs2 hj (.inr hkk)⟩, by simp only; omega, ?_⟩
    (refine ent_id ?_ ?_ ?_ rfl rfl <;> dsimp only [meetL, id, go_sem, Nat.reduceAdd, Nat.reduceMul, Nat.reduceSub] <;> simp [meetL, KFR_iff, KFR_app, KFR, KFL, KF, mtL_same, mtO, Nat.beq_refl])
  refine br_t (by simp [cmpZ, hlt]) ?_
  ((try dsimp only [go_sem, Nat.reduceAdd, Nat.reduceMul, Nat.reduceSub]); repeat (simp only [Nat.beq_refl]; try dsimp only [go_sem, Nat.reduceAdd, Nat.reduceMul, Nat.reduceSub]))
  have hkk : ky Meet.day l2 j < ky Meet.day l2 (j - 1) := by rw [ky_eq Meet.day (l := l2) (i := j - 1) (by omega), ky_eq Meet.day (l := l2) (i := j) (by omega)]; exact hlt
  rw [w64_in (n := (j : Int) - 1) (by omega) (by omega)]
  refine ixrm (j - 1) (by omega) (by simp; omega) ?_
  ((try dsimp only [go_sem, Nat.reduceAdd, Nat.reduceMul, Nat.reduceSub]); repeat (simp only [Nat.beq_refl]; try dsimp only [go_sem, Nat.reduceAdd, Nat.reduceMul, Nat.reduceSub]))
  refine ldrm (by omega) ?_
  ((try dsimp only [meetL, go_sem, Nat.reduceAdd, Nat.reduceMul, Nat.reduceSub]); repeat (simp only [Nat.beq_refl]; try dsimp only [go_sem, Nat.reduceAdd, Nat.reduceMul, Nat.reduceSub]))
  refine ixrm j rfl (by simp; omega) ?_
  ((try dsimp only [go_sem, Nat.reduceAdd, Nat.reduceMul, Nat.reduceSub]); repeat (simp only [Nat.beq_refl]; try dsimp only [go_sem, Nat.reduceAdd, Nat.reduceMul, Nat.reduceSub]))
  refine ldrm (by omega) ?_
  ((try dsimp only [meetL, go_sem, Nat.reduceAdd, Nat.reduceMul, Nat.reduceSub]); repeat (simp only [Nat.beq_refl]; try dsimp only [go_sem, Nat.reduceAdd, Nat.reduceMul, Nat.reduceSub]))
  refine ixrm j rfl (by simp; omega) ?_
  ((try dsimp only [go_sem, Nat.reduceAdd, Nat.reduceMul, Nat.reduceSub]); repeat (simp only [Nat.beq_refl]; try dsimp only [go_sem, Nat.reduceAdd, Nat.reduceMul, Nat.reduceSub]))
  refine strm l2[j - 1] (by omega) (by simp [meetL]) (by simp [meetL, splice]) ?_
  ((try dsimp only [go_sem, Nat.reduceAdd, Nat.reduceMul, Nat.reduceSub]); repeat (simp only [Nat.beq_refl]; try dsimp only [go_sem, Nat.reduceAdd, Nat.reduceMul, Nat.reduceSub]))
  refine ixrm (j - 1) (by first | omega | (rw [w64_in (by omega) (by omega)]; omega)) (by simp; omega) ?_
  ((try dsimp only [go_sem, Nat.reduceAdd, Nat.reduceMul, Nat.reduceSub]); repeat (simp only [Nat.beq_refl]; try dsimp only [go_sem, Nat.reduceAdd, Nat.reduceMul, Nat.reduceSub]))
  refine strm l2[j] (by simp; omega) (by simp [meetL]) (by simp [meetL, splice]) ?_
  rw [← swp_eq (l := l2) (i := j) (j := j - 1) (by omega) (by omega)]
  ((try dsimp only [go_sem, Nat.reduceAdd, Nat.reduceMul, Nat.reduceSub]); repeat (simp only [Nat.beq_refl]; try dsimp only [go_sem, Nat.reduceAdd, Nat.reduceMul, Nat.reduceSub]))
  try rw [w64_in (n := (j : Int) - 1) (by omega) (by omega)]
  rw [show (j : Int) - 1 = ((j - 1 : Nat) : Int) from by omega]
  refine ⟨(j - 1, swp l2 j (j - 1)), ⟨by simp only; omega, hp2.trans (.swap (by omega) (by omega) (by omega) (by omega) (by omega)), ins_step Meet.day hs2 hja hj (by omega) hkk⟩, by simp only; omega, ?_⟩
  (refine ent_id ?_ ?_ ?_ rfl rfl <;> dsimp only [meetL, id, go_sem, Nat.reduceAdd, Nat.reduceMul, Nat.reduceSub] <;> simp [meetL, KFR_iff, KFR_app, KFR, KFL, KF, mtL_same, mtO, Nat.beq_refl])
end Go.Proofs.Ytnlfjchbhgikaaa
namespace Go.Azalai
structure Srch (p s0 r0 s r : Nat) (K : Nat → Int) : Prop where
  lo : ∀ c, s0 ≤ c → c < s → K c ≤ K (p - c)
  hi : ∀ c, r ≤ c → c < r0 → K (p - c) < K c
theorem srch_start (p s0 r0 : Nat) (K : Nat → Int) : Srch p s0 r0 s0 r0 K := ⟨fun c h1 h2 => by omega, fun c h1 h2 => by omega⟩
/-- K rises below 'm', and falls when read from the other end -/
theorem srch_up {a m b p s0 r0 s r c : Nat} {K : Nat → Int} (h : Srch p s0 r0 s r K) (h1 : SrtK a m K) (h2 : SrtK m b K) (ha : a ≤ s0) (hr : r0 ≤ m) (hp : ∀ c, s0 ≤ c → c < r0 → m ≤ p - c ∧ p - c < b) (hc : s ≤ c) (hcr : c < r) (hrr : r ≤ r0) (hk : K c ≤ K (p - c)) (hs : s0 ≤ s) : Srch p s0 r0 (c + 1) r K := by
  refine ⟨fun c' g1 g2 => ?_, h.hi⟩
  have q1 := hp c' g1 (by omega)
  have q2 := hp c (by omega) (by omega)
  exact Int.le_trans (h1.le (by omega) (show c' ≤ c by omega) (by omega)) (Int.le_trans hk (h2.le (by omega) (by omega) (by omega)))
theorem srch_down {a m b p s0 r0 s r c : Nat} {K : Nat → Int} (h : Srch p s0 r0 s r K) (h1 : SrtK a m K) (h2 : SrtK m b K) (ha : a ≤ s0) (hr : r0 ≤ m) (hp : ∀ c, s0 ≤ c → c < r0 → m ≤ p - c ∧ p - c < b) (hc : s ≤ c) (hcr : c < r) (hrr : r ≤ r0) (hk : K (p - c) < K c) (hs : s0 ≤ s) : Srch p s0 r0 s c K := by
  refine ⟨h.lo, fun c' g1 g2 => ?_⟩
  have q1 := hp c' (by omega) g2
  have q2 := hp c (by omega) (by omega)
  have e1 := h2.le (i := p - c') (j := p - c) (by omega) (by omega) (by omega)
  have e2 := h1.le (i := c) (j := c') (by omega) (by omega) (by omega)
  omega
theorem cut_of {a m b mid s : Nat} {K : Nat → Int} (ham : a < m) (hmb : m < b) (h1 : 2 * mid ≤ a + b) (h2 : a + b ≤ 2 * mid + 1) (s0 r0 : Nat) (hs0 : s0 = if m > mid then mid + m - b else a) (hr0 : r0 = if m > mid then mid else m)
    (hs : s0 ≤ s) (hr : s ≤ r0) (h : Srch (mid + m - 1) s0 r0 s s K) : Cut a m b (mid + m) s K := by
  by_cases hm : m > mid
  · rw [if_pos hm] at hs0 hr0
    subst hs0; subst hr0
    refine ⟨by omega, by omega, by omega, by omega, by omega, fun g1 g2 => ?_, fun g1 g2 => ?_⟩
    · have := h.lo (s - 1) (by omega) (by omega)
      rwa [show r0 + m - 1 - (s - 1) = r0 + m - s from by omega] at this
    · have := h.hi s (Nat.le_refl _) (by omega)
      rw [show r0 + m - 1 - s = r0 + m - s - 1 from by omega] at this
      exact Int.le_of_lt this
  · rw [if_neg hm] at hs0 hr0
    subst hs0; subst hr0
    refine ⟨by omega, by omega, by omega, by omega, by omega, fun g1 g2 => ?_, fun g1 g2 => ?_⟩
    · have := h.lo (s - 1) (by omega) (by omega)
      rwa [show mid + r0 - 1 - (s - 1) = mid + r0 - s from by omega] at this
    · have := h.hi s (Nat.le_refl _) (by omega)
      rw [show mid + r0 - 1 - s = mid + r0 - s - 1 from by omega] at this
      exact Int.le_of_lt this
end Go.Azalai
namespace Go.Azalai
section
variable {α : Type} (key : α → Int)
structure Cutd (a i mid e b : Nat) (l : List α) : Prop where
  o1 : a ≤ i
  o2 : i ≤ mid
  o3 : mid ≤ e
  o4 : e ≤ b
  s1 : Srt key a i l
  s2 : Srt key i mid l
  s3 : Srt key mid e l
  s4 : Srt key e b l
  x : ∀ p q, a ≤ p → p < mid → mid ≤ q → q < b → ky key l p ≤ ky key l q
structure CutL (a mid e b : Nat) (l : List α) : Prop where
  o1 : a ≤ mid
  o3 : mid ≤ e
  o4 : e ≤ b
  s1 : Srt key a mid l
  s3 : Srt key mid e l
  s4 : Srt key e b l
  x : ∀ p q, a ≤ p → p < mid → mid ≤ q → q < b → ky key l p ≤ ky key l q
theorem cutd_rot {a m b mid i : Nat} {l l1 : List α} (h : Cut a m b (mid + m) i (ky key l)) (h1 : Srt key a m l) (h2 : Srt key m b l) (hk : ∀ p, ky key l1 p = rotT i m (mid + m - i) (ky key l) p) : Cutd key a i mid (mid + m - i) b l1 := by
  have e := cut_ok h h1 h2
  rw [show mid + m - m = mid from by omega] at e
  obtain ⟨q0, q1, q2, q3, q4, q5, q6⟩ := h
  have ek : ky key l1 = rotT i m (mid + m - i) (ky key l) := funext hk
  refine ⟨by omega, by omega, by omega, by omega, ?_, ?_, ?_, ?_, ?_⟩ <;> (try unfold Srt) <;> rw [ek]
  · exact e.1
  · exact e.2.1
  · exact e.2.2.1
  · exact e.2.2.2.1
  · exact e.2.2.2.2
theorem cutd_no {a m b mid i : Nat} {l : List α} (h : Cut a m b (mid + m) i (ky key l)) (h1 : Srt key a m l) (h2 : Srt key m b l) (hn : ¬ (i < m ∧ m < mid + m - i)) : Cutd key a i mid (mid + m - i) b l := by
  refine cutd_rot key h h1 h2 fun p => ?_
  obtain ⟨q0, q1, q2, q3, q4, q5, q6⟩ := h
  unfold rotT
  by_cases c1 : i ≤ p ∧ p < i + (mid + m - i - m)
  · rw [if_pos c1]; congr 1; omega
  · rw [if_neg c1]
    by_cases c2 : i + (mid + m - i - m) ≤ p ∧ p < mid + m - i
    · rw [if_pos c2]; congr 1; omega
    · rw [if_neg c2]
theorem cutl_rec {a i mid e b : Nat} {l l2 : List α} (h : Cutd key a i mid e b l) (hp : PIn a mid l l2) (hs : Srt key a mid l2) (hb : b ≤ l.length) : CutL key a mid e b l2 := by
  obtain ⟨o1, o2, o3, o4, s1, s2, s3, s4, x⟩ := h
  have ke : ∀ q, mid ≤ q → ky key l2 q = ky key l q := fun q hq => hp.ky key (.inr hq)
  refine ⟨by omega, o3, o4, hs, fun p q g1 g2 g3 => ?_, fun p q g1 g2 g3 => ?_, fun p q g1 g2 g3 g4 => ?_⟩
  · rw [ke p g1, ke q (by omega)]; exact s3 p q g1 g2 g3
  · rw [ke p (by omega), ke q (by omega)]; exact s4 p q g1 g2 g3
  · rw [ke q g3]
    exact hp.kall key (by omega) (fun k => k ≤ ky key l q) (fun p q1 q2 => x p q q1 q2 g3 g4) p g1 g2
theorem cutl_no {a i mid e b : Nat} {l : List α} (h : Cutd key a i mid e b l) (hn : ¬ (a < i ∧ i < mid)) : CutL key a mid e b l := by
  obtain ⟨o1, o2, o3, o4, s1, s2, s3, s4, x⟩ := h
  refine ⟨by omega, o3, o4, fun p q g1 g2 g3 => ?_, s3, s4, x⟩
  by_cases hq : a < i
  · exact s1 p q g1 g2 (by omega)
  · exact s2 p q (by omega) g2 g3
theorem cut_rec {a mid e b : Nat} {l l2 : List α} (h : CutL key a mid e b l) (hp : PIn mid b l l2) (hs : Srt key mid b l2) (hb : b ≤ l.length) : Srt key a b l2 := by
  obtain ⟨o1, o3, o4, s1, s3, s4, x⟩ := h
  have ke : ∀ q, q < mid → ky key l2 q = ky key l q := fun q hq => hp.ky key (.inl hq)
  refine Srt.join key (c := mid) (fun p q g1 g2 g3 => ?_) hs (fun p q g1 g2 g3 g4 => ?_)
  · rw [ke p (by omega), ke q g3]; exact s1 p q g1 g2 g3
  · rw [ke p g2]
    exact hp.kall key hb (fun k => ky key l p ≤ k) (fun q q1 q2 => x p q g1 g2 q1 q2) q g3 g4
theorem cut_no {a mid e b : Nat} {l : List α} (h : CutL key a mid e b l) (hn : ¬ (mid < e ∧ e < b)) : Srt key a b l := by
  obtain ⟨o1, o3, o4, s1, s3, s4, x⟩ := h
  refine Srt.join key (c := mid) s1 (fun p q g1 g2 g3 => ?_) x
  by_cases hq : mid < e
  · exact s3 p q g1 g2 (by omega)
  · exact s4 p q (by omega) g2 g3
end
end Go.Azalai
