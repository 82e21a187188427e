import Derived.Test.YtnlfjchbhgikaaaCH
set_option maxRecDepth 100000
set_option maxHeartbeats 4000000
namespace Go.Proofs.Ytnlfjchbhgikaaa
open Go Go.Sx Go.Azalai
theorem day_ok (b : Breed) (c : Camel) (m : March) (hb : okBreed b = true) (hc : okCamel b c = true) (hm : okMarch m = true) (hd : (afterF b c m).2 ≠ 2) :
    Ct Try.prog 68 [.agg (beastL b c), .agg (marchL m)] (.tup [.agg (beastL b (afterF b c m).1), .v (.int .u8 (afterF b c m).2)]) := by
  have h1 := breed_bd hb
  have h2 := camel_bd hb hc
  have h3 := march_bd hm
  have w1 := costW_bd (k := c.milks) hb hm
  have w2 := costF_bd hb hm
  have k0 := mul_bd (a := m.hours) (b := m.load) (A := 24) (B := 1000000) (by omega) (by omega) (by omega) (by omega)
  have k1 := mul_bd (a := b.rub.lo) (b := m.hours * m.load) (A := 100000) (B := 24000000) (by omega) (by omega) (by omega) (by omega)
  have k2 := mul_bd (a := b.rub.hi) (b := m.hours * m.load) (A := 100000) (B := 24000000) (by omega) (by omega) (by omega) (by omega)
  have k3 := tdiv_bd k1.1 k1.2 (d := 1000000) (by omega)
  have k4 := up_bd k2.1 k2.2 (d := 1000000) (by omega)
  refine t68 (by simp [beastL, marchL, KFL, KF]) (by simp [beastL, KFL, KF]) ?_
  dsimp only [c68, r68, beastL, marchL, go_sem, Nat.reduceAdd, Nat.reduceMul, Nat.reduceSub]
  refine call (cost_ok b c.milks m hb hm) ?_
  dsimp only [go_sem, Nat.reduceAdd, Nat.reduceMul, Nat.reduceSub]
  generalize hW : costW b c.milks m = W at w1
  generalize hF : costF b m = F at w2
  have hd' : W.lo ≤ c.water.hi ∧ F.lo ≤ c.fat.hi := by
    by_cases h : c.water.hi < W.lo ∨ c.fat.hi < F.lo
    · exact absurd (by simp only [afterF, hW, hF, if_pos h]) hd
    · omega
  clear hd
  have k5 := mul_bd (a := b.rub.hi) (b := m.hours) (A := 100000) (B := 24) (by omega) (by omega) (by omega) (by omega)
  have k6 : b.rub.hi * m.hours * m.load ≤ 100000000000000 := by rw [Int.mul_assoc]; omega
  have hd0 : ¬ (c.water.hi < W.lo ∨ c.fat.hi < F.lo) := by omega
  by_cases hp : c.water.lo < W.hi <;> by_cases hq : c.fat.lo < F.hi
  · refine unroll 3 ?_
    dsimp only [rnds_succ, go_sem, Nat.reduceAdd, Nat.reduceMul, Nat.reduceSub]
    refine br_t (by decide) ?_
    dsimp only [rnds_succ, go_sem, Nat.reduceAdd, Nat.reduceMul, Nat.reduceSub]
    repeat (first | (refine ixa 0 rfl (by decide) ?_; dsimp only [rnds_succ, go_sem, Nat.reduceAdd, Nat.reduceMul, Nat.reduceSub]) | (refine br_f (by simp; omega) ?_; dsimp only [rnds_succ, go_sem, Nat.reduceAdd, Nat.reduceMul, Nat.reduceSub]) | (refine br_t (by simp; omega) ?_; dsimp only [rnds_succ, go_sem, Nat.reduceAdd, Nat.reduceMul, Nat.reduceSub]))
    simp (disch := omega) only [w64_in]
    refine call (plus2 ⟨max 0 (c.water.lo - W.hi), c.water.hi - W.lo⟩ m.drinks _ (by unfold bdS; simp only; omega) (by unfold bdS; omega)) ?_
    dsimp only [rnds_succ, spanL, go_sem, Nat.reduceAdd, Nat.reduceMul, Nat.reduceSub]
    repeat (first | (refine ixa 0 rfl (by decide) ?_; dsimp only [rnds_succ, go_sem, Nat.reduceAdd, Nat.reduceMul, Nat.reduceSub]) | (refine br_f (by simp; omega) ?_; dsimp only [rnds_succ, go_sem, Nat.reduceAdd, Nat.reduceMul, Nat.reduceSub]) | (refine br_t (by simp; omega) ?_; dsimp only [rnds_succ, go_sem, Nat.reduceAdd, Nat.reduceMul, Nat.reduceSub]))
    simp (disch := omega) only [w64_in]
    refine br_t (by decide) ?_
    dsimp only [rnds_succ, go_sem, Nat.reduceAdd, Nat.reduceMul, Nat.reduceSub]
    repeat (first | (refine ixa 1 rfl (by decide) ?_; dsimp only [rnds_succ, go_sem, Nat.reduceAdd, Nat.reduceMul, Nat.reduceSub]) | (refine br_f (by simp; omega) ?_; dsimp only [rnds_succ, go_sem, Nat.reduceAdd, Nat.reduceMul, Nat.reduceSub]) | (refine br_t (by simp; omega) ?_; dsimp only [rnds_succ, go_sem, Nat.reduceAdd, Nat.reduceMul, Nat.reduceSub]))
    simp (disch := omega) only [w64_in]
    refine call (plus2 ⟨max 0 (c.fat.lo - F.hi), c.fat.hi - F.lo⟩ m.grass _ (by unfold bdS; simp only; omega) (by unfold bdS; omega)) ?_
    dsimp only [rnds_succ, spanL, go_sem, Nat.reduceAdd, Nat.reduceMul, Nat.reduceSub]
    repeat (first | (refine ixa 1 rfl (by decide) ?_; dsimp only [rnds_succ, go_sem, Nat.reduceAdd, Nat.reduceMul, Nat.reduceSub]) | (refine br_f (by simp; omega) ?_; dsimp only [rnds_succ, go_sem, Nat.reduceAdd, Nat.reduceMul, Nat.reduceSub]) | (refine br_t (by simp; omega) ?_; dsimp only [rnds_succ, go_sem, Nat.reduceAdd, Nat.reduceMul, Nat.reduceSub]))
    refine br_f (by decide) ?_
    dsimp only [go_sem, Nat.reduceAdd, Nat.reduceMul, Nat.reduceSub]
    have e : (if c.water.lo ≥ W.hi ∧ c.fat.lo ≥ F.hi then (0 : Int) else 1) = 1 := if_neg (by omega)
    by_cases hz : m.hours = 0
    · refine br_t (by simpa using hz) ?_
      dsimp only [go_sem, Nat.reduceAdd, Nat.reduceMul, Nat.reduceSub]
      simp (disch := omega) only [w64_in]
      simp only [afterF, hW, hF, if_neg hd0, lostF, soreF, beastL, e, if_pos hz]
    · refine br_f (by simpa using hz) ?_
      dsimp only [go_sem, Nat.reduceAdd, Nat.reduceMul, Nat.reduceSub]
      refine call (scaled2 b.rub 1000000 m.hours m.load 0 _ (by omega) (by omega) (by omega) (by omega) (by omega) k6 (by omega) (by omega)) ?_
      dsimp only [spanL, go_sem, Nat.reduceAdd, Nat.reduceMul, Nat.reduceSub]
      simp only [Int.mul_assoc]
      refine call (plus2 c.sore ⟨(b.rub.lo * (m.hours * m.load)).tdiv 1000000, upF (b.rub.hi * (m.hours * m.load)) 1000000⟩ _ (by unfold bdS; omega) (by unfold bdS; simp only; omega)) ?_
      dsimp only [spanL, go_sem, Nat.reduceAdd, Nat.reduceMul, Nat.reduceSub]
      simp only [afterF, hW, hF, if_neg hd0, lostF, soreF, beastL, e, if_neg hz]
  · refine unroll 3 ?_
    dsimp only [rnds_succ, go_sem, Nat.reduceAdd, Nat.reduceMul, Nat.reduceSub]
    refine br_t (by decide) ?_
    dsimp only [rnds_succ, go_sem, Nat.reduceAdd, Nat.reduceMul, Nat.reduceSub]
    repeat (first | (refine ixa 0 rfl (by decide) ?_; dsimp only [rnds_succ, go_sem, Nat.reduceAdd, Nat.reduceMul, Nat.reduceSub]) | (refine br_f (by simp; omega) ?_; dsimp only [rnds_succ, go_sem, Nat.reduceAdd, Nat.reduceMul, Nat.reduceSub]) | (refine br_t (by simp; omega) ?_; dsimp only [rnds_succ, go_sem, Nat.reduceAdd, Nat.reduceMul, Nat.reduceSub]))
    simp (disch := omega) only [w64_in]
    refine call (plus2 ⟨max 0 (c.water.lo - W.hi), c.water.hi - W.lo⟩ m.drinks _ (by unfold bdS; simp only; omega) (by unfold bdS; omega)) ?_
    dsimp only [rnds_succ, spanL, go_sem, Nat.reduceAdd, Nat.reduceMul, Nat.reduceSub]
    repeat (first | (refine ixa 0 rfl (by decide) ?_; dsimp only [rnds_succ, go_sem, Nat.reduceAdd, Nat.reduceMul, Nat.reduceSub]) | (refine br_f (by simp; omega) ?_; dsimp only [rnds_succ, go_sem, Nat.reduceAdd, Nat.reduceMul, Nat.reduceSub]) | (refine br_t (by simp; omega) ?_; dsimp only [rnds_succ, go_sem, Nat.reduceAdd, Nat.reduceMul, Nat.reduceSub]))
    simp (disch := omega) only [w64_in]
    refine br_t (by decide) ?_
    dsimp only [rnds_succ, go_sem, Nat.reduceAdd, Nat.reduceMul, Nat.reduceSub]
    repeat (first | (refine ixa 1 rfl (by decide) ?_; dsimp only [rnds_succ, go_sem, Nat.reduceAdd, Nat.reduceMul, Nat.reduceSub]) | (refine br_f (by simp; omega) ?_; dsimp only [rnds_succ, go_sem, Nat.reduceAdd, Nat.reduceMul, Nat.reduceSub]) | (refine br_t (by simp; omega) ?_; dsimp only [rnds_succ, go_sem, Nat.reduceAdd, Nat.reduceMul, Nat.reduceSub]))
    simp (disch := omega) only [w64_in]
    refine call (plus2 ⟨max 0 (c.fat.lo - F.hi), c.fat.hi - F.lo⟩ m.grass _ (by unfold bdS; simp only; omega) (by unfold bdS; omega)) ?_
    dsimp only [rnds_succ, spanL, go_sem, Nat.reduceAdd, Nat.reduceMul, Nat.reduceSub]
    repeat (first | (refine ixa 1 rfl (by decide) ?_; dsimp only [rnds_succ, go_sem, Nat.reduceAdd, Nat.reduceMul, Nat.reduceSub]) | (refine br_f (by simp; omega) ?_; dsimp only [rnds_succ, go_sem, Nat.reduceAdd, Nat.reduceMul, Nat.reduceSub]) | (refine br_t (by simp; omega) ?_; dsimp only [rnds_succ, go_sem, Nat.reduceAdd, Nat.reduceMul, Nat.reduceSub]))
    refine br_f (by decide) ?_
    dsimp only [go_sem, Nat.reduceAdd, Nat.reduceMul, Nat.reduceSub]
    have e : (if c.water.lo ≥ W.hi ∧ c.fat.lo ≥ F.hi then (0 : Int) else 1) = 1 := if_neg (by omega)
    by_cases hz : m.hours = 0
    · refine br_t (by simpa using hz) ?_
      dsimp only [go_sem, Nat.reduceAdd, Nat.reduceMul, Nat.reduceSub]
      simp (disch := omega) only [w64_in]
      simp only [afterF, hW, hF, if_neg hd0, lostF, soreF, beastL, e, if_pos hz]
    · refine br_f (by simpa using hz) ?_
      dsimp only [go_sem, Nat.reduceAdd, Nat.reduceMul, Nat.reduceSub]
      refine call (scaled2 b.rub 1000000 m.hours m.load 0 _ (by omega) (by omega) (by omega) (by omega) (by omega) k6 (by omega) (by omega)) ?_
      dsimp only [spanL, go_sem, Nat.reduceAdd, Nat.reduceMul, Nat.reduceSub]
      simp only [Int.mul_assoc]
      refine call (plus2 c.sore ⟨(b.rub.lo * (m.hours * m.load)).tdiv 1000000, upF (b.rub.hi * (m.hours * m.load)) 1000000⟩ _ (by unfold bdS; omega) (by unfold bdS; simp only; omega)) ?_
      dsimp only [spanL, go_sem, Nat.reduceAdd, Nat.reduceMul, Nat.reduceSub]
      simp only [afterF, hW, hF, if_neg hd0, lostF, soreF, beastL, e, if_neg hz]
  · refine unroll 3 ?_
    dsimp only [rnds_succ, go_sem, Nat.reduceAdd, Nat.reduceMul, Nat.reduceSub]
    refine br_t (by decide) ?_
    dsimp only [rnds_succ, go_sem, Nat.reduceAdd, Nat.reduceMul, Nat.reduceSub]
    repeat (first | (refine ixa 0 rfl (by decide) ?_; dsimp only [rnds_succ, go_sem, Nat.reduceAdd, Nat.reduceMul, Nat.reduceSub]) | (refine br_f (by simp; omega) ?_; dsimp only [rnds_succ, go_sem, Nat.reduceAdd, Nat.reduceMul, Nat.reduceSub]) | (refine br_t (by simp; omega) ?_; dsimp only [rnds_succ, go_sem, Nat.reduceAdd, Nat.reduceMul, Nat.reduceSub]))
    simp (disch := omega) only [w64_in]
    refine call (plus2 ⟨max 0 (c.water.lo - W.hi), c.water.hi - W.lo⟩ m.drinks _ (by unfold bdS; simp only; omega) (by unfold bdS; omega)) ?_
    dsimp only [rnds_succ, spanL, go_sem, Nat.reduceAdd, Nat.reduceMul, Nat.reduceSub]
    repeat (first | (refine ixa 0 rfl (by decide) ?_; dsimp only [rnds_succ, go_sem, Nat.reduceAdd, Nat.reduceMul, Nat.reduceSub]) | (refine br_f (by simp; omega) ?_; dsimp only [rnds_succ, go_sem, Nat.reduceAdd, Nat.reduceMul, Nat.reduceSub]) | (refine br_t (by simp; omega) ?_; dsimp only [rnds_succ, go_sem, Nat.reduceAdd, Nat.reduceMul, Nat.reduceSub]))
    simp (disch := omega) only [w64_in]
    refine br_t (by decide) ?_
    dsimp only [rnds_succ, go_sem, Nat.reduceAdd, Nat.reduceMul, Nat.reduceSub]
    repeat (first | (refine ixa 1 rfl (by decide) ?_; dsimp only [rnds_succ, go_sem, Nat.reduceAdd, Nat.reduceMul, Nat.reduceSub]) | (refine br_f (by simp; omega) ?_; dsimp only [rnds_succ, go_sem, Nat.reduceAdd, Nat.reduceMul, Nat.reduceSub]) | (refine br_t (by simp; omega) ?_; dsimp only [rnds_succ, go_sem, Nat.reduceAdd, Nat.reduceMul, Nat.reduceSub]))
    simp (disch := omega) only [w64_in]
    refine call (plus2 ⟨max 0 (c.fat.lo - F.hi), c.fat.hi - F.lo⟩ m.grass _ (by unfold bdS; simp only; omega) (by unfold bdS; omega)) ?_
    dsimp only [rnds_succ, spanL, go_sem, Nat.reduceAdd, Nat.reduceMul, Nat.reduceSub]
    repeat (first | (refine ixa 1 rfl (by decide) ?_; dsimp only [rnds_succ, go_sem, Nat.reduceAdd, Nat.reduceMul, Nat.reduceSub]) | (refine br_f (by simp; omega) ?_; dsimp only [rnds_succ, go_sem, Nat.reduceAdd, Nat.reduceMul, Nat.reduceSub]) | (refine br_t (by simp; omega) ?_; dsimp only [rnds_succ, go_sem, Nat.reduceAdd, Nat.reduceMul, Nat.reduceSub]))
    refine br_f (by decide) ?_
    dsimp only [go_sem, Nat.reduceAdd, Nat.reduceMul, Nat.reduceSub]
    have e : (if c.water.lo ≥ W.hi ∧ c.fat.lo ≥ F.hi then (0 : Int) else 1) = 1 := if_neg (by omega)
    by_cases hz : m.hours = 0
    · refine br_t (by simpa using hz) ?_
      dsimp only [go_sem, Nat.reduceAdd, Nat.reduceMul, Nat.reduceSub]
      simp (disch := omega) only [w64_in]
      simp only [afterF, hW, hF, if_neg hd0, lostF, soreF, beastL, e, if_pos hz]
    · refine br_f (by simpa using hz) ?_
      dsimp only [go_sem, Nat.reduceAdd, Nat.reduceMul, Nat.reduceSub]
      refine call (scaled2 b.rub 1000000 m.hours m.load 0 _ (by omega) (by omega) (by omega) (by omega) (by omega) k6 (by omega) (by omega)) ?_
      dsimp only [spanL, go_sem, Nat.reduceAdd, Nat.reduceMul, Nat.reduceSub]
      simp only [Int.mul_assoc]
      refine call (plus2 c.sore ⟨(b.rub.lo * (m.hours * m.load)).tdiv 1000000, upF (b.rub.hi * (m.hours * m.load)) 1000000⟩ _ (by unfold bdS; omega) (by unfold bdS; simp only; omega)) ?_
      dsimp only [spanL, go_sem, Nat.reduceAdd, Nat.reduceMul, Nat.reduceSub]
      simp only [afterF, hW, hF, if_neg hd0, lostF, soreF, beastL, e, if_neg hz]
  · refine unroll 3 ?_
    dsimp only [rnds_succ, go_sem, Nat.reduceAdd, Nat.reduceMul, Nat.reduceSub]
    refine br_t (by decide) ?_
    dsimp only [rnds_succ, go_sem, Nat.reduceAdd, Nat.reduceMul, Nat.reduceSub]
    repeat (first | (refine ixa 0 rfl (by decide) ?_; dsimp only [rnds_succ, go_sem, Nat.reduceAdd, Nat.reduceMul, Nat.reduceSub]) | (refine br_f (by simp; omega) ?_; dsimp only [rnds_succ, go_sem, Nat.reduceAdd, Nat.reduceMul, Nat.reduceSub]) | (refine br_t (by simp; omega) ?_; dsimp only [rnds_succ, go_sem, Nat.reduceAdd, Nat.reduceMul, Nat.reduceSub]))
    simp (disch := omega) only [w64_in]
    refine call (plus2 ⟨max 0 (c.water.lo - W.hi), c.water.hi - W.lo⟩ m.drinks _ (by unfold bdS; simp only; omega) (by unfold bdS; omega)) ?_
    dsimp only [rnds_succ, spanL, go_sem, Nat.reduceAdd, Nat.reduceMul, Nat.reduceSub]
    repeat (first | (refine ixa 0 rfl (by decide) ?_; dsimp only [rnds_succ, go_sem, Nat.reduceAdd, Nat.reduceMul, Nat.reduceSub]) | (refine br_f (by simp; omega) ?_; dsimp only [rnds_succ, go_sem, Nat.reduceAdd, Nat.reduceMul, Nat.reduceSub]) | (refine br_t (by simp; omega) ?_; dsimp only [rnds_succ, go_sem, Nat.reduceAdd, Nat.reduceMul, Nat.reduceSub]))
    simp (disch := omega) only [w64_in]
    refine br_t (by decide) ?_
    dsimp only [rnds_succ, go_sem, Nat.reduceAdd, Nat.reduceMul, Nat.reduceSub]
    repeat (first | (refine ixa 1 rfl (by decide) ?_; dsimp only [rnds_succ, go_sem, Nat.reduceAdd, Nat.reduceMul, Nat.reduceSub]) | (refine br_f (by simp; omega) ?_; dsimp only [rnds_succ, go_sem, Nat.reduceAdd, Nat.reduceMul, Nat.reduceSub]) | (refine br_t (by simp; omega) ?_; dsimp only [rnds_succ, go_sem, Nat.reduceAdd, Nat.reduceMul, Nat.reduceSub]))
    simp (disch := omega) only [w64_in]
    refine call (plus2 ⟨max 0 (c.fat.lo - F.hi), c.fat.hi - F.lo⟩ m.grass _ (by unfold bdS; simp only; omega) (by unfold bdS; omega)) ?_
    dsimp only [rnds_succ, spanL, go_sem, Nat.reduceAdd, Nat.reduceMul, Nat.reduceSub]
    repeat (first | (refine ixa 1 rfl (by decide) ?_; dsimp only [rnds_succ, go_sem, Nat.reduceAdd, Nat.reduceMul, Nat.reduceSub]) | (refine br_f (by simp; omega) ?_; dsimp only [rnds_succ, go_sem, Nat.reduceAdd, Nat.reduceMul, Nat.reduceSub]) | (refine br_t (by simp; omega) ?_; dsimp only [rnds_succ, go_sem, Nat.reduceAdd, Nat.reduceMul, Nat.reduceSub]))
    refine br_f (by decide) ?_
    dsimp only [go_sem, Nat.reduceAdd, Nat.reduceMul, Nat.reduceSub]
    have e : (if c.water.lo ≥ W.hi ∧ c.fat.lo ≥ F.hi then (0 : Int) else 1) = 0 := if_pos (by omega)
    by_cases hz : m.hours = 0
    · refine br_t (by simpa using hz) ?_
      dsimp only [go_sem, Nat.reduceAdd, Nat.reduceMul, Nat.reduceSub]
      simp (disch := omega) only [w64_in]
      simp only [afterF, hW, hF, if_neg hd0, lostF, soreF, beastL, e, if_pos hz]
    · refine br_f (by simpa using hz) ?_
      dsimp only [go_sem, Nat.reduceAdd, Nat.reduceMul, Nat.reduceSub]
      refine call (scaled2 b.rub 1000000 m.hours m.load 0 _ (by omega) (by omega) (by omega) (by omega) (by omega) k6 (by omega) (by omega)) ?_
      dsimp only [spanL, go_sem, Nat.reduceAdd, Nat.reduceMul, Nat.reduceSub]
      simp only [Int.mul_assoc]
      refine call (plus2 c.sore ⟨(b.rub.lo * (m.hours * m.load)).tdiv 1000000, upF (b.rub.hi * (m.hours * m.load)) 1000000⟩ _ (by unfold bdS; omega) (by unfold bdS; simp only; omega)) ?_
      dsimp only [spanL, go_sem, Nat.reduceAdd, Nat.reduceMul, Nat.reduceSub]
      simp only [afterF, hW, hF, if_neg hd0, lostF, soreF, beastL, e, if_neg hz]
end Go.Proofs.Ytnlfjchbhgikaaa
