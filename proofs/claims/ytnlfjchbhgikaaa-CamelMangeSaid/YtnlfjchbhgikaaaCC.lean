import Derived.Test.YtnlfjchbhgikaaaCB
set_option maxRecDepth 100000
set_option maxHeartbeats 4000000
namespace Go.Proofs.Ytnlfjchbhgikaaa
open Go Go.Sx Go.Azalai
theorem breed_bd {b : Breed} (h : okBreed b = true) : 1 ≤ b.full ∧ b.full ≤ 1000000 ∧ 1 ≤ b.fed ∧ b.fed ≤ 1000000 ∧ 0 ≤ b.heal ∧ b.heal ≤ 1000 ∧ (0 ≤ b.strong.lo ∧ b.strong.lo ≤ b.strong.hi ∧ b.strong.hi ≤ 1000000) ∧ (0 ≤ b.rest.lo ∧ b.rest.lo ≤ b.rest.hi ∧ b.rest.hi ≤ 100000) ∧
    (0 ≤ b.heat.lo ∧ b.heat.lo ≤ b.heat.hi ∧ b.heat.hi ≤ 100000) ∧ (0 ≤ b.toil.lo ∧ b.toil.lo ≤ b.toil.hi ∧ b.toil.hi ≤ 100000) ∧ (0 ≤ b.burn.lo ∧ b.burn.lo ≤ b.burn.hi ∧ b.burn.hi ≤ 100000) ∧ (0 ≤ b.rub.lo ∧ b.rub.lo ≤ b.rub.hi ∧ b.rub.hi ≤ 100000) ∧ (0 ≤ b.milk.lo ∧ b.milk.lo ≤ b.milk.hi ∧ b.milk.hi ≤ 100000) := by
  simp only [okBreed, okSp, inR, Bool.and_eq_true, decide_eq_true_eq] at h; omega
theorem camel_bd {b : Breed} {c : Camel} (hb : okBreed b = true) (h : okCamel b c = true) : (0 ≤ c.water.lo ∧ c.water.lo ≤ c.water.hi ∧ c.water.hi ≤ b.full) ∧ (0 ≤ c.fat.lo ∧ c.fat.lo ≤ c.fat.hi ∧ c.fat.hi ≤ b.fed) ∧ (0 ≤ c.sore.lo ∧ c.sore.lo ≤ c.sore.hi ∧ c.sore.hi ≤ 1000) := by
  simp only [okCamel, okSp, Bool.and_eq_true, decide_eq_true_eq] at h; omega
theorem march_bd {m : March} (h : okMarch m = true) : 0 ≤ m.hours ∧ m.hours ≤ 24 ∧ 0 ≤ m.load ∧ m.load ≤ 1000000 ∧ (0 ≤ m.heat.lo ∧ m.heat.lo ≤ m.heat.hi ∧ m.heat.hi ≤ 60) ∧ (0 ≤ m.grass.lo ∧ m.grass.lo ≤ m.grass.hi ∧ m.grass.hi ≤ 1000000) ∧ (0 ≤ m.drinks.lo ∧ m.drinks.lo ≤ m.drinks.hi ∧ m.drinks.hi ≤ 1000000) := by
  simp only [okMarch, okSp, inR, Bool.and_eq_true, decide_eq_true_eq] at h; omega
theorem fit_ok (b : Breed) (c : Camel) (hb : okBreed b = true) (hc : okCamel b c = true) : Ct Try.prog 55 [.agg (beastL b c)] (.agg (spanL (fitF b c))) := by
  obtain ⟨b1, b2, b3, b4, _⟩ := breed_bd hb
  obtain ⟨⟨w1, w2, w3⟩, ⟨f1, f2, f3⟩, ⟨s1, s2, s3⟩⟩ := camel_bd hb hc
  refine t55 (by simp [beastL, KFL, KF]) (by simp [spanL, KFL, KF]) ?_
  dsimp only [c55, r55, beastL, go_sem, Nat.reduceAdd, Nat.reduceMul, Nat.reduceSub]
  refine call (scaled2 c.water b.full 2 1000 0 true w1 w2 (by omega) (by omega) (by omega) (by omega) b1 (by omega)) ?_
  dsimp only [spanL, go_sem, Nat.reduceAdd, Nat.reduceMul, Nat.reduceSub]
  refine call (scaled2 c.fat b.fed 2 1000 0 true f1 f2 (by omega) (by omega) (by omega) (by omega) b3 (by omega)) ?_
  dsimp only [spanL, go_sem, Nat.reduceAdd, Nat.reduceMul, Nat.reduceSub]
  refine call (rest_ok 1000 c.sore (by omega) (by omega) ⟨by omega, by omega, by omega, by omega⟩) ?_
  dsimp only [spanL, go_sem, Nat.reduceAdd, Nat.reduceMul, Nat.reduceSub]
  refine unroll 4 ?_
  dsimp only [rnds_succ, go_sem, Nat.reduceAdd, Nat.reduceMul, Nat.reduceSub]
  refine br_t (by decide) ?_
  dsimp only [rnds_succ, go_sem, Nat.reduceAdd, Nat.reduceMul, Nat.reduceSub]
  refine ixa 0 rfl (by decide) ?_
  dsimp only [rnds_succ, go_sem, Nat.reduceAdd, Nat.reduceMul, Nat.reduceSub]
  refine br_t (by decide) ?_
  dsimp only [rnds_succ, go_sem, Nat.reduceAdd, Nat.reduceMul, Nat.reduceSub]
  refine ixa 1 rfl (by decide) ?_
  dsimp only [rnds_succ, go_sem, Nat.reduceAdd, Nat.reduceMul, Nat.reduceSub]
  refine br_t (by decide) ?_
  dsimp only [rnds_succ, go_sem, Nat.reduceAdd, Nat.reduceMul, Nat.reduceSub]
  refine ixa 2 rfl (by decide) ?_
  dsimp only [rnds_succ, go_sem, Nat.reduceAdd, Nat.reduceMul, Nat.reduceSub]
  refine br_f (by decide) ?_
  dsimp only [go_sem, Nat.reduceAdd, Nat.reduceMul, Nat.reduceSub]
  have e1 : c.water.lo * 2 * 1000 = 2000 * c.water.lo := by omega
  have e2 : c.water.hi * 2 * 1000 = 2000 * c.water.hi := by omega
  have e3 : c.fat.lo * 2 * 1000 = 2000 * c.fat.lo := by omega
  have e4 : c.fat.hi * 2 * 1000 = 2000 * c.fat.hi := by omega
  simp only [e1, e2, e3, e4, fitF, Int.min_assoc]
theorem fitR_ok (b : Breed) (c : Camel) (hb : okBreed b = true) (hc : okCamel b c = true) : Ct Try.prog 56 [.agg (breedL b), .agg (camelL c)] (.agg (spanL (fitF b c))) := by
  obtain ⟨b1, b2, b3, b4, _⟩ := breed_bd hb
  obtain ⟨⟨w1, w2, w3⟩, ⟨f1, f2, f3⟩, ⟨s1, s2, s3⟩⟩ := camel_bd hb hc
  refine t56 (by simp [breedL, camelL, KFL, KF]) (by simp [spanL, KFL, KF]) ?_
  dsimp only [c56, r56, breedL, camelL, spanL, go_sem, Nat.reduceAdd, Nat.reduceMul, Nat.reduceSub]
  rw [w64_in (n := 2000 * c.water.lo) (by omega) (by omega)]
  refine div0 (by omega) ?_
  dsimp only [go_sem, Nat.reduceAdd, Nat.reduceMul, Nat.reduceSub]
  rw [w64_in (n := 2000 * c.fat.lo) (by omega) (by omega)]
  refine div0 (by omega) ?_
  dsimp only [go_sem, Nat.reduceAdd, Nat.reduceMul, Nat.reduceSub]
  rw [w64_in (n := 2000 * c.water.hi) (by omega) (by omega)]
  refine call (upR_ok _ _ (by omega) (by omega) (by omega) (by omega)) ?_
  dsimp only [go_sem, Nat.reduceAdd, Nat.reduceMul, Nat.reduceSub]
  rw [w64_in (n := 2000 * c.fat.hi) (by omega) (by omega)]
  refine call (upR_ok _ _ (by omega) (by omega) (by omega) (by omega)) ?_
  dsimp only [go_sem, Nat.reduceAdd, Nat.reduceMul, Nat.reduceSub]
  have d1 := tdiv_bd (a := 2000 * c.water.lo) (A := 2000000000) (d := b.full) (by omega) (by omega) b1
  have d2 := tdiv_bd (a := 2000 * c.fat.lo) (A := 2000000000) (d := b.fed) (by omega) (by omega) b3
  rw [w64_in (n := 1000 - c.sore.hi) (by omega) (by omega), w64_in (n := 1000 - c.sore.lo) (by omega) (by omega), w64_in (n := (2000 * c.water.lo).tdiv b.full) (by omega) (by omega), w64_in (n := (2000 * c.fat.lo).tdiv b.fed) (by omega) (by omega)]
  simp only [fitF, Int.min_assoc]
theorem fit_bd {b : Breed} {c : Camel} (hb : okBreed b = true) (hc : okCamel b c = true) : 0 ≤ (fitF b c).lo ∧ (fitF b c).lo ≤ 1000 ∧ 0 ≤ (fitF b c).hi ∧ (fitF b c).hi ≤ 1000 := by
  obtain ⟨b1, b2, b3, b4, _⟩ := breed_bd hb
  obtain ⟨⟨w1, w2, w3⟩, ⟨f1, f2, f3⟩, ⟨s1, s2, s3⟩⟩ := camel_bd hb hc
  have d1 := tdiv_bd (a := 2000 * c.water.lo) (A := 2000000000) (d := b.full) (by omega) (by omega) b1
  have d2 := tdiv_bd (a := 2000 * c.fat.lo) (A := 2000000000) (d := b.fed) (by omega) (by omega) b3
  have d3 := up_bd (a := 2000 * c.water.hi) (A := 2000000000) (d := b.full) (by omega) (by omega) b1
  have d4 := up_bd (a := 2000 * c.fat.hi) (A := 2000000000) (d := b.fed) (by omega) (by omega) b3
  simp only [fitF]; omega
theorem car_ok (b : Breed) (c : Camel) (hb : okBreed b = true) (hc : okCamel b c = true) : Ct Try.prog 57 [.agg (beastL b c)] (.agg (spanL (carF b c))) := by
  obtain ⟨b1, b2, b3, b4, _, _, ⟨g1, g2, g3⟩, _⟩ := breed_bd hb
  obtain ⟨q1, q2, q3, q4⟩ := fit_bd hb hc
  have k1 := mul_bd (a := b.strong.lo) (A := 1000000) (b := (fitF b c).lo) (B := 1000) (by omega) (by omega) q1 q2
  have k2 := mul_bd (a := b.strong.hi) (A := 1000000) (b := (fitF b c).hi) (B := 1000) (by omega) (by omega) q3 q4
  refine t57 (by simp [beastL, KFL, KF]) (by simp [spanL, KFL, KF]) ?_
  dsimp only [c57, r57, beastL, go_sem, Nat.reduceAdd, Nat.reduceMul, Nat.reduceSub]
  refine call (fit_ok b c hb hc) ?_
  dsimp only [spanL, go_sem, Nat.reduceAdd, Nat.reduceMul, Nat.reduceSub]
  rw [w64_in (n := b.strong.lo * (fitF b c).lo) (by omega) (by omega)]
  refine div0 (by omega) ?_
  dsimp only [go_sem, Nat.reduceAdd, Nat.reduceMul, Nat.reduceSub]
  rw [w64_in (n := b.strong.hi * (fitF b c).hi) (by omega) (by omega)]
  refine call (ceil_ok _ _ (by omega) (by omega) (by omega) (by omega)) ?_
  dsimp only [go_sem, Nat.reduceAdd, Nat.reduceMul, Nat.reduceSub]
  have d1 := tdiv_bd (a := b.strong.lo * (fitF b c).lo) (d := 1000) k1.1 k1.2 (by omega)
  rw [w64_in (n := (b.strong.lo * (fitF b c).lo).tdiv 1000) (by omega) (by omega)]
  rfl
def sres (b : Breed) (c : Camel) (s : Span) : SV := .tup [.agg (spanL (if errC b c = 0 then s else zeroS)), I (errC b c)]
theorem errC_0 {b : Breed} {c : Camel} : errC b c = 0 ↔ okBreed b = true ∧ okCamel b c = true := by
  simp only [errC]; cases okBreed b <;> cases okCamel b c <;> simp
theorem fitness_ok (b : Breed) (c : Camel) : Ct Try.prog 14 [.agg (breedL b), .agg (camelL c)] (sres b c (fitF b c)) := by
  refine t14 (by simp [breedL, camelL, KFL, KF]) (by simp [sres, spanL, KFL, KF]) ?_
  dsimp only [c14, r14, breedL, camelL, go_sem, Nat.reduceAdd, Nat.reduceMul, Nat.reduceSub]
  refine call (checkCamel_ok b c) ?_
  dsimp only [go_sem, Nat.reduceAdd, Nat.reduceMul, Nat.reduceSub]
  by_cases h : errC b c = 0
  case neg =>
    refine br_t (by simpa using h) ?_
    dsimp only [sres, spanL, go_sem, Nat.reduceAdd, Nat.reduceMul, Nat.reduceSub]
    rw [if_neg h]; rfl
  refine br_f (by simpa using h) ?_
  obtain ⟨hb, hc⟩ := errC_0.1 h
  dsimp only [go_sem, Nat.reduceAdd, Nat.reduceMul, Nat.reduceSub]
  refine call (fit_ok b c hb hc) ?_
  dsimp only [spanL, sres, go_sem, Nat.reduceAdd, Nat.reduceMul, Nat.reduceSub]
  rw [if_pos h, h]
theorem carries_ok (b : Breed) (c : Camel) : Ct Try.prog 16 [.agg (breedL b), .agg (camelL c)] (sres b c (carF b c)) := by
  refine t16 (by simp [breedL, camelL, KFL, KF]) (by simp [sres, spanL, KFL, KF]) ?_
  dsimp only [c16, r16, breedL, camelL, go_sem, Nat.reduceAdd, Nat.reduceMul, Nat.reduceSub]
  refine call (checkCamel_ok b c) ?_
  dsimp only [go_sem, Nat.reduceAdd, Nat.reduceMul, Nat.reduceSub]
  by_cases h : errC b c = 0
  case neg =>
    refine br_t (by simpa using h) ?_
    dsimp only [sres, spanL, go_sem, Nat.reduceAdd, Nat.reduceMul, Nat.reduceSub]
    rw [if_neg h]; rfl
  refine br_f (by simpa using h) ?_
  obtain ⟨hb, hc⟩ := errC_0.1 h
  dsimp only [go_sem, Nat.reduceAdd, Nat.reduceMul, Nat.reduceSub]
  refine call (car_ok b c hb hc) ?_
  dsimp only [spanL, sres, go_sem, Nat.reduceAdd, Nat.reduceMul, Nat.reduceSub]
  rw [if_pos h, h]
theorem fitnessR_ok (b : Breed) (c : Camel) : Ct Try.prog 15 [.agg (breedL b), .agg (camelL c)] (sres b c (fitF b c)) := by
  refine t15 (by simp [breedL, camelL, KFL, KF]) (by simp [sres, spanL, KFL, KF]) ?_
  dsimp only [c15, r15, breedL, camelL, go_sem, Nat.reduceAdd, Nat.reduceMul, Nat.reduceSub]
  refine call (checkCamelR_ok b c) ?_
  dsimp only [go_sem, Nat.reduceAdd, Nat.reduceMul, Nat.reduceSub]
  by_cases h : errC b c = 0
  case neg =>
    refine br_t (by simpa using h) ?_
    dsimp only [sres, spanL, go_sem, Nat.reduceAdd, Nat.reduceMul, Nat.reduceSub]
    rw [if_neg h]; rfl
  refine br_f (by simpa using h) ?_
  obtain ⟨hb, hc⟩ := errC_0.1 h
  dsimp only [go_sem, Nat.reduceAdd, Nat.reduceMul, Nat.reduceSub]
  refine call (fitR_ok b c hb hc) ?_
  dsimp only [spanL, sres, go_sem, Nat.reduceAdd, Nat.reduceMul, Nat.reduceSub]
  rw [if_pos h, h]
theorem carriesR_ok (b : Breed) (c : Camel) : Ct Try.prog 17 [.agg (breedL b), .agg (camelL c)] (sres b c (carF b c)) := by
  refine t17 (by simp [breedL, camelL, KFL, KF]) (by simp [sres, spanL, KFL, KF]) ?_
  dsimp only [c17, r17, breedL, camelL, go_sem, Nat.reduceAdd, Nat.reduceMul, Nat.reduceSub]
  refine call (fitnessR_ok b c) ?_
  dsimp only [sres, spanL, go_sem, Nat.reduceAdd, Nat.reduceMul, Nat.reduceSub]
  by_cases h : errC b c = 0
  case neg =>
    refine br_t (by simpa using h) ?_
    dsimp only [go_sem, Nat.reduceAdd, Nat.reduceMul, Nat.reduceSub]
    rw [if_neg h]; rfl
  refine br_f (by simpa using h) ?_
  obtain ⟨hb, hc⟩ := errC_0.1 h
  obtain ⟨b1, b2, b3, b4, _, _, ⟨g1, g2, g3⟩, _⟩ := breed_bd hb
  obtain ⟨q1, q2, q3, q4⟩ := fit_bd hb hc
  have k1 := mul_bd (a := b.strong.lo) (A := 1000000) (b := (fitF b c).lo) (B := 1000) (by omega) (by omega) q1 q2
  have k2 := mul_bd (a := b.strong.hi) (A := 1000000) (b := (fitF b c).hi) (B := 1000) (by omega) (by omega) q3 q4
  dsimp only [go_sem, Nat.reduceAdd, Nat.reduceMul, Nat.reduceSub]
  rw [if_pos h]
  rw [w64_in (n := b.strong.lo * (fitF b c).lo) (by omega) (by omega)]
  refine div0 (by omega) ?_
  dsimp only [go_sem, Nat.reduceAdd, Nat.reduceMul, Nat.reduceSub]
  rw [w64_in (n := b.strong.hi * (fitF b c).hi) (by omega) (by omega)]
  refine call (upR_ok _ _ (by omega) (by omega) (by omega) (by omega)) ?_
  dsimp only [go_sem, Nat.reduceAdd, Nat.reduceMul, Nat.reduceSub]
  have d1 := tdiv_bd (a := b.strong.lo * (fitF b c).lo) (d := 1000) k1.1 k1.2 (by omega)
  rw [w64_in (n := (b.strong.lo * (fitF b c).lo).tdiv 1000) (by omega) (by omega), if_pos h, h]
  rfl
end Go.Proofs.Ytnlfjchbhgikaaa
