import Derived.Test.YtnlfjchbhgikaaaCC
set_option maxRecDepth 100000
set_option maxHeartbeats 4000000
namespace Go.Proofs.Ytnlfjchbhgikaaa
open Go Go.Sx Go.Azalai
theorem work_bd {m : March} (h : okMarch m = true) : 0 ≤ workF m ∧ workF m ≤ 26400000 := by
  obtain ⟨h1, h2, h3, h4, _⟩ := march_bd h
  have := mul_bd (a := m.hours) (A := 24) (b := 100000 + m.load) (B := 1100000) h1 h2 (by omega) (by omega)
  exact this
theorem toil_bd {m : March} {x : Int} (h : okMarch m = true) (h0 : 0 ≤ x) (h1 : x ≤ 100000) : 0 ≤ x * workF m ∧ x * workF m ≤ 2640000000000 := by
  obtain ⟨w1, w2⟩ := work_bd h
  exact mul_bd h0 h1 w1 w2
theorem heat_bd {x y : Int} (h0 : 0 ≤ x) (h1 : x ≤ 100000) (h2 : 0 ≤ y) (h3 : y ≤ 60) : 0 ≤ x * max 0 (y - 20) ∧ x * max 0 (y - 20) ≤ 4000000 :=
  mul_bd h0 h1 (B := 40) (by omega) (by omega)
theorem cost_ok (b : Breed) (k : Bool) (m : March) (hb : okBreed b = true) (hm : okMarch m = true) : Ct Try.prog 60 [.agg (breedL b), B k, .agg (marchL m)] (.agg [I (costW b k m).lo, I (costW b k m).hi, I (costF b m).lo, I (costF b m).hi]) := by
  obtain ⟨_, _, _, _, _, _, _, ⟨r1, r2, r3⟩, ⟨a1, a2, a3⟩, ⟨t1, t2, t3⟩, ⟨u1, u2, u3⟩, _, ⟨k1, k2, k3⟩⟩ := breed_bd hb
  obtain ⟨m1, m2, m3, m4, ⟨g1, g2, g3⟩, _⟩ := march_bd hm
  have w0 := work_bd hm
  have e1 := heat_bd (x := b.heat.lo) (y := m.heat.lo) (by omega) (by omega) (by omega) (by omega)
  have e2 := heat_bd (x := b.heat.hi) (y := m.heat.hi) (by omega) (by omega) (by omega) (by omega)
  have f1 := toil_bd (x := b.toil.lo) hm (by omega) (by omega)
  have f2 := toil_bd (x := b.toil.hi) hm (by omega) (by omega)
  have f3 := toil_bd (x := b.burn.lo) hm (by omega) (by omega)
  have f4 := toil_bd (x := b.burn.hi) hm (by omega) (by omega)
  have d1 := tdiv_bd f1.1 f1.2 (d := 100000) (by omega)
  have d2 := up_bd f2.1 f2.2 (d := 100000) (by omega)
  have hw : IntKind.i64.wrap (m.hours * IntKind.i64.wrap (100000 + m.load)) = workF m := by
    rw [w64_in (n := 100000 + m.load) (by omega) (by omega)]
    unfold workF at *
    exact w64_in (by omega) (by omega)
  refine t60 (by simp [breedL, marchL, KFL, KF]) (by simp [KFL, KF]) ?_
  dsimp only [c60, r60, breedL, marchL, go_sem, Nat.reduceAdd, Nat.reduceMul, Nat.reduceSub]
  rw [hw, w64_in (n := m.heat.lo - 20) (by omega) (by omega), w64_in (n := m.heat.hi - 20) (by omega) (by omega), w64_in (n := b.heat.lo * max 0 (m.heat.lo - 20)) (by omega) (by omega), w64_in (n := b.heat.hi * max 0 (m.heat.hi - 20)) (by omega) (by omega)]
  refine call (scaled1 b.toil 100000 (workF m) 0 true t1 t2 w0.1 (by omega) (by omega) (by omega)) ?_
  dsimp only [spanL, go_sem, Nat.reduceAdd, Nat.reduceMul, Nat.reduceSub]
  refine call (plus3 b.rest ⟨b.heat.lo * max 0 (m.heat.lo - 20), b.heat.hi * max 0 (m.heat.hi - 20)⟩ (scl b.toil 100000 (workF m)) true ⟨by omega, by omega, by omega, by omega⟩ ⟨e1.1, by simp only; omega, e2.1, by simp only; omega⟩
    ⟨d1.1, by simp only [scl]; omega, d2.1, by simp only [scl]; omega⟩) ?_
  dsimp only [spanL, go_sem, Nat.reduceAdd, Nat.reduceMul, Nat.reduceSub]
  refine br ?_ ?_
  · intro hk
    dsimp only [go_sem, Nat.reduceAdd, Nat.reduceMul, Nat.reduceSub]
    refine call (plus2 ⟨b.rest.lo + b.heat.lo * max 0 (m.heat.lo - 20) + (scl b.toil 100000 (workF m)).lo, b.rest.hi + b.heat.hi * max 0 (m.heat.hi - 20) + (scl b.toil 100000 (workF m)).hi⟩ b.milk true
      ⟨by simp only [scl]; omega, by simp only [scl]; omega, by simp only [scl]; omega, by simp only [scl]; omega⟩ ⟨by omega, by omega, by omega, by omega⟩) ?_
    dsimp only [spanL, go_sem, Nat.reduceAdd, Nat.reduceMul, Nat.reduceSub]
    refine call (scaled1 b.burn 100000 (workF m) 0 true u1 u2 w0.1 (by omega) (by omega) (by omega)) ?_
    dsimp only [spanL, go_sem, Nat.reduceAdd, Nat.reduceMul, Nat.reduceSub]
    simp only [costW, costF, hk, scl, if_true]
  · intro hk
    dsimp only [go_sem, Nat.reduceAdd, Nat.reduceMul, Nat.reduceSub]
    refine call (scaled1 b.burn 100000 (workF m) 0 true u1 u2 w0.1 (by omega) (by omega) (by omega)) ?_
    dsimp only [spanL, go_sem, Nat.reduceAdd, Nat.reduceMul, Nat.reduceSub]
    simp only [costW, costF, hk, scl, Bool.false_eq_true, if_false, Int.add_zero]
theorem costR_ok (b : Breed) (k : Bool) (m : March) (hb : okBreed b = true) (hm : okMarch m = true) : Ct Try.prog 63 [.agg (breedL b), B k, .agg (marchL m)] (.tup [.agg (spanL (costW b k m)), .agg (spanL (costF b m))]) := by
  obtain ⟨_, _, _, _, _, _, _, ⟨r1, r2, r3⟩, ⟨a1, a2, a3⟩, ⟨t1, t2, t3⟩, ⟨u1, u2, u3⟩, _, ⟨k1, k2, k3⟩⟩ := breed_bd hb
  obtain ⟨m1, m2, m3, m4, ⟨g1, g2, g3⟩, _⟩ := march_bd hm
  have w0 := work_bd hm
  have e1 := heat_bd (x := b.heat.lo) (y := m.heat.lo) (by omega) (by omega) (by omega) (by omega)
  have e2 := heat_bd (x := b.heat.hi) (y := m.heat.hi) (by omega) (by omega) (by omega) (by omega)
  have f1 := toil_bd (x := b.toil.lo) hm (by omega) (by omega)
  have f2 := toil_bd (x := b.toil.hi) hm (by omega) (by omega)
  have f3 := toil_bd (x := b.burn.lo) hm (by omega) (by omega)
  have f4 := toil_bd (x := b.burn.hi) hm (by omega) (by omega)
  have d1 := tdiv_bd f1.1 f1.2 (d := 100000) (by omega)
  have d2 := up_bd f2.1 f2.2 (d := 100000) (by omega)
  have d3 := tdiv_bd f3.1 f3.2 (d := 100000) (by omega)
  have hw : IntKind.i64.wrap (m.hours * IntKind.i64.wrap (100000 + m.load)) = workF m := by
    rw [w64_in (n := 100000 + m.load) (by omega) (by omega)]
    unfold workF at *
    exact w64_in (by omega) (by omega)
  refine t63 (by simp [breedL, marchL, KFL, KF]) (by simp [spanL, KFL, KF]) ?_
  dsimp only [c63, r63, breedL, marchL, spanL, go_sem, Nat.reduceAdd, Nat.reduceMul, Nat.reduceSub]
  rw [hw]
  simp (disch := omega) only [w64_in]
  refine div0 (by omega) ?_
  dsimp only [go_sem, Nat.reduceAdd, Nat.reduceMul, Nat.reduceSub]
  simp (disch := omega) only [w64_in]
  refine call (upR_ok _ _ (by omega) (by omega) (by omega) (by omega)) ?_
  dsimp only [go_sem, Nat.reduceAdd, Nat.reduceMul, Nat.reduceSub]
  simp (disch := omega) only [w64_in]
  refine br ?_ ?_
  · intro hk
    dsimp only [go_sem, Nat.reduceAdd, Nat.reduceMul, Nat.reduceSub]
    simp (disch := omega) only [w64_in]
    refine call (upR_ok _ _ (by omega) (by omega) (by omega) (by omega)) ?_
    dsimp only [go_sem, Nat.reduceAdd, Nat.reduceMul, Nat.reduceSub]
    refine div0 (by omega) ?_
    dsimp only [go_sem, Nat.reduceAdd, Nat.reduceMul, Nat.reduceSub]
    simp (disch := omega) only [w64_in]
    simp only [costW, costF, hk, if_true]
  · intro hk
    dsimp only [go_sem, Nat.reduceAdd, Nat.reduceMul, Nat.reduceSub]
    simp (disch := omega) only [w64_in]
    refine call (upR_ok _ _ (by omega) (by omega) (by omega) (by omega)) ?_
    dsimp only [go_sem, Nat.reduceAdd, Nat.reduceMul, Nat.reduceSub]
    refine div0 (by omega) ?_
    dsimp only [go_sem, Nat.reduceAdd, Nat.reduceMul, Nat.reduceSub]
    simp (disch := omega) only [w64_in]
    simp only [costW, costF, hk, Bool.false_eq_true, if_false, Int.add_zero]
def errM (b : Breed) (m : March) : Int := if okBreed b = false then 10 else if okMarch m = false then 12 else 0
theorem errM_0 {b : Breed} {m : March} : errM b m = 0 ↔ okBreed b = true ∧ okMarch m = true := by
  simp only [errM]; cases okBreed b <;> cases okMarch m <;> simp
def cres (b : Breed) (k : Bool) (m : March) : SV := .tup [.agg (spanL (if errM b m = 0 then costW b k m else zeroS)), .agg (spanL (if errM b m = 0 then costF b m else zeroS)), I (errM b m)]
theorem Cost_ok (b : Breed) (k : Bool) (m : March) : Ct Try.prog 18 [.agg (breedL b), B k, .agg (marchL m)] (cres b k m) := by
  refine t18 (by simp [breedL, marchL, KFL, KF]) (by simp [cres, spanL, KFL, KF]) ?_
  dsimp only [c18, r18, breedL, marchL, go_sem, Nat.reduceAdd, Nat.reduceMul, Nat.reduceSub]
  refine call (checkBreed_ok b) ?_
  dsimp only [go_sem, Nat.reduceAdd, Nat.reduceMul, Nat.reduceSub]
  by_cases hb : okBreed b = true
  case neg =>
    refine br_t (by simp [errB, hb]) ?_
    dsimp only [cres, spanL, go_sem, Nat.reduceAdd, Nat.reduceMul, Nat.reduceSub]
    simp [errB, errM, hb, zeroS]
  refine br_f (by simp [errB, hb]) ?_
  dsimp only [go_sem, Nat.reduceAdd, Nat.reduceMul, Nat.reduceSub]
  refine call (checkDay1 m true) ?_
  dsimp only [go_sem, Nat.reduceAdd, Nat.reduceMul, Nat.reduceSub]
  by_cases hm : okMarch m = true
  case neg =>
    refine br_t (by simp [hm]) ?_
    dsimp only [cres, spanL, go_sem, Nat.reduceAdd, Nat.reduceMul, Nat.reduceSub]
    simp [errM, hb, hm, zeroS]
  refine br_f (by simp [hm]) ?_
  dsimp only [go_sem, Nat.reduceAdd, Nat.reduceMul, Nat.reduceSub]
  refine call (cost_ok b k m hb hm) ?_
  dsimp only [go_sem, Nat.reduceAdd, Nat.reduceMul, Nat.reduceSub]
  refine ixa 0 rfl (by decide) ?_
  dsimp only [go_sem, Nat.reduceAdd, Nat.reduceMul, Nat.reduceSub]
  refine ixa 1 rfl (by decide) ?_
  dsimp only [cres, spanL, go_sem, Nat.reduceAdd, Nat.reduceMul, Nat.reduceSub]
  simp [errM, hb, hm]
theorem CostR_ok (b : Breed) (k : Bool) (m : March) : Ct Try.prog 19 [.agg (breedL b), B k, .agg (marchL m)] (cres b k m) := by
  refine t19 (by simp [breedL, marchL, KFL, KF]) (by simp [cres, spanL, KFL, KF]) ?_
  dsimp only [c19, r19, breedL, marchL, go_sem, Nat.reduceAdd, Nat.reduceMul, Nat.reduceSub]
  refine call (breedR_ok b) ?_
  dsimp only [go_sem, Nat.reduceAdd, Nat.reduceMul, Nat.reduceSub]
  by_cases hb : okBreed b = true
  case neg =>
    refine br_t (by simp [hb]) ?_
    dsimp only [cres, spanL, go_sem, Nat.reduceAdd, Nat.reduceMul, Nat.reduceSub]
    simp [errM, hb, zeroS]
  refine br_f (by simp [hb]) ?_
  dsimp only [go_sem, Nat.reduceAdd, Nat.reduceMul, Nat.reduceSub]
  refine call (marchR_ok m) ?_
  dsimp only [go_sem, Nat.reduceAdd, Nat.reduceMul, Nat.reduceSub]
  by_cases hm : okMarch m = true
  case neg =>
    refine br_t (by simp [hm]) ?_
    dsimp only [cres, spanL, go_sem, Nat.reduceAdd, Nat.reduceMul, Nat.reduceSub]
    simp [errM, hb, hm, zeroS]
  refine br_f (by simp [hm]) ?_
  dsimp only [go_sem, Nat.reduceAdd, Nat.reduceMul, Nat.reduceSub]
  refine call (costR_ok b k m hb hm) ?_
  dsimp only [cres, spanL, go_sem, Nat.reduceAdd, Nat.reduceMul, Nat.reduceSub]
  simp [errM, hb, hm]
theorem law_ok (b : Breed) (c : Camel) (m : March) : Ct Try.prog 3 [.agg (breedL b), .agg (camelL c), .agg (marchL m)] (B true) := by
  refine t3 (by simp [breedL, camelL, marchL, KFL, KF]) (by simp [KFL, KF]) ?_
  dsimp only [c3, r3, breedL, camelL, marchL, go_sem, Nat.reduceAdd, Nat.reduceMul, Nat.reduceSub]
  refine call (fitness_ok b c) ?_
  dsimp only [sres, spanL, go_sem, Nat.reduceAdd, Nat.reduceMul, Nat.reduceSub]
  refine call (fitnessR_ok b c) ?_
  dsimp only [sres, spanL, go_sem, Nat.reduceAdd, Nat.reduceMul, Nat.reduceSub]
  refine call (carries_ok b c) ?_
  dsimp only [sres, spanL, go_sem, Nat.reduceAdd, Nat.reduceMul, Nat.reduceSub]
  refine call (carriesR_ok b c) ?_
  dsimp only [sres, spanL, go_sem, Nat.reduceAdd, Nat.reduceMul, Nat.reduceSub]
  refine call (Cost_ok b c.milks m) ?_
  dsimp only [cres, spanL, go_sem, Nat.reduceAdd, Nat.reduceMul, Nat.reduceSub]
  refine call (CostR_ok b c.milks m) ?_
  dsimp only [cres, spanL, go_sem, Nat.reduceAdd, Nat.reduceMul, Nat.reduceSub]
  refine call (checkBreed_ok b) ?_
  dsimp only [go_sem, Nat.reduceAdd, Nat.reduceMul, Nat.reduceSub]
  refine call (checkBreedR_ok b) ?_
  dsimp only [go_sem, Nat.reduceAdd, Nat.reduceMul, Nat.reduceSub]
  repeat (first | (refine gb ?_; dsimp only [go_sem, Nat.reduceAdd, Nat.reduceMul, Nat.reduceSub]) | (refine call (checkCamel_ok b c) ?_; dsimp only [go_sem, Nat.reduceAdd, Nat.reduceMul, Nat.reduceSub]) | (refine call (checkCamelR_ok b c) ?_; dsimp only [go_sem, Nat.reduceAdd, Nat.reduceMul, Nat.reduceSub]))
  simp
end Go.Proofs.Ytnlfjchbhgikaaa
