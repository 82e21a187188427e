import Derived.Test.YtnlfjchbhgikaaaCG
set_option maxRecDepth 100000
set_option maxHeartbeats 4000000
namespace Go.Azalai
def zeroC : Camel := ⟨⟨0, 0⟩, ⟨0, 0⟩, ⟨0, 0⟩, false⟩
def lostF (most : Int) (has cost gets : Span) : Span := ⟨min most (max 0 (has.lo - cost.hi) + gets.lo), min most (has.hi - cost.lo + gets.hi)⟩
def soreF (b : Breed) (s : Span) (m : March) : Span :=
  if m.hours = 0 then ⟨max 0 (s.lo - b.heal), max 0 (s.hi - b.heal)⟩
  else ⟨min 1000 (s.lo + (b.rub.lo * (m.hours * m.load)).tdiv 1000000), min 1000 (s.hi + upF (b.rub.hi * (m.hours * m.load)) 1000000)⟩
def afterF (b : Breed) (c : Camel) (m : March) : Camel × Int :=
  let w := costW b c.milks m
  let f := costF b m
  if c.water.hi < w.lo ∨ c.fat.hi < f.lo then (zeroC, 2)
  else (⟨lostF b.full c.water w m.drinks, lostF b.fed c.fat f m.grass, soreF b c.sore m, c.milks⟩, if c.water.lo ≥ w.hi ∧ c.fat.lo ≥ f.hi then 0 else 1)
theorem costW_bd {b : Breed} {k : Bool} {m : March} (hb : okBreed b = true) (hm : okMarch m = true) : 0 ≤ (costW b k m).lo ∧ (costW b k m).lo ≤ 1000000000 ∧ 0 ≤ (costW b k m).hi ∧ (costW b k m).hi ≤ 1000000000 := by
  have h := Go.Proofs.Ytnlfjchbhgikaaa.breed_bd hb
  have h2 := Go.Proofs.Ytnlfjchbhgikaaa.march_bd hm
  have q1 := Go.Proofs.Ytnlfjchbhgikaaa.toil_bd (x := b.toil.lo) hm (by omega) (by omega)
  have q2 := Go.Proofs.Ytnlfjchbhgikaaa.toil_bd (x := b.toil.hi) hm (by omega) (by omega)
  have q3 := Go.Proofs.Ytnlfjchbhgikaaa.heat_bd (x := b.heat.lo) (y := m.heat.lo) (by omega) (by omega) (by omega) (by omega)
  have q4 := Go.Proofs.Ytnlfjchbhgikaaa.heat_bd (x := b.heat.hi) (y := m.heat.hi) (by omega) (by omega) (by omega) (by omega)
  have r1 : 0 ≤ (b.toil.lo * workF m).tdiv 100000 ∧ (b.toil.lo * workF m).tdiv 100000 ≤ 26400000 := by
    rw [Int.tdiv_eq_ediv_of_nonneg q1.1]; omega
  have r2 : 0 ≤ upF (b.toil.hi * workF m) 100000 ∧ upF (b.toil.hi * workF m) 100000 ≤ 26400001 := by
    unfold upF; rw [Int.tdiv_eq_ediv_of_nonneg (by omega)]; omega
  simp only [costW]
  cases k <;> simp <;> omega
theorem costF_bd {b : Breed} {m : March} (hb : okBreed b = true) (hm : okMarch m = true) : 0 ≤ (costF b m).lo ∧ (costF b m).lo ≤ 1000000000 ∧ 0 ≤ (costF b m).hi ∧ (costF b m).hi ≤ 1000000000 := by
  have h := Go.Proofs.Ytnlfjchbhgikaaa.breed_bd hb
  have q1 := Go.Proofs.Ytnlfjchbhgikaaa.toil_bd (x := b.burn.lo) hm (by omega) (by omega)
  have q2 := Go.Proofs.Ytnlfjchbhgikaaa.toil_bd (x := b.burn.hi) hm (by omega) (by omega)
  have r1 : 0 ≤ (b.burn.lo * workF m).tdiv 100000 ∧ (b.burn.lo * workF m).tdiv 100000 ≤ 26400000 := by
    rw [Int.tdiv_eq_ediv_of_nonneg q1.1]; omega
  have r2 : 0 ≤ upF (b.burn.hi * workF m) 100000 ∧ upF (b.burn.hi * workF m) 100000 ≤ 26400001 := by
    unfold upF; rw [Int.tdiv_eq_ediv_of_nonneg (by omega)]; omega
  simp only [costF]
  omega
end Go.Azalai
namespace Go.Proofs.Ytnlfjchbhgikaaa
open Go Go.Sx Go.Azalai
theorem afterR_ok (b : Breed) (c : Camel) (m : March) (hb : okBreed b = true) (hc : okCamel b c = true) (hm : okMarch m = true) :
    Ct Try.prog 74 [.agg (breedL b), .agg (camelL c), .agg (marchL m)] (.tup [.agg (camelL (afterF b c m).1), I (afterF b c m).2]) := by
  have h1 := breed_bd hb
  have h2 := camel_bd hb hc
  have h3 := march_bd hm
  have w1 := costW_bd (k := c.milks) hb hm
  have w2 := costF_bd hb hm
  refine t74 (by simp [breedL, camelL, marchL, KFL, KF]) (by simp [camelL, KFL, KF]) ?_
  dsimp only [c74, r74, breedL, camelL, marchL, go_sem, Nat.reduceAdd, Nat.reduceMul, Nat.reduceSub]
  refine call (costR_ok b c.milks m hb hm) ?_
  dsimp only [spanL, go_sem, Nat.reduceAdd, Nat.reduceMul, Nat.reduceSub]
  have k0 := mul_bd (a := m.hours) (b := m.load) (A := 24) (B := 1000000) (by omega) (by omega) (by omega) (by omega)
  have k1 := mul_bd (a := b.rub.lo) (b := m.hours * m.load) (A := 100000) (B := 24000000) (by omega) (by omega) (by omega) (by omega)
  have k2 := mul_bd (a := b.rub.hi) (b := m.hours * m.load) (A := 100000) (B := 24000000) (by omega) (by omega) (by omega) (by omega)
  have k3 := tdiv_bd k1.1 k1.2 (d := 1000000) (by omega)
  have k4 := up_bd k2.1 k2.2 (d := 1000000) (by omega)
  generalize hW : costW b c.milks m = W at w1
  generalize hF : costF b m = F at w2
  repeat (refine gb ?_; dsimp only [go_sem, Nat.reduceAdd, Nat.reduceMul, Nat.reduceSub])
  by_cases hd : c.water.hi < W.lo ∨ c.fat.hi < F.lo
  case pos =>
    refine br_t (by grind) ?_
    dsimp only [go_sem, Nat.reduceAdd, Nat.reduceMul, Nat.reduceSub]
    simp [afterF, hW, hF, hd, zeroC, camelL]
  refine br_f (by grind) ?_
  dsimp only [go_sem, Nat.reduceAdd, Nat.reduceMul, Nat.reduceSub]
  repeat (refine gb ?_; dsimp only [go_sem, Nat.reduceAdd, Nat.reduceMul, Nat.reduceSub])
  refine br ?_ ?_
  · intro hk
    dsimp only [go_sem, Nat.reduceAdd, Nat.reduceMul, Nat.reduceSub]
    simp (disch := omega) only [w64_in]
    refine div0 (by omega) ?_
    dsimp only [go_sem, Nat.reduceAdd, Nat.reduceMul, Nat.reduceSub]
    simp (disch := omega) only [w64_in]
    refine call (upR_ok _ _ (by omega) (by omega) (by omega) (by omega)) ?_
    dsimp only [go_sem, Nat.reduceAdd, Nat.reduceMul, Nat.reduceSub]
    simp (disch := omega) only [w64_in]
    refine br ?_ ?_
    · intro hz
      dsimp only [go_sem, Nat.reduceAdd, Nat.reduceMul, Nat.reduceSub]
      simp (disch := omega) only [w64_in]
      have e : (if c.water.lo ≥ W.hi ∧ c.fat.lo ≥ F.hi then (0 : Int) else 1) = 0 := if_pos (by grind)
      have hz' : m.hours = 0 := by simpa using hz
      simp only [afterF, hW, hF, if_neg hd, lostF, soreF, camelL, e, if_pos hz']
    · intro hz
      dsimp only [go_sem, Nat.reduceAdd, Nat.reduceMul, Nat.reduceSub]
      have e : (if c.water.lo ≥ W.hi ∧ c.fat.lo ≥ F.hi then (0 : Int) else 1) = 0 := if_pos (by grind)
      have hz' : ¬ m.hours = 0 := by simpa using hz
      simp only [afterF, hW, hF, if_neg hd, lostF, soreF, camelL, e, if_neg hz']
  · intro hk
    dsimp only [go_sem, Nat.reduceAdd, Nat.reduceMul, Nat.reduceSub]
    simp (disch := omega) only [w64_in]
    refine div0 (by omega) ?_
    dsimp only [go_sem, Nat.reduceAdd, Nat.reduceMul, Nat.reduceSub]
    simp (disch := omega) only [w64_in]
    refine call (upR_ok _ _ (by omega) (by omega) (by omega) (by omega)) ?_
    dsimp only [go_sem, Nat.reduceAdd, Nat.reduceMul, Nat.reduceSub]
    simp (disch := omega) only [w64_in]
    refine br ?_ ?_
    · intro hz
      dsimp only [go_sem, Nat.reduceAdd, Nat.reduceMul, Nat.reduceSub]
      simp (disch := omega) only [w64_in]
      have e : (if c.water.lo ≥ W.hi ∧ c.fat.lo ≥ F.hi then (0 : Int) else 1) = 1 := if_neg (by grind)
      have hz' : m.hours = 0 := by simpa using hz
      simp only [afterF, hW, hF, if_neg hd, lostF, soreF, camelL, e, if_pos hz']
    · intro hz
      dsimp only [go_sem, Nat.reduceAdd, Nat.reduceMul, Nat.reduceSub]
      have e : (if c.water.lo ≥ W.hi ∧ c.fat.lo ≥ F.hi then (0 : Int) else 1) = 1 := if_neg (by grind)
      have hz' : ¬ m.hours = 0 := by simpa using hz
      simp only [afterF, hW, hF, if_neg hd, lostF, soreF, camelL, e, if_neg hz']
end Go.Proofs.Ytnlfjchbhgikaaa
