import Derived.Test.YtnlfjchbhgikaaaCD
set_option maxRecDepth 100000
set_option maxHeartbeats 4000000
namespace Go.Azalai
def errL (b : Breed) (c : Camel) (l : List March) : Int := if errC b c ≠ 0 then errC b c else if l.length > 60 then 4 else if l.all okMarch = false then 12 else 0
def thirstL (b : Breed) (sum : Span) : List Camel → Span × Int
  | [] => (sum, 0)
  | c :: r => if okCamel b c = false then (⟨0, 0⟩, 11) else thirstL b ⟨sum.lo + (b.full - c.water.hi), sum.hi + (b.full - c.water.lo)⟩ r
def thirstF (b : Breed) (l : List Camel) : Span × Int :=
  if okBreed b = false then (⟨0, 0⟩, 10) else if l.length > 30 then (⟨0, 0⟩, 4) else thirstL b ⟨0, 0⟩ l
end Go.Azalai
namespace Go.Proofs.Ytnlfjchbhgikaaa
open Go Go.Sx Go.Azalai
def tres (r : Span × Int) : SV := .tup [.agg (spanL r.1), I r.2]
theorem checkL_ok (b : Breed) (c : Camel) (l : List March) (hl : l.length < 4611686018427387904) (k : Bool) : Ct Try.prog 66 [.agg (breedL b), .agg (camelL c), .sl k 8 (l.map marchL)] (I (errL b c l)) := by
  refine t66 (by simp [breedL, camelL, marchL, KFR_iff, KFL, KF]) (by simp [KFL, KF]) ?_
  dsimp only [c66, r66, breedL, camelL, go_sem, Nat.reduceAdd, Nat.reduceMul, Nat.reduceSub]
  refine call (checkCamel_ok b c) ?_
  dsimp only [go_sem, Nat.reduceAdd, Nat.reduceMul, Nat.reduceSub]
  by_cases h0 : errC b c = 0
  case neg =>
    refine br_t (by simpa using h0) ?_
    dsimp only [go_sem, Nat.reduceAdd, Nat.reduceMul, Nat.reduceSub]
    simp [errL, h0]
  refine br_f (by simpa using h0) ?_
  dsimp only [go_sem, Nat.reduceAdd, Nat.reduceMul, Nat.reduceSub]
  simp only [List.length_map]
  by_cases h1 : l.length > 60
  case pos =>
    refine br_t (by simp; omega) ?_
    dsimp only [go_sem, Nat.reduceAdd, Nat.reduceMul, Nat.reduceSub]
    simp [errL, h0, h1]
  refine br_f (by simp; omega) ?_
  dsimp only [go_sem, Nat.reduceAdd, Nat.reduceMul, Nat.reduceSub]
  refine call (checkDays_ok l hl k) ?_
  dsimp only [go_sem, Nat.reduceAdd, Nat.reduceMul, Nat.reduceSub]
  simp only [errL, h0, h1]
  by_cases h2 : l.all okMarch = true
  · simp [h2]
  · simp [h2]
theorem askedL_ok (b : Breed) (c : Camel) (l : List March) (k : Bool) : Ct Try.prog 70 [.agg (breedL b), .agg (camelL c), .sl k 8 (l.map marchL)] (I (errL b c l)) := by
  refine t70 (by simp [breedL, camelL, marchL, KFR_iff, KFL, KF]) (by simp [KFL, KF]) ?_
  dsimp only [c70, r70, breedL, camelL, go_sem, Nat.reduceAdd, Nat.reduceMul, Nat.reduceSub]
  refine call (checkCamelR_ok b c) ?_
  dsimp only [go_sem, Nat.reduceAdd, Nat.reduceMul, Nat.reduceSub]
  by_cases h0 : errC b c = 0
  case neg =>
    refine br_t (by simpa using h0) ?_
    dsimp only [go_sem, Nat.reduceAdd, Nat.reduceMul, Nat.reduceSub]
    simp [errL, h0]
  refine br_f (by simpa using h0) ?_
  dsimp only [go_sem, Nat.reduceAdd, Nat.reduceMul, Nat.reduceSub]
  simp only [List.length_map]
  by_cases h1 : l.length > 60
  case pos =>
    refine br_t (by simp; omega) ?_
    dsimp only [go_sem, Nat.reduceAdd, Nat.reduceMul, Nat.reduceSub]
    simp [errL, h0, h1]
  refine br_f (by simp; omega) ?_
  dsimp only [go_sem, Nat.reduceAdd, Nat.reduceMul, Nat.reduceSub]
  have he : errL b c l = if l.all okMarch = true then 0 else 12 := by
    simp only [errL, h0, h1]
    by_cases h2 : l.all okMarch = true <;> simp [h2]
  rw [he]
  refine loopO (fun k : Nat => [(8, I k)]) (fun _ => []) (fun k => k ≤ l.length ∧ (l.drop k).all okMarch = l.all okMarch) (fun k => l.length - k) 0 ⟨Nat.zero_le _, rfl⟩ ?_ ?_
  · (refine ent_id ?_ ?_ ?_ rfl rfl <;> dsimp only [breedL, camelL, marchL, id, go_sem, Nat.reduceAdd, Nat.reduceMul, Nat.reduceSub] <;> simp [breedL, camelL, marchL, KFR_iff, KFR_app, KFR, KFL, KF, mtL_same, mtO, Nat.beq_refl])
  intro j ⟨hj, hi⟩
  dsimp only [go_sem, Nat.reduceAdd, Nat.reduceMul, Nat.reduceSub]
  by_cases hlt : j < l.length
  · refine br_t (by simpa using hlt) ?_
    dsimp only [go_sem, Nat.reduceAdd, Nat.reduceMul, Nat.reduceSub]
    rw [List.drop_eq_getElem_cons hlt, List.all_cons] at hi
    refine ixs_map j hlt rfl ?_
    dsimp only [go_sem, Nat.reduceAdd, Nat.reduceMul, Nat.reduceSub]
    refine call (marchR_ok l[j]) ?_
    dsimp only [go_sem, Nat.reduceAdd, Nat.reduceMul, Nat.reduceSub]
    by_cases hm : okMarch l[j] = true
    case neg =>
      refine br_t (by simp [hm]) ?_
      dsimp only [go_sem, Nat.reduceAdd, Nat.reduceMul, Nat.reduceSub]
      have : l.all okMarch = false := by rw [← hi]; simp [hm]
      rw [this]; rfl
    refine br_f (by simp [hm]) ?_
    dsimp only [go_sem, Nat.reduceAdd, Nat.reduceMul, Nat.reduceSub]
    rw [w64_in (n := (j : Int) + 1) (by omega) (by omega)]
    rw [hm, Bool.true_and] at hi
    refine ⟨j + 1, ⟨hlt, hi⟩, by omega, ?_⟩
    (refine ent_id ?_ ?_ ?_ rfl rfl <;> dsimp only [breedL, camelL, marchL, id, go_sem, Nat.reduceAdd, Nat.reduceMul, Nat.reduceSub] <;> simp [breedL, camelL, marchL, KFR_iff, KFR_app, KFR, KFL, KF, mtL_same, mtO, Nat.beq_refl])
  refine br_f (by simp; omega) ?_
  dsimp only [go_sem, Nat.reduceAdd, Nat.reduceMul, Nat.reduceSub]
  have hje : j = l.length := by omega
  subst hje
  rw [List.drop_length] at hi
  rw [← hi]; rfl
theorem sameC_ok (l : List Camel) (hl : l.length ≤ 1000) (k k' : Bool) : Ct Try.prog 28 [.sl k 7 (l.map camelL), .sl k' 7 (l.map camelL)] (B true) := by
  refine t28 (by simp [camelL, KFR_iff, KFL, KF]) (by simp [KFL, KF]) ?_
  dsimp only [c28, r28, go_sem, Nat.reduceAdd, Nat.reduceMul, Nat.reduceSub]
  refine br_f (by simp) ?_
  dsimp only [go_sem, Nat.reduceAdd, Nat.reduceMul, Nat.reduceSub]
  refine loopO (fun k : Nat => [(5, I k)]) (fun _ => []) (fun k => k ≤ l.length) (fun k => l.length - k) 0 (Nat.zero_le _) ?_ ?_
  · (refine ent_id ?_ ?_ ?_ rfl rfl <;> dsimp only [camelL, id, go_sem, Nat.reduceAdd, Nat.reduceMul, Nat.reduceSub] <;> simp [camelL, KFR_iff, KFR_app, KFR, KFL, KF, mtL_same, mtO, Nat.beq_refl])
  intro j hj
  dsimp only [go_sem, Nat.reduceAdd, Nat.reduceMul, Nat.reduceSub]
  simp only [List.length_map]
  by_cases hlt : j < l.length
  · refine br_t (by simpa using hlt) ?_
    dsimp only [go_sem, Nat.reduceAdd, Nat.reduceMul, Nat.reduceSub]
    refine ixs_map j hlt rfl ?_
    dsimp only [go_sem, Nat.reduceAdd, Nat.reduceMul, Nat.reduceSub]
    refine ixs_map j hlt rfl ?_
    dsimp only [camelL, go_sem, Nat.reduceAdd, Nat.reduceMul, Nat.reduceSub]
    refine br_f (by simp [ngB]) ?_
    dsimp only [go_sem, Nat.reduceAdd, Nat.reduceMul, Nat.reduceSub]
    rw [w64_in (n := (j : Int) + 1) (by omega) (by omega)]
    refine ⟨j + 1, hlt, by omega, ?_⟩
    (refine ent_id ?_ ?_ ?_ rfl rfl <;> dsimp only [camelL, id, go_sem, Nat.reduceAdd, Nat.reduceMul, Nat.reduceSub] <;> simp [camelL, KFR_iff, KFR_app, KFR, KFL, KF, mtL_same, mtO, Nat.beq_refl])
  refine br_f (by simp; omega) ?_
  dsimp only [go_sem, Nat.reduceAdd, Nat.reduceMul, Nat.reduceSub]
end Go.Proofs.Ytnlfjchbhgikaaa
