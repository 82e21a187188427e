import Derived.Test.YtnlfjchbhgikaaaCF
set_option maxRecDepth 100000
set_option maxHeartbeats 4000000
namespace Go.Proofs.Ytnlfjchbhgikaaa
open Go Go.Sx Go.Azalai
theorem thirst_ok (b : Breed) (l : List Camel) (hl : l.length ≤ 1000) (k : Bool) : Ct Try.prog 26 [.agg (breedL b), .sl k 7 (l.map camelL)] (tres (thirstF b l)) := by
  refine t26 (by simp [breedL, camelL, KFR_iff, KFL, KF]) (by simp [tres, spanL, KFL, KF]) ?_
  dsimp only [c26, r26, breedL, go_sem, Nat.reduceAdd, Nat.reduceMul, Nat.reduceSub]
  refine call (checkBreed_ok b) ?_
  dsimp only [go_sem, Nat.reduceAdd, Nat.reduceMul, Nat.reduceSub]
  by_cases h0 : okBreed b = true
  case neg =>
    refine br_t (by simp [errB, h0]) ?_
    dsimp only [go_sem, Nat.reduceAdd, Nat.reduceMul, Nat.reduceSub]
    simp [thirstF, errB, h0, tres, spanL]
  refine br_f (by simp [errB, h0]) ?_
  dsimp only [go_sem, Nat.reduceAdd, Nat.reduceMul, Nat.reduceSub]
  simp only [List.length_map]
  by_cases h1 : l.length > 30
  case pos =>
    refine br_t (by simp; omega) ?_
    dsimp only [go_sem, Nat.reduceAdd, Nat.reduceMul, Nat.reduceSub]
    simp [thirstF, h0, h1, tres, spanL]
  refine br_f (by simp; omega) ?_
  dsimp only [go_sem, Nat.reduceAdd, Nat.reduceMul, Nat.reduceSub]
  have hbd := breed_bd h0
  have he : thirstF b l = thirstL b ⟨0, 0⟩ l := by simp [thirstF, h0, h1]
  rw [he]
  refine loopO (fun s : Nat × Span => [(23, I s.1)]) (fun s => [(2, .cells (spanL s.2) 23)]) (fun s => s.1 ≤ l.length ∧ thirstL b s.2 (l.drop s.1) = thirstL b ⟨0, 0⟩ l ∧ 0 ≤ s.2.lo ∧ s.2.lo ≤ s.1 * 1000000 ∧ 0 ≤ s.2.hi ∧ s.2.hi ≤ s.1 * 1000000) (fun s => l.length - s.1) (0, ⟨0, 0⟩) ⟨Nat.zero_le _, rfl, by simp, by simp, by simp, by simp⟩ ?_ ?_
  · (refine ent_id ?_ ?_ ?_ rfl rfl <;> dsimp only [breedL, camelL, spanL, id, go_sem, Nat.reduceAdd, Nat.reduceMul, Nat.reduceSub] <;> simp [breedL, camelL, spanL, KFR_iff, KFR_app, KFR, KFL, KF, mtL_same, mtO, Nat.beq_refl])
  rintro ⟨j, sum⟩ ⟨hj, hi, n1, n2, n3, n4⟩
  simp only at hj hi n1 n2 n3 n4
  dsimp only [spanL, go_sem, Nat.reduceAdd, Nat.reduceMul, Nat.reduceSub]
  by_cases hlt : j < l.length
  · refine br_t (by simpa using hlt) ?_
    dsimp only [go_sem, Nat.reduceAdd, Nat.reduceMul, Nat.reduceSub]
    rw [List.drop_eq_getElem_cons hlt, thirstL] at hi
    refine ixs_map j hlt rfl ?_
    dsimp only [camelL, go_sem, Nat.reduceAdd, Nat.reduceMul, Nat.reduceSub]
    refine call (checkCamel_ok b l[j]) ?_
    dsimp only [go_sem, Nat.reduceAdd, Nat.reduceMul, Nat.reduceSub]
    by_cases hm : okCamel b l[j] = true
    case neg =>
      refine br_t (by simp [errC, h0, hm]) ?_
      dsimp only [go_sem, Nat.reduceAdd, Nat.reduceMul, Nat.reduceSub]
      rw [if_pos (by simpa using hm)] at hi
      rw [← hi]; simp [errC, h0, hm, tres, spanL]
    refine br_f (by simp [errC, h0, hm]) ?_
    dsimp only [go_sem, Nat.reduceAdd, Nat.reduceMul, Nat.reduceSub]
    rw [if_neg (by simp [hm])] at hi
    have hc := camel_bd h0 hm
    refine call (rest_ok b.full l[j].water (by omega) (by omega) (by unfold bdS; omega)) ?_
    dsimp only [spanL, go_sem, Nat.reduceAdd, Nat.reduceMul, Nat.reduceSub]
    refine call (plus2 sum ⟨b.full - l[j].water.hi, b.full - l[j].water.lo⟩ _ (by unfold bdS; omega) (by unfold bdS; simp only; omega)) ?_
    dsimp only [spanL, go_sem, Nat.reduceAdd, Nat.reduceMul, Nat.reduceSub]
    rw [w64_in (n := (j : Int) + 1) (by omega) (by omega)]
    refine ⟨(j + 1, ⟨sum.lo + (b.full - l[j].water.hi), sum.hi + (b.full - l[j].water.lo)⟩), ⟨hlt, hi, by simp only; omega, by simp only; omega, by simp only; omega, by simp only; omega⟩, by simp only; omega, ?_⟩
    (refine ent_id ?_ ?_ ?_ rfl rfl <;> dsimp only [breedL, camelL, spanL, id, go_sem, Nat.reduceAdd, Nat.reduceMul, Nat.reduceSub] <;> simp [breedL, camelL, spanL, KFR_iff, KFR_app, KFR, KFL, KF, mtL_same, mtO, Nat.beq_refl])
  refine br_f (by simp; omega) ?_
  dsimp only [go_sem, Nat.reduceAdd, Nat.reduceMul, Nat.reduceSub]
  have hje : j = l.length := by omega
  subst hje
  rw [List.drop_length, thirstL] at hi
  rw [← hi]; rfl
theorem thirstR_ok (b : Breed) (l : List Camel) (hl : l.length ≤ 1000) (k : Bool) : Ct Try.prog 27 [.agg (breedL b), .sl k 7 (l.map camelL)] (tres (thirstF b l)) := by
  refine t27 (by simp [breedL, camelL, KFR_iff, KFL, KF]) (by simp [tres, spanL, KFL, KF]) ?_
  dsimp only [c27, r27, breedL, go_sem, Nat.reduceAdd, Nat.reduceMul, Nat.reduceSub]
  refine call (breedR_ok b) ?_
  dsimp only [go_sem, Nat.reduceAdd, Nat.reduceMul, Nat.reduceSub]
  by_cases h0 : okBreed b = true
  case neg =>
    refine br_t (by simp [h0]) ?_
    dsimp only [go_sem, Nat.reduceAdd, Nat.reduceMul, Nat.reduceSub]
    simp [thirstF, h0, tres, spanL]
  refine br_f (by simp [h0]) ?_
  dsimp only [go_sem, Nat.reduceAdd, Nat.reduceMul, Nat.reduceSub]
  simp only [List.length_map]
  by_cases h1 : l.length > 30
  case pos =>
    refine br_t (by simp; omega) ?_
    dsimp only [go_sem, Nat.reduceAdd, Nat.reduceMul, Nat.reduceSub]
    simp [thirstF, h0, h1, tres, spanL]
  refine br_f (by simp; omega) ?_
  dsimp only [go_sem, Nat.reduceAdd, Nat.reduceMul, Nat.reduceSub]
  have hbd := breed_bd h0
  have he : thirstF b l = thirstL b ⟨0, 0⟩ l := by simp [thirstF, h0, h1]
  rw [he]
  refine loopO (fun s : Nat × Span => [(7, I s.1)]) (fun s => [(2, .cells (spanL s.2) 23)]) (fun s => s.1 ≤ l.length ∧ thirstL b s.2 (l.drop s.1) = thirstL b ⟨0, 0⟩ l ∧ 0 ≤ s.2.lo ∧ s.2.lo ≤ s.1 * 1000000 ∧ 0 ≤ s.2.hi ∧ s.2.hi ≤ s.1 * 1000000) (fun s => l.length - s.1) (0, ⟨0, 0⟩) ⟨Nat.zero_le _, rfl, by simp, by simp, by simp, by simp⟩ ?_ ?_
  · (refine ent_id ?_ ?_ ?_ rfl rfl <;> dsimp only [breedL, camelL, spanL, id, go_sem, Nat.reduceAdd, Nat.reduceMul, Nat.reduceSub] <;> simp [breedL, camelL, spanL, KFR_iff, KFR_app, KFR, KFL, KF, mtL_same, mtO, Nat.beq_refl])
  rintro ⟨j, sum⟩ ⟨hj, hi, n1, n2, n3, n4⟩
  simp only at hj hi n1 n2 n3 n4
  dsimp only [spanL, go_sem, Nat.reduceAdd, Nat.reduceMul, Nat.reduceSub]
  by_cases hlt : j < l.length
  · refine br_t (by simpa using hlt) ?_
    dsimp only [go_sem, Nat.reduceAdd, Nat.reduceMul, Nat.reduceSub]
    rw [List.drop_eq_getElem_cons hlt, thirstL] at hi
    refine ixs_map j hlt rfl ?_
    dsimp only [camelL, go_sem, Nat.reduceAdd, Nat.reduceMul, Nat.reduceSub]
    refine call (camelR_ok b l[j]) ?_
    dsimp only [go_sem, Nat.reduceAdd, Nat.reduceMul, Nat.reduceSub]
    by_cases hm : okCamel b l[j] = true
    case neg =>
      refine br_t (by simp [hm]) ?_
      dsimp only [go_sem, Nat.reduceAdd, Nat.reduceMul, Nat.reduceSub]
      rw [if_pos (by simpa using hm)] at hi
      rw [← hi]; rfl
    refine br_f (by simp [hm]) ?_
    dsimp only [go_sem, Nat.reduceAdd, Nat.reduceMul, Nat.reduceSub]
    rw [if_neg (by simp [hm])] at hi
    have hc := camel_bd h0 hm
    repeat (refine ixs_map j hlt rfl ?_; dsimp only [camelL, go_sem, Nat.reduceAdd, Nat.reduceMul, Nat.reduceSub])
    rw [w64_in (n := b.full - l[j].water.hi) (by omega) (by omega), w64_in (n := sum.lo + (b.full - l[j].water.hi)) (by omega) (by omega)]
    repeat (refine ixs_map j hlt rfl ?_; dsimp only [camelL, go_sem, Nat.reduceAdd, Nat.reduceMul, Nat.reduceSub])
    rw [w64_in (n := b.full - l[j].water.lo) (by omega) (by omega), w64_in (n := sum.hi + (b.full - l[j].water.lo)) (by omega) (by omega)]
    rw [w64_in (n := (j : Int) + 1) (by omega) (by omega)]
    refine ⟨(j + 1, ⟨sum.lo + (b.full - l[j].water.hi), sum.hi + (b.full - l[j].water.lo)⟩), ⟨hlt, hi, by simp only; omega, by simp only; omega, by simp only; omega, by simp only; omega⟩, by simp only; omega, ?_⟩
    (refine ent_id ?_ ?_ ?_ rfl rfl <;> dsimp only [breedL, camelL, spanL, id, go_sem, Nat.reduceAdd, Nat.reduceMul, Nat.reduceSub] <;> simp [breedL, camelL, spanL, KFR_iff, KFR_app, KFR, KFL, KF, mtL_same, mtO, Nat.beq_refl])
  refine br_f (by simp; omega) ?_
  dsimp only [go_sem, Nat.reduceAdd, Nat.reduceMul, Nat.reduceSub]
  have hje : j = l.length := by omega
  subst hje
  rw [List.drop_length, thirstL] at hi
  rw [← hi]; rfl
end Go.Proofs.Ytnlfjchbhgikaaa
