import Derived.Test.YtkjldleglbbkeaaWA
set_option maxRecDepth 100000
set_option maxHeartbeats 4000000
namespace Go.Proofs.Ytkjldleglbbkeaa
open Go Go.Sx Go.Azalai
def wkres (r : Int × Int) : SV := .tup [I r.1, I r.2]
theorem work_wrap {w : Well} {water teams : Int} (hw : okWell w = true) (h1 : inR 0 1000000000 water = true) (h2 : inR 1 100 teams = true) :
    IntKind.i64.wrap (1000000 * teams) = 1000000 * teams ∧ IntKind.i64.wrap (water * w.depth) = water * w.depth ∧ IntKind.i64.wrap (water * w.depth + 1000000 * teams) = water * w.depth + 1000000 * teams ∧
    IntKind.i64.wrap (water * w.depth + 1000000 * teams - 1) = water * w.depth + 1000000 * teams - 1 ∧ 1000000 * teams ≠ 0 ∧
    IntKind.i64.wrap ((water * w.depth + 1000000 * teams - 1).tdiv (1000000 * teams)) = (water * w.depth + 1000000 * teams - 1).tdiv (1000000 * teams) := by
  simp only [okWell, okSp, inR, Bool.and_eq_true, decide_eq_true_eq] at hw h1 h2
  have k1 : 0 ≤ water * w.depth := Int.mul_nonneg h1.1 (by omega)
  have k2 : water * w.depth ≤ 1000000000 * 200 := Int.mul_le_mul h1.2 (by omega) (by omega) (by omega)
  refine ⟨w64_in (by omega) (by omega), w64_in (by omega) (by omega), w64_in (by omega) (by omega), w64_in (by omega) (by omega), by omega, w64_in ?_ ?_⟩
  · have := Int.tdiv_nonneg (a := water * w.depth + 1000000 * teams - 1) (b := 1000000 * teams) (by omega) (by omega); omega
  · have := Int.tdiv_le_self (a := water * w.depth + 1000000 * teams - 1) (1000000 * teams) (by omega); omega
theorem work_ok (l : Land) (hs : Small l) (well water teams : Int) : Ct Try.prog 19 [.agg (landL l), I well, I water, I teams] (wkres (workF l well water teams)) := by
  have hw1 : IntKind.i64.wrap ((l.wells.length : Int) - 1) = (l.wells.length : Int) - 1 := w64_in (by omega) (by have := hs.1; omega)
  refine t19 (by simp [landL, wellL, legL, gateL, KFR_iff, KFL, KF]) (by simp [wkres, KFL, KF]) ?_
  dsimp only [c19, r19, landL, go_sem, List.drop, List.take, List.length, List.cons_append, List.nil_append, Nat.beq, Nat.blt, Nat.ble, Nat.reduceAdd, Nat.zero_add, Nat.add_zero, Nat.mul_one, Nat.reduceMul, Nat.zero_mul, Nat.one_mul]
  refine call (check_ok l hs) ?_
  dsimp only [go_sem, List.drop, List.take, List.length, List.cons_append, List.nil_append, Nat.beq, Nat.blt, Nat.ble, Nat.reduceAdd, Nat.zero_add, Nat.add_zero, Nat.mul_one, Nat.reduceMul, Nat.zero_mul, Nat.one_mul]
  by_cases ho : okLand l = true
  case neg =>
    rw [if_neg ho]
    refine br_t rfl ?_
    dsimp only [go_sem, List.drop, List.take, List.length, List.cons_append, List.nil_append, Nat.beq, Nat.blt, Nat.ble, Nat.reduceAdd, Nat.zero_add, Nat.add_zero, Nat.mul_one, Nat.reduceMul, Nat.zero_mul, Nat.one_mul]
    simp [workF, ho, wkres]
  rw [if_pos ho]
  refine br_f rfl ?_
  dsimp only [go_sem, List.drop, List.take, List.length, List.cons_append, List.nil_append, Nat.beq, Nat.blt, Nat.ble, Nat.reduceAdd, Nat.zero_add, Nat.add_zero, Nat.mul_one, Nat.reduceMul, Nat.zero_mul, Nat.one_mul]
  simp only [List.length_map, hw1]
  repeat (first | (refine gb ?_; dsimp only [go_sem, List.drop, List.take, List.length, List.cons_append, List.nil_append, Nat.beq, Nat.blt, Nat.ble, Nat.reduceAdd, Nat.zero_add, Nat.add_zero, Nat.mul_one, Nat.reduceMul, Nat.zero_mul, Nat.one_mul]) | (refine call (from1 _ _ _ _) ?_; dsimp only [go_sem, List.drop, List.take, List.length, List.cons_append, List.nil_append, Nat.beq, Nat.blt, Nat.ble, Nat.reduceAdd, Nat.zero_add, Nat.add_zero, Nat.mul_one, Nat.reduceMul, Nat.zero_mul, Nat.one_mul]))
  by_cases ha : (inR 0 (l.wells.length - 1) well && inR 0 1000000000 water && inR 1 100 teams) = true
  case neg =>
    refine br_t (by grind) ?_
    dsimp only [go_sem, List.drop, List.take, List.length, List.cons_append, List.nil_append, Nat.beq, Nat.blt, Nat.ble, Nat.reduceAdd, Nat.zero_add, Nat.add_zero, Nat.mul_one, Nat.reduceMul, Nat.zero_mul, Nat.one_mul]
    simp only [workF, ho, wkres]
    rw [if_neg (by simp), if_pos (by grind)]
  refine br_f (by grind) ?_
  dsimp only [go_sem, List.drop, List.take, List.length, List.cons_append, List.nil_append, Nat.beq, Nat.blt, Nat.ble, Nat.reduceAdd, Nat.zero_add, Nat.add_zero, Nat.mul_one, Nat.reduceMul, Nat.zero_mul, Nat.one_mul]
  simp only [Bool.and_eq_true] at ha
  obtain ⟨⟨a1, a2⟩, a3⟩ := ha
  obtain ⟨kw, hkw, rfl, hget⟩ := get_well a1
  refine ixs_map kw hkw rfl ?_
  dsimp only [wellL, go_sem, List.drop, List.take, List.length, List.cons_append, List.nil_append, Nat.beq, Nat.blt, Nat.ble, Nat.reduceAdd, Nat.zero_add, Nat.add_zero, Nat.mul_one, Nat.reduceMul, Nat.zero_mul, Nat.one_mul]
  obtain ⟨q1, q2, q3, q4, q5, q6⟩ := work_wrap (okLand_well ho l.wells[kw] (List.getElem_mem _)) a2 a3
  simp only [q1, q2, q3, q4]
  refine div0 q5 ?_
  dsimp only [go_sem, List.drop, List.take, List.length, List.cons_append, List.nil_append, Nat.beq, Nat.blt, Nat.ble, Nat.reduceAdd, Nat.zero_add, Nat.add_zero, Nat.mul_one, Nat.reduceMul, Nat.zero_mul, Nat.one_mul]
  rw [q6]
  simp only [workF, ho, hget, wkres, a1, a2, a3]
  rfl
theorem workR_ok (l : Land) (hs : Small l) (hland : ∀ l, Small l → Ct Try.prog 60 [.agg (landL l)] (B (okLand l))) (well water teams : Int) : Ct Try.prog 20 [.agg (landL l), I well, I water, I teams] (wkres (workF l well water teams)) := by
  have hw1 : IntKind.i64.wrap ((l.wells.length : Int) - 1) = (l.wells.length : Int) - 1 := w64_in (by omega) (by have := hs.1; omega)
  refine t20 (by simp [landL, wellL, legL, gateL, KFR_iff, KFL, KF]) (by simp [wkres, KFL, KF]) ?_
  dsimp only [c20, r20, landL, go_sem, List.drop, List.take, List.length, List.cons_append, List.nil_append, Nat.beq, Nat.blt, Nat.ble, Nat.reduceAdd, Nat.zero_add, Nat.add_zero, Nat.mul_one, Nat.reduceMul, Nat.zero_mul, Nat.one_mul]
  refine call (hland l hs) ?_
  dsimp only [go_sem, List.drop, List.take, List.length, List.cons_append, List.nil_append, Nat.beq, Nat.blt, Nat.ble, Nat.reduceAdd, Nat.zero_add, Nat.add_zero, Nat.mul_one, Nat.reduceMul, Nat.zero_mul, Nat.one_mul]
  by_cases ho : okLand l = true
  case neg =>
    refine br_t (by simp [ho]) ?_
    dsimp only [go_sem, List.drop, List.take, List.length, List.cons_append, List.nil_append, Nat.beq, Nat.blt, Nat.ble, Nat.reduceAdd, Nat.zero_add, Nat.add_zero, Nat.mul_one, Nat.reduceMul, Nat.zero_mul, Nat.one_mul]
    simp [workF, ho, wkres]
  refine br_f (by simp [ho]) ?_
  dsimp only [go_sem, List.drop, List.take, List.length, List.cons_append, List.nil_append, Nat.beq, Nat.blt, Nat.ble, Nat.reduceAdd, Nat.zero_add, Nat.add_zero, Nat.mul_one, Nat.reduceMul, Nat.zero_mul, Nat.one_mul]
  simp only [List.length_map, hw1]
  repeat (first | (refine gb ?_; dsimp only [go_sem, List.drop, List.take, List.length, List.cons_append, List.nil_append, Nat.beq, Nat.blt, Nat.ble, Nat.reduceAdd, Nat.zero_add, Nat.add_zero, Nat.mul_one, Nat.reduceMul, Nat.zero_mul, Nat.one_mul]) | (refine call (within_ok _ _ _) ?_; dsimp only [go_sem, List.drop, List.take, List.length, List.cons_append, List.nil_append, Nat.beq, Nat.blt, Nat.ble, Nat.reduceAdd, Nat.zero_add, Nat.add_zero, Nat.mul_one, Nat.reduceMul, Nat.zero_mul, Nat.one_mul]))
  by_cases ha : (inR 0 (l.wells.length - 1) well && inR 0 1000000000 water && inR 1 100 teams) = true
  case neg =>
    refine br_t (by grind) ?_
    dsimp only [go_sem, List.drop, List.take, List.length, List.cons_append, List.nil_append, Nat.beq, Nat.blt, Nat.ble, Nat.reduceAdd, Nat.zero_add, Nat.add_zero, Nat.mul_one, Nat.reduceMul, Nat.zero_mul, Nat.one_mul]
    simp only [workF, ho, wkres]
    rw [if_neg (by simp), if_pos (by grind)]
  refine br_f (by grind) ?_
  dsimp only [go_sem, List.drop, List.take, List.length, List.cons_append, List.nil_append, Nat.beq, Nat.blt, Nat.ble, Nat.reduceAdd, Nat.zero_add, Nat.add_zero, Nat.mul_one, Nat.reduceMul, Nat.zero_mul, Nat.one_mul]
  simp only [Bool.and_eq_true] at ha
  obtain ⟨⟨a1, a2⟩, a3⟩ := ha
  obtain ⟨kw, hkw, rfl, hget⟩ := get_well a1
  refine ixs_map kw hkw rfl ?_
  dsimp only [wellL, go_sem, List.drop, List.take, List.length, List.cons_append, List.nil_append, Nat.beq, Nat.blt, Nat.ble, Nat.reduceAdd, Nat.zero_add, Nat.add_zero, Nat.mul_one, Nat.reduceMul, Nat.zero_mul, Nat.one_mul]
  obtain ⟨q1, q2, q3, q4, q5, q6⟩ := work_wrap (okLand_well ho l.wells[kw] (List.getElem_mem _)) a2 a3
  simp only [q1, q2, q3, q4]
  refine div0 q5 ?_
  dsimp only [go_sem, List.drop, List.take, List.length, List.cons_append, List.nil_append, Nat.beq, Nat.blt, Nat.ble, Nat.reduceAdd, Nat.zero_add, Nat.add_zero, Nat.mul_one, Nat.reduceMul, Nat.zero_mul, Nat.one_mul]
  rw [q6]
  simp only [workF, ho, hget, wkres, a1, a2, a3]
  rfl
end Go.Proofs.Ytkjldleglbbkeaa
