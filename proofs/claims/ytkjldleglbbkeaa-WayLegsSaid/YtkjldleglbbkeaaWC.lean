import Derived.Test.YtkjldleglbbkeaaWB
set_option maxRecDepth 100000
set_option maxHeartbeats 4000000
namespace Go.Proofs.Ytkjldleglbbkeaa
open Go Go.Sx Go.Azalai
theorem landR_ok (l : Land) (hs : Small l) : Ct Try.prog 60 [.agg (landL l)] (B (okLand l)) := by
  have hw1 : IntKind.i64.wrap ((l.wells.length : Int) - 1) = (l.wells.length : Int) - 1 := w64_in (by omega) (by have := hs.1; omega)
  refine t60 (by simp [landL, wellL, legL, gateL, KFR_iff, KFL, KF]) (by simp [KFL, KF]) ?_
  dsimp only [c60, r60, landL, go_sem, List.drop, List.take, List.length, List.cons_append, List.nil_append, Nat.beq, Nat.blt, Nat.ble, Nat.reduceAdd, Nat.zero_add, Nat.add_zero, Nat.mul_one, Nat.reduceMul, Nat.zero_mul, Nat.one_mul]
  refine call (within_ok _ _ _) ?_
  dsimp only [go_sem, List.drop, List.take, List.length, List.cons_append, List.nil_append, Nat.beq, Nat.blt, Nat.ble, Nat.reduceAdd, Nat.zero_add, Nat.add_zero, Nat.mul_one, Nat.reduceMul, Nat.zero_mul, Nat.one_mul]
  repeat (refine gb ?_; dsimp only [go_sem, List.drop, List.take, List.length, List.cons_append, List.nil_append, Nat.beq, Nat.blt, Nat.ble, Nat.reduceAdd, Nat.zero_add, Nat.add_zero, Nat.mul_one, Nat.reduceMul, Nat.zero_mul, Nat.one_mul])
  simp only [List.length_map]
  refine br ?_ ?_
  · intro h
    dsimp only [go_sem, List.drop, List.take, List.length, List.cons_append, List.nil_append, Nat.beq, Nat.blt, Nat.ble, Nat.reduceAdd, Nat.zero_add, Nat.add_zero, Nat.mul_one, Nat.reduceMul, Nat.zero_mul, Nat.one_mul]
    have : okLand l = false := by simp only [okLand]; grind
    rw [this]
  intro h
  dsimp only [go_sem, List.drop, List.take, List.length, List.cons_append, List.nil_append, Nat.beq, Nat.blt, Nat.ble, Nat.reduceAdd, Nat.zero_add, Nat.add_zero, Nat.mul_one, Nat.reduceMul, Nat.zero_mul, Nat.one_mul]
  have ho1 : okLand l = (l.wells.all okWell && l.legs.all (okLeg l.wells.length)) := by simp only [okLand]; grind
  refine loopO (fun k : Nat => [(3, I k)]) (fun _ => []) (fun k => k ≤ l.wells.length ∧ (l.wells.drop k).all okWell = l.wells.all okWell) (fun k => l.wells.length - k) 0 ⟨Nat.zero_le _, rfl⟩ ?_ ?_
  · (refine ent_id ?_ ?_ ?_ rfl <;> dsimp only [gateL, wellL, legL, id, go_sem, List.drop, List.take, List.length, List.cons_append, List.nil_append, Nat.beq, Nat.blt, Nat.ble, Nat.reduceAdd, Nat.zero_add, Nat.add_zero, Nat.mul_one, Nat.reduceMul, Nat.zero_mul, Nat.one_mul] <;> simp [gateL, wellL, legL, KFR_iff, KFR, KFL, KF, mtL_same, mtO, Nat.beq_refl])
  intro k ⟨hk, hi⟩
  dsimp only [go_sem, List.drop, List.take, List.length, List.cons_append, List.nil_append, Nat.beq, Nat.blt, Nat.ble, Nat.reduceAdd, Nat.zero_add, Nat.add_zero, Nat.mul_one, Nat.reduceMul, Nat.zero_mul, Nat.one_mul]
  by_cases hlt : k < l.wells.length
  · refine br_t (by simpa using hlt) ?_
    dsimp only [go_sem, List.drop, List.take, List.length, List.cons_append, List.nil_append, Nat.beq, Nat.blt, Nat.ble, Nat.reduceAdd, Nat.zero_add, Nat.add_zero, Nat.mul_one, Nat.reduceMul, Nat.zero_mul, Nat.one_mul]
    refine ixs_map k hlt rfl ?_
    dsimp only [wellL, go_sem, List.drop, List.take, List.length, List.cons_append, List.nil_append, Nat.beq, Nat.blt, Nat.ble, Nat.reduceAdd, Nat.zero_add, Nat.add_zero, Nat.mul_one, Nat.reduceMul, Nat.zero_mul, Nat.one_mul]
    repeat (first | (refine gb ?_; dsimp only [go_sem, List.drop, List.take, List.length, List.cons_append, List.nil_append, Nat.beq, Nat.blt, Nat.ble, Nat.reduceAdd, Nat.zero_add, Nat.add_zero, Nat.mul_one, Nat.reduceMul, Nat.zero_mul, Nat.one_mul]) | (refine call (within_ok _ _ _) ?_; dsimp only [go_sem, List.drop, List.take, List.length, List.cons_append, List.nil_append, Nat.beq, Nat.blt, Nat.ble, Nat.reduceAdd, Nat.zero_add, Nat.add_zero, Nat.mul_one, Nat.reduceMul, Nat.zero_mul, Nat.one_mul]) | (refine call (spanned_ok l.wells[k].yld _ _) ?_; dsimp only [go_sem, List.drop, List.take, List.length, List.cons_append, List.nil_append, Nat.beq, Nat.blt, Nat.ble, Nat.reduceAdd, Nat.zero_add, Nat.add_zero, Nat.mul_one, Nat.reduceMul, Nat.zero_mul, Nat.one_mul]) | (refine call (spanned_ok l.wells[k].has _ _) ?_; dsimp only [go_sem, List.drop, List.take, List.length, List.cons_append, List.nil_append, Nat.beq, Nat.blt, Nat.ble, Nat.reduceAdd, Nat.zero_add, Nat.add_zero, Nat.mul_one, Nat.reduceMul, Nat.zero_mul, Nat.one_mul]))
    rw [List.drop_eq_getElem_cons hlt, List.all_cons] at hi
    refine br ?_ ?_
    · intro hb
      dsimp only [go_sem, List.drop, List.take, List.length, List.cons_append, List.nil_append, Nat.beq, Nat.blt, Nat.ble, Nat.reduceAdd, Nat.zero_add, Nat.add_zero, Nat.mul_one, Nat.reduceMul, Nat.zero_mul, Nat.one_mul]
      have : okWell l.wells[k] = false := by simp only [okWell]; grind
      rw [ho1, ← hi, this]; rfl
    · intro hb
      dsimp only [go_sem, List.drop, List.take, List.length, List.cons_append, List.nil_append, Nat.beq, Nat.blt, Nat.ble, Nat.reduceAdd, Nat.zero_add, Nat.add_zero, Nat.mul_one, Nat.reduceMul, Nat.zero_mul, Nat.one_mul]
      rw [w64_in (n := (k : Int) + 1) (by omega) (by have := hs.1; omega)]
      have : okWell l.wells[k] = true := by simp only [okWell]; grind
      rw [this, Bool.true_and] at hi
      refine ⟨k + 1, ⟨hlt, hi⟩, by omega, ?_⟩
      (refine ent_id ?_ ?_ ?_ rfl <;> dsimp only [gateL, wellL, legL, id, go_sem, List.drop, List.take, List.length, List.cons_append, List.nil_append, Nat.beq, Nat.blt, Nat.ble, Nat.reduceAdd, Nat.zero_add, Nat.add_zero, Nat.mul_one, Nat.reduceMul, Nat.zero_mul, Nat.one_mul] <;> simp [gateL, wellL, legL, KFR_iff, KFR, KFL, KF, mtL_same, mtO, Nat.beq_refl])
  refine br_f (by simp; omega) ?_
  dsimp only [go_sem, List.drop, List.take, List.length, List.cons_append, List.nil_append, Nat.beq, Nat.blt, Nat.ble, Nat.reduceAdd, Nat.zero_add, Nat.add_zero, Nat.mul_one, Nat.reduceMul, Nat.zero_mul, Nat.one_mul]
  have hke : k = l.wells.length := by omega
  subst hke
  rw [List.drop_length] at hi
  rw [← hi] at ho1
  rw [show okLand l = l.legs.all (okLeg l.wells.length) from by rw [ho1]; simp]
  refine loopO (fun k : Nat => [(5, I k)]) (fun _ => []) (fun k => k ≤ l.legs.length ∧ (l.legs.drop k).all (okLeg l.wells.length) = l.legs.all (okLeg l.wells.length)) (fun k => l.legs.length - k) 0 ⟨Nat.zero_le _, rfl⟩ ?_ ?_
  · (refine ent_id ?_ ?_ ?_ rfl <;> dsimp only [gateL, wellL, legL, id, go_sem, List.drop, List.take, List.length, List.cons_append, List.nil_append, Nat.beq, Nat.blt, Nat.ble, Nat.reduceAdd, Nat.zero_add, Nat.add_zero, Nat.mul_one, Nat.reduceMul, Nat.zero_mul, Nat.one_mul] <;> simp [gateL, wellL, legL, KFR_iff, KFR, KFL, KF, mtL_same, mtO, Nat.beq_refl])
  intro k ⟨hk, hi⟩
  dsimp only [go_sem, List.drop, List.take, List.length, List.cons_append, List.nil_append, Nat.beq, Nat.blt, Nat.ble, Nat.reduceAdd, Nat.zero_add, Nat.add_zero, Nat.mul_one, Nat.reduceMul, Nat.zero_mul, Nat.one_mul]
  by_cases hlt : k < l.legs.length
  · refine br_t (by simpa using hlt) ?_
    dsimp only [go_sem, List.drop, List.take, List.length, List.cons_append, List.nil_append, Nat.beq, Nat.blt, Nat.ble, Nat.reduceAdd, Nat.zero_add, Nat.add_zero, Nat.mul_one, Nat.reduceMul, Nat.zero_mul, Nat.one_mul]
    refine ixs_map k hlt rfl ?_
    dsimp only [legL, go_sem, List.drop, List.take, List.length, List.cons_append, List.nil_append, Nat.beq, Nat.blt, Nat.ble, Nat.reduceAdd, Nat.zero_add, Nat.add_zero, Nat.mul_one, Nat.reduceMul, Nat.zero_mul, Nat.one_mul]
    simp only [List.length_map, hw1]
    repeat (first | (refine gb ?_; dsimp only [go_sem, List.drop, List.take, List.length, List.cons_append, List.nil_append, Nat.beq, Nat.blt, Nat.ble, Nat.reduceAdd, Nat.zero_add, Nat.add_zero, Nat.mul_one, Nat.reduceMul, Nat.zero_mul, Nat.one_mul]) | (refine call (within_ok _ _ _) ?_; dsimp only [go_sem, List.drop, List.take, List.length, List.cons_append, List.nil_append, Nat.beq, Nat.blt, Nat.ble, Nat.reduceAdd, Nat.zero_add, Nat.add_zero, Nat.mul_one, Nat.reduceMul, Nat.zero_mul, Nat.one_mul]) | (refine call (spanned_ok l.legs[k].long _ _) ?_; dsimp only [go_sem, List.drop, List.take, List.length, List.cons_append, List.nil_append, Nat.beq, Nat.blt, Nat.ble, Nat.reduceAdd, Nat.zero_add, Nat.add_zero, Nat.mul_one, Nat.reduceMul, Nat.zero_mul, Nat.one_mul]))
    rw [List.drop_eq_getElem_cons hlt, List.all_cons] at hi
    simp only [List.length_map]
    have hgl := hs.2.2 l.legs[k] (List.getElem_mem _)
    generalize l.legs[k] = x at *
    refine br ?_ ?_
    · intro hb
      dsimp only [go_sem, List.drop, List.take, List.length, List.cons_append, List.nil_append, Nat.beq, Nat.blt, Nat.ble, Nat.reduceAdd, Nat.zero_add, Nat.add_zero, Nat.mul_one, Nat.reduceMul, Nat.zero_mul, Nat.one_mul]
      have : okLeg l.wells.length x = false := by simp only [okLeg]; grind
      rw [← hi, this]; rfl
    · intro hb
      dsimp only [go_sem, List.drop, List.take, List.length, List.cons_append, List.nil_append, Nat.beq, Nat.blt, Nat.ble, Nat.reduceAdd, Nat.zero_add, Nat.add_zero, Nat.mul_one, Nat.reduceMul, Nat.zero_mul, Nat.one_mul]
      have hx : okLeg l.wells.length x = okGates 0 x.gates := by simp only [okLeg]; grind
      refine loopO (fun s : Nat × Int => [(8, I s.1), (7, I s.2)]) (fun _ => []) (fun s => s.1 ≤ x.gates.length ∧ okGates (s.2 + 1) (x.gates.drop s.1) = okGates 0 x.gates) (fun s => x.gates.length - s.1) (0, -1) ⟨Nat.zero_le _, rfl⟩ ?_ ?_
      · (refine ent_id ?_ ?_ ?_ rfl <;> dsimp only [gateL, wellL, legL, id, go_sem, List.drop, List.take, List.length, List.cons_append, List.nil_append, Nat.beq, Nat.blt, Nat.ble, Nat.reduceAdd, Nat.zero_add, Nat.add_zero, Nat.mul_one, Nat.reduceMul, Nat.zero_mul, Nat.one_mul] <;> simp [gateL, wellL, legL, KFR_iff, KFR, KFL, KF, mtL_same, mtO, Nat.beq_refl])
      rintro ⟨j, last⟩ ⟨hj, hji⟩
      simp only at hj hji
      dsimp only [go_sem, List.drop, List.take, List.length, List.cons_append, List.nil_append, Nat.beq, Nat.blt, Nat.ble, Nat.reduceAdd, Nat.zero_add, Nat.add_zero, Nat.mul_one, Nat.reduceMul, Nat.zero_mul, Nat.one_mul]
      by_cases hlt2 : j < x.gates.length
      · refine br_t (by simpa using hlt2) ?_
        dsimp only [go_sem, List.drop, List.take, List.length, List.cons_append, List.nil_append, Nat.beq, Nat.blt, Nat.ble, Nat.reduceAdd, Nat.zero_add, Nat.add_zero, Nat.mul_one, Nat.reduceMul, Nat.zero_mul, Nat.one_mul]
        refine ixs_map j hlt2 rfl ?_
        dsimp only [gateL, go_sem, List.drop, List.take, List.length, List.cons_append, List.nil_append, Nat.beq, Nat.blt, Nat.ble, Nat.reduceAdd, Nat.zero_add, Nat.add_zero, Nat.mul_one, Nat.reduceMul, Nat.zero_mul, Nat.one_mul]
        repeat (first | (refine gb ?_; dsimp only [go_sem, List.drop, List.take, List.length, List.cons_append, List.nil_append, Nat.beq, Nat.blt, Nat.ble, Nat.reduceAdd, Nat.zero_add, Nat.add_zero, Nat.mul_one, Nat.reduceMul, Nat.zero_mul, Nat.one_mul]) | (refine call (spanned_ok x.gates[j].opens _ _) ?_; dsimp only [go_sem, List.drop, List.take, List.length, List.cons_append, List.nil_append, Nat.beq, Nat.blt, Nat.ble, Nat.reduceAdd, Nat.zero_add, Nat.add_zero, Nat.mul_one, Nat.reduceMul, Nat.zero_mul, Nat.one_mul]) | (refine call (spanned_ok x.gates[j].shuts _ _) ?_; dsimp only [go_sem, List.drop, List.take, List.length, List.cons_append, List.nil_append, Nat.beq, Nat.blt, Nat.ble, Nat.reduceAdd, Nat.zero_add, Nat.add_zero, Nat.mul_one, Nat.reduceMul, Nat.zero_mul, Nat.one_mul]))
        rw [List.drop_eq_getElem_cons hlt2] at hji
        simp only [okGates] at hji
        refine br ?_ ?_
        · intro hb2
          dsimp only [go_sem, List.drop, List.take, List.length, List.cons_append, List.nil_append, Nat.beq, Nat.blt, Nat.ble, Nat.reduceAdd, Nat.zero_add, Nat.add_zero, Nat.mul_one, Nat.reduceMul, Nat.zero_mul, Nat.one_mul]
          have : okLeg l.wells.length x = false := by rw [hx, ← hji]; simp only [inR]; grind
          rw [← hi, this]; rfl
        · intro hb2
          dsimp only [go_sem, List.drop, List.take, List.length, List.cons_append, List.nil_append, Nat.beq, Nat.blt, Nat.ble, Nat.reduceAdd, Nat.zero_add, Nat.add_zero, Nat.mul_one, Nat.reduceMul, Nat.zero_mul, Nat.one_mul]
          rw [w64_in (n := (j : Int) + 1) (by omega) (by omega)]
          refine ⟨(j + 1, x.gates[j].shuts.hi), ⟨hlt2, ?_⟩, by simp only; omega, ?_⟩
          · simp only; rw [← hji]; simp only [inR]; grind
          · (refine ent_id ?_ ?_ ?_ rfl <;> dsimp only [gateL, wellL, legL, id, go_sem, List.drop, List.take, List.length, List.cons_append, List.nil_append, Nat.beq, Nat.blt, Nat.ble, Nat.reduceAdd, Nat.zero_add, Nat.add_zero, Nat.mul_one, Nat.reduceMul, Nat.zero_mul, Nat.one_mul] <;> simp [gateL, wellL, legL, KFR_iff, KFR, KFL, KF, mtL_same, mtO, Nat.beq_refl])
      · refine br_f (by simp; omega) ?_
        dsimp only [go_sem, List.drop, List.take, List.length, List.cons_append, List.nil_append, Nat.beq, Nat.blt, Nat.ble, Nat.reduceAdd, Nat.zero_add, Nat.add_zero, Nat.mul_one, Nat.reduceMul, Nat.zero_mul, Nat.one_mul]
        rw [w64_in (n := (k : Int) + 1) (by omega) (by have := hs.2.1; omega)]
        have hje : j = x.gates.length := by omega
        subst hje
        rw [List.drop_length] at hji
        simp only [okGates] at hji
        rw [hx, ← hji, Bool.true_and] at hi
        refine ⟨k + 1, ⟨hlt, hi⟩, by omega, ?_⟩
        (refine ent_id ?_ ?_ ?_ rfl <;> dsimp only [gateL, wellL, legL, id, go_sem, List.drop, List.take, List.length, List.cons_append, List.nil_append, Nat.beq, Nat.blt, Nat.ble, Nat.reduceAdd, Nat.zero_add, Nat.add_zero, Nat.mul_one, Nat.reduceMul, Nat.zero_mul, Nat.one_mul] <;> simp [gateL, wellL, legL, KFR_iff, KFR, KFL, KF, mtL_same, mtO, Nat.beq_refl])
  refine br_f (by simp; omega) ?_
  dsimp only [go_sem, List.drop, List.take, List.length, List.cons_append, List.nil_append, Nat.beq, Nat.blt, Nat.ble, Nat.reduceAdd, Nat.zero_add, Nat.add_zero, Nat.mul_one, Nat.reduceMul, Nat.zero_mul, Nat.one_mul]
  have hke : k = l.legs.length := by omega
  subst hke
  rw [List.drop_length] at hi
  rw [← hi]; rfl
theorem great_ok (l : Land) : Ct Try.prog 16 [.agg (landL l)] (B (greatF l)) := by
  refine t16 (by simp [landL, wellL, legL, gateL, KFR_iff, KFL, KF]) (by simp [KFL, KF]) ?_
  dsimp only [c16, r16, landL, go_sem, List.drop, List.take, List.length, List.cons_append, List.nil_append, Nat.beq, Nat.blt, Nat.ble, Nat.reduceAdd, Nat.zero_add, Nat.add_zero, Nat.mul_one, Nat.reduceMul, Nat.zero_mul, Nat.one_mul]
  repeat (refine gb ?_; dsimp only [go_sem, List.drop, List.take, List.length, List.cons_append, List.nil_append, Nat.beq, Nat.blt, Nat.ble, Nat.reduceAdd, Nat.zero_add, Nat.add_zero, Nat.mul_one, Nat.reduceMul, Nat.zero_mul, Nat.one_mul])
  simp only [List.length_map]
  refine br ?_ ?_
  · intro h
    dsimp only [go_sem, List.drop, List.take, List.length, List.cons_append, List.nil_append, Nat.beq, Nat.blt, Nat.ble, Nat.reduceAdd, Nat.zero_add, Nat.add_zero, Nat.mul_one, Nat.reduceMul, Nat.zero_mul, Nat.one_mul]
    (simp only [greatF, Option.some.injEq, SV.v.injEq, Value.bool.injEq] <;> grind)
  intro h
  dsimp only [go_sem, List.drop, List.take, List.length, List.cons_append, List.nil_append, Nat.beq, Nat.blt, Nat.ble, Nat.reduceAdd, Nat.zero_add, Nat.add_zero, Nat.mul_one, Nat.reduceMul, Nat.zero_mul, Nat.one_mul]
  have hg : greatF l = l.legs.any fun x => decide (x.gates.length > 20) := by simp only [greatF]; grind
  have hlen : l.legs.length ≤ 40 := by grind
  rw [hg]
  refine loopO (fun k : Nat => [(3, I k)]) (fun _ => []) (fun k => k ≤ l.legs.length ∧ ((l.legs.drop k).any fun x => decide (x.gates.length > 20)) = l.legs.any fun x => decide (x.gates.length > 20)) (fun k => l.legs.length - k) 0 ⟨Nat.zero_le _, rfl⟩ ?_ ?_
  · (refine ent_id ?_ ?_ ?_ rfl <;> dsimp only [gateL, wellL, legL, id, go_sem, List.drop, List.take, List.length, List.cons_append, List.nil_append, Nat.beq, Nat.blt, Nat.ble, Nat.reduceAdd, Nat.zero_add, Nat.add_zero, Nat.mul_one, Nat.reduceMul, Nat.zero_mul, Nat.one_mul] <;> simp [gateL, wellL, legL, KFR_iff, KFR, KFL, KF, mtL_same, mtO, Nat.beq_refl])
  intro k ⟨hk, hi⟩
  dsimp only [go_sem, List.drop, List.take, List.length, List.cons_append, List.nil_append, Nat.beq, Nat.blt, Nat.ble, Nat.reduceAdd, Nat.zero_add, Nat.add_zero, Nat.mul_one, Nat.reduceMul, Nat.zero_mul, Nat.one_mul]
  by_cases hlt : k < l.legs.length
  · refine br_t (by simpa using hlt) ?_
    dsimp only [go_sem, List.drop, List.take, List.length, List.cons_append, List.nil_append, Nat.beq, Nat.blt, Nat.ble, Nat.reduceAdd, Nat.zero_add, Nat.add_zero, Nat.mul_one, Nat.reduceMul, Nat.zero_mul, Nat.one_mul]
    refine ixs_map k hlt rfl ?_
    dsimp only [legL, go_sem, List.drop, List.take, List.length, List.cons_append, List.nil_append, Nat.beq, Nat.blt, Nat.ble, Nat.reduceAdd, Nat.zero_add, Nat.add_zero, Nat.mul_one, Nat.reduceMul, Nat.zero_mul, Nat.one_mul]
    rw [List.drop_eq_getElem_cons hlt, List.any_cons] at hi
    refine br ?_ ?_
    · intro hb
      dsimp only [go_sem, List.drop, List.take, List.length, List.cons_append, List.nil_append, Nat.beq, Nat.blt, Nat.ble, Nat.reduceAdd, Nat.zero_add, Nat.add_zero, Nat.mul_one, Nat.reduceMul, Nat.zero_mul, Nat.one_mul]
      have : decide (l.legs[k].gates.length > 20) = true := by simp at hb ⊢; omega
      rw [← hi, this]; rfl
    · intro hb
      dsimp only [go_sem, List.drop, List.take, List.length, List.cons_append, List.nil_append, Nat.beq, Nat.blt, Nat.ble, Nat.reduceAdd, Nat.zero_add, Nat.add_zero, Nat.mul_one, Nat.reduceMul, Nat.zero_mul, Nat.one_mul]
      rw [w64_in (n := (k : Int) + 1) (by omega) (by omega)]
      have : decide (l.legs[k].gates.length > 20) = false := by simp at hb ⊢; omega
      rw [this, Bool.false_or] at hi
      refine ⟨k + 1, ⟨hlt, hi⟩, by omega, ?_⟩
      (refine ent_id ?_ ?_ ?_ rfl <;> dsimp only [gateL, wellL, legL, id, go_sem, List.drop, List.take, List.length, List.cons_append, List.nil_append, Nat.beq, Nat.blt, Nat.ble, Nat.reduceAdd, Nat.zero_add, Nat.add_zero, Nat.mul_one, Nat.reduceMul, Nat.zero_mul, Nat.one_mul] <;> simp [gateL, wellL, legL, KFR_iff, KFR, KFL, KF, mtL_same, mtO, Nat.beq_refl])
  refine br_f (by simp; omega) ?_
  dsimp only [go_sem, List.drop, List.take, List.length, List.cons_append, List.nil_append, Nat.beq, Nat.blt, Nat.ble, Nat.reduceAdd, Nat.zero_add, Nat.add_zero, Nat.mul_one, Nat.reduceMul, Nat.zero_mul, Nat.one_mul]
  have hke : k = l.legs.length := by omega
  subst hke
  rw [List.drop_length] at hi
  rw [← hi]; rfl
end Go.Proofs.Ytkjldleglbbkeaa
