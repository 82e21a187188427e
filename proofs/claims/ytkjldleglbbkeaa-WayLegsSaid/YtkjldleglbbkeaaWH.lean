import Derived.Test.YtkjldleglbbkeaaWG
set_option maxRecDepth 100000
set_option maxHeartbeats 4000000
namespace Go.Proofs.Ytkjldleglbbkeaa
open Go Go.Sx Go.Azalai
theorem ixrm {g : Option (Nat × Bool)} {k m len : Nat} {i : Int} {d : Option Nat} {σ : St} {r : KT} {L : St → Prop} (n : Nat) (hi : i = (n : Int)) (hn : n < len) (hk : putK d (.pr k m n 0) g σ r L) : IXR g k m len i d σ r L := ⟨n, impP_iff.2 fun _ => ⟨hi, hn⟩, hk⟩
theorem ldrm {α : Type} {l : List α} {f : α → List SV} {g : Option (Nat × Bool)} {i o m : Nat} {ag : Bool} {d : Option Nat} {σ : St} {r : KT} {L : St → Prop} (hn : i < l.length) (hk : putO (partS (f l[i]) o m ag) d g σ r L) : LDR g (l.map f) i o m ag d σ r L := ⟨f l[i], impP_iff.2 fun _ => by simp [hn], hk⟩
theorem strm {α : Type} {l : List α} {f : α → List SV} {j o k m : Nat} {c : List SV} {T : TypeId} {σ : St} {r : KT} {L : St → Prop} (hn : j < l.length) (ho : o + c.length ≤ (f l[j]).length) (he : splice (f l[j]) o c = f l[j])
    (h : r ⟨σ.fr, (k, .row m (l.map f) T) :: σ.hp, σ.n, σ.N, σ.gs⟩ L) : STR (l.map f) j o k m c T σ r L := by
  refine ⟨f l[j], by simp [hn], ho, ?_⟩
  rw [he, show (l.map f).set j (f l[j]) = l.map f from by
    apply List.ext_getElem?
    intro i
    by_cases hij : j = i
    · subst hij; simp [hn]
    · rw [List.getElem?_set_ne hij]]
  exact h
theorem twin_ok (l : Land) (hs : Small l) : Ct Try.prog 21 [.agg (landL l)] (.agg (landL l)) := by
  refine t21 (by simp [landL, wellL, legL, gateL, KFR_iff, KFL, KF]) (by simp [landL, wellL, legL, gateL, KFR_iff, KFL, KF]) ?_
  dsimp only [c21, r21, landL, go_sem, List.drop, List.take, List.length, List.cons_append, List.nil_append, Nat.beq, Nat.blt, Nat.ble, Nat.reduceAdd, Nat.zero_add, Nat.add_zero, Nat.mul_one, Nat.reduceMul, Nat.zero_mul, Nat.one_mul]
  refine app0 (by simp; have := hs.1; omega) ?_
  dsimp only [go_sem, List.drop, List.take, List.length, List.cons_append, List.nil_append, Nat.beq, Nat.blt, Nat.ble, Nat.reduceAdd, Nat.zero_add, Nat.add_zero, Nat.mul_one, Nat.reduceMul, Nat.zero_mul, Nat.one_mul]
  refine ⟨by simp; have := hs.2.1; omega, ?_⟩
  dsimp only [go_sem, List.drop, List.take, List.length, List.cons_append, List.nil_append, Nat.beq, Nat.blt, Nat.ble, Nat.reduceAdd, Nat.zero_add, Nat.add_zero, Nat.mul_one, Nat.reduceMul, Nat.zero_mul, Nat.one_mul]
  refine loopO (fun k : Nat => [(3, I k)]) (fun _ => []) (fun k => k ≤ l.legs.length) (fun k => l.legs.length - k) 0 (Nat.zero_le _) ?_ ?_
  · (refine ent_id ?_ ?_ ?_ rfl <;> dsimp only [gateL, wellL, legL, id, go_sem, List.drop, List.take, List.length, List.cons_append, List.nil_append, Nat.beq, Nat.blt, Nat.ble, Nat.reduceAdd, Nat.zero_add, Nat.add_zero, Nat.mul_one, Nat.reduceMul, Nat.zero_mul, Nat.one_mul] <;> simp [gateL, wellL, legL, KFR_iff, KFR, KFL, KF, mtL_same, mtO, Nat.beq_refl])
  intro k hk
  dsimp only [go_sem, List.drop, List.take, List.length, List.cons_append, List.nil_append, Nat.beq, Nat.blt, Nat.ble, Nat.reduceAdd, Nat.zero_add, Nat.add_zero, Nat.mul_one, Nat.reduceMul, Nat.zero_mul, Nat.one_mul]
  simp only [List.length_map]
  by_cases hlt : k < l.legs.length
  · refine br_t (by simpa using hlt) ?_
    dsimp only [go_sem, List.drop, List.take, List.length, List.cons_append, List.nil_append, Nat.beq, Nat.blt, Nat.ble, Nat.reduceAdd, Nat.zero_add, Nat.add_zero, Nat.mul_one, Nat.reduceMul, Nat.zero_mul, Nat.one_mul]
    refine ixrm k rfl (by simpa using hlt) ?_
    dsimp only [go_sem, List.drop, List.take, List.length, List.cons_append, List.nil_append, Nat.beq, Nat.blt, Nat.ble, Nat.reduceAdd, Nat.zero_add, Nat.add_zero, Nat.mul_one, Nat.reduceMul, Nat.zero_mul, Nat.one_mul]
    refine ldrm hlt ?_
    dsimp only [legL, go_sem, List.drop, List.take, List.length, List.cons_append, List.nil_append, Nat.beq, Nat.blt, Nat.ble, Nat.reduceAdd, Nat.zero_add, Nat.add_zero, Nat.mul_one, Nat.reduceMul, Nat.zero_mul, Nat.one_mul]
    refine app0 (by simp; have := hs.2.2 _ (List.getElem_mem hlt); omega) ?_
    dsimp only [go_sem, List.drop, List.take, List.length, List.cons_append, List.nil_append, Nat.beq, Nat.blt, Nat.ble, Nat.reduceAdd, Nat.zero_add, Nat.add_zero, Nat.mul_one, Nat.reduceMul, Nat.zero_mul, Nat.one_mul]
    refine ixrm k rfl (by simpa using hlt) ?_
    dsimp only [go_sem, List.drop, List.take, List.length, List.cons_append, List.nil_append, Nat.beq, Nat.blt, Nat.ble, Nat.reduceAdd, Nat.zero_add, Nat.add_zero, Nat.mul_one, Nat.reduceMul, Nat.zero_mul, Nat.one_mul]
    refine strm hlt (by simp [legL]) (by simp [legL, splice]) ?_
    dsimp only [go_sem, List.drop, List.take, List.length, List.cons_append, List.nil_append, Nat.beq, Nat.blt, Nat.ble, Nat.reduceAdd, Nat.zero_add, Nat.add_zero, Nat.mul_one, Nat.reduceMul, Nat.zero_mul, Nat.one_mul]
    rw [w64_in (n := (k : Int) + 1) (by omega) (by have := hs.2.1; omega)]
    refine ⟨k + 1, hlt, by omega, ?_⟩
    (refine ent_id ?_ ?_ ?_ rfl <;> dsimp only [gateL, wellL, legL, id, go_sem, List.drop, List.take, List.length, List.cons_append, List.nil_append, Nat.beq, Nat.blt, Nat.ble, Nat.reduceAdd, Nat.zero_add, Nat.add_zero, Nat.mul_one, Nat.reduceMul, Nat.zero_mul, Nat.one_mul] <;> simp [gateL, wellL, legL, KFR_iff, KFR, KFL, KF, mtL_same, mtO, Nat.beq_refl])
  refine br_f (by simp; omega) ?_
  dsimp only [go_sem, List.drop, List.take, List.length, List.cons_append, List.nil_append, Nat.beq, Nat.blt, Nat.ble, Nat.reduceAdd, Nat.zero_add, Nat.add_zero, Nat.mul_one, Nat.reduceMul, Nat.zero_mul, Nat.one_mul]
theorem same_ok (l : Land) (hs : Small l) : Ct Try.prog 28 [.agg (landL l), .agg (landL l)] (B true) := by
  refine t28 (by simp [landL, wellL, legL, gateL, KFR_iff, KFL, KF]) (by simp [KFL, KF]) ?_
  dsimp only [c28, r28, landL, go_sem, List.drop, List.take, List.length, List.cons_append, List.nil_append, Nat.beq, Nat.blt, Nat.ble, Nat.reduceAdd, Nat.zero_add, Nat.add_zero, Nat.mul_one, Nat.reduceMul, Nat.zero_mul, Nat.one_mul]
  repeat (refine gb ?_; dsimp only [go_sem, List.drop, List.take, List.length, List.cons_append, List.nil_append, Nat.beq, Nat.blt, Nat.ble, Nat.reduceAdd, Nat.zero_add, Nat.add_zero, Nat.mul_one, Nat.reduceMul, Nat.zero_mul, Nat.one_mul])
  refine br_f (by simp) ?_
  dsimp only [go_sem, List.drop, List.take, List.length, List.cons_append, List.nil_append, Nat.beq, Nat.blt, Nat.ble, Nat.reduceAdd, Nat.zero_add, Nat.add_zero, Nat.mul_one, Nat.reduceMul, Nat.zero_mul, Nat.one_mul]
  refine loopO (fun k : Nat => [(5, I k)]) (fun _ => []) (fun k => k ≤ l.wells.length) (fun k => l.wells.length - k) 0 (Nat.zero_le _) ?_ ?_
  · (refine ent_id ?_ ?_ ?_ rfl <;> dsimp only [gateL, wellL, legL, id, go_sem, List.drop, List.take, List.length, List.cons_append, List.nil_append, Nat.beq, Nat.blt, Nat.ble, Nat.reduceAdd, Nat.zero_add, Nat.add_zero, Nat.mul_one, Nat.reduceMul, Nat.zero_mul, Nat.one_mul] <;> simp [gateL, wellL, legL, KFR_iff, KFR, KFL, KF, mtL_same, mtO, Nat.beq_refl])
  · intro k hk
    dsimp only [go_sem, List.drop, List.take, List.length, List.cons_append, List.nil_append, Nat.beq, Nat.blt, Nat.ble, Nat.reduceAdd, Nat.zero_add, Nat.add_zero, Nat.mul_one, Nat.reduceMul, Nat.zero_mul, Nat.one_mul]
    by_cases hlt : k < l.wells.length
    · refine br_t (by simpa using hlt) ?_
      dsimp only [go_sem, List.drop, List.take, List.length, List.cons_append, List.nil_append, Nat.beq, Nat.blt, Nat.ble, Nat.reduceAdd, Nat.zero_add, Nat.add_zero, Nat.mul_one, Nat.reduceMul, Nat.zero_mul, Nat.one_mul]
      refine ixs_map k hlt rfl ?_
      dsimp only [go_sem, List.drop, List.take, List.length, List.cons_append, List.nil_append, Nat.beq, Nat.blt, Nat.ble, Nat.reduceAdd, Nat.zero_add, Nat.add_zero, Nat.mul_one, Nat.reduceMul, Nat.zero_mul, Nat.one_mul]
      refine ixs_map k hlt rfl ?_
      dsimp only [wellL, go_sem, List.drop, List.take, List.length, List.cons_append, List.nil_append, Nat.beq, Nat.blt, Nat.ble, Nat.reduceAdd, Nat.zero_add, Nat.add_zero, Nat.mul_one, Nat.reduceMul, Nat.zero_mul, Nat.one_mul]
      refine br_f (by simp [ngB]) ?_
      dsimp only [go_sem, List.drop, List.take, List.length, List.cons_append, List.nil_append, Nat.beq, Nat.blt, Nat.ble, Nat.reduceAdd, Nat.zero_add, Nat.add_zero, Nat.mul_one, Nat.reduceMul, Nat.zero_mul, Nat.one_mul]
      rw [w64_in (n := (k : Int) + 1) (by omega) (by have := hs.1; omega)]
      refine ⟨k + 1, hlt, by omega, ?_⟩
      (refine ent_id ?_ ?_ ?_ rfl <;> dsimp only [gateL, wellL, legL, id, go_sem, List.drop, List.take, List.length, List.cons_append, List.nil_append, Nat.beq, Nat.blt, Nat.ble, Nat.reduceAdd, Nat.zero_add, Nat.add_zero, Nat.mul_one, Nat.reduceMul, Nat.zero_mul, Nat.one_mul] <;> simp [gateL, wellL, legL, KFR_iff, KFR, KFL, KF, mtL_same, mtO, Nat.beq_refl])
    refine br_f (by simp; omega) ?_
    dsimp only [go_sem, List.drop, List.take, List.length, List.cons_append, List.nil_append, Nat.beq, Nat.blt, Nat.ble, Nat.reduceAdd, Nat.zero_add, Nat.add_zero, Nat.mul_one, Nat.reduceMul, Nat.zero_mul, Nat.one_mul]
    refine loopO (fun k : Nat => [(6, I k)]) (fun _ => []) (fun k => k ≤ l.legs.length) (fun k => l.legs.length - k) 0 (Nat.zero_le _) ?_ ?_
    · (refine ent_id ?_ ?_ ?_ rfl <;> dsimp only [gateL, wellL, legL, id, go_sem, List.drop, List.take, List.length, List.cons_append, List.nil_append, Nat.beq, Nat.blt, Nat.ble, Nat.reduceAdd, Nat.zero_add, Nat.add_zero, Nat.mul_one, Nat.reduceMul, Nat.zero_mul, Nat.one_mul] <;> simp [gateL, wellL, legL, KFR_iff, KFR, KFL, KF, mtL_same, mtO, Nat.beq_refl])
    · intro k hk
      dsimp only [go_sem, List.drop, List.take, List.length, List.cons_append, List.nil_append, Nat.beq, Nat.blt, Nat.ble, Nat.reduceAdd, Nat.zero_add, Nat.add_zero, Nat.mul_one, Nat.reduceMul, Nat.zero_mul, Nat.one_mul]
      by_cases hlt : k < l.legs.length
      · refine br_t (by simpa using hlt) ?_
        dsimp only [go_sem, List.drop, List.take, List.length, List.cons_append, List.nil_append, Nat.beq, Nat.blt, Nat.ble, Nat.reduceAdd, Nat.zero_add, Nat.add_zero, Nat.mul_one, Nat.reduceMul, Nat.zero_mul, Nat.one_mul]
        refine ixs_map k hlt rfl ?_
        dsimp only [go_sem, List.drop, List.take, List.length, List.cons_append, List.nil_append, Nat.beq, Nat.blt, Nat.ble, Nat.reduceAdd, Nat.zero_add, Nat.add_zero, Nat.mul_one, Nat.reduceMul, Nat.zero_mul, Nat.one_mul]
        refine ixs_map k hlt rfl ?_
        dsimp only [legL, go_sem, List.drop, List.take, List.length, List.cons_append, List.nil_append, Nat.beq, Nat.blt, Nat.ble, Nat.reduceAdd, Nat.zero_add, Nat.add_zero, Nat.mul_one, Nat.reduceMul, Nat.zero_mul, Nat.one_mul]
        repeat (refine gb ?_; dsimp only [go_sem, List.drop, List.take, List.length, List.cons_append, List.nil_append, Nat.beq, Nat.blt, Nat.ble, Nat.reduceAdd, Nat.zero_add, Nat.add_zero, Nat.mul_one, Nat.reduceMul, Nat.zero_mul, Nat.one_mul])
        refine br_f (by simp [ngB]) ?_
        dsimp only [go_sem, List.drop, List.take, List.length, List.cons_append, List.nil_append, Nat.beq, Nat.blt, Nat.ble, Nat.reduceAdd, Nat.zero_add, Nat.add_zero, Nat.mul_one, Nat.reduceMul, Nat.zero_mul, Nat.one_mul]
        refine loopO (fun k : Nat => [(9, I k)]) (fun _ => []) (fun j => j ≤ l.legs[k].gates.length) (fun j => l.legs[k].gates.length - j) 0 (Nat.zero_le _) ?_ ?_
        · (refine ent_id ?_ ?_ ?_ rfl <;> dsimp only [gateL, wellL, legL, id, go_sem, List.drop, List.take, List.length, List.cons_append, List.nil_append, Nat.beq, Nat.blt, Nat.ble, Nat.reduceAdd, Nat.zero_add, Nat.add_zero, Nat.mul_one, Nat.reduceMul, Nat.zero_mul, Nat.one_mul] <;> simp [gateL, wellL, legL, KFR_iff, KFR, KFL, KF, mtL_same, mtO, Nat.beq_refl])
        · intro j hj
          dsimp only [go_sem, List.drop, List.take, List.length, List.cons_append, List.nil_append, Nat.beq, Nat.blt, Nat.ble, Nat.reduceAdd, Nat.zero_add, Nat.add_zero, Nat.mul_one, Nat.reduceMul, Nat.zero_mul, Nat.one_mul]
          by_cases hl2 : j < l.legs[k].gates.length
          · refine br_t (by simpa using hl2) ?_
            dsimp only [go_sem, List.drop, List.take, List.length, List.cons_append, List.nil_append, Nat.beq, Nat.blt, Nat.ble, Nat.reduceAdd, Nat.zero_add, Nat.add_zero, Nat.mul_one, Nat.reduceMul, Nat.zero_mul, Nat.one_mul]
            refine ixs_map j hl2 rfl ?_
            dsimp only [go_sem, List.drop, List.take, List.length, List.cons_append, List.nil_append, Nat.beq, Nat.blt, Nat.ble, Nat.reduceAdd, Nat.zero_add, Nat.add_zero, Nat.mul_one, Nat.reduceMul, Nat.zero_mul, Nat.one_mul]
            refine ixs_map j hl2 rfl ?_
            dsimp only [gateL, go_sem, List.drop, List.take, List.length, List.cons_append, List.nil_append, Nat.beq, Nat.blt, Nat.ble, Nat.reduceAdd, Nat.zero_add, Nat.add_zero, Nat.mul_one, Nat.reduceMul, Nat.zero_mul, Nat.one_mul]
            refine br_f (by simp [ngB]) ?_
            dsimp only [go_sem, List.drop, List.take, List.length, List.cons_append, List.nil_append, Nat.beq, Nat.blt, Nat.ble, Nat.reduceAdd, Nat.zero_add, Nat.add_zero, Nat.mul_one, Nat.reduceMul, Nat.zero_mul, Nat.one_mul]
            rw [w64_in (n := (j : Int) + 1) (by omega) (by have := hs.2.2 _ (List.getElem_mem hlt); omega)]
            refine ⟨j + 1, hl2, by omega, ?_⟩
            (refine ent_id ?_ ?_ ?_ rfl <;> dsimp only [gateL, wellL, legL, id, go_sem, List.drop, List.take, List.length, List.cons_append, List.nil_append, Nat.beq, Nat.blt, Nat.ble, Nat.reduceAdd, Nat.zero_add, Nat.add_zero, Nat.mul_one, Nat.reduceMul, Nat.zero_mul, Nat.one_mul] <;> simp [gateL, wellL, legL, KFR_iff, KFR, KFL, KF, mtL_same, mtO, Nat.beq_refl])
          refine br_f (by simp; omega) ?_
          dsimp only [go_sem, List.drop, List.take, List.length, List.cons_append, List.nil_append, Nat.beq, Nat.blt, Nat.ble, Nat.reduceAdd, Nat.zero_add, Nat.add_zero, Nat.mul_one, Nat.reduceMul, Nat.zero_mul, Nat.one_mul]
          rw [w64_in (n := (k : Int) + 1) (by omega) (by have := hs.2.1; omega)]
          refine ⟨k + 1, hlt, by omega, ?_⟩
          (refine ent_id ?_ ?_ ?_ rfl <;> dsimp only [gateL, wellL, legL, id, go_sem, List.drop, List.take, List.length, List.cons_append, List.nil_append, Nat.beq, Nat.blt, Nat.ble, Nat.reduceAdd, Nat.zero_add, Nat.add_zero, Nat.mul_one, Nat.reduceMul, Nat.zero_mul, Nat.one_mul] <;> simp [gateL, wellL, legL, KFR_iff, KFR, KFL, KF, mtL_same, mtO, Nat.beq_refl])
      refine br_f (by simp; omega) ?_
      dsimp only [go_sem, List.drop, List.take, List.length, List.cons_append, List.nil_append, Nat.beq, Nat.blt, Nat.ble, Nat.reduceAdd, Nat.zero_add, Nat.add_zero, Nat.mul_one, Nat.reduceMul, Nat.zero_mul, Nat.one_mul]
theorem legs_ok (l : Land) (leg day : Int) (p : Span) : Ct Try.prog 4 [.agg (landL l), I leg, I day, .agg (spanL p)] (B true) := by
  refine t4 (by simp [landL, wellL, legL, gateL, spanL, KFR_iff, KFL, KF]) (by simp [KFL, KF]) ?_
  dsimp only [c4, r4, landL, spanL, go_sem, List.drop, List.take, List.length, List.cons_append, List.nil_append, Nat.beq, Nat.blt, Nat.ble, Nat.reduceAdd, Nat.zero_add, Nat.add_zero, Nat.mul_one, Nat.reduceMul, Nat.zero_mul, Nat.one_mul]
  refine call (great_ok l) ?_
  dsimp only [go_sem, List.drop, List.take, List.length, List.cons_append, List.nil_append, Nat.beq, Nat.blt, Nat.ble, Nat.reduceAdd, Nat.zero_add, Nat.add_zero, Nat.mul_one, Nat.reduceMul, Nat.zero_mul, Nat.one_mul]
  refine br ?_ ?_
  · intro h
    dsimp only [go_sem, List.drop, List.take, List.length, List.cons_append, List.nil_append, Nat.beq, Nat.blt, Nat.ble, Nat.reduceAdd, Nat.zero_add, Nat.add_zero, Nat.mul_one, Nat.reduceMul, Nat.zero_mul, Nat.one_mul]
  intro h
  dsimp only [go_sem, List.drop, List.take, List.length, List.cons_append, List.nil_append, Nat.beq, Nat.blt, Nat.ble, Nat.reduceAdd, Nat.zero_add, Nat.add_zero, Nat.mul_one, Nat.reduceMul, Nat.zero_mul, Nat.one_mul]
  have hs : Small l := by
    have h1 : greatF l = false := by simpa using h
    simp only [greatF, Bool.or_eq_false_iff, decide_eq_false_iff_not, List.any_eq_false, decide_eq_true_eq] at h1
    exact ⟨by omega, by omega, fun x hx => by have := h1.2 x hx; omega⟩
  refine call (twin_ok l hs) ?_
  dsimp only [landL, go_sem, List.drop, List.take, List.length, List.cons_append, List.nil_append, Nat.beq, Nat.blt, Nat.ble, Nat.reduceAdd, Nat.zero_add, Nat.add_zero, Nat.mul_one, Nat.reduceMul, Nat.zero_mul, Nat.one_mul]
  refine call (wdays_ok l hs leg p) ?_
  dsimp only [sres, spanL, go_sem, List.drop, List.take, List.length, List.cons_append, List.nil_append, Nat.beq, Nat.blt, Nat.ble, Nat.reduceAdd, Nat.zero_add, Nat.add_zero, Nat.mul_one, Nat.reduceMul, Nat.zero_mul, Nat.one_mul]
  refine call (daysR_ok l hs leg p) ?_
  dsimp only [sres, spanL, go_sem, List.drop, List.take, List.length, List.cons_append, List.nil_append, Nat.beq, Nat.blt, Nat.ble, Nat.reduceAdd, Nat.zero_add, Nat.add_zero, Nat.mul_one, Nat.reduceMul, Nat.zero_mul, Nat.one_mul]
  refine call (wleave_ok l hs leg day p) ?_
  dsimp only [sres, spanL, go_sem, List.drop, List.take, List.length, List.cons_append, List.nil_append, Nat.beq, Nat.blt, Nat.ble, Nat.reduceAdd, Nat.zero_add, Nat.add_zero, Nat.mul_one, Nat.reduceMul, Nat.zero_mul, Nat.one_mul]
  refine call (leaveR_ok l hs leg day p) ?_
  dsimp only [sres, spanL, go_sem, List.drop, List.take, List.length, List.cons_append, List.nil_append, Nat.beq, Nat.blt, Nat.ble, Nat.reduceAdd, Nat.zero_add, Nat.add_zero, Nat.mul_one, Nat.reduceMul, Nat.zero_mul, Nat.one_mul]
  repeat (first | (refine gb ?_; dsimp only [go_sem, List.drop, List.take, List.length, List.cons_append, List.nil_append, Nat.beq, Nat.blt, Nat.ble, Nat.reduceAdd, Nat.zero_add, Nat.add_zero, Nat.mul_one, Nat.reduceMul, Nat.zero_mul, Nat.one_mul]) | (refine call (check_ok l hs) ?_; dsimp only [go_sem, List.drop, List.take, List.length, List.cons_append, List.nil_append, Nat.beq, Nat.blt, Nat.ble, Nat.reduceAdd, Nat.zero_add, Nat.add_zero, Nat.mul_one, Nat.reduceMul, Nat.zero_mul, Nat.one_mul]) | (refine call (checkR_ok l hs) ?_; dsimp only [go_sem, List.drop, List.take, List.length, List.cons_append, List.nil_append, Nat.beq, Nat.blt, Nat.ble, Nat.reduceAdd, Nat.zero_add, Nat.add_zero, Nat.mul_one, Nat.reduceMul, Nat.zero_mul, Nat.one_mul]) | (refine call (same_ok l hs) ?_; dsimp only [go_sem, List.drop, List.take, List.length, List.cons_append, List.nil_append, Nat.beq, Nat.blt, Nat.ble, Nat.reduceAdd, Nat.zero_add, Nat.add_zero, Nat.mul_one, Nat.reduceMul, Nat.zero_mul, Nat.one_mul]))
  simp
end Go.Proofs.Ytkjldleglbbkeaa
