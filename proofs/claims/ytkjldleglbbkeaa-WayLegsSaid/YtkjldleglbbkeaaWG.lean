import Derived.Test.YtkjldleglbbkeaaWF
set_option maxRecDepth 100000
set_option maxHeartbeats 4000000
namespace Go.Proofs.Ytkjldleglbbkeaa
open Go Go.Sx Go.Azalai
theorem min3_ok (a b d : Int) (c : Bool) : Ct Try.prog 104 [.sl c 1 [[I a], [I b], [I d]]] (I (min (min a b) d)) := by
  refine t104 (by simp [KFR, KFL, KF]) (by simp [KFL, KF]) ?_
  dsimp only [c104, r104, go_sem, List.drop, List.take, List.length, List.cons_append, List.nil_append, Nat.beq, Nat.blt, Nat.ble, Nat.reduceAdd, Nat.zero_add, Nat.add_zero, Nat.mul_one, Nat.reduceMul, Nat.zero_mul, Nat.one_mul]
  refine br_f (by decide) ?_
  dsimp only [go_sem, List.drop, List.take, List.length, List.cons_append, List.nil_append, Nat.beq, Nat.blt, Nat.ble, Nat.reduceAdd, Nat.zero_add, Nat.add_zero, Nat.mul_one, Nat.reduceMul, Nat.zero_mul, Nat.one_mul]
  refine ixs 0 [I a] rfl rfl ?_
  dsimp only [go_sem, List.drop, List.take, List.length, List.cons_append, List.nil_append, Nat.beq, Nat.blt, Nat.ble, Nat.reduceAdd, Nat.zero_add, Nat.add_zero, Nat.mul_one, Nat.reduceMul, Nat.zero_mul, Nat.one_mul]
  refine unroll 3 ?_
  dsimp only [rnds_succ, go_sem, List.drop, List.take, List.length, List.cons_append, List.nil_append, Nat.beq, Nat.blt, Nat.ble, Nat.reduceAdd, Nat.zero_add, Nat.add_zero, Nat.mul_one, Nat.reduceMul, Nat.zero_mul, Nat.one_mul]
  refine br_t (by decide) ?_
  dsimp only [rnds_succ, go_sem, List.drop, List.take, List.length, List.cons_append, List.nil_append, Nat.beq, Nat.blt, Nat.ble, Nat.reduceAdd, Nat.zero_add, Nat.add_zero, Nat.mul_one, Nat.reduceMul, Nat.zero_mul, Nat.one_mul]
  refine ixs 1 [I b] rfl rfl ?_
  dsimp only [rnds_succ, go_sem, List.drop, List.take, List.length, List.cons_append, List.nil_append, Nat.beq, Nat.blt, Nat.ble, Nat.reduceAdd, Nat.zero_add, Nat.add_zero, Nat.mul_one, Nat.reduceMul, Nat.zero_mul, Nat.one_mul]
  refine br_t (by decide) ?_
  dsimp only [rnds_succ, go_sem, List.drop, List.take, List.length, List.cons_append, List.nil_append, Nat.beq, Nat.blt, Nat.ble, Nat.reduceAdd, Nat.zero_add, Nat.add_zero, Nat.mul_one, Nat.reduceMul, Nat.zero_mul, Nat.one_mul]
  refine ixs 2 [I d] rfl rfl ?_
  dsimp only [rnds_succ, go_sem, List.drop, List.take, List.length, List.cons_append, List.nil_append, Nat.beq, Nat.blt, Nat.ble, Nat.reduceAdd, Nat.zero_add, Nat.add_zero, Nat.mul_one, Nat.reduceMul, Nat.zero_mul, Nat.one_mul]
  refine br_f (by decide) ?_
  dsimp only [go_sem, List.drop, List.take, List.length, List.cons_append, List.nil_append, Nat.beq, Nat.blt, Nat.ble, Nat.reduceAdd, Nat.zero_add, Nat.add_zero, Nat.mul_one, Nat.reduceMul, Nat.zero_mul, Nat.one_mul]
theorem first_ok (a b : Int) : Ct Try.prog 94 [.sl true 1 [[I a], [I b]]] (I (min (min a b) 100001)) := by
  refine t94 (by simp [KFR, KFL, KF]) (by simp [KFL, KF]) ?_
  dsimp only [c94, r94, go_sem, List.drop, List.take, List.length, List.cons_append, List.nil_append, Nat.beq, Nat.blt, Nat.ble, Nat.reduceAdd, Nat.zero_add, Nat.add_zero, Nat.mul_one, Nat.reduceMul, Nat.zero_mul, Nat.one_mul]
  refine app0 (by simp) ?_
  dsimp only [go_sem, List.drop, List.take, List.length, List.cons_append, List.nil_append, Nat.beq, Nat.blt, Nat.ble, Nat.reduceAdd, Nat.zero_add, Nat.add_zero, Nat.mul_one, Nat.reduceMul, Nat.zero_mul, Nat.one_mul]
  refine call (min3_ok a b 100001 false) ?_
  dsimp only [go_sem, List.drop, List.take, List.length, List.cons_append, List.nil_append, Nat.beq, Nat.blt, Nat.ble, Nat.reduceAdd, Nat.zero_add, Nat.add_zero, Nat.mul_one, Nat.reduceMul, Nat.zero_mul, Nat.one_mul]
theorem outL_le {n day : Int} {o s : Gate → Int} (hn : 1 ≤ n) : ∀ {l : List Gate}, (∀ g ∈ l, s g ≤ 100000) → outL n day o s l ≤ 100001
  | [], _ => by simp only [outL]; omega
  | x :: l, h => by
    have := h x (by simp)
    have := outL_le (day := day) (o := o) (s := s) (l := l) hn (fun g hg => h g (by simp [hg]))
    simp only [outL]; split <;> omega
def carL (l : Land) (p : Span) : List SV := [.sl false 9 (l.wells.map wellL), .sl false 5 (l.legs.map legL), I p.lo, I p.hi]
theorem open_ok (l : Land) (hs : Small l) (p : Span) (ha : askF l p = 0) : Ct Try.prog 63 [.agg (landL l), .agg (spanL p)] (.tup [.agg (carL l p), I 0]) := by
  obtain ⟨h1, h2⟩ := ask0 ha
  refine t63 (by simp [landL, wellL, legL, gateL, spanL, KFR_iff, KFL, KF]) (by simp [carL, wellL, legL, gateL, spanL, KFR_iff, KFL, KF]) ?_
  dsimp only [c63, r63, landL, spanL, go_sem, List.drop, List.take, List.length, List.cons_append, List.nil_append, Nat.beq, Nat.blt, Nat.ble, Nat.reduceAdd, Nat.zero_add, Nat.add_zero, Nat.mul_one, Nat.reduceMul, Nat.zero_mul, Nat.one_mul]
  refine call (check_ok l hs) ?_
  dsimp only [go_sem, List.drop, List.take, List.length, List.cons_append, List.nil_append, Nat.beq, Nat.blt, Nat.ble, Nat.reduceAdd, Nat.zero_add, Nat.add_zero, Nat.mul_one, Nat.reduceMul, Nat.zero_mul, Nat.one_mul]
  refine br_f (by simp [h1]) ?_
  dsimp only [go_sem, List.drop, List.take, List.length, List.cons_append, List.nil_append, Nat.beq, Nat.blt, Nat.ble, Nat.reduceAdd, Nat.zero_add, Nat.add_zero, Nat.mul_one, Nat.reduceMul, Nat.zero_mul, Nat.one_mul]
  refine call (ordered1 1 100000 p _) ?_
  dsimp only [go_sem, List.drop, List.take, List.length, List.cons_append, List.nil_append, Nat.beq, Nat.blt, Nat.ble, Nat.reduceAdd, Nat.zero_add, Nat.add_zero, Nat.mul_one, Nat.reduceMul, Nat.zero_mul, Nat.one_mul]
  refine br_f (by simpa [okPace] using h2) ?_
  dsimp only [carL, go_sem, List.drop, List.take, List.length, List.cons_append, List.nil_append, Nat.beq, Nat.blt, Nat.ble, Nat.reduceAdd, Nat.zero_add, Nat.add_zero, Nat.mul_one, Nat.reduceMul, Nat.zero_mul, Nat.one_mul]
theorem open_err (l : Land) (hs : Small l) (p : Span) (ha : askF l p ≠ 0) : Ct Try.prog 63 [.agg (landL l), .agg (spanL p)] (.tup [.agg [.v (.slice none 0 0), .v (.slice none 0 0), I 0, I 0], I (askF l p)]) := by
  refine t63 (by simp [landL, wellL, legL, gateL, spanL, KFR_iff, KFL, KF]) (by simp [KFL, KF]) ?_
  dsimp only [c63, r63, landL, spanL, go_sem, List.drop, List.take, List.length, List.cons_append, List.nil_append, Nat.beq, Nat.blt, Nat.ble, Nat.reduceAdd, Nat.zero_add, Nat.add_zero, Nat.mul_one, Nat.reduceMul, Nat.zero_mul, Nat.one_mul]
  refine call (check_ok l hs) ?_
  dsimp only [go_sem, List.drop, List.take, List.length, List.cons_append, List.nil_append, Nat.beq, Nat.blt, Nat.ble, Nat.reduceAdd, Nat.zero_add, Nat.add_zero, Nat.mul_one, Nat.reduceMul, Nat.zero_mul, Nat.one_mul]
  by_cases h1 : okLand l = true
  case neg =>
    refine br_t (by simp [h1]) ?_
    dsimp only [go_sem, List.drop, List.take, List.length, List.cons_append, List.nil_append, Nat.beq, Nat.blt, Nat.ble, Nat.reduceAdd, Nat.zero_add, Nat.add_zero, Nat.mul_one, Nat.reduceMul, Nat.zero_mul, Nat.one_mul]
    simp [askF, h1]
  refine br_f (by simp [h1]) ?_
  dsimp only [go_sem, List.drop, List.take, List.length, List.cons_append, List.nil_append, Nat.beq, Nat.blt, Nat.ble, Nat.reduceAdd, Nat.zero_add, Nat.add_zero, Nat.mul_one, Nat.reduceMul, Nat.zero_mul, Nat.one_mul]
  refine call (ordered1 1 100000 p _) ?_
  dsimp only [go_sem, List.drop, List.take, List.length, List.cons_append, List.nil_append, Nat.beq, Nat.blt, Nat.ble, Nat.reduceAdd, Nat.zero_add, Nat.add_zero, Nat.mul_one, Nat.reduceMul, Nat.zero_mul, Nat.one_mul]
  have h2 : okPace p = false := by
    by_cases h2 : okPace p = true
    · exact absurd (by simp [askF, h1, h2]) ha
    · simpa using h2
  refine br_t (by simpa [okPace] using h2) ?_
  dsimp only [go_sem, List.drop, List.take, List.length, List.cons_append, List.nil_append, Nat.beq, Nat.blt, Nat.ble, Nat.reduceAdd, Nat.zero_add, Nat.add_zero, Nat.mul_one, Nat.reduceMul, Nat.zero_mul, Nat.one_mul]
  simp [askF, h1, h2]
theorem cdays_ok (l : Land) (p : Span) (k : Nat) (hk : k < l.legs.length) (hx : GoodLeg l.legs[k]) (hp : okPace p = true) : Ct Try.prog 64 [.agg (carL l p), I k] (.agg (spanL (dayF l.legs[k] p))) := by
  have hb := day_bd hx hp
  have hp' := hp
  simp only [okPace, okSp, decide_eq_true_eq] at hp'
  obtain ⟨h1, h2, h3, h4, h5⟩ := hx
  refine t64 (by simp [carL, wellL, legL, gateL, spanL, KFR_iff, KFL, KF]) (by simp [spanL, KFL, KF]) ?_
  dsimp only [c64, r64, carL, go_sem, List.drop, List.take, List.length, List.cons_append, List.nil_append, Nat.beq, Nat.blt, Nat.ble, Nat.reduceAdd, Nat.zero_add, Nat.add_zero, Nat.mul_one, Nat.reduceMul, Nat.zero_mul, Nat.one_mul]
  refine ixs_map k hk rfl ?_
  dsimp only [legL, go_sem, List.drop, List.take, List.length, List.cons_append, List.nil_append, Nat.beq, Nat.blt, Nat.ble, Nat.reduceAdd, Nat.zero_add, Nat.add_zero, Nat.mul_one, Nat.reduceMul, Nat.zero_mul, Nat.one_mul]
  rw [w64_in (n := l.legs[k].long.lo + p.hi) (by omega) (by omega), w64_in (n := l.legs[k].long.lo + p.hi - 1) (by omega) (by omega)]
  refine div0 (by omega) ?_
  dsimp only [go_sem, List.drop, List.take, List.length, List.cons_append, List.nil_append, Nat.beq, Nat.blt, Nat.ble, Nat.reduceAdd, Nat.zero_add, Nat.add_zero, Nat.mul_one, Nat.reduceMul, Nat.zero_mul, Nat.one_mul]
  rw [w64_in (n := l.legs[k].long.hi + p.lo) (by omega) (by omega), w64_in (n := l.legs[k].long.hi + p.lo - 1) (by omega) (by omega)]
  refine div0 (by omega) ?_
  dsimp only [spanL, go_sem, List.drop, List.take, List.length, List.cons_append, List.nil_append, Nat.beq, Nat.blt, Nat.ble, Nat.reduceAdd, Nat.zero_add, Nat.add_zero, Nat.mul_one, Nat.reduceMul, Nat.zero_mul, Nat.one_mul]
  simp only [dayF] at hb ⊢
  rw [w64_in (n := (l.legs[k].long.lo + p.hi - 1).tdiv p.hi) (by omega) (by omega), w64_in (n := (l.legs[k].long.hi + p.lo - 1).tdiv p.lo) (by omega) (by omega)]
theorem bspan_ok (a b : Int) : Ct Try.prog 65 [.agg [I a, I b]] (.agg [I a, I b]) := by
  refine t65 (by simp [KFL, KF]) (by simp [KFL, KF]) ?_
  dsimp only [c65, r65, go_sem, List.drop, List.take, List.length, List.cons_append, List.nil_append, Nat.beq, Nat.blt, Nat.ble, Nat.reduceAdd, Nat.zero_add, Nat.add_zero, Nat.mul_one, Nat.reduceMul, Nat.zero_mul, Nat.one_mul]
  refine ixa 0 rfl (by decide) ?_
  dsimp only [go_sem, List.drop, List.take, List.length, List.cons_append, List.nil_append, Nat.beq, Nat.blt, Nat.ble, Nat.reduceAdd, Nat.zero_add, Nat.add_zero, Nat.mul_one, Nat.reduceMul, Nat.zero_mul, Nat.one_mul]
  refine ixa 1 rfl (by decide) ?_
  dsimp only [go_sem, List.drop, List.take, List.length, List.cons_append, List.nil_append, Nat.beq, Nat.blt, Nat.ble, Nat.reduceAdd, Nat.zero_add, Nat.add_zero, Nat.mul_one, Nat.reduceMul, Nat.zero_mul, Nat.one_mul]
theorem wdays_ok (l : Land) (hs : Small l) (leg : Int) (p : Span) : Ct Try.prog 22 [.agg (landL l), I leg, .agg (spanL p)] (sres (daysF l leg p)) := by
  have hw1 : IntKind.i64.wrap ((l.legs.length : Int) - 1) = (l.legs.length : Int) - 1 := w64_in (by omega) (by have := hs.2.1; omega)
  refine t22 (by simp [landL, wellL, legL, gateL, spanL, KFR_iff, KFL, KF]) (by simp [sres, spanL, KFL, KF]) ?_
  dsimp only [c22, r22, landL, spanL, go_sem, List.drop, List.take, List.length, List.cons_append, List.nil_append, Nat.beq, Nat.blt, Nat.ble, Nat.reduceAdd, Nat.zero_add, Nat.add_zero, Nat.mul_one, Nat.reduceMul, Nat.zero_mul, Nat.one_mul]
  by_cases ha : askF l p = 0
  case neg =>
    refine call (open_err l hs p ha) ?_
    dsimp only [go_sem, List.drop, List.take, List.length, List.cons_append, List.nil_append, Nat.beq, Nat.blt, Nat.ble, Nat.reduceAdd, Nat.zero_add, Nat.add_zero, Nat.mul_one, Nat.reduceMul, Nat.zero_mul, Nat.one_mul]
    refine br_t (by simpa using ha) ?_
    dsimp only [go_sem, List.drop, List.take, List.length, List.cons_append, List.nil_append, Nat.beq, Nat.blt, Nat.ble, Nat.reduceAdd, Nat.zero_add, Nat.add_zero, Nat.mul_one, Nat.reduceMul, Nat.zero_mul, Nat.one_mul]
    simp [daysF, ha, sres, spanL]
  refine call (open_ok l hs p ha) ?_
  dsimp only [carL, go_sem, List.drop, List.take, List.length, List.cons_append, List.nil_append, Nat.beq, Nat.blt, Nat.ble, Nat.reduceAdd, Nat.zero_add, Nat.add_zero, Nat.mul_one, Nat.reduceMul, Nat.zero_mul, Nat.one_mul]
  refine br_f (by decide) ?_
  dsimp only [go_sem, List.drop, List.take, List.length, List.cons_append, List.nil_append, Nat.beq, Nat.blt, Nat.ble, Nat.reduceAdd, Nat.zero_add, Nat.add_zero, Nat.mul_one, Nat.reduceMul, Nat.zero_mul, Nat.one_mul]
  simp only [List.length_map, hw1]
  repeat (first | (refine gb ?_; dsimp only [go_sem, List.drop, List.take, List.length, List.cons_append, List.nil_append, Nat.beq, Nat.blt, Nat.ble, Nat.reduceAdd, Nat.zero_add, Nat.add_zero, Nat.mul_one, Nat.reduceMul, Nat.zero_mul, Nat.one_mul]) | (refine call (from1 _ _ _ _) ?_; dsimp only [go_sem, List.drop, List.take, List.length, List.cons_append, List.nil_append, Nat.beq, Nat.blt, Nat.ble, Nat.reduceAdd, Nat.zero_add, Nat.add_zero, Nat.mul_one, Nat.reduceMul, Nat.zero_mul, Nat.one_mul]))
  by_cases hr : inR 0 (l.legs.length - 1) leg = true
  case neg =>
    refine br_t (by grind) ?_
    dsimp only [go_sem, List.drop, List.take, List.length, List.cons_append, List.nil_append, Nat.beq, Nat.blt, Nat.ble, Nat.reduceAdd, Nat.zero_add, Nat.add_zero, Nat.mul_one, Nat.reduceMul, Nat.zero_mul, Nat.one_mul]
    simp [daysF, ha, hr, sres, spanL]
  refine br_f (by grind) ?_
  dsimp only [go_sem, List.drop, List.take, List.length, List.cons_append, List.nil_append, Nat.beq, Nat.blt, Nat.ble, Nat.reduceAdd, Nat.zero_add, Nat.add_zero, Nat.mul_one, Nat.reduceMul, Nat.zero_mul, Nat.one_mul]
  obtain ⟨k, hk, rfl, hget⟩ := get_leg hr
  obtain ⟨hol, hop⟩ := ask0 ha
  have hx := okLand_leg hol l.legs[k] (List.getElem_mem _)
  refine call (cdays_ok l p k hk hx hop) ?_
  dsimp only [spanL, go_sem, List.drop, List.take, List.length, List.cons_append, List.nil_append, Nat.beq, Nat.blt, Nat.ble, Nat.reduceAdd, Nat.zero_add, Nat.add_zero, Nat.mul_one, Nat.reduceMul, Nat.zero_mul, Nat.one_mul]
  refine call (bspan_ok _ _) ?_
  dsimp only [go_sem, List.drop, List.take, List.length, List.cons_append, List.nil_append, Nat.beq, Nat.blt, Nat.ble, Nat.reduceAdd, Nat.zero_add, Nat.add_zero, Nat.mul_one, Nat.reduceMul, Nat.zero_mul, Nat.one_mul]
  simp only [daysF, ha, hr, hget, sres, spanL]
  simp
theorem leave_ok (l : Land) (p : Span) (k : Nat) (hk : k < l.legs.length) (d0 d1 : Int) (hx : GoodLeg l.legs[k]) (hp : okPace p = true) (h0 : inR 0 100001 d0 = true) (h1 : inR 0 100001 d1 = true) :
    Ct Try.prog 68 [.agg (carL l p), I k, .agg [I d0, I d1]] (.agg [I (mayF l.legs[k] p d0), I (canF l.legs[k] p d1)]) := by
  have hb := day_bd hx hp
  have hg := okGates_mem hx.g2 (Int.le_refl _)
  have hl := hx.g1
  simp only [inR, decide_eq_true_eq] at h0 h1
  refine t68 (by simp [carL, wellL, legL, gateL, spanL, KFR_iff, KFL, KF]) (by simp [KFL, KF]) ?_
  dsimp only [c68, r68, carL, go_sem, List.drop, List.take, List.length, List.cons_append, List.nil_append, Nat.beq, Nat.blt, Nat.ble, Nat.reduceAdd, Nat.zero_add, Nat.add_zero, Nat.mul_one, Nat.reduceMul, Nat.zero_mul, Nat.one_mul]
  refine call (cdays_ok l p k hk hx hp) ?_
  dsimp only [spanL, go_sem, List.drop, List.take, List.length, List.cons_append, List.nil_append, Nat.beq, Nat.blt, Nat.ble, Nat.reduceAdd, Nat.zero_add, Nat.add_zero, Nat.mul_one, Nat.reduceMul, Nat.zero_mul, Nat.one_mul]
  refine ixs_map k hk rfl ?_
  dsimp only [legL, go_sem, List.drop, List.take, List.length, List.cons_append, List.nil_append, Nat.beq, Nat.blt, Nat.ble, Nat.reduceAdd, Nat.zero_add, Nat.add_zero, Nat.mul_one, Nat.reduceMul, Nat.zero_mul, Nat.one_mul]
  have e0 : accL (dayF l.legs[k] p).lo d0 (·.opens.lo) (·.shuts.hi) 100001 l.legs[k].gates = mayF l.legs[k] p d0 := by
    rw [acc_out hb.1 (fun g h => by omega) hx.g2 (Int.le_refl _) (by omega)]
    exact Int.min_eq_right (outL_le hb.1 (fun g h => by have := hg g h; omega))
  have e1 : accL (dayF l.legs[k] p).hi d1 (·.opens.hi) (·.shuts.lo) 100001 l.legs[k].gates = canF l.legs[k] p d1 := by
    rw [acc_out hb.2.2.1 (fun g h => by omega) hx.g2 (Int.le_refl _) (by omega)]
    exact Int.min_eq_right (outL_le hb.2.2.1 (fun g h => by have := hg g h; omega))
  generalize hnl : (dayF l.legs[k] p).lo = nl at hb e0
  generalize hnh : (dayF l.legs[k] p).hi = nh at hb e1
  refine loopO (fun s : Nat × Int × Int => [(27, I s.1)]) (fun s => [(4, .cells [I s.2.1, I s.2.2] 123)])
    (fun s => s.1 ≤ l.legs[k].gates.length ∧ accL nl d0 (·.opens.lo) (·.shuts.hi) s.2.1 (l.legs[k].gates.drop s.1) = mayF l.legs[k] p d0 ∧ accL nh d1 (·.opens.hi) (·.shuts.lo) s.2.2 (l.legs[k].gates.drop s.1) = canF l.legs[k] p d1)
    (fun s => l.legs[k].gates.length - s.1) (0, 100001, 100001) ⟨Nat.zero_le _, e0, e1⟩ ?_ ?_
  · (refine ent_id ?_ ?_ ?_ rfl <;> dsimp only [gateL, wellL, legL, spanL, id, go_sem, List.drop, List.take, List.length, List.cons_append, List.nil_append, Nat.beq, Nat.blt, Nat.ble, Nat.reduceAdd, Nat.zero_add, Nat.add_zero, Nat.mul_one, Nat.reduceMul, Nat.zero_mul, Nat.one_mul] <;> simp [gateL, wellL, legL, spanL, KFR_iff, KFR, KFL, KF, mtL_same, mtO, Nat.beq_refl])
  rintro ⟨j, m0, m1⟩ ⟨hj, i0, i1⟩
  simp only at hj i0 i1
  dsimp only [go_sem, List.drop, List.take, List.length, List.cons_append, List.nil_append, Nat.beq, Nat.blt, Nat.ble, Nat.reduceAdd, Nat.zero_add, Nat.add_zero, Nat.mul_one, Nat.reduceMul, Nat.zero_mul, Nat.one_mul]
  by_cases hlt : j < l.legs[k].gates.length
  · refine br_t (by simpa using hlt) ?_
    dsimp only [go_sem, List.drop, List.take, List.length, List.cons_append, List.nil_append, Nat.beq, Nat.blt, Nat.ble, Nat.reduceAdd, Nat.zero_add, Nat.add_zero, Nat.mul_one, Nat.reduceMul, Nat.zero_mul, Nat.one_mul]
    have hgk := hg l.legs[k].gates[j] (List.getElem_mem _)
    rw [List.drop_eq_getElem_cons hlt, accL] at i0 i1
    refine ixs_map j hlt rfl ?_
    dsimp only [gateL, go_sem, List.drop, List.take, List.length, List.cons_append, List.nil_append, Nat.beq, Nat.blt, Nat.ble, Nat.reduceAdd, Nat.zero_add, Nat.add_zero, Nat.mul_one, Nat.reduceMul, Nat.zero_mul, Nat.one_mul]
    refine unroll 3 ?_
    dsimp only [rnds_succ, go_sem, List.drop, List.take, List.length, List.cons_append, List.nil_append, Nat.beq, Nat.blt, Nat.ble, Nat.reduceAdd, Nat.zero_add, Nat.add_zero, Nat.mul_one, Nat.reduceMul, Nat.zero_mul, Nat.one_mul]
    refine br_t (by decide) ?_
    dsimp only [rnds_succ, go_sem, List.drop, List.take, List.length, List.cons_append, List.nil_append, Nat.beq, Nat.blt, Nat.ble, Nat.reduceAdd, Nat.zero_add, Nat.add_zero, Nat.mul_one, Nat.reduceMul, Nat.zero_mul, Nat.one_mul]
    repeat (first | (refine ixa 0 rfl (by decide) ?_; dsimp only [rnds_succ, go_sem, List.drop, List.take, List.length, List.cons_append, List.nil_append, Nat.beq, Nat.blt, Nat.ble, Nat.reduceAdd, Nat.zero_add, Nat.add_zero, Nat.mul_one, Nat.reduceMul, Nat.zero_mul, Nat.one_mul]) | (refine call (first_ok _ _) ?_; dsimp only [rnds_succ, go_sem, List.drop, List.take, List.length, List.cons_append, List.nil_append, Nat.beq, Nat.blt, Nat.ble, Nat.reduceAdd, Nat.zero_add, Nat.add_zero, Nat.mul_one, Nat.reduceMul, Nat.zero_mul, Nat.one_mul]))
    rw [w64_in (n := max d0 l.legs[k].gates[j].opens.lo + nl) (by omega) (by omega), w64_in (n := max d0 l.legs[k].gates[j].opens.lo + nl - 1) (by omega) (by omega)]
    refine br ?_ ?_
    · intro hA
      dsimp only [rnds_succ, go_sem, List.drop, List.take, List.length, List.cons_append, List.nil_append, Nat.beq, Nat.blt, Nat.ble, Nat.reduceAdd, Nat.zero_add, Nat.add_zero, Nat.mul_one, Nat.reduceMul, Nat.zero_mul, Nat.one_mul]
      repeat (first | (refine ixa 0 rfl (by decide) ?_; dsimp only [rnds_succ, go_sem, List.drop, List.take, List.length, List.cons_append, List.nil_append, Nat.beq, Nat.blt, Nat.ble, Nat.reduceAdd, Nat.zero_add, Nat.add_zero, Nat.mul_one, Nat.reduceMul, Nat.zero_mul, Nat.one_mul]) | (refine call (first_ok _ _) ?_; dsimp only [rnds_succ, go_sem, List.drop, List.take, List.length, List.cons_append, List.nil_append, Nat.beq, Nat.blt, Nat.ble, Nat.reduceAdd, Nat.zero_add, Nat.add_zero, Nat.mul_one, Nat.reduceMul, Nat.zero_mul, Nat.one_mul]))
      rw [if_pos (by simpa using hA)] at i0
      refine br_t (by decide) ?_
      dsimp only [rnds_succ, go_sem, List.drop, List.take, List.length, List.cons_append, List.nil_append, Nat.beq, Nat.blt, Nat.ble, Nat.reduceAdd, Nat.zero_add, Nat.add_zero, Nat.mul_one, Nat.reduceMul, Nat.zero_mul, Nat.one_mul]
      repeat (first | (refine ixa 1 rfl (by decide) ?_; dsimp only [rnds_succ, go_sem, List.drop, List.take, List.length, List.cons_append, List.nil_append, Nat.beq, Nat.blt, Nat.ble, Nat.reduceAdd, Nat.zero_add, Nat.add_zero, Nat.mul_one, Nat.reduceMul, Nat.zero_mul, Nat.one_mul]) | (refine call (first_ok _ _) ?_; dsimp only [rnds_succ, go_sem, List.drop, List.take, List.length, List.cons_append, List.nil_append, Nat.beq, Nat.blt, Nat.ble, Nat.reduceAdd, Nat.zero_add, Nat.add_zero, Nat.mul_one, Nat.reduceMul, Nat.zero_mul, Nat.one_mul]))
      rw [w64_in (n := max d1 l.legs[k].gates[j].opens.hi + nh) (by omega) (by omega), w64_in (n := max d1 l.legs[k].gates[j].opens.hi + nh - 1) (by omega) (by omega)]
      refine br ?_ ?_
      · intro hB
        dsimp only [rnds_succ, go_sem, List.drop, List.take, List.length, List.cons_append, List.nil_append, Nat.beq, Nat.blt, Nat.ble, Nat.reduceAdd, Nat.zero_add, Nat.add_zero, Nat.mul_one, Nat.reduceMul, Nat.zero_mul, Nat.one_mul]
        repeat (first | (refine ixa 1 rfl (by decide) ?_; dsimp only [rnds_succ, go_sem, List.drop, List.take, List.length, List.cons_append, List.nil_append, Nat.beq, Nat.blt, Nat.ble, Nat.reduceAdd, Nat.zero_add, Nat.add_zero, Nat.mul_one, Nat.reduceMul, Nat.zero_mul, Nat.one_mul]) | (refine call (first_ok _ _) ?_; dsimp only [rnds_succ, go_sem, List.drop, List.take, List.length, List.cons_append, List.nil_append, Nat.beq, Nat.blt, Nat.ble, Nat.reduceAdd, Nat.zero_add, Nat.add_zero, Nat.mul_one, Nat.reduceMul, Nat.zero_mul, Nat.one_mul]))
        rw [if_pos (by simpa using hB)] at i1
        refine br_f (by decide) ?_
        dsimp only [go_sem, List.drop, List.take, List.length, List.cons_append, List.nil_append, Nat.beq, Nat.blt, Nat.ble, Nat.reduceAdd, Nat.zero_add, Nat.add_zero, Nat.mul_one, Nat.reduceMul, Nat.zero_mul, Nat.one_mul]
        rw [w64_in (n := (j : Int) + 1) (by omega) (by omega)]
        refine ⟨(j + 1, min (min m0 (max d0 l.legs[k].gates[j].opens.lo)) 100001, min (min m1 (max d1 l.legs[k].gates[j].opens.hi)) 100001), ⟨hlt, i0, i1⟩, by simp only; omega, ?_⟩
        (refine ent_id ?_ ?_ ?_ rfl <;> dsimp only [gateL, wellL, legL, spanL, id, go_sem, List.drop, List.take, List.length, List.cons_append, List.nil_append, Nat.beq, Nat.blt, Nat.ble, Nat.reduceAdd, Nat.zero_add, Nat.add_zero, Nat.mul_one, Nat.reduceMul, Nat.zero_mul, Nat.one_mul] <;> simp [gateL, wellL, legL, spanL, KFR_iff, KFR, KFL, KF, mtL_same, mtO, Nat.beq_refl])
      · intro hB
        dsimp only [rnds_succ, go_sem, List.drop, List.take, List.length, List.cons_append, List.nil_append, Nat.beq, Nat.blt, Nat.ble, Nat.reduceAdd, Nat.zero_add, Nat.add_zero, Nat.mul_one, Nat.reduceMul, Nat.zero_mul, Nat.one_mul]
        rw [if_neg (by simpa using hB)] at i1
        refine br_f (by decide) ?_
        dsimp only [go_sem, List.drop, List.take, List.length, List.cons_append, List.nil_append, Nat.beq, Nat.blt, Nat.ble, Nat.reduceAdd, Nat.zero_add, Nat.add_zero, Nat.mul_one, Nat.reduceMul, Nat.zero_mul, Nat.one_mul]
        rw [w64_in (n := (j : Int) + 1) (by omega) (by omega)]
        refine ⟨(j + 1, min (min m0 (max d0 l.legs[k].gates[j].opens.lo)) 100001, m1), ⟨hlt, i0, i1⟩, by simp only; omega, ?_⟩
        (refine ent_id ?_ ?_ ?_ rfl <;> dsimp only [gateL, wellL, legL, spanL, id, go_sem, List.drop, List.take, List.length, List.cons_append, List.nil_append, Nat.beq, Nat.blt, Nat.ble, Nat.reduceAdd, Nat.zero_add, Nat.add_zero, Nat.mul_one, Nat.reduceMul, Nat.zero_mul, Nat.one_mul] <;> simp [gateL, wellL, legL, spanL, KFR_iff, KFR, KFL, KF, mtL_same, mtO, Nat.beq_refl])
    · intro hA
      dsimp only [rnds_succ, go_sem, List.drop, List.take, List.length, List.cons_append, List.nil_append, Nat.beq, Nat.blt, Nat.ble, Nat.reduceAdd, Nat.zero_add, Nat.add_zero, Nat.mul_one, Nat.reduceMul, Nat.zero_mul, Nat.one_mul]
      rw [if_neg (by simpa using hA)] at i0
      refine br_t (by decide) ?_
      dsimp only [rnds_succ, go_sem, List.drop, List.take, List.length, List.cons_append, List.nil_append, Nat.beq, Nat.blt, Nat.ble, Nat.reduceAdd, Nat.zero_add, Nat.add_zero, Nat.mul_one, Nat.reduceMul, Nat.zero_mul, Nat.one_mul]
      repeat (first | (refine ixa 1 rfl (by decide) ?_; dsimp only [rnds_succ, go_sem, List.drop, List.take, List.length, List.cons_append, List.nil_append, Nat.beq, Nat.blt, Nat.ble, Nat.reduceAdd, Nat.zero_add, Nat.add_zero, Nat.mul_one, Nat.reduceMul, Nat.zero_mul, Nat.one_mul]) | (refine call (first_ok _ _) ?_; dsimp only [rnds_succ, go_sem, List.drop, List.take, List.length, List.cons_append, List.nil_append, Nat.beq, Nat.blt, Nat.ble, Nat.reduceAdd, Nat.zero_add, Nat.add_zero, Nat.mul_one, Nat.reduceMul, Nat.zero_mul, Nat.one_mul]))
      rw [w64_in (n := max d1 l.legs[k].gates[j].opens.hi + nh) (by omega) (by omega), w64_in (n := max d1 l.legs[k].gates[j].opens.hi + nh - 1) (by omega) (by omega)]
      refine br ?_ ?_
      · intro hB
        dsimp only [rnds_succ, go_sem, List.drop, List.take, List.length, List.cons_append, List.nil_append, Nat.beq, Nat.blt, Nat.ble, Nat.reduceAdd, Nat.zero_add, Nat.add_zero, Nat.mul_one, Nat.reduceMul, Nat.zero_mul, Nat.one_mul]
        repeat (first | (refine ixa 1 rfl (by decide) ?_; dsimp only [rnds_succ, go_sem, List.drop, List.take, List.length, List.cons_append, List.nil_append, Nat.beq, Nat.blt, Nat.ble, Nat.reduceAdd, Nat.zero_add, Nat.add_zero, Nat.mul_one, Nat.reduceMul, Nat.zero_mul, Nat.one_mul]) | (refine call (first_ok _ _) ?_; dsimp only [rnds_succ, go_sem, List.drop, List.take, List.length, List.cons_append, List.nil_append, Nat.beq, Nat.blt, Nat.ble, Nat.reduceAdd, Nat.zero_add, Nat.add_zero, Nat.mul_one, Nat.reduceMul, Nat.zero_mul, Nat.one_mul]))
        rw [if_pos (by simpa using hB)] at i1
        refine br_f (by decide) ?_
        dsimp only [go_sem, List.drop, List.take, List.length, List.cons_append, List.nil_append, Nat.beq, Nat.blt, Nat.ble, Nat.reduceAdd, Nat.zero_add, Nat.add_zero, Nat.mul_one, Nat.reduceMul, Nat.zero_mul, Nat.one_mul]
        rw [w64_in (n := (j : Int) + 1) (by omega) (by omega)]
        refine ⟨(j + 1, m0, min (min m1 (max d1 l.legs[k].gates[j].opens.hi)) 100001), ⟨hlt, i0, i1⟩, by simp only; omega, ?_⟩
        (refine ent_id ?_ ?_ ?_ rfl <;> dsimp only [gateL, wellL, legL, spanL, id, go_sem, List.drop, List.take, List.length, List.cons_append, List.nil_append, Nat.beq, Nat.blt, Nat.ble, Nat.reduceAdd, Nat.zero_add, Nat.add_zero, Nat.mul_one, Nat.reduceMul, Nat.zero_mul, Nat.one_mul] <;> simp [gateL, wellL, legL, spanL, KFR_iff, KFR, KFL, KF, mtL_same, mtO, Nat.beq_refl])
      · intro hB
        dsimp only [rnds_succ, go_sem, List.drop, List.take, List.length, List.cons_append, List.nil_append, Nat.beq, Nat.blt, Nat.ble, Nat.reduceAdd, Nat.zero_add, Nat.add_zero, Nat.mul_one, Nat.reduceMul, Nat.zero_mul, Nat.one_mul]
        rw [if_neg (by simpa using hB)] at i1
        refine br_f (by decide) ?_
        dsimp only [go_sem, List.drop, List.take, List.length, List.cons_append, List.nil_append, Nat.beq, Nat.blt, Nat.ble, Nat.reduceAdd, Nat.zero_add, Nat.add_zero, Nat.mul_one, Nat.reduceMul, Nat.zero_mul, Nat.one_mul]
        rw [w64_in (n := (j : Int) + 1) (by omega) (by omega)]
        refine ⟨(j + 1, m0, m1), ⟨hlt, i0, i1⟩, by simp only; omega, ?_⟩
        (refine ent_id ?_ ?_ ?_ rfl <;> dsimp only [gateL, wellL, legL, spanL, id, go_sem, List.drop, List.take, List.length, List.cons_append, List.nil_append, Nat.beq, Nat.blt, Nat.ble, Nat.reduceAdd, Nat.zero_add, Nat.add_zero, Nat.mul_one, Nat.reduceMul, Nat.zero_mul, Nat.one_mul] <;> simp [gateL, wellL, legL, spanL, KFR_iff, KFR, KFL, KF, mtL_same, mtO, Nat.beq_refl])
  refine br_f (by simp; omega) ?_
  dsimp only [go_sem, List.drop, List.take, List.length, List.cons_append, List.nil_append, Nat.beq, Nat.blt, Nat.ble, Nat.reduceAdd, Nat.zero_add, Nat.add_zero, Nat.mul_one, Nat.reduceMul, Nat.zero_mul, Nat.one_mul]
  have hke : j = l.legs[k].gates.length := by omega
  subst hke
  rw [List.drop_length, accL] at i0 i1
  rw [← i0, ← i1]
theorem wleave_ok (l : Land) (hs : Small l) (leg day : Int) (p : Span) : Ct Try.prog 24 [.agg (landL l), I leg, I day, .agg (spanL p)] (sres (leaveF l leg day p)) := by
  have hw1 : IntKind.i64.wrap ((l.legs.length : Int) - 1) = (l.legs.length : Int) - 1 := w64_in (by omega) (by have := hs.2.1; omega)
  refine t24 (by simp [landL, wellL, legL, gateL, spanL, KFR_iff, KFL, KF]) (by simp [sres, spanL, KFL, KF]) ?_
  dsimp only [c24, r24, landL, spanL, go_sem, List.drop, List.take, List.length, List.cons_append, List.nil_append, Nat.beq, Nat.blt, Nat.ble, Nat.reduceAdd, Nat.zero_add, Nat.add_zero, Nat.mul_one, Nat.reduceMul, Nat.zero_mul, Nat.one_mul]
  by_cases ha : askF l p = 0
  case neg =>
    refine call (open_err l hs p ha) ?_
    dsimp only [go_sem, List.drop, List.take, List.length, List.cons_append, List.nil_append, Nat.beq, Nat.blt, Nat.ble, Nat.reduceAdd, Nat.zero_add, Nat.add_zero, Nat.mul_one, Nat.reduceMul, Nat.zero_mul, Nat.one_mul]
    refine br_t (by simpa using ha) ?_
    dsimp only [go_sem, List.drop, List.take, List.length, List.cons_append, List.nil_append, Nat.beq, Nat.blt, Nat.ble, Nat.reduceAdd, Nat.zero_add, Nat.add_zero, Nat.mul_one, Nat.reduceMul, Nat.zero_mul, Nat.one_mul]
    simp [leaveF, ha, sres, spanL]
  refine call (open_ok l hs p ha) ?_
  dsimp only [carL, go_sem, List.drop, List.take, List.length, List.cons_append, List.nil_append, Nat.beq, Nat.blt, Nat.ble, Nat.reduceAdd, Nat.zero_add, Nat.add_zero, Nat.mul_one, Nat.reduceMul, Nat.zero_mul, Nat.one_mul]
  refine br_f (by decide) ?_
  dsimp only [go_sem, List.drop, List.take, List.length, List.cons_append, List.nil_append, Nat.beq, Nat.blt, Nat.ble, Nat.reduceAdd, Nat.zero_add, Nat.add_zero, Nat.mul_one, Nat.reduceMul, Nat.zero_mul, Nat.one_mul]
  simp only [List.length_map, hw1]
  repeat (first | (refine gb ?_; dsimp only [go_sem, List.drop, List.take, List.length, List.cons_append, List.nil_append, Nat.beq, Nat.blt, Nat.ble, Nat.reduceAdd, Nat.zero_add, Nat.add_zero, Nat.mul_one, Nat.reduceMul, Nat.zero_mul, Nat.one_mul]) | (refine call (from1 _ _ _ _) ?_; dsimp only [go_sem, List.drop, List.take, List.length, List.cons_append, List.nil_append, Nat.beq, Nat.blt, Nat.ble, Nat.reduceAdd, Nat.zero_add, Nat.add_zero, Nat.mul_one, Nat.reduceMul, Nat.zero_mul, Nat.one_mul]))
  by_cases hr : (inR 0 (l.legs.length - 1) leg && inR 0 100000 day) = true
  case neg =>
    refine br_t (by grind) ?_
    dsimp only [go_sem, List.drop, List.take, List.length, List.cons_append, List.nil_append, Nat.beq, Nat.blt, Nat.ble, Nat.reduceAdd, Nat.zero_add, Nat.add_zero, Nat.mul_one, Nat.reduceMul, Nat.zero_mul, Nat.one_mul]
    simp [leaveF, ha, hr, sres, spanL]
  refine br_f (by grind) ?_
  dsimp only [go_sem, List.drop, List.take, List.length, List.cons_append, List.nil_append, Nat.beq, Nat.blt, Nat.ble, Nat.reduceAdd, Nat.zero_add, Nat.add_zero, Nat.mul_one, Nat.reduceMul, Nat.zero_mul, Nat.one_mul]
  obtain ⟨k, hk, rfl, hget⟩ := get_leg (Bool.and_eq_true_iff.1 hr).1
  obtain ⟨hol, hop⟩ := ask0 ha
  have hday := (Bool.and_eq_true_iff.1 hr).2
  have hd : inR 0 100001 day = true := by simp only [inR, decide_eq_true_eq] at hday ⊢; omega
  have hx := okLand_leg hol l.legs[k] (List.getElem_mem _)
  refine call (leave_ok l p k hk day day hx hop hd hd) ?_
  dsimp only [spanL, go_sem, List.drop, List.take, List.length, List.cons_append, List.nil_append, Nat.beq, Nat.blt, Nat.ble, Nat.reduceAdd, Nat.zero_add, Nat.add_zero, Nat.mul_one, Nat.reduceMul, Nat.zero_mul, Nat.one_mul]
  refine call (bspan_ok _ _) ?_
  dsimp only [go_sem, List.drop, List.take, List.length, List.cons_append, List.nil_append, Nat.beq, Nat.blt, Nat.ble, Nat.reduceAdd, Nat.zero_add, Nat.add_zero, Nat.mul_one, Nat.reduceMul, Nat.zero_mul, Nat.one_mul]
  simp only [leaveF, ha, hr, hget, sres, spanL]
  simp
end Go.Proofs.Ytkjldleglbbkeaa
