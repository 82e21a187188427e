import Derived.Test.YtkjldleglbbkeaaWC
set_option maxRecDepth 100000
set_option maxHeartbeats 4000000
namespace Go.Proofs.Ytkjldleglbbkeaa
open Go Go.Sx Go.Azalai
theorem drawsR_ok (l : Land) (hs : Small l) (draws : List Draw) (hd : draws.length ≤ 1000) : Ct Try.prog 55 [.agg (landL l), .sl false 3 (draws.map drawL)] (B (okDraws l.wells.length 0 draws)) := by
  have hw1 : IntKind.i64.wrap ((l.wells.length : Int) - 1) = (l.wells.length : Int) - 1 := w64_in (by omega) (by have := hs.1; omega)
  refine t55 (by simp [landL, wellL, legL, gateL, drawL, KFR_iff, KFL, KF]) (by simp [KFL, KF]) ?_
  dsimp only [c55, r55, landL, go_sem, List.drop, List.take, List.length, List.cons_append, List.nil_append, Nat.beq, Nat.blt, Nat.ble, Nat.reduceAdd, Nat.zero_add, Nat.add_zero, Nat.mul_one, Nat.reduceMul, Nat.zero_mul, Nat.one_mul]
  refine loopO (fun s : Nat × Int => [(5, I s.1)]) (fun _ => []) (fun s => s.1 ≤ draws.length ∧ okDraws l.wells.length s.2 (draws.drop s.1) = okDraws l.wells.length 0 draws ∧ (s.1 = 0 → s.2 = 0) ∧ 0 ≤ s.2 ∧ (∀ h : s.1 - 1 < draws.length, 0 < s.1 → s.2 = draws[s.1 - 1].day)) (fun s => draws.length - s.1) (0, 0)
    ⟨Nat.zero_le _, rfl, fun _ => rfl, Int.le_refl _, fun _ h => absurd h (by simp)⟩ ?_ ?_
  · (refine ent_id ?_ ?_ ?_ rfl <;> dsimp only [gateL, wellL, legL, drawL, id, go_sem, List.drop, List.take, List.length, List.cons_append, List.nil_append, Nat.beq, Nat.blt, Nat.ble, Nat.reduceAdd, Nat.zero_add, Nat.add_zero, Nat.mul_one, Nat.reduceMul, Nat.zero_mul, Nat.one_mul] <;> simp [gateL, wellL, legL, drawL, KFR_iff, KFR, KFL, KF, mtL_same, mtO, Nat.beq_refl])
  rintro ⟨k, last⟩ ⟨hk, hi, hz, h0, hl⟩
  simp only at hk hi hz h0 hl
  dsimp only [go_sem, List.drop, List.take, List.length, List.cons_append, List.nil_append, Nat.beq, Nat.blt, Nat.ble, Nat.reduceAdd, Nat.zero_add, Nat.add_zero, Nat.mul_one, Nat.reduceMul, Nat.zero_mul, Nat.one_mul]
  by_cases hlt : k < draws.length
  · refine br_t (by simpa using hlt) ?_
    dsimp only [go_sem, List.drop, List.take, List.length, List.cons_append, List.nil_append, Nat.beq, Nat.blt, Nat.ble, Nat.reduceAdd, Nat.zero_add, Nat.add_zero, Nat.mul_one, Nat.reduceMul, Nat.zero_mul, Nat.one_mul]
    refine ixs_map k hlt rfl ?_
    dsimp only [drawL, go_sem, List.drop, List.take, List.length, List.cons_append, List.nil_append, Nat.beq, Nat.blt, Nat.ble, Nat.reduceAdd, Nat.zero_add, Nat.add_zero, Nat.mul_one, Nat.reduceMul, Nat.zero_mul, Nat.one_mul]
    simp only [List.length_map, hw1]
    repeat (first | (refine gb ?_; dsimp only [go_sem, List.drop, List.take, List.length, List.cons_append, List.nil_append, Nat.beq, Nat.blt, Nat.ble, Nat.reduceAdd, Nat.zero_add, Nat.add_zero, Nat.mul_one, Nat.reduceMul, Nat.zero_mul, Nat.one_mul]) | (refine call (within_ok _ _ _) ?_; dsimp only [go_sem, List.drop, List.take, List.length, List.cons_append, List.nil_append, Nat.beq, Nat.blt, Nat.ble, Nat.reduceAdd, Nat.zero_add, Nat.add_zero, Nat.mul_one, Nat.reduceMul, Nat.zero_mul, Nat.one_mul]))
    refine ixs_gd (k - 1) (drawL (draws[k - 1]'(by omega))) rfl ?_ ?_
    · intro hb
      have hb : k > 0 := by simpa using hb
      exact ⟨by rw [w64_in (by omega) (by omega)]; omega, by rw [List.getElem?_map, List.getElem?_eq_getElem (by omega)]; rfl⟩
    dsimp only [drawL, go_sem, List.drop, List.take, List.length, List.cons_append, List.nil_append, Nat.beq, Nat.blt, Nat.ble, Nat.reduceAdd, Nat.zero_add, Nat.add_zero, Nat.mul_one, Nat.reduceMul, Nat.zero_mul, Nat.one_mul]
    repeat (refine gb ?_; dsimp only [go_sem, List.drop, List.take, List.length, List.cons_append, List.nil_append, Nat.beq, Nat.blt, Nat.ble, Nat.reduceAdd, Nat.zero_add, Nat.add_zero, Nat.mul_one, Nat.reduceMul, Nat.zero_mul, Nat.one_mul])
    have hdr : draws.drop k = draws[k] :: draws.drop (k + 1) := List.drop_eq_getElem_cons hlt
    rw [hdr] at hi
    simp only [okDraws] at hi
    have hlast : (!(decide ((k : Int) > 0) && decide (draws[k].day < (draws[k - 1]'(by omega)).day)) && inR 0 100000 draws[k].day) = inR last 100000 draws[k].day := by
      by_cases hk0 : k = 0
      · subst hk0; rw [hz rfl]; simp
      · have := hl (by omega) (by omega)
        rw [this] at h0 ⊢
        simp only [inR]; grind
    refine br ?_ ?_
    · intro hb
      dsimp only [go_sem, List.drop, List.take, List.length, List.cons_append, List.nil_append, Nat.beq, Nat.blt, Nat.ble, Nat.reduceAdd, Nat.zero_add, Nat.add_zero, Nat.mul_one, Nat.reduceMul, Nat.zero_mul, Nat.one_mul]
      rw [← hi, ← hlast]
      (simp only [Option.some.injEq, SV.v.injEq, Value.bool.injEq] <;> grind)
    · intro hb
      dsimp only [go_sem, List.drop, List.take, List.length, List.cons_append, List.nil_append, Nat.beq, Nat.blt, Nat.ble, Nat.reduceAdd, Nat.zero_add, Nat.add_zero, Nat.mul_one, Nat.reduceMul, Nat.zero_mul, Nat.one_mul]
      rw [w64_in (n := (k : Int) + 1) (by omega) (by omega)]
      refine ⟨(k + 1, draws[k].day), ⟨hlt, ?_, fun h => by simp at h, ?_, fun h _ => by simp⟩, by simp only; omega, ?_⟩
      · rw [← hi, ← hlast]; grind
      · simp only [inR] at hb; grind
      · (refine ent_id ?_ ?_ ?_ rfl <;> dsimp only [gateL, wellL, legL, drawL, id, go_sem, List.drop, List.take, List.length, List.cons_append, List.nil_append, Nat.beq, Nat.blt, Nat.ble, Nat.reduceAdd, Nat.zero_add, Nat.add_zero, Nat.mul_one, Nat.reduceMul, Nat.zero_mul, Nat.one_mul] <;> simp [gateL, wellL, legL, drawL, KFR_iff, KFR, KFL, KF, mtL_same, mtO, Nat.beq_refl])
  · refine br_f (by simp; omega) ?_
    dsimp only [go_sem, List.drop, List.take, List.length, List.cons_append, List.nil_append, Nat.beq, Nat.blt, Nat.ble, Nat.reduceAdd, Nat.zero_add, Nat.add_zero, Nat.mul_one, Nat.reduceMul, Nat.zero_mul, Nat.one_mul]
    have hke : k = draws.length := by omega
    subst hke
    rw [List.drop_length] at hi
    rw [← hi]; rfl
theorem waterR_ok (l : Land) (hs : Small l) (well day : Int) (draws : List Draw) (hd : draws.length ≤ 1000) :
    Ct Try.prog 18 [.agg (landL l), I well, .sl false 3 (draws.map drawL), I day] (wres (waterF l well draws day)) := by
  have hw1 : IntKind.i64.wrap ((l.wells.length : Int) - 1) = (l.wells.length : Int) - 1 := w64_in (by omega) (by have := hs.1; omega)
  refine t18 (by simp [landL, wellL, legL, gateL, drawL, KFR_iff, KFL, KF]) (by simp [wres, spanL, KFL, KF]) ?_
  dsimp only [c18, r18, landL, go_sem, List.drop, List.take, List.length, List.cons_append, List.nil_append, Nat.beq, Nat.blt, Nat.ble, Nat.reduceAdd, Nat.zero_add, Nat.add_zero, Nat.mul_one, Nat.reduceMul, Nat.zero_mul, Nat.one_mul]
  refine call (landR_ok l hs) ?_
  dsimp only [go_sem, List.drop, List.take, List.length, List.cons_append, List.nil_append, Nat.beq, Nat.blt, Nat.ble, Nat.reduceAdd, Nat.zero_add, Nat.add_zero, Nat.mul_one, Nat.reduceMul, Nat.zero_mul, Nat.one_mul]
  by_cases ho : okLand l = true
  case neg =>
    refine br_t (by simp [ho]) ?_
    dsimp only [go_sem, List.drop, List.take, List.length, List.cons_append, List.nil_append, Nat.beq, Nat.blt, Nat.ble, Nat.reduceAdd, Nat.zero_add, Nat.add_zero, Nat.mul_one, Nat.reduceMul, Nat.zero_mul, Nat.one_mul]
    simp [waterF, ho, wres, spanL]
  refine br_f (by simp [ho]) ?_
  dsimp only [go_sem, List.drop, List.take, List.length, List.cons_append, List.nil_append, Nat.beq, Nat.blt, Nat.ble, Nat.reduceAdd, Nat.zero_add, Nat.add_zero, Nat.mul_one, Nat.reduceMul, Nat.zero_mul, Nat.one_mul]
  simp only [List.length_map, hw1]
  repeat (first | (refine gb ?_; dsimp only [go_sem, List.drop, List.take, List.length, List.cons_append, List.nil_append, Nat.beq, Nat.blt, Nat.ble, Nat.reduceAdd, Nat.zero_add, Nat.add_zero, Nat.mul_one, Nat.reduceMul, Nat.zero_mul, Nat.one_mul]) | (refine call (within_ok _ _ _) ?_; dsimp only [go_sem, List.drop, List.take, List.length, List.cons_append, List.nil_append, Nat.beq, Nat.blt, Nat.ble, Nat.reduceAdd, Nat.zero_add, Nat.add_zero, Nat.mul_one, Nat.reduceMul, Nat.zero_mul, Nat.one_mul]))
  by_cases ha : (inR 0 (l.wells.length - 1) well && inR 0 100000 day) = true
  case neg =>
    refine br_t (by grind) ?_
    dsimp only [go_sem, List.drop, List.take, List.length, List.cons_append, List.nil_append, Nat.beq, Nat.blt, Nat.ble, Nat.reduceAdd, Nat.zero_add, Nat.add_zero, Nat.mul_one, Nat.reduceMul, Nat.zero_mul, Nat.one_mul]
    simp [waterF, ho, wres, spanL, ha]
  refine br_f (by grind) ?_
  dsimp only [go_sem, List.drop, List.take, List.length, List.cons_append, List.nil_append, Nat.beq, Nat.blt, Nat.ble, Nat.reduceAdd, Nat.zero_add, Nat.add_zero, Nat.mul_one, Nat.reduceMul, Nat.zero_mul, Nat.one_mul]
  by_cases hm : draws.length > 200
  case pos =>
    refine br_t (by simp; omega) ?_
    dsimp only [go_sem, List.drop, List.take, List.length, List.cons_append, List.nil_append, Nat.beq, Nat.blt, Nat.ble, Nat.reduceAdd, Nat.zero_add, Nat.add_zero, Nat.mul_one, Nat.reduceMul, Nat.zero_mul, Nat.one_mul]
    simp [waterF, ho, wres, spanL, ha, hm]
  refine br_f (by simp; omega) ?_
  dsimp only [go_sem, List.drop, List.take, List.length, List.cons_append, List.nil_append, Nat.beq, Nat.blt, Nat.ble, Nat.reduceAdd, Nat.zero_add, Nat.add_zero, Nat.mul_one, Nat.reduceMul, Nat.zero_mul, Nat.one_mul]
  refine call (drawsR_ok l hs draws hd) ?_
  dsimp only [go_sem, List.drop, List.take, List.length, List.cons_append, List.nil_append, Nat.beq, Nat.blt, Nat.ble, Nat.reduceAdd, Nat.zero_add, Nat.add_zero, Nat.mul_one, Nat.reduceMul, Nat.zero_mul, Nat.one_mul]
  by_cases hi : okDraws l.wells.length 0 draws = true
  case neg =>
    refine br_t (by simp [hi]) ?_
    dsimp only [go_sem, List.drop, List.take, List.length, List.cons_append, List.nil_append, Nat.beq, Nat.blt, Nat.ble, Nat.reduceAdd, Nat.zero_add, Nat.add_zero, Nat.mul_one, Nat.reduceMul, Nat.zero_mul, Nat.one_mul]
    simp [waterF, ho, wres, spanL, ha, hm, hi]
  refine br_f (by simp [hi]) ?_
  dsimp only [go_sem, List.drop, List.take, List.length, List.cons_append, List.nil_append, Nat.beq, Nat.blt, Nat.ble, Nat.reduceAdd, Nat.zero_add, Nat.add_zero, Nat.mul_one, Nat.reduceMul, Nat.zero_mul, Nat.one_mul]
  obtain ⟨kw, hkw, rfl, hget⟩ := get_well (Bool.and_eq_true_iff.1 ha).1
  refine ixs_map kw hkw rfl ?_
  dsimp only [wellL, go_sem, List.drop, List.take, List.length, List.cons_append, List.nil_append, Nat.beq, Nat.blt, Nat.ble, Nat.reduceAdd, Nat.zero_add, Nat.add_zero, Nat.mul_one, Nat.reduceMul, Nat.zero_mul, Nat.one_mul]
  have hwf : waterF l kw draws day = waterL l.wells[kw] kw day l.wells[kw].has (-1) 0 draws := by
    simp only [waterF, ho, ha, hm, hi, hget]; simp
  rw [hwf]
  have hok := okLand_well ho l.wells[kw] (List.getElem_mem _)
  have hmem := okDraws_mem hi (Int.le_refl _)
  have hday : 0 ≤ day ∧ day ≤ 100000 := by simp only [inR, Bool.and_eq_true, decide_eq_true_eq] at ha; omega
  have hroom : 0 ≤ l.wells[kw].has.lo ∧ l.wells[kw].has.lo ≤ l.wells[kw].room ∧ 0 ≤ l.wells[kw].has.hi ∧ l.wells[kw].has.hi ≤ l.wells[kw].room ∧ l.wells[kw].room ≤ 1000000000 := by
    simp only [okWell, okSp, inR, Bool.and_eq_true, decide_eq_true_eq] at hok; omega
  have hroom2 : ∀ x : Int, x ≤ l.wells[kw].room → x ≤ 1000000000 := fun x h => by omega
  refine loopO (fun s : Nat × Span × Int => [(14, I s.1), (13, I (s.2.2 + 1))]) (fun s => [(3, .cells (spanL s.2.1) 29)])
    (fun s => s.1 ≤ draws.length ∧ waterL l.wells[kw] kw day s.2.1 s.2.2 s.1 (draws.drop s.1) = waterL l.wells[kw] kw day l.wells[kw].has (-1) 0 draws ∧
      0 ≤ s.2.1.lo ∧ s.2.1.lo ≤ l.wells[kw].room ∧ 0 ≤ s.2.1.hi ∧ s.2.1.hi ≤ l.wells[kw].room ∧ -1 ≤ s.2.2 ∧ s.2.2 ≤ 100000) (fun s => draws.length - s.1) (0, l.wells[kw].has, -1)
    ⟨Nat.zero_le _, rfl, hroom.1, hroom.2.1, hroom.2.2.1, hroom.2.2.2.1, by simp, by simp⟩ ?_ ?_
  · (refine ent_id ?_ ?_ ?_ rfl <;> dsimp only [gateL, wellL, legL, drawL, spanL, id, go_sem, List.drop, List.take, List.length, List.cons_append, List.nil_append, Nat.beq, Nat.blt, Nat.ble, Nat.reduceAdd, Nat.zero_add, Nat.add_zero, Nat.mul_one, Nat.reduceMul, Nat.zero_mul, Nat.one_mul] <;> simp [gateL, wellL, legL, drawL, spanL, KFR_iff, KFR, KFL, KF, mtL_same, mtO, Nat.beq_refl])
  · rintro ⟨k, now, ev⟩ ⟨hk2, hi2, n1, n2, n3, n4, e1, e2⟩
    simp only at hk2 hi2 n1 n2 n3 n4 e1 e2
    dsimp only [spanL, go_sem, List.drop, List.take, List.length, List.cons_append, List.nil_append, Nat.beq, Nat.blt, Nat.ble, Nat.reduceAdd, Nat.zero_add, Nat.add_zero, Nat.mul_one, Nat.reduceMul, Nat.zero_mul, Nat.one_mul]
    by_cases hlt2 : k < draws.length
    · refine br_t (by simpa using hlt2) ?_
      dsimp only [go_sem, List.drop, List.take, List.length, List.cons_append, List.nil_append, Nat.beq, Nat.blt, Nat.ble, Nat.reduceAdd, Nat.zero_add, Nat.add_zero, Nat.mul_one, Nat.reduceMul, Nat.zero_mul, Nat.one_mul]
      refine ixs_map k hlt2 rfl ?_
      dsimp only [drawL, go_sem, List.drop, List.take, List.length, List.cons_append, List.nil_append, Nat.beq, Nat.blt, Nat.ble, Nat.reduceAdd, Nat.zero_add, Nat.add_zero, Nat.mul_one, Nat.reduceMul, Nat.zero_mul, Nat.one_mul]
      repeat (first | (refine gb ?_; dsimp only [go_sem, List.drop, List.take, List.length, List.cons_append, List.nil_append, Nat.beq, Nat.blt, Nat.ble, Nat.reduceAdd, Nat.zero_add, Nat.add_zero, Nat.mul_one, Nat.reduceMul, Nat.zero_mul, Nat.one_mul]))
      have hx := hmem draws[k] (List.getElem_mem _)
      have hdr : draws.drop k = draws[k] :: draws.drop (k + 1) := List.drop_eq_getElem_cons hlt2
      rw [hdr] at hi2
      simp only [waterL] at hi2
      by_cases hc : (draws[k].well != (kw : Int) || decide (draws[k].day ≥ day)) = true
      · refine br_t hc ?_
        dsimp only [go_sem, List.drop, List.take, List.length, List.cons_append, List.nil_append, Nat.beq, Nat.blt, Nat.ble, Nat.reduceAdd, Nat.zero_add, Nat.add_zero, Nat.mul_one, Nat.reduceMul, Nat.zero_mul, Nat.one_mul]
        rw [if_pos hc] at hi2
        rw [w64_in (n := (k : Int) + 1) (by omega) (by omega)]
        refine ⟨(k + 1, now, ev), ⟨hlt2, hi2, n1, n2, n3, n4, e1, e2⟩, by simp only; omega, ?_⟩
        (refine ent_id ?_ ?_ ?_ rfl <;> dsimp only [gateL, wellL, legL, drawL, spanL, id, go_sem, List.drop, List.take, List.length, List.cons_append, List.nil_append, Nat.beq, Nat.blt, Nat.ble, Nat.reduceAdd, Nat.zero_add, Nat.add_zero, Nat.mul_one, Nat.reduceMul, Nat.zero_mul, Nat.one_mul] <;> simp [gateL, wellL, legL, drawL, spanL, KFR_iff, KFR, KFL, KF, mtL_same, mtO, Nat.beq_refl])
      · refine br_f (by simpa using hc) ?_
        rw [if_neg hc] at hi2
        dsimp only [go_sem, List.drop, List.take, List.length, List.cons_append, List.nil_append, Nat.beq, Nat.blt, Nat.ble, Nat.reduceAdd, Nat.zero_add, Nat.add_zero, Nat.mul_one, Nat.reduceMul, Nat.zero_mul, Nat.one_mul]
        rw [w64_in (n := draws[k].day + 1) (by omega) (by omega), w64_in (n := draws[k].day + 1 - (ev + 1)) (by omega) (by omega), show draws[k].day + 1 - (ev + 1) = draws[k].day - ev from by omega]
        refine call (filledR_ok l.wells[kw] now (draws[k].day - ev) hok n1 n2 n3 n4 (by omega) (by omega)) ?_
        dsimp only [spanL, go_sem, List.drop, List.take, List.length, List.cons_append, List.nil_append, Nat.beq, Nat.blt, Nat.ble, Nat.reduceAdd, Nat.zero_add, Nat.add_zero, Nat.mul_one, Nat.reduceMul, Nat.zero_mul, Nat.one_mul]
        have hbig : -2000000000000 ≤ (filled l.wells[kw] now (draws[k].day - ev)).lo := filled_lo hok n1 n2 n3 n4 (by omega) (by omega)
        have hf2 : (filled l.wells[kw] now (draws[k].day - ev)).hi ≤ l.wells[kw].room := by simp only [filled]; omega
        have hf1 : (filled l.wells[kw] now (draws[k].day - ev)).lo ≤ l.wells[kw].room := by simp only [filled]; omega
        generalize hF : filled l.wells[kw] now (draws[k].day - ev) = F at *
        by_cases hdry : F.hi < draws[k].water
        · refine br_t (by simpa using hdry) ?_
          dsimp only [go_sem, List.drop, List.take, List.length, List.cons_append, List.nil_append, Nat.beq, Nat.blt, Nat.ble, Nat.reduceAdd, Nat.zero_add, Nat.add_zero, Nat.mul_one, Nat.reduceMul, Nat.zero_mul, Nat.one_mul]
          rw [if_pos hdry] at hi2
          rw [← hi2]; rfl
        · refine br_f (by simpa using hdry) ?_
          dsimp only [go_sem, List.drop, List.take, List.length, List.cons_append, List.nil_append, Nat.beq, Nat.blt, Nat.ble, Nat.reduceAdd, Nat.zero_add, Nat.add_zero, Nat.mul_one, Nat.reduceMul, Nat.zero_mul, Nat.one_mul]
          rw [if_neg hdry] at hi2
          rw [w64_in (n := draws[k].day + 1) (by omega) (by omega), w64_in (n := F.lo - draws[k].water) (by omega) (by omega), w64_in (n := F.hi - draws[k].water) (by omega) (by omega), w64_in (n := (k : Int) + 1) (by omega) (by omega)]
          refine ⟨(k + 1, ⟨max 0 (F.lo - draws[k].water), F.hi - draws[k].water⟩, draws[k].day), ⟨hlt2, hi2, by simp only; omega, by simp only; omega, by simp only; omega, by simp only; omega, by simp only; omega, by simp only; omega⟩, by simp only; omega, ?_⟩
          (refine ent_id ?_ ?_ ?_ rfl <;> dsimp only [gateL, wellL, legL, drawL, spanL, id, go_sem, List.drop, List.take, List.length, List.cons_append, List.nil_append, Nat.beq, Nat.blt, Nat.ble, Nat.reduceAdd, Nat.zero_add, Nat.add_zero, Nat.mul_one, Nat.reduceMul, Nat.zero_mul, Nat.one_mul] <;> simp [gateL, wellL, legL, drawL, spanL, KFR_iff, KFR, KFL, KF, mtL_same, mtO, Nat.beq_refl])
    · refine br_f (by simp; omega) ?_
      dsimp only [go_sem, List.drop, List.take, List.length, List.cons_append, List.nil_append, Nat.beq, Nat.blt, Nat.ble, Nat.reduceAdd, Nat.zero_add, Nat.add_zero, Nat.mul_one, Nat.reduceMul, Nat.zero_mul, Nat.one_mul]
      rw [w64_in (n := day - (ev + 1)) (by omega) (by omega), show day - (ev + 1) = day - 1 - ev from by omega]
      refine call (filledR_ok l.wells[kw] now (day - 1 - ev) hok n1 n2 n3 n4 (by omega) (by omega)) ?_
      dsimp only [spanL, go_sem, List.drop, List.take, List.length, List.cons_append, List.nil_append, Nat.beq, Nat.blt, Nat.ble, Nat.reduceAdd, Nat.zero_add, Nat.add_zero, Nat.mul_one, Nat.reduceMul, Nat.zero_mul, Nat.one_mul]
      have hk' : k = draws.length := by omega
      subst hk'
      simp only [List.drop_length, waterL] at hi2
      rw [← hi2]; rfl

theorem law_ok (l : Land) (well day water teams : Int) (draws : List Draw) :
    Ct Try.prog 3 [.agg (landL l), I well, .sl false 3 (draws.map drawL), I day, I water, I teams] (B true) := by
  refine t3 (by simp [landL, wellL, legL, gateL, drawL, KFR_iff, KFL, KF]) (by simp [KFL, KF]) ?_
  dsimp only [c3, r3, landL, go_sem, List.drop, List.take, List.length, List.cons_append, List.nil_append, Nat.beq, Nat.blt, Nat.ble, Nat.reduceAdd, Nat.zero_add, Nat.add_zero, Nat.mul_one, Nat.reduceMul, Nat.zero_mul, Nat.one_mul]
  refine call (great_ok l) ?_
  dsimp only [go_sem, List.drop, List.take, List.length, List.cons_append, List.nil_append, Nat.beq, Nat.blt, Nat.ble, Nat.reduceAdd, Nat.zero_add, Nat.add_zero, Nat.mul_one, Nat.reduceMul, Nat.zero_mul, Nat.one_mul]
  repeat (refine gb ?_; dsimp only [go_sem, List.drop, List.take, List.length, List.cons_append, List.nil_append, Nat.beq, Nat.blt, Nat.ble, Nat.reduceAdd, Nat.zero_add, Nat.add_zero, Nat.mul_one, Nat.reduceMul, Nat.zero_mul, Nat.one_mul])
  simp only [List.length_map]
  refine br ?_ ?_
  · intro h
    dsimp only [go_sem, List.drop, List.take, List.length, List.cons_append, List.nil_append, Nat.beq, Nat.blt, Nat.ble, Nat.reduceAdd, Nat.zero_add, Nat.add_zero, Nat.mul_one, Nat.reduceMul, Nat.zero_mul, Nat.one_mul]
  intro h
  dsimp only [go_sem, List.drop, List.take, List.length, List.cons_append, List.nil_append, Nat.beq, Nat.blt, Nat.ble, Nat.reduceAdd, Nat.zero_add, Nat.add_zero, Nat.mul_one, Nat.reduceMul, Nat.zero_mul, Nat.one_mul]
  have hg : greatF l = false ∧ draws.length ≤ 250 := by grind
  have hs : Small l := by
    obtain ⟨h1, _⟩ := hg
    simp only [greatF, Bool.or_eq_false_iff, decide_eq_false_iff_not, List.any_eq_false, decide_eq_true_eq] at h1
    exact ⟨by omega, by omega, fun x hx => by have := h1.2 x hx; omega⟩
  refine app0 (by simp; omega) ?_
  dsimp only [go_sem, List.drop, List.take, List.length, List.cons_append, List.nil_append, Nat.beq, Nat.blt, Nat.ble, Nat.reduceAdd, Nat.zero_add, Nat.add_zero, Nat.mul_one, Nat.reduceMul, Nat.zero_mul, Nat.one_mul]
  refine call (water_ok l hs well day draws (by omega)) ?_
  dsimp only [wres, spanL, go_sem, List.drop, List.take, List.length, List.cons_append, List.nil_append, Nat.beq, Nat.blt, Nat.ble, Nat.reduceAdd, Nat.zero_add, Nat.add_zero, Nat.mul_one, Nat.reduceMul, Nat.zero_mul, Nat.one_mul]
  refine call (waterR_ok l hs well day draws (by omega)) ?_
  dsimp only [wres, spanL, go_sem, List.drop, List.take, List.length, List.cons_append, List.nil_append, Nat.beq, Nat.blt, Nat.ble, Nat.reduceAdd, Nat.zero_add, Nat.add_zero, Nat.mul_one, Nat.reduceMul, Nat.zero_mul, Nat.one_mul]
  refine call (work_ok l hs well water teams) ?_
  dsimp only [wkres, go_sem, List.drop, List.take, List.length, List.cons_append, List.nil_append, Nat.beq, Nat.blt, Nat.ble, Nat.reduceAdd, Nat.zero_add, Nat.add_zero, Nat.mul_one, Nat.reduceMul, Nat.zero_mul, Nat.one_mul]
  refine call (workR_ok l hs landR_ok well water teams) ?_
  dsimp only [wkres, go_sem, List.drop, List.take, List.length, List.cons_append, List.nil_append, Nat.beq, Nat.blt, Nat.ble, Nat.reduceAdd, Nat.zero_add, Nat.add_zero, Nat.mul_one, Nat.reduceMul, Nat.zero_mul, Nat.one_mul]
  refine loopO (fun k : Nat => [(71, I k)]) (fun _ => []) (fun k => k ≤ draws.length) (fun k => draws.length - k) 0 (Nat.zero_le _) ?_ ?_
  · (refine ent_id ?_ ?_ ?_ rfl <;> dsimp only [gateL, wellL, legL, drawL, id, go_sem, List.drop, List.take, List.length, List.cons_append, List.nil_append, Nat.beq, Nat.blt, Nat.ble, Nat.reduceAdd, Nat.zero_add, Nat.add_zero, Nat.mul_one, Nat.reduceMul, Nat.zero_mul, Nat.one_mul] <;> simp [gateL, wellL, legL, drawL, KFR_iff, KFR, KFL, KF, mtL_same, mtO, Nat.beq_refl])
  intro k hk
  dsimp only [go_sem, List.drop, List.take, List.length, List.cons_append, List.nil_append, Nat.beq, Nat.blt, Nat.ble, Nat.reduceAdd, Nat.zero_add, Nat.add_zero, Nat.mul_one, Nat.reduceMul, Nat.zero_mul, Nat.one_mul]
  by_cases hlt : k < draws.length
  · refine br_t (by simpa using hlt) ?_
    dsimp only [go_sem, List.drop, List.take, List.length, List.cons_append, List.nil_append, Nat.beq, Nat.blt, Nat.ble, Nat.reduceAdd, Nat.zero_add, Nat.add_zero, Nat.mul_one, Nat.reduceMul, Nat.zero_mul, Nat.one_mul]
    refine ixs_map k hlt rfl ?_
    dsimp only [go_sem, List.drop, List.take, List.length, List.cons_append, List.nil_append, Nat.beq, Nat.blt, Nat.ble, Nat.reduceAdd, Nat.zero_add, Nat.add_zero, Nat.mul_one, Nat.reduceMul, Nat.zero_mul, Nat.one_mul]
    refine ixs_map k hlt rfl ?_
    dsimp only [drawL, go_sem, List.drop, List.take, List.length, List.cons_append, List.nil_append, Nat.beq, Nat.blt, Nat.ble, Nat.reduceAdd, Nat.zero_add, Nat.add_zero, Nat.mul_one, Nat.reduceMul, Nat.zero_mul, Nat.one_mul]
    refine br_f (by simp [ngB]) ?_
    dsimp only [go_sem, List.drop, List.take, List.length, List.cons_append, List.nil_append, Nat.beq, Nat.blt, Nat.ble, Nat.reduceAdd, Nat.zero_add, Nat.add_zero, Nat.mul_one, Nat.reduceMul, Nat.zero_mul, Nat.one_mul]
    rw [w64_in (n := (k : Int) + 1) (by omega) (by omega)]
    refine ⟨k + 1, hlt, by omega, ?_⟩
    (refine ent_id ?_ ?_ ?_ rfl <;> dsimp only [gateL, wellL, legL, drawL, id, go_sem, List.drop, List.take, List.length, List.cons_append, List.nil_append, Nat.beq, Nat.blt, Nat.ble, Nat.reduceAdd, Nat.zero_add, Nat.add_zero, Nat.mul_one, Nat.reduceMul, Nat.zero_mul, Nat.one_mul] <;> simp [gateL, wellL, legL, drawL, KFR_iff, KFR, KFL, KF, mtL_same, mtO, Nat.beq_refl])
  · refine br_f (by simp; omega) ?_
    dsimp only [go_sem, List.drop, List.take, List.length, List.cons_append, List.nil_append, Nat.beq, Nat.blt, Nat.ble, Nat.reduceAdd, Nat.zero_add, Nat.add_zero, Nat.mul_one, Nat.reduceMul, Nat.zero_mul, Nat.one_mul]
    repeat (refine gb ?_; dsimp only [go_sem, List.drop, List.take, List.length, List.cons_append, List.nil_append, Nat.beq, Nat.blt, Nat.ble, Nat.reduceAdd, Nat.zero_add, Nat.add_zero, Nat.mul_one, Nat.reduceMul, Nat.zero_mul, Nat.one_mul])
    simp
end Go.Proofs.Ytkjldleglbbkeaa
