import Derived.Test.YtnlfjchbhgikaaaMC
import Derived.Test.YtnlfjchbhgikaaaOrd5
set_option maxRecDepth 100000
set_option maxHeartbeats 4000000
namespace Go.Proofs.Ytnlfjchbhgikaaa
open Go Go.Sx Go.Azalai
theorem stb_ok (v n : Nat) (l : List Meet) (hn : n = l.length) (hL : l.length < 1152921504606846976) :
    CtM Try.prog 98 [(0, .row v 4 (l.map meetL) 73)] 1 [.mr 0 v, I n, .cl 81 []] (fun o => ∃ l', PIn 0 n l l' ∧ Srt Meet.day 0 n l' ∧ o = rowO v l') := by
  refine m98 (by simp [hpb]) (fun o ho => by obtain ⟨l', _, _, rfl⟩ := ho; simp [rowO, KX, KXL, KXP, KXH, KFR_iff, KFL, KF, meetL]) ?_
  dsimp only [c98, r98, go_sem, Nat.reduceAdd, Nat.reduceMul, Nat.reduceSub]
  refine loopO (fun s : Nat × List Meet => [(7, I (20 * s.1 : Nat)), (8, I (20 * s.1 + 20 : Nat))]) (fun s => [(0, .row v 4 (s.2.map meetL) 73)]) (fun s => 20 * s.1 ≤ n ∧ PIn 0 n l s.2 ∧ Blk Meet.day 20 0 (20 * s.1) s.2) (fun s => n - 20 * s.1) (0, l) ⟨by simp only; omega, .refl _ _ _, blk_none Meet.day⟩ ?_ ?_
  · (refine ent_id ?_ ?_ ?_ rfl rfl <;> dsimp only [meetL, id, go_sem, Nat.reduceAdd, Nat.reduceMul, Nat.reduceSub] <;> simp [meetL, KFR_iff, KFR_app, KFR, KFL, KF, mtL_same, mtO, Nat.beq_refl])
  rintro ⟨c, l1⟩ ⟨hc, hp, hb⟩
  simp only at hc hp hb
  have hl1 := hp.len
  dsimp only [go_sem, Nat.reduceAdd, Nat.reduceMul, Nat.reduceSub]
  by_cases hlt : 20 * c + 20 ≤ n
  · refine br_t (by simp; omega) ?_
    dsimp only [go_sem, Nat.reduceAdd, Nat.reduceMul, Nat.reduceSub]
    refine callmP [0] (inss_ok v (20 * c) (20 * c + 20) l1 (by omega) (by omega) (by omega)) rfl rfl rfl ?_ ?_ ?_
    · ((try dsimp only [go_sem, Nat.reduceAdd, Nat.reduceMul, Nat.reduceSub]); repeat (simp only [Nat.beq_refl]; try dsimp only [go_sem, Nat.reduceAdd, Nat.reduceMul, Nat.reduceSub]))
      simp [mtL, mtB, mtS]
    · ((try dsimp only [go_sem, Nat.reduceAdd, Nat.reduceMul, Nat.reduceSub]); repeat (simp only [Nat.beq_refl]; try dsimp only [go_sem, Nat.reduceAdd, Nat.reduceMul, Nat.reduceSub]))
      simp [KFR_iff, meetL, KFL, KF]
    rintro _ ⟨l2, hp2, hs2, rfl⟩
    ((try dsimp only [rowO, go_sem, Nat.reduceAdd, Nat.reduceMul, Nat.reduceSub]); repeat (simp only [Nat.beq_refl]; try dsimp only [go_sem, Nat.reduceAdd, Nat.reduceMul, Nat.reduceSub]))
    rw [w64_in (n := ((20 * c + 20 : Nat) : Int) + 20) (by omega) (by omega)]
    refine ⟨(c + 1, l2), ⟨by simp only; omega, hp.trans (hp2.mono (by omega) (by omega)), ?_⟩, by simp only; omega, ?_⟩
    · exact blk_step Meet.day (by omega) hb hp2 hs2
    rw [show ((20 * c + 20 : Nat) : Int) + 20 = ((20 * (c + 1) + 20 : Nat) : Int) from by omega, show 20 * c + 20 = 20 * (c + 1) from by omega]
    (refine ent_id ?_ ?_ ?_ rfl rfl <;> dsimp only [meetL, id, go_sem, Nat.reduceAdd, Nat.reduceMul, Nat.reduceSub] <;> simp [meetL, KFR_iff, KFR_app, KFR, KFL, KF, mtL_same, mtO, Nat.beq_refl])
  refine br_f (by simp; omega) ?_
  dsimp only [go_sem, Nat.reduceAdd, Nat.reduceMul, Nat.reduceSub]
  refine callmP [0] (inss_ok v (20 * c) n l1 (by omega) (by omega) (by omega)) rfl rfl rfl ?_ ?_ ?_
  · ((try dsimp only [go_sem, Nat.reduceAdd, Nat.reduceMul, Nat.reduceSub]); repeat (simp only [Nat.beq_refl]; try dsimp only [go_sem, Nat.reduceAdd, Nat.reduceMul, Nat.reduceSub]))
    simp [mtL, mtB, mtS]
  · ((try dsimp only [go_sem, Nat.reduceAdd, Nat.reduceMul, Nat.reduceSub]); repeat (simp only [Nat.beq_refl]; try dsimp only [go_sem, Nat.reduceAdd, Nat.reduceMul, Nat.reduceSub]))
    simp [KFR_iff, meetL, KFL, KF]
  rintro _ ⟨l2, hp2, hs2, rfl⟩
  ((try dsimp only [rowO, go_sem, Nat.reduceAdd, Nat.reduceMul, Nat.reduceSub]); repeat (simp only [Nat.beq_refl]; try dsimp only [go_sem, Nat.reduceAdd, Nat.reduceMul, Nat.reduceSub]))
  have hb2 := blk_step Meet.day (by omega) hb hp2 hs2
  refine loopO (fun s : Nat × List Meet × Int × Int => [(6, I (s.1 : Nat)), (7, I s.2.2.1), (8, I s.2.2.2)]) (fun s => [(0, .row v 4 (s.2.1.map meetL) 73)]) (fun s => (0 < s.1 ∧ s.1 ≤ 2 * n + 20) ∧ PIn 0 n l s.2.1 ∧ Blk Meet.day s.1 0 n s.2.1) (fun s => n - s.1) (20, l2, ((20 * c : Nat) : Int), ((20 * c + 20 : Nat) : Int)) ⟨by simp only; omega, hp.trans (hp2.mono (by omega) (by omega)), hb2⟩ ?_ ?_
  · (refine ent_id ?_ ?_ ?_ rfl rfl <;> dsimp only [meetL, id, go_sem, Nat.reduceAdd, Nat.reduceMul, Nat.reduceSub] <;> simp [meetL, KFR_iff, KFR_app, KFR, KFL, KF, mtL_same, mtO, Nat.beq_refl])
  rintro ⟨s, l3, z1, z2⟩ ⟨⟨hs0, hs1⟩, hp3, hb3⟩
  simp only at hs0 hs1 hp3 hb3
  have hl3 := hp3.len
  dsimp only [go_sem, Nat.reduceAdd, Nat.reduceMul, Nat.reduceSub]
  by_cases hlt : s < n
  case neg =>
    refine br_f (by simp; omega) ?_
    dsimp only [go_sem, Nat.reduceAdd, Nat.reduceMul, Nat.reduceSub]
    refine ⟨_, ⟨l3, hp3, ?_, rfl⟩, ?_⟩
    · have := blk_srt Meet.day (c := 0) hb3 (Nat.zero_le _) (show n ≤ s * 0 + s by omega) (Nat.le_refl _)
      rwa [Nat.mul_zero] at this
    · try simp only [rowO]
      (refine entO_id ?_ ?_ ?_ rfl <;> dsimp only [meetL, id, go_sem, Nat.reduceAdd, Nat.reduceMul, Nat.reduceSub] <;> simp [meetL, KFR_iff, KFR_app, KFR, KFL, KF, mtL_same, mtO, Nat.beq_refl])
  refine br_t (by simp; omega) ?_
  dsimp only [go_sem, Nat.reduceAdd, Nat.reduceMul, Nat.reduceSub]
  rw [w64_in (n := 2 * (s : Int)) (by omega) (by omega)]
  refine loopO (fun z : Nat × List Meet => [(7, I (2 * s * z.1 : Nat)), (8, I (2 * s * z.1 + 2 * s : Nat))]) (fun z => [(0, .row v 4 (z.2.map meetL) 73)]) (fun z => 2 * s * z.1 ≤ n ∧ PIn 0 n l z.2 ∧ Blk Meet.day (2 * s) 0 (2 * s * z.1) z.2 ∧ Blk Meet.day s (2 * s * z.1) n z.2) (fun z => n - 2 * s * z.1) (0, l3) ⟨by simp only; omega, hp3, blk_none Meet.day, hb3⟩ ?_ ?_
  · rw [show 2 * (s : Int) = ((2 * s * 0 + 2 * s : Nat) : Int) from by omega]
    (refine ent_id ?_ ?_ ?_ rfl rfl <;> dsimp only [meetL, id, go_sem, Nat.reduceAdd, Nat.reduceMul, Nat.reduceSub] <;> simp [meetL, KFR_iff, KFR_app, KFR, KFL, KF, mtL_same, mtO, Nat.beq_refl])
  rintro ⟨c', l4⟩ ⟨hc4, hp4, hb4, hb5⟩
  simp only at hc4 hp4 hb4 hb5
  have hl4 := hp4.len
  have e5 : s * (2 * c') = 2 * s * c' := by rw [← Nat.mul_assoc, Nat.mul_comm s 2]
  have e6 : s * (2 * c' + 1) = 2 * s * c' + s := by rw [Nat.mul_add, e5, Nat.mul_one]
  have e7 : 2 * s * (c' + 1) = 2 * s * c' + 2 * s := by rw [Nat.mul_add, Nat.mul_one]
  dsimp only [go_sem, Nat.reduceAdd, Nat.reduceMul, Nat.reduceSub]
  have hq1 : 2 * s * c' + s ≤ n → Srt Meet.day (2 * s * c') (2 * s * c' + s) l4 := fun h => by
    have := blk_srt Meet.day (c := 2 * c') (b := 2 * s * c' + s) hb5 (by omega) (by omega) (by omega)
    rwa [e5] at this
  have hq2 : ∀ b, b ≤ 2 * s * c' + 2 * s → b ≤ n → Srt Meet.day (2 * s * c' + s) b l4 := fun b h1 h2 => by
    have := blk_srt Meet.day (c := 2 * c' + 1) (b := b) hb5 (by omega) (by omega) (by omega)
    rwa [e6] at this
  have hstep : ∀ b l', PIn (2 * s * c') b l4 l' → Srt Meet.day (2 * s * c') b l' → Blk Meet.day (2 * s) 0 b l' := fun b l' h1 h2 => blk_step Meet.day (by omega) hb4 h1 h2
  have hlast : n ≤ 2 * s * c' + s → Blk Meet.day (2 * s) 0 n l4 := fun h => by
    have := blk_srt Meet.day (c := 2 * c') (b := n) hb5 (by omega) (by omega) (by omega)
    rw [e5] at this
    exact hstep n l4 (.refl _ _ _) this
  clear hb4
  clear e5 e6
  generalize ha : 2 * s * c' = a at *
  by_cases hlt2 : a + 2 * s ≤ n
  · refine br_t (by simp; omega) ?_
    dsimp only [go_sem, Nat.reduceAdd, Nat.reduceMul, Nat.reduceSub]
    rw [w64_in (n := (a : Int) + (s : Int)) (by omega) (by omega), show (a : Int) + (s : Int) = ((a + s : Nat) : Int) from by omega]
    refine callmP [0] (sym_ok v _ a (a + s) (a + 2 * s) l4 (Nat.le_refl _) (by omega) (by omega) (by omega) (by omega) (hq1 (by omega)) (hq2 _ (by omega) (by omega))) rfl rfl rfl ?_ ?_ ?_
    · ((try dsimp only [go_sem, Nat.reduceAdd, Nat.reduceMul, Nat.reduceSub]); repeat (simp only [Nat.beq_refl]; try dsimp only [go_sem, Nat.reduceAdd, Nat.reduceMul, Nat.reduceSub]))
      simp [mtL, mtB, mtS]
    · ((try dsimp only [go_sem, Nat.reduceAdd, Nat.reduceMul, Nat.reduceSub]); repeat (simp only [Nat.beq_refl]; try dsimp only [go_sem, Nat.reduceAdd, Nat.reduceMul, Nat.reduceSub]))
      simp [KFR_iff, meetL, KFL, KF]
    rintro _ ⟨l5, hp5, hs5, rfl⟩
    ((try dsimp only [rowO, go_sem, Nat.reduceAdd, Nat.reduceMul, Nat.reduceSub]); repeat (simp only [Nat.beq_refl]; try dsimp only [go_sem, Nat.reduceAdd, Nat.reduceMul, Nat.reduceSub]))
    rw [w64_in (n := 2 * (s : Int)) (by omega) (by omega), w64_in (n := ((a + 2 * s : Nat) : Int) + 2 * (s : Int)) (by omega) (by omega)]
    refine ⟨(c' + 1, l5), ⟨by simp only; omega, hp4.trans (hp5.mono (by omega) (by omega)), ?_, ?_⟩, by simp only [e7, ha]; omega, ?_⟩
    · simp only; rw [e7]; exact hstep _ _ hp5 hs5
    · simp only; rw [e7]; exact blk_rest Meet.day hb5 hp5 (by omega)
    · simp only [e7]
      rw [show ((a + 2 * s : Nat) : Int) + 2 * (s : Int) = ((a + 2 * s + 2 * s : Nat) : Int) from by omega]
      (refine ent_id ?_ ?_ ?_ rfl rfl <;> dsimp only [meetL, id, go_sem, Nat.reduceAdd, Nat.reduceMul, Nat.reduceSub] <;> simp [meetL, KFR_iff, KFR_app, KFR, KFL, KF, mtL_same, mtO, Nat.beq_refl])
  refine br_f (by simp; omega) ?_
  dsimp only [go_sem, Nat.reduceAdd, Nat.reduceMul, Nat.reduceSub]
  rw [w64_in (n := (a : Int) + (s : Int)) (by omega) (by omega), show (a : Int) + (s : Int) = ((a + s : Nat) : Int) from by omega]
  by_cases hm : a + s < n
  · refine br_t (by simp; omega) ?_
    dsimp only [go_sem, Nat.reduceAdd, Nat.reduceMul, Nat.reduceSub]
    refine callmP [0] (sym_ok v _ a (a + s) n l4 (Nat.le_refl _) (by omega) (by omega) (by omega) (by omega) (hq1 (by omega)) (hq2 _ (by omega) (by omega))) rfl rfl rfl ?_ ?_ ?_
    · ((try dsimp only [go_sem, Nat.reduceAdd, Nat.reduceMul, Nat.reduceSub]); repeat (simp only [Nat.beq_refl]; try dsimp only [go_sem, Nat.reduceAdd, Nat.reduceMul, Nat.reduceSub]))
      simp [mtL, mtB, mtS]
    · ((try dsimp only [go_sem, Nat.reduceAdd, Nat.reduceMul, Nat.reduceSub]); repeat (simp only [Nat.beq_refl]; try dsimp only [go_sem, Nat.reduceAdd, Nat.reduceMul, Nat.reduceSub]))
      simp [KFR_iff, meetL, KFL, KF]
    rintro _ ⟨l5, hp5, hs5, rfl⟩
    ((try dsimp only [rowO, go_sem, Nat.reduceAdd, Nat.reduceMul, Nat.reduceSub]); repeat (simp only [Nat.beq_refl]; try dsimp only [go_sem, Nat.reduceAdd, Nat.reduceMul, Nat.reduceSub]))
    rw [w64_in (n := (s : Int) * 2) (by omega) (by omega), show (s : Int) * 2 = ((2 * s : Nat) : Int) from by omega]
    refine ⟨(2 * s, l5, (a : Int), ((a + 2 * s : Nat) : Int)), ⟨by simp only; omega, hp4.trans (hp5.mono (by omega) (by omega)), hstep _ _ hp5 hs5⟩, by simp only; omega, ?_⟩
    (refine ent_id ?_ ?_ ?_ rfl rfl <;> dsimp only [meetL, id, go_sem, Nat.reduceAdd, Nat.reduceMul, Nat.reduceSub] <;> simp [meetL, KFR_iff, KFR_app, KFR, KFL, KF, mtL_same, mtO, Nat.beq_refl])
  refine br_f (by simp; omega) ?_
  dsimp only [go_sem, Nat.reduceAdd, Nat.reduceMul, Nat.reduceSub]
  rw [w64_in (n := (s : Int) * 2) (by omega) (by omega), show (s : Int) * 2 = ((2 * s : Nat) : Int) from by omega]
  refine ⟨(2 * s, l4, (a : Int), ((a + 2 * s : Nat) : Int)), ⟨by simp only; omega, hp4, hlast (by omega)⟩, by simp only; omega, ?_⟩
  (refine ent_id ?_ ?_ ?_ rfl rfl <;> dsimp only [meetL, id, go_sem, Nat.reduceAdd, Nat.reduceMul, Nat.reduceSub] <;> simp [meetL, KFR_iff, KFR_app, KFR, KFL, KF, mtL_same, mtO, Nat.beq_refl])
/-- the sort, of an owned row -/
theorem sort_ok (v : Nat) (l : List Meet) (hL : l.length < 1152921504606846976) :
    CtM Try.prog 80 [(0, .row v 4 (l.map meetL) 73)] 1 [.mr 0 v, .cl 81 []] (fun o => ∃ l', PIn 0 l.length l l' ∧ Srt Meet.day 0 l.length l' ∧ o = rowO v l') := by
  refine m80 (by simp [hpb]) (fun o ho => by obtain ⟨l', _, _, rfl⟩ := ho; simp [rowO, KX, KXL, KXP, KXH, KFR_iff, KFL, KF, meetL]) ?_
  dsimp only [c80, r80, go_sem, Nat.reduceAdd, Nat.reduceMul, Nat.reduceSub]
  ((try dsimp only [go_sem, Nat.reduceAdd, Nat.reduceMul, Nat.reduceSub]); repeat (simp only [Nat.beq_refl]; try dsimp only [go_sem, Nat.reduceAdd, Nat.reduceMul, Nat.reduceSub]))
  simp only [List.length_map]
  refine callmP [0] (stb_ok v l.length l rfl hL) rfl rfl rfl ?_ ?_ ?_
  · ((try dsimp only [go_sem, Nat.reduceAdd, Nat.reduceMul, Nat.reduceSub]); repeat (simp only [Nat.beq_refl]; try dsimp only [go_sem, Nat.reduceAdd, Nat.reduceMul, Nat.reduceSub]))
    simp [mtL, mtB, mtS]
  · ((try dsimp only [go_sem, Nat.reduceAdd, Nat.reduceMul, Nat.reduceSub]); repeat (simp only [Nat.beq_refl]; try dsimp only [go_sem, Nat.reduceAdd, Nat.reduceMul, Nat.reduceSub]))
    simp [KFR_iff, meetL, KFL, KF]
  rintro _ ⟨l5, hp5, hs5, rfl⟩
  ((try dsimp only [rowO, go_sem, Nat.reduceAdd, Nat.reduceMul, Nat.reduceSub]); repeat (simp only [Nat.beq_refl]; try dsimp only [go_sem, Nat.reduceAdd, Nat.reduceMul, Nat.reduceSub]))
  refine ⟨_, ⟨l5, hp5, hs5, rfl⟩, ?_⟩
  try simp only [rowO]
  (refine entO_id ?_ ?_ ?_ rfl <;> dsimp only [meetL, id, go_sem, Nat.reduceAdd, Nat.reduceMul, Nat.reduceSub] <;> simp [meetL, KFR_iff, KFR_app, KFR, KFL, KF, mtL_same, mtO, Nat.beq_refl])
end Go.Proofs.Ytnlfjchbhgikaaa
