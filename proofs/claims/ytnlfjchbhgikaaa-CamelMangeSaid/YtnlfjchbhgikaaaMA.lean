import Derived.Test.YtnlfjchbhgikaaaFIs
import Derived.Test.YtnlfjchbhgikaaaOrd2
set_option maxRecDepth 100000
set_option maxHeartbeats 4000000
namespace Go.Azalai
structure Meet where
  a : Int
  b : Int
  day : Int
  close : Bool
deriving DecidableEq
end Go.Azalai
namespace Go.Proofs.Ytnlfjchbhgikaaa
open Go Go.Sx Go.Azalai
def meetL (m : Meet) : List SV := [I m.a, I m.b, I m.day, B m.close]
def rowO (v : Nat) (l : List Meet) : Ot := ⟨false, .tup [], [(0, .row v 4 (l.map meetL) 73)], 1⟩
theorem swr_ok (v a b n : Nat) (l : List Meet) (hab : a + n ≤ b) (hb : b + n ≤ l.length) (hL : l.length < 4611686018427387904) :
    CtM Try.prog 108 [(0, .row v 4 (l.map meetL) 73)] 1 [.mr 0 v, I a, I b, I n, .cl 81 []] (fun o => ∃ l', PIn a (b + n) l l' ∧ (∀ p, ky Meet.day l' p = swR a b n (ky Meet.day l) p) ∧ o = rowO v l') := by
  refine m108 (by simp [hpb]) (fun o ho => by obtain ⟨l', _, _, rfl⟩ := ho; simp [rowO, KX, KXL, KXP, KXH, KFR_iff, KFL, KF, meetL]) ?_
  dsimp only [c108, r108, go_sem, Nat.reduceAdd, Nat.reduceMul, Nat.reduceSub]
  refine loopO (fun s : Nat × List Meet => [(10, I s.1)]) (fun s => [(0, .row v 4 (s.2.map meetL) 73)]) (fun s => s.1 ≤ n ∧ PIn a (b + n) l s.2 ∧ ∀ p, ky Meet.day s.2 p = swR a b s.1 (ky Meet.day l) p) (fun s => n - s.1) (0, l) ⟨Nat.zero_le _, .refl _ _ _, fun p => (swR_0 _ _ _ _).symm⟩ ?_ ?_
  · (refine ent_id ?_ ?_ ?_ rfl rfl <;> dsimp only [meetL, id, go_sem, Nat.reduceAdd, Nat.reduceMul, Nat.reduceSub] <;> simp [meetL, KFR_iff, KFR_app, KFR, KFL, KF, mtL_same, mtO, Nat.beq_refl])
  rintro ⟨j, l1⟩ ⟨hj, hp, hk⟩
  simp only at hj hp hk
  have hl1 := hp.len
  dsimp only [go_sem, Nat.reduceAdd, Nat.reduceMul, Nat.reduceSub]
  by_cases hlt : j < n
  · refine br_t (by simpa using hlt) ?_
    ((try dsimp only [go_sem, Nat.reduceAdd, Nat.reduceMul, Nat.reduceSub]); repeat (simp only [Nat.beq_refl]; try dsimp only [go_sem, Nat.reduceAdd, Nat.reduceMul, Nat.reduceSub]))
    simp (disch := omega) only [w64_in, List.length_map]
    refine ixrm (b + j) (by omega) (by omega) ?_
    ((try dsimp only [go_sem, Nat.reduceAdd, Nat.reduceMul, Nat.reduceSub]); repeat (simp only [Nat.beq_refl]; try dsimp only [go_sem, Nat.reduceAdd, Nat.reduceMul, Nat.reduceSub]))
    refine ldrm (by omega) ?_
    ((try dsimp only [meetL, go_sem, Nat.reduceAdd, Nat.reduceMul, Nat.reduceSub]); repeat (simp only [Nat.beq_refl]; try dsimp only [go_sem, Nat.reduceAdd, Nat.reduceMul, Nat.reduceSub]))
    simp (disch := omega) only [w64_in, List.length_map]
    refine ixrm (a + j) (by omega) (by omega) ?_
    ((try dsimp only [go_sem, Nat.reduceAdd, Nat.reduceMul, Nat.reduceSub]); repeat (simp only [Nat.beq_refl]; try dsimp only [go_sem, Nat.reduceAdd, Nat.reduceMul, Nat.reduceSub]))
    refine ldrm (by omega) ?_
    ((try dsimp only [meetL, go_sem, Nat.reduceAdd, Nat.reduceMul, Nat.reduceSub]); repeat (simp only [Nat.beq_refl]; try dsimp only [go_sem, Nat.reduceAdd, Nat.reduceMul, Nat.reduceSub]))
    refine ixrm (a + j) (by omega) (by simp; omega) ?_
    ((try dsimp only [go_sem, Nat.reduceAdd, Nat.reduceMul, Nat.reduceSub]); repeat (simp only [Nat.beq_refl]; try dsimp only [go_sem, Nat.reduceAdd, Nat.reduceMul, Nat.reduceSub]))
    refine strm l1[b + j] (by omega) (by simp [meetL]) (by simp [meetL, splice]) ?_
    ((try dsimp only [go_sem, Nat.reduceAdd, Nat.reduceMul, Nat.reduceSub]); repeat (simp only [Nat.beq_refl]; try dsimp only [go_sem, Nat.reduceAdd, Nat.reduceMul, Nat.reduceSub]))
    refine ixrm (b + j) (w64_in (by omega) (by omega)) (by simp; omega) ?_
    ((try dsimp only [go_sem, Nat.reduceAdd, Nat.reduceMul, Nat.reduceSub]); repeat (simp only [Nat.beq_refl]; try dsimp only [go_sem, Nat.reduceAdd, Nat.reduceMul, Nat.reduceSub]))
    refine strm l1[a + j] (by simp; omega) (by simp [meetL]) (by simp [meetL, splice]) ?_
    rw [← swp_eq (l := l1) (i := a + j) (j := b + j) (by omega) (by omega)]
    ((try dsimp only [go_sem, Nat.reduceAdd, Nat.reduceMul, Nat.reduceSub]); repeat (simp only [Nat.beq_refl]; try dsimp only [go_sem, Nat.reduceAdd, Nat.reduceMul, Nat.reduceSub]))
    rw [w64_in (n := (j : Int) + 1) (by omega) (by omega)]
    refine ⟨(j + 1, swp l1 (a + j) (b + j)), ⟨hlt, hp.trans (.swap (by omega) (by omega) (by omega) (by omega) (by omega)), fun p => ?_⟩, by simp only; omega, ?_⟩
    · rw [swp_ky Meet.day (by omega) (by omega), swR_succ (by omega), hk, hk, hk]
    (refine ent_id ?_ ?_ ?_ rfl rfl <;> dsimp only [meetL, id, go_sem, Nat.reduceAdd, Nat.reduceMul, Nat.reduceSub] <;> simp [meetL, KFR_iff, KFR_app, KFR, KFL, KF, mtL_same, mtO, Nat.beq_refl])
  refine br_f (by simp; omega) ?_
  dsimp only [go_sem, Nat.reduceAdd, Nat.reduceMul, Nat.reduceSub]
  refine ⟨_, ⟨l1, hp, fun p => by rw [hk p, show j = n from by omega], rfl⟩, ?_⟩
  simp only [rowO]
  (refine entO_id ?_ ?_ ?_ rfl <;> dsimp only [meetL, id, go_sem, Nat.reduceAdd, Nat.reduceMul, Nat.reduceSub] <;> simp [meetL, KFR_iff, KFR_app, KFR, KFL, KF, mtL_same, mtO, Nat.beq_refl])
theorem rot_ok (v a m b : Nat) (l : List Meet) (ham : a < m) (hmb : m < b) (hb : b ≤ l.length) (hL : l.length < 4611686018427387904) :
    CtM Try.prog 107 [(0, .row v 4 (l.map meetL) 73)] 1 [.mr 0 v, I a, I m, I b, .cl 81 []] (fun o => ∃ l', PIn a b l l' ∧ (∀ p, ky Meet.day l' p = rotT a m b (ky Meet.day l) p) ∧ o = rowO v l') := by
  refine m107 (by simp [hpb]) (fun o ho => by obtain ⟨l', _, _, rfl⟩ := ho; simp [rowO, KX, KXL, KXP, KXH, KFR_iff, KFL, KF, meetL]) ?_
  dsimp only [c107, r107, go_sem, Nat.reduceAdd, Nat.reduceMul, Nat.reduceSub]
  rw [w64_in (n := (m : Int) - (a : Int)) (by omega) (by omega), w64_in (n := (b : Int) - (m : Int)) (by omega) (by omega), show (m : Int) - (a : Int) = ((m - a : Nat) : Int) from by omega, show (b : Int) - (m : Int) = ((b - m : Nat) : Int) from by omega]
  refine loopO (fun s : Nat × Nat × List Meet => [(10, I s.1), (11, I s.2.1)]) (fun s => [(0, .row v 4 (s.2.2.map meetL) 73)]) (fun s => (0 < s.1 ∧ 0 < s.2.1 ∧ a + s.1 ≤ m ∧ m + s.2.1 ≤ b) ∧ PIn a b l s.2.2 ∧ RotI m s.1 s.2.1 (ky Meet.day s.2.2) (rotT a m b (ky Meet.day l))) (fun s => s.1 + s.2.1) (m - a, b - m, l) ⟨by simp only; omega, .refl _ _ _, rot_start (by omega) (by omega)⟩ ?_ ?_
  · (refine ent_id ?_ ?_ ?_ rfl rfl <;> dsimp only [meetL, id, go_sem, Nat.reduceAdd, Nat.reduceMul, Nat.reduceSub] <;> simp [meetL, KFR_iff, KFR_app, KFR, KFL, KF, mtL_same, mtO, Nat.beq_refl])
  rintro ⟨i, j, l1⟩ ⟨⟨hi0, hj0, hi, hj⟩, hp, hk⟩
  simp only at hi0 hj0 hi hj hp hk
  have hl1 := hp.len
  dsimp only [go_sem, Nat.reduceAdd, Nat.reduceMul, Nat.reduceSub]
  by_cases hij : i = j
  case pos =>
    subst hij
    refine br_f (by simp) ?_
    dsimp only [go_sem, Nat.reduceAdd, Nat.reduceMul, Nat.reduceSub]
    rw [w64_in (n := (m : Int) - (i : Int)) (by omega) (by omega), show (m : Int) - (i : Int) = ((m - i : Nat) : Int) from by omega]
    refine callmP [0] (swr_ok v (m - i) m i l1 (by omega) (by omega) (by omega)) rfl rfl rfl ?_ ?_ ?_
    · ((try dsimp only [go_sem, Nat.reduceAdd, Nat.reduceMul, Nat.reduceSub]); repeat (simp only [Nat.beq_refl]; try dsimp only [go_sem, Nat.reduceAdd, Nat.reduceMul, Nat.reduceSub]))
      simp [mtL, mtB, mtS]
    · ((try dsimp only [go_sem, Nat.reduceAdd, Nat.reduceMul, Nat.reduceSub]); repeat (simp only [Nat.beq_refl]; try dsimp only [go_sem, Nat.reduceAdd, Nat.reduceMul, Nat.reduceSub]))
      simp [KFR_iff, meetL, KFL, KF]
    rintro _ ⟨l2, hp2, hk2, rfl⟩
    ((try dsimp only [rowO, go_sem, Nat.reduceAdd, Nat.reduceMul, Nat.reduceSub]); repeat (simp only [Nat.beq_refl]; try dsimp only [go_sem, Nat.reduceAdd, Nat.reduceMul, Nat.reduceSub]))
    refine ⟨_, ⟨l2, hp.trans (hp2.mono (by omega) (by omega)), fun p => by rw [hk2 p]; exact rot_eq hk (by omega) p, rfl⟩, ?_⟩
    (refine entO_id ?_ ?_ ?_ rfl <;> dsimp only [meetL, id, go_sem, Nat.reduceAdd, Nat.reduceMul, Nat.reduceSub] <;> simp [meetL, KFR_iff, KFR_app, KFR, KFL, KF, mtL_same, mtO, Nat.beq_refl])
  refine br_t (by simp; omega) ?_
  dsimp only [go_sem, Nat.reduceAdd, Nat.reduceMul, Nat.reduceSub]
  by_cases hgt : j < i
  · refine br_t (by simp; omega) ?_
    dsimp only [go_sem, Nat.reduceAdd, Nat.reduceMul, Nat.reduceSub]
    rw [w64_in (n := (m : Int) - (i : Int)) (by omega) (by omega), show (m : Int) - (i : Int) = ((m - i : Nat) : Int) from by omega]
    refine callmP [0] (swr_ok v (m - i) m j l1 (by omega) (by omega) (by omega)) rfl rfl rfl ?_ ?_ ?_
    · ((try dsimp only [go_sem, Nat.reduceAdd, Nat.reduceMul, Nat.reduceSub]); repeat (simp only [Nat.beq_refl]; try dsimp only [go_sem, Nat.reduceAdd, Nat.reduceMul, Nat.reduceSub]))
      simp [mtL, mtB, mtS]
    · ((try dsimp only [go_sem, Nat.reduceAdd, Nat.reduceMul, Nat.reduceSub]); repeat (simp only [Nat.beq_refl]; try dsimp only [go_sem, Nat.reduceAdd, Nat.reduceMul, Nat.reduceSub]))
      simp [KFR_iff, meetL, KFL, KF]
    rintro _ ⟨l2, hp2, hk2, rfl⟩
    ((try dsimp only [rowO, go_sem, Nat.reduceAdd, Nat.reduceMul, Nat.reduceSub]); repeat (simp only [Nat.beq_refl]; try dsimp only [go_sem, Nat.reduceAdd, Nat.reduceMul, Nat.reduceSub]))
    rw [w64_in (n := (i : Int) - (j : Int)) (by omega) (by omega), show (i : Int) - (j : Int) = ((i - j : Nat) : Int) from by omega]
    refine ⟨(i - j, j, l2), ⟨by simp only; omega, hp.trans (hp2.mono (by omega) (by omega)), ?_⟩, by simp only; omega, ?_⟩
    · have := rot_gt hk (by omega) hj0 hgt
      rwa [← show ky Meet.day l2 = swR (m - i) m j (ky Meet.day l1) from funext hk2] at this
    (refine ent_id ?_ ?_ ?_ rfl rfl <;> dsimp only [meetL, id, go_sem, Nat.reduceAdd, Nat.reduceMul, Nat.reduceSub] <;> simp [meetL, KFR_iff, KFR_app, KFR, KFL, KF, mtL_same, mtO, Nat.beq_refl])
  refine br_f (by simp; omega) ?_
  dsimp only [go_sem, Nat.reduceAdd, Nat.reduceMul, Nat.reduceSub]
  simp (disch := omega) only [w64_in]
  rw [show (m : Int) - (i : Int) = ((m - i : Nat) : Int) from by omega, show (m : Int) + (j : Int) - (i : Int) = ((m + j - i : Nat) : Int) from by omega]
  refine callmP [0] (swr_ok v (m - i) (m + j - i) i l1 (by omega) (by omega) (by omega)) rfl rfl rfl ?_ ?_ ?_
  · ((try dsimp only [go_sem, Nat.reduceAdd, Nat.reduceMul, Nat.reduceSub]); repeat (simp only [Nat.beq_refl]; try dsimp only [go_sem, Nat.reduceAdd, Nat.reduceMul, Nat.reduceSub]))
    simp [mtL, mtB, mtS]
  · ((try dsimp only [go_sem, Nat.reduceAdd, Nat.reduceMul, Nat.reduceSub]); repeat (simp only [Nat.beq_refl]; try dsimp only [go_sem, Nat.reduceAdd, Nat.reduceMul, Nat.reduceSub]))
    simp [KFR_iff, meetL, KFL, KF]
  rintro _ ⟨l2, hp2, hk2, rfl⟩
  ((try dsimp only [rowO, go_sem, Nat.reduceAdd, Nat.reduceMul, Nat.reduceSub]); repeat (simp only [Nat.beq_refl]; try dsimp only [go_sem, Nat.reduceAdd, Nat.reduceMul, Nat.reduceSub]))
  rw [w64_in (n := (j : Int) - (i : Int)) (by omega) (by omega), show (j : Int) - (i : Int) = ((j - i : Nat) : Int) from by omega]
  refine ⟨(i, j - i, l2), ⟨by simp only; omega, hp.trans (hp2.mono (by omega) (by omega)), ?_⟩, by simp only; omega, ?_⟩
  · have := rot_lt hk (by omega) hi0 (by omega)
    rwa [← show ky Meet.day l2 = swR (m - i) (m + j - i) i (ky Meet.day l1) from funext hk2] at this
  (refine ent_id ?_ ?_ ?_ rfl rfl <;> dsimp only [meetL, id, go_sem, Nat.reduceAdd, Nat.reduceMul, Nat.reduceSub] <;> simp [meetL, KFR_iff, KFR_app, KFR, KFL, KF, mtL_same, mtO, Nat.beq_refl])
end Go.Proofs.Ytnlfjchbhgikaaa
