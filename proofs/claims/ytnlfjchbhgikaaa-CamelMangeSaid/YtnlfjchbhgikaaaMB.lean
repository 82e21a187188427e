import Derived.Test.YtnlfjchbhgikaaaMA
set_option maxRecDepth 100000
set_option maxHeartbeats 4000000
namespace Go.Azalai
theorem ky_eq {α : Type} (key : α → Int) {l : List α} {i : Nat} (h : i < l.length) : ky key l i = key l[i] := by unfold ky; rw [List.getElem?_eq_getElem h]
def cmpZ (a b : Int) : Int := if a < b then -1 else if b < a then 1 else 0
end Go.Azalai
namespace Go.Proofs.Ytnlfjchbhgikaaa
open Go Go.Sx Go.Azalai
theorem nan_ok (a : Int) : Ct Try.prog 99 [I a] (B false) := by
  refine t99 (by simp [KFL, KF]) (by simp [KFL, KF]) ?_
  dsimp only [c99, r99, go_sem, Nat.reduceAdd, Nat.reduceMul, Nat.reduceSub]
  simp
theorem cmp_ok (a b : Int) : Ct Try.prog 82 [I a, I b] (I (cmpZ a b)) := by
  refine t82 (by simp [KFL, KF]) (by simp [KFL, KF]) ?_
  dsimp only [c82, r82, go_sem, Nat.reduceAdd, Nat.reduceMul, Nat.reduceSub]
  refine call (nan_ok a) ?_
  dsimp only [go_sem, Nat.reduceAdd, Nat.reduceMul, Nat.reduceSub]
  refine call (nan_ok b) ?_
  dsimp only [go_sem, Nat.reduceAdd, Nat.reduceMul, Nat.reduceSub]
  refine br_f rfl ?_
  dsimp only [go_sem, Nat.reduceAdd, Nat.reduceMul, Nat.reduceSub]
  refine br_f rfl ?_
  dsimp only [go_sem, Nat.reduceAdd, Nat.reduceMul, Nat.reduceSub]
  by_cases h1 : a < b
  · refine br_t (by simpa using h1) ?_
    dsimp only [go_sem, Nat.reduceAdd, Nat.reduceMul, Nat.reduceSub]
    simp [cmpZ, h1]
  refine br_f (by simpa using h1) ?_
  dsimp only [go_sem, Nat.reduceAdd, Nat.reduceMul, Nat.reduceSub]
  by_cases h2 : b < a
  · refine br_t (by simpa using h2) ?_
    dsimp only [go_sem, Nat.reduceAdd, Nat.reduceMul, Nat.reduceSub]
    simp [cmpZ, h1, h2]
  refine br_f (by simpa using h2) ?_
  dsimp only [go_sem, Nat.reduceAdd, Nat.reduceMul, Nat.reduceSub]
  simp [cmpZ, h1, h2]
theorem less_ok (x y : Meet) : Ct Try.prog 81 [.agg (meetL x), .agg (meetL y)] (I (cmpZ x.day y.day)) := by
  refine t81 (by simp [meetL, KFL, KF]) (by simp [KFL, KF]) ?_
  dsimp only [c81, r81, meetL, go_sem, Nat.reduceAdd, Nat.reduceMul, Nat.reduceSub]
  refine call (cmp_ok x.day y.day) ?_
  dsimp only [go_sem, Nat.reduceAdd, Nat.reduceMul, Nat.reduceSub]
theorem inss_ok (v a b : Nat) (l : List Meet) (hab : a ≤ b) (hb : b ≤ l.length) (hL : l.length < 4611686018427387904) :
    CtM Try.prog 105 [(0, .row v 4 (l.map meetL) 73)] 1 [.mr 0 v, I a, I b, .cl 81 []] (fun o => ∃ l', PIn a b l l' ∧ Srt Meet.day a b l' ∧ o = rowO v l') := by
  refine m105 (by simp [hpb]) (fun o ho => by obtain ⟨l', _, _, rfl⟩ := ho; simp [rowO, KX, KXL, KXP, KXH, KFR_iff, KFL, KF, meetL]) ?_
  dsimp only [c105, r105, go_sem, Nat.reduceAdd, Nat.reduceMul, Nat.reduceSub]
  rw [w64_in (n := (a : Int) + 1) (by omega) (by omega)]
  refine loopO (fun s : Nat × List Meet => [(8, I (s.1 : Nat))]) (fun s => [(0, .row v 4 (s.2.map meetL) 73)]) (fun s => (a < s.1 ∧ s.1 ≤ max b (a + 1)) ∧ PIn a b l s.2 ∧ Srt Meet.day a s.1 s.2) (fun s => b - s.1) (a + 1, l) ⟨by simp only; omega, .refl _ _ _, fun i j h1 h2 h3 => by simp only at h3; omega⟩ ?_ ?_
  · (refine ent_id ?_ ?_ ?_ rfl rfl <;> dsimp only [meetL, id, go_sem, Nat.reduceAdd, Nat.reduceMul, Nat.reduceSub] <;> simp [meetL, KFR_iff, KFR_app, KFR, KFL, KF, mtL_same, mtO, Nat.beq_refl])
  rintro ⟨i, l1⟩ ⟨⟨hi0, hi⟩, hp, hs⟩
  simp only at hi0 hi hp hs
  have hl1 := hp.len
  dsimp only [go_sem, Nat.reduceAdd, Nat.reduceMul, Nat.reduceSub]
  by_cases hib : i < b
  case neg =>
    refine br_f (by simp; omega) ?_
    dsimp only [go_sem, Nat.reduceAdd, Nat.reduceMul, Nat.reduceSub]
    refine ⟨_, ⟨l1, hp, fun p q g1 g2 g3 => hs p q g1 g2 (by omega), rfl⟩, ?_⟩
    simp only [rowO]
    (refine entO_id ?_ ?_ ?_ rfl <;> dsimp only [meetL, id, go_sem, Nat.reduceAdd, Nat.reduceMul, Nat.reduceSub] <;> simp [meetL, KFR_iff, KFR_app, KFR, KFL, KF, mtL_same, mtO, Nat.beq_refl])
  refine br_t (by simpa using hib) ?_
  dsimp only [go_sem, Nat.reduceAdd, Nat.reduceMul, Nat.reduceSub]
  refine loopO (fun s : Nat × List Meet => [(9, I (s.1 : Nat))]) (fun s => [(0, .row v 4 (s.2.map meetL) 73)]) (fun s => (a ≤ s.1 ∧ s.1 ≤ i) ∧ PIn a b l s.2 ∧ Ins1 Meet.day a i s.1 s.2) (fun s => s.1) (i, l1) ⟨by simp only; omega, hp, ins_start Meet.day hs⟩ ?_ ?_
  · (refine ent_id ?_ ?_ ?_ rfl rfl <;> dsimp only [meetL, id, go_sem, Nat.reduceAdd, Nat.reduceMul, Nat.reduceSub] <;> simp [meetL, KFR_iff, KFR_app, KFR, KFL, KF, mtL_same, mtO, Nat.beq_refl])
  rintro ⟨j, l2⟩ ⟨⟨hj0, hj⟩, hp2, hs2⟩
  simp only at hj0 hj hp2 hs2
  have hl2 := hp2.len
  dsimp only [go_sem, Nat.reduceAdd, Nat.reduceMul, Nat.reduceSub]
  by_cases hja : a < j
  case neg =>
    rw [show decide ((j : Int) > (a : Int)) = false from by simp; omega]
    repeat (refine gb ?_; ((try dsimp only [go_sem, Nat.reduceAdd, Nat.reduceMul, Nat.reduceSub]); repeat (simp only [Nat.beq_refl]; try dsimp only [go_sem, Nat.reduceAdd, Nat.reduceMul, Nat.reduceSub])))
    refine ixrm_v 0 rfl (fun h => by cases h) ?_
    ((try dsimp only [go_sem, Nat.reduceAdd, Nat.reduceMul, Nat.reduceSub]); repeat (simp only [Nat.beq_refl]; try dsimp only [go_sem, Nat.reduceAdd, Nat.reduceMul, Nat.reduceSub]))
    refine gb ?_
    ((try dsimp only [go_sem, Nat.reduceAdd, Nat.reduceMul, Nat.reduceSub]); repeat (simp only [Nat.beq_refl]; try dsimp only [go_sem, Nat.reduceAdd, Nat.reduceMul, Nat.reduceSub]))
    refine ⟨meetL ⟨0, 0, 0, false⟩, imp_v rfl (fun h => by cases h), ?_⟩
    ((try dsimp only [meetL, go_sem, Nat.reduceAdd, Nat.reduceMul, Nat.reduceSub]); repeat (simp only [Nat.beq_refl]; try dsimp only [go_sem, Nat.reduceAdd, Nat.reduceMul, Nat.reduceSub]))
    repeat (refine gb ?_; ((try dsimp only [go_sem, Nat.reduceAdd, Nat.reduceMul, Nat.reduceSub]); repeat (simp only [Nat.beq_refl]; try dsimp only [go_sem, Nat.reduceAdd, Nat.reduceMul, Nat.reduceSub])))
    refine ixrm_v 0 rfl (fun h => by cases h) ?_
    ((try dsimp only [go_sem, Nat.reduceAdd, Nat.reduceMul, Nat.reduceSub]); repeat (simp only [Nat.beq_refl]; try dsimp only [go_sem, Nat.reduceAdd, Nat.reduceMul, Nat.reduceSub]))
    refine gb ?_
    ((try dsimp only [go_sem, Nat.reduceAdd, Nat.reduceMul, Nat.reduceSub]); repeat (simp only [Nat.beq_refl]; try dsimp only [go_sem, Nat.reduceAdd, Nat.reduceMul, Nat.reduceSub]))
    refine ⟨meetL ⟨0, 0, 0, false⟩, imp_v rfl (fun h => by cases h), ?_⟩
    ((try dsimp only [meetL, go_sem, Nat.reduceAdd, Nat.reduceMul, Nat.reduceSub]); repeat (simp only [Nat.beq_refl]; try dsimp only [go_sem, Nat.reduceAdd, Nat.reduceMul, Nat.reduceSub]))
    refine gb ?_
    ((try dsimp only [go_sem, Nat.reduceAdd, Nat.reduceMul, Nat.reduceSub]); repeat (simp only [Nat.beq_refl]; try dsimp only [go_sem, Nat.reduceAdd, Nat.reduceMul, Nat.reduceSub]))
    refine call (less_ok ⟨0, 0, 0, false⟩ ⟨0, 0, 0, false⟩) ?_
    ((try dsimp only [go_sem, Nat.reduceAdd, Nat.reduceMul, Nat.reduceSub]); repeat (simp only [Nat.beq_refl]; try dsimp only [go_sem, Nat.reduceAdd, Nat.reduceMul, Nat.reduceSub]))
    refine gb ?_
    ((try dsimp only [go_sem, Nat.reduceAdd, Nat.reduceMul, Nat.reduceSub]); repeat (simp only [Nat.beq_refl]; try dsimp only [go_sem, Nat.reduceAdd, Nat.reduceMul, Nat.reduceSub]))
    refine br_f rfl ?_
    ((try dsimp only [go_sem, Nat.reduceAdd, Nat.reduceMul, Nat.reduceSub]); repeat (simp only [Nat.beq_refl]; try dsimp only [go_sem, Nat.reduceAdd, Nat.reduceMul, Nat.reduceSub]))
    rw [w64_in (n := (i : Int) + 1) (by omega) (by omega)]
    refine ⟨(i + 1, l2), ⟨by simp only; omega, hp2, ins_end Meet.day hs2 hj (.inl (by omega))⟩, by simp only; omega, ?_⟩
    (refine ent_id ?_ ?_ ?_ rfl rfl <;> dsimp only [meetL, id, go_sem, Nat.reduceAdd, Nat.reduceMul, Nat.reduceSub] <;> simp [meetL, KFR_iff, KFR_app, KFR, KFL, KF, mtL_same, mtO, Nat.beq_refl])
  rw [show decide ((j : Int) > (a : Int)) = true from by simp; omega]
  repeat (refine .inl ⟨rfl, ?_⟩; ((try dsimp only [go_sem, Nat.reduceAdd, Nat.reduceMul, Nat.reduceSub]); repeat (simp only [Nat.beq_refl]; try dsimp only [go_sem, Nat.reduceAdd, Nat.reduceMul, Nat.reduceSub])))
  refine ixrm j rfl (by simp; omega) ?_
  ((try dsimp only [go_sem, Nat.reduceAdd, Nat.reduceMul, Nat.reduceSub]); repeat (simp only [Nat.beq_refl]; try dsimp only [go_sem, Nat.reduceAdd, Nat.reduceMul, Nat.reduceSub]))
  refine .inl ⟨rfl, ?_⟩
  ((try dsimp only [go_sem, Nat.reduceAdd, Nat.reduceMul, Nat.reduceSub]); repeat (simp only [Nat.beq_refl]; try dsimp only [go_sem, Nat.reduceAdd, Nat.reduceMul, Nat.reduceSub]))
  refine ldrm (by omega) ?_
  ((try dsimp only [meetL, go_sem, Nat.reduceAdd, Nat.reduceMul, Nat.reduceSub]); repeat (simp only [Nat.beq_refl]; try dsimp only [go_sem, Nat.reduceAdd, Nat.reduceMul, Nat.reduceSub]))
  repeat (refine .inl ⟨rfl, ?_⟩; ((try dsimp only [go_sem, Nat.reduceAdd, Nat.reduceMul, Nat.reduceSub]); repeat (simp only [Nat.beq_refl]; try dsimp only [go_sem, Nat.reduceAdd, Nat.reduceMul, Nat.reduceSub])))
  rw [w64_in (n := (j : Int) - 1) (by omega) (by omega)]
  refine ixrm (j - 1) (by omega) (by simp; omega) ?_
  ((try dsimp only [go_sem, Nat.reduceAdd, Nat.reduceMul, Nat.reduceSub]); repeat (simp only [Nat.beq_refl]; try dsimp only [go_sem, Nat.reduceAdd, Nat.reduceMul, Nat.reduceSub]))
  refine .inl ⟨rfl, ?_⟩
  ((try dsimp only [go_sem, Nat.reduceAdd, Nat.reduceMul, Nat.reduceSub]); repeat (simp only [Nat.beq_refl]; try dsimp only [go_sem, Nat.reduceAdd, Nat.reduceMul, Nat.reduceSub]))
  refine ldrm (by omega) ?_
  ((try dsimp only [meetL, go_sem, Nat.reduceAdd, Nat.reduceMul, Nat.reduceSub]); repeat (simp only [Nat.beq_refl]; try dsimp only [go_sem, Nat.reduceAdd, Nat.reduceMul, Nat.reduceSub]))
  repeat (refine .inl ⟨rfl, ?_⟩; ((try dsimp only [go_sem, Nat.reduceAdd, Nat.reduceMul, Nat.reduceSub]); repeat (simp only [Nat.beq_refl]; try dsimp only [go_sem, Nat.reduceAdd, Nat.reduceMul, Nat.reduceSub])))
  refine call (less_ok l2[j] l2[j - 1]) ?_
  ((try dsimp only [go_sem, Nat.reduceAdd, Nat.reduceMul, Nat.reduceSub]); repeat (simp only [Nat.beq_refl]; try dsimp only [go_sem, Nat.reduceAdd, Nat.reduceMul, Nat.reduceSub]))
  repeat (refine .inl ⟨rfl, ?_⟩; ((try dsimp only [go_sem, Nat.reduceAdd, Nat.reduceMul, Nat.reduceSub]); repeat (simp only [Nat.beq_refl]; try dsimp only [go_sem, Nat.reduceAdd, Nat.reduceMul, Nat.reduceSub])))
  by_cases hlt : l2[j].day < l2[j - 1].day
  case neg =>
    refine br_f (by simp [cmpZ, hlt]; split <;> decide) ?_
    ((try dsimp only [go_sem, Nat.reduceAdd, Nat.reduceMul, Nat.reduceSub]); repeat (simp only [Nat.beq_refl]; try dsimp only [go_sem, Nat.reduceAdd, Nat.reduceMul, Nat.reduceSub]))
    have hkk : ky Meet.day l2 (j - 1) ≤ ky Meet.day l2 j := by rw [ky_eq Meet.day (l := l2) (i := j - 1) (by omega), ky_eq Meet.day (l := l2) (i := j) (by omega)]; exact Int.not_lt.1 hlt
    rw [w64_in (n := (i : Int) + 1) (by omega) (by omega)]
    refine ⟨(i + 1, l2), ⟨by simp only; omega, hp2, ins_end Meet.day hs2 hj (.inr hkk)⟩, by simp only; omega, ?_⟩
    (refine ent_id ?_ ?_ ?_ rfl rfl <;> dsimp only [meetL, id, go_sem, Nat.reduceAdd, Nat.reduceMul, Nat.reduceSub] <;> simp [meetL, KFR_iff, KFR_app, KFR, KFL, KF, mtL_same, mtO, Nat.beq_refl])
  refine br_t (by simp [cmpZ, hlt]) ?_
  ((try dsimp only [go_sem, Nat.reduceAdd, Nat.reduceMul, Nat.reduceSub]); repeat (simp only [Nat.beq_refl]; try dsimp only [go_sem, Nat.reduceAdd, Nat.reduceMul, Nat.reduceSub]))
  have hkk : ky Meet.day l2 j < ky Meet.day l2 (j - 1) := by rw [ky_eq Meet.day (l := l2) (i := j - 1) (by omega), ky_eq Meet.day (l := l2) (i := j) (by omega)]; exact hlt
  rw [w64_in (n := (j : Int) - 1) (by omega) (by omega)]
  refine ixrm (j - 1) (by omega) (by simp; omega) ?_
  ((try dsimp only [go_sem, Nat.reduceAdd, Nat.reduceMul, Nat.reduceSub]); repeat (simp only [Nat.beq_refl]; try dsimp only [go_sem, Nat.reduceAdd, Nat.reduceMul, Nat.reduceSub]))
  refine ldrm (by omega) ?_
  ((try dsimp only [meetL, go_sem, Nat.reduceAdd, Nat.reduceMul, Nat.reduceSub]); repeat (simp only [Nat.beq_refl]; try dsimp only [go_sem, Nat.reduceAdd, Nat.reduceMul, Nat.reduceSub]))
  refine ixrm j rfl (by simp; omega) ?_
  ((try dsimp only [go_sem, Nat.reduceAdd, Nat.reduceMul, Nat.reduceSub]); repeat (simp only [Nat.beq_refl]; try dsimp only [go_sem, Nat.reduceAdd, Nat.reduceMul, Nat.reduceSub]))
  refine ldrm (by omega) ?_
  ((try dsimp only [meetL, go_sem, Nat.reduceAdd, Nat.reduceMul, Nat.reduceSub]); repeat (simp only [Nat.beq_refl]; try dsimp only [go_sem, Nat.reduceAdd, Nat.reduceMul, Nat.reduceSub]))
  refine ixrm j rfl (by simp; omega) ?_
  ((try dsimp only [go_sem, Nat.reduceAdd, Nat.reduceMul, Nat.reduceSub]); repeat (simp only [Nat.beq_refl]; try dsimp only [go_sem, Nat.reduceAdd, Nat.reduceMul, Nat.reduceSub]))
  refine strm l2[j - 1] (by omega) (by simp [meetL]) (by simp [meetL, splice]) ?_
  ((try dsimp only [go_sem, Nat.reduceAdd, Nat.reduceMul, Nat.reduceSub]); repeat (simp only [Nat.beq_refl]; try dsimp only [go_sem, Nat.reduceAdd, Nat.reduceMul, Nat.reduceSub]))
  refine ixrm (j - 1) (by first | omega | (rw [w64_in (by omega) (by omega)]; omega)) (by simp; omega) ?_
  ((try dsimp only [go_sem, Nat.reduceAdd, Nat.reduceMul, Nat.reduceSub]); repeat (simp only [Nat.beq_refl]; try dsimp only [go_sem, Nat.reduceAdd, Nat.reduceMul, Nat.reduceSub]))
  refine strm l2[j] (by simp; omega) (by simp [meetL]) (by simp [meetL, splice]) ?_
  rw [← swp_eq (l := l2) (i := j) (j := j - 1) (by omega) (by omega)]
  ((try dsimp only [go_sem, Nat.reduceAdd, Nat.reduceMul, Nat.reduceSub]); repeat (simp only [Nat.beq_refl]; try dsimp only [go_sem, Nat.reduceAdd, Nat.reduceMul, Nat.reduceSub]))
  try rw [w64_in (n := (j : Int) - 1) (by omega) (by omega)]
  rw [show (j : Int) - 1 = ((j - 1 : Nat) : Int) from by omega]
  refine ⟨(j - 1, swp l2 j (j - 1)), ⟨by simp only; omega, hp2.trans (.swap (by omega) (by omega) (by omega) (by omega) (by omega)), ins_step Meet.day hs2 hja hj (by omega) hkk⟩, by simp only; omega, ?_⟩
  (refine ent_id ?_ ?_ ?_ rfl rfl <;> dsimp only [meetL, id, go_sem, Nat.reduceAdd, Nat.reduceMul, Nat.reduceSub] <;> simp [meetL, KFR_iff, KFR_app, KFR, KFL, KF, mtL_same, mtO, Nat.beq_refl])
end Go.Proofs.Ytnlfjchbhgikaaa
