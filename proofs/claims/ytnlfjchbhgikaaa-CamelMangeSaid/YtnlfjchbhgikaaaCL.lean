import Derived.Test.YtnlfjchbhgikaaaCK
set_option maxRecDepth 100000
set_option maxHeartbeats 4000000
namespace Go.Proofs.Ytnlfjchbhgikaaa
open Go Go.Sx Go.Azalai
theorem greatest_ok (f : Nat) (caps : List SV) (hk : KFL caps) (g : Int → Bool) (hg : ∀ n, inR 0 1000000 n = true → Ct Try.prog f (I n :: caps) (B (g n))) : Ct Try.prog 69 [I 0, I 1000000, .cl f caps] (I (seekN g 2000000 0 1000000)) := by
  refine t69 (by simp [KFL, KF, hk]) (by simp [KFL, KF]) ?_
  dsimp only [c69, r69, go_sem, Nat.reduceAdd, Nat.reduceMul, Nat.reduceSub]
  refine loopO (fun s : Int × Int => [(0, I s.1), (1, I s.2)]) (fun _ => []) (fun s => 0 ≤ s.1 ∧ s.1 ≤ s.2 ∧ s.2 ≤ 1000000 ∧ seekN g 2000000 s.1 s.2 = seekN g 2000000 0 1000000) (fun s => (s.2 - s.1).toNat) (0, 1000000) ⟨by decide, by decide, by decide, rfl⟩ ?_ ?_
  · (refine ent_id ?_ ?_ ?_ rfl rfl <;> dsimp only [hk, id, go_sem, Nat.reduceAdd, Nat.reduceMul, Nat.reduceSub] <;> simp [hk, KFR_iff, KFR_app, KFR, KFL, KF, mtL_same, mtO, Nat.beq_refl])
  rintro ⟨lo, hi⟩ ⟨g1, g2, g3, g4⟩
  simp only at g1 g2 g3 g4
  dsimp only [go_sem, Nat.reduceAdd, Nat.reduceMul, Nat.reduceSub]
  by_cases hlt : lo < hi
  · refine br_t (by simpa using hlt) ?_
    dsimp only [go_sem, Nat.reduceAdd, Nat.reduceMul, Nat.reduceSub]
    simp (disch := omega) only [w64_in]
    have e : (lo + hi + 1).tdiv 2 = (lo + hi + 1) / 2 := Int.tdiv_eq_ediv_of_nonneg (by omega)
    have g5 : seekN g 2000000 lo hi = if g ((lo + hi + 1).tdiv 2) then seekN g 2000000 ((lo + hi + 1).tdiv 2) hi else seekN g 2000000 lo ((lo + hi + 1).tdiv 2 - 1) := by
      rw [← seek_enough 2000000 2000001 lo hi g1 (by omega) (by omega)]
      rw [seekN, if_pos hlt]
    rw [g4] at g5
    refine div0 (by decide) ?_
    dsimp only [go_sem, Nat.reduceAdd, Nat.reduceMul, Nat.reduceSub]
    have e2 : (hi - lo).tdiv 2 = (hi - lo) / 2 := Int.tdiv_eq_ediv_of_nonneg (by omega)
    have e3 : hi - (hi - lo) / 2 = (lo + hi + 1) / 2 := by omega
    simp only [e] at g5
    simp only [e2]
    rw [w64_in (n := (hi - lo) / 2) (by omega) (by omega), w64_in (n := hi - (hi - lo) / 2) (by omega) (by omega), e3]
    refine call (hg ((lo + hi + 1) / 2) (by simp only [inR, decide_eq_true_eq]; omega)) ?_
    dsimp only [go_sem, Nat.reduceAdd, Nat.reduceMul, Nat.reduceSub]
    refine br ?_ ?_
    · intro hb1
      dsimp only [go_sem, Nat.reduceAdd, Nat.reduceMul, Nat.reduceSub]
      rw [if_pos hb1] at g5
      refine ⟨((lo + hi + 1) / 2, hi), ⟨by simp only; omega, by simp only; omega, by simp only; omega, g5.symm⟩, by simp only; omega, ?_⟩
      (refine ent_id ?_ ?_ ?_ rfl rfl <;> dsimp only [hk, id, go_sem, Nat.reduceAdd, Nat.reduceMul, Nat.reduceSub] <;> simp [hk, KFR_iff, KFR_app, KFR, KFL, KF, mtL_same, mtO, Nat.beq_refl])
    · intro hb1
      dsimp only [go_sem, Nat.reduceAdd, Nat.reduceMul, Nat.reduceSub]
      simp (disch := omega) only [w64_in]
      rw [if_neg (by simpa using hb1)] at g5
      refine ⟨(lo, (lo + hi + 1) / 2 - 1), ⟨by simp only; omega, by simp only; omega, by simp only; omega, g5.symm⟩, by simp only; omega, ?_⟩
      (refine ent_id ?_ ?_ ?_ rfl rfl <;> dsimp only [hk, id, go_sem, Nat.reduceAdd, Nat.reduceMul, Nat.reduceSub] <;> simp [hk, KFR_iff, KFR_app, KFR, KFL, KF, mtL_same, mtO, Nat.beq_refl])
  refine br_f (by simp; omega) ?_
  dsimp only [go_sem, Nat.reduceAdd, Nat.reduceMul, Nat.reduceSub]
  have : seekN g 2000000 lo hi = lo := by
    rw [← seek_enough 2000000 2000001 lo hi g1 (by omega) (by omega), seekN, if_neg hlt]
  rw [← g4, this]
theorem day_dies (b : Breed) (c : Camel) (m : March) (hb : okBreed b = true) (hc : okCamel b c = true) (hm : okMarch m = true) (hd : (afterF b c m).2 = 2) :
    Ct Try.prog 68 [.agg (beastL b c), .agg (marchL m)] (.tup [.agg (beastL ⟨0, 0, ⟨0, 0⟩, ⟨0, 0⟩, ⟨0, 0⟩, ⟨0, 0⟩, ⟨0, 0⟩, ⟨0, 0⟩, 0, ⟨0, 0⟩⟩ zeroC), .v (.int .u8 2)]) := by
  have h1 := breed_bd hb
  have h2 := camel_bd hb hc
  have h3 := march_bd hm
  have w1 := costW_bd (k := c.milks) hb hm
  have w2 := costF_bd hb hm
  refine t68 (by simp [beastL, marchL, KFL, KF]) (by simp [beastL, zeroC, KFL, KF]) ?_
  dsimp only [c68, r68, beastL, marchL, go_sem, Nat.reduceAdd, Nat.reduceMul, Nat.reduceSub]
  refine call (cost_ok b c.milks m hb hm) ?_
  dsimp only [go_sem, Nat.reduceAdd, Nat.reduceMul, Nat.reduceSub]
  generalize hW : costW b c.milks m = W at w1
  generalize hF : costF b m = F at w2
  have hd' : c.water.hi < W.lo ∨ c.fat.hi < F.lo := by
    by_cases h : c.water.hi < W.lo ∨ c.fat.hi < F.lo
    · exact h
    · simp only [afterF, hW, hF, if_neg h] at hd
      split at hd <;> cases hd
  by_cases hw : c.water.hi < W.lo
  · refine unroll 3 ?_
    dsimp only [rnds_succ, go_sem, Nat.reduceAdd, Nat.reduceMul, Nat.reduceSub]
    refine br_t (by decide) ?_
    dsimp only [rnds_succ, go_sem, Nat.reduceAdd, Nat.reduceMul, Nat.reduceSub]
    repeat (first | (refine ixa 0 rfl (by decide) ?_; dsimp only [rnds_succ, go_sem, Nat.reduceAdd, Nat.reduceMul, Nat.reduceSub]) | (refine br_t (by simp; omega) ?_; dsimp only [rnds_succ, zeroC, go_sem, Nat.reduceAdd, Nat.reduceMul, Nat.reduceSub]))
  · have hf : c.fat.hi < F.lo := by omega
    by_cases hp : c.water.lo < W.hi
    · refine unroll 3 ?_
      dsimp only [rnds_succ, go_sem, Nat.reduceAdd, Nat.reduceMul, Nat.reduceSub]
      refine br_t (by decide) ?_
      dsimp only [rnds_succ, go_sem, Nat.reduceAdd, Nat.reduceMul, Nat.reduceSub]
      repeat (first | (refine ixa 0 rfl (by decide) ?_; dsimp only [rnds_succ, go_sem, Nat.reduceAdd, Nat.reduceMul, Nat.reduceSub]) | (refine br_f (by simp; omega) ?_; dsimp only [rnds_succ, go_sem, Nat.reduceAdd, Nat.reduceMul, Nat.reduceSub]) | (refine br_t (by simp; omega) ?_; dsimp only [rnds_succ, go_sem, Nat.reduceAdd, Nat.reduceMul, Nat.reduceSub]))
      simp (disch := omega) only [w64_in]
      refine call (plus2 ⟨max 0 (c.water.lo - W.hi), c.water.hi - W.lo⟩ m.drinks _ (by unfold bdS; simp only; omega) (by unfold bdS; omega)) ?_
      dsimp only [rnds_succ, spanL, go_sem, Nat.reduceAdd, Nat.reduceMul, Nat.reduceSub]
      repeat (first | (refine ixa 0 rfl (by decide) ?_; dsimp only [rnds_succ, go_sem, Nat.reduceAdd, Nat.reduceMul, Nat.reduceSub]) | (refine br_f (by simp; omega) ?_; dsimp only [rnds_succ, go_sem, Nat.reduceAdd, Nat.reduceMul, Nat.reduceSub]) | (refine br_t (by simp; omega) ?_; dsimp only [rnds_succ, go_sem, Nat.reduceAdd, Nat.reduceMul, Nat.reduceSub]))
      simp (disch := omega) only [w64_in]
      refine br_t (by decide) ?_
      dsimp only [rnds_succ, go_sem, Nat.reduceAdd, Nat.reduceMul, Nat.reduceSub]
      repeat (first | (refine ixa 1 rfl (by decide) ?_; dsimp only [rnds_succ, go_sem, Nat.reduceAdd, Nat.reduceMul, Nat.reduceSub]) | (refine br_t (by simp; omega) ?_; dsimp only [rnds_succ, zeroC, go_sem, Nat.reduceAdd, Nat.reduceMul, Nat.reduceSub]))
    · refine unroll 3 ?_
      dsimp only [rnds_succ, go_sem, Nat.reduceAdd, Nat.reduceMul, Nat.reduceSub]
      refine br_t (by decide) ?_
      dsimp only [rnds_succ, go_sem, Nat.reduceAdd, Nat.reduceMul, Nat.reduceSub]
      repeat (first | (refine ixa 0 rfl (by decide) ?_; dsimp only [rnds_succ, go_sem, Nat.reduceAdd, Nat.reduceMul, Nat.reduceSub]) | (refine br_f (by simp; omega) ?_; dsimp only [rnds_succ, go_sem, Nat.reduceAdd, Nat.reduceMul, Nat.reduceSub]) | (refine br_t (by simp; omega) ?_; dsimp only [rnds_succ, go_sem, Nat.reduceAdd, Nat.reduceMul, Nat.reduceSub]))
      simp (disch := omega) only [w64_in]
      refine call (plus2 ⟨max 0 (c.water.lo - W.hi), c.water.hi - W.lo⟩ m.drinks _ (by unfold bdS; simp only; omega) (by unfold bdS; omega)) ?_
      dsimp only [rnds_succ, spanL, go_sem, Nat.reduceAdd, Nat.reduceMul, Nat.reduceSub]
      repeat (first | (refine ixa 0 rfl (by decide) ?_; dsimp only [rnds_succ, go_sem, Nat.reduceAdd, Nat.reduceMul, Nat.reduceSub]) | (refine br_f (by simp; omega) ?_; dsimp only [rnds_succ, go_sem, Nat.reduceAdd, Nat.reduceMul, Nat.reduceSub]) | (refine br_t (by simp; omega) ?_; dsimp only [rnds_succ, go_sem, Nat.reduceAdd, Nat.reduceMul, Nat.reduceSub]))
      simp (disch := omega) only [w64_in]
      refine br_t (by decide) ?_
      dsimp only [rnds_succ, go_sem, Nat.reduceAdd, Nat.reduceMul, Nat.reduceSub]
      repeat (first | (refine ixa 1 rfl (by decide) ?_; dsimp only [rnds_succ, go_sem, Nat.reduceAdd, Nat.reduceMul, Nat.reduceSub]) | (refine br_t (by simp; omega) ?_; dsimp only [rnds_succ, zeroC, go_sem, Nat.reduceAdd, Nat.reduceMul, Nat.reduceSub]))
end Go.Proofs.Ytnlfjchbhgikaaa
