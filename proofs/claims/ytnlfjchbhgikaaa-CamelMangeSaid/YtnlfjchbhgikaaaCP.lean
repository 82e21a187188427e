import Derived.Test.YtnlfjchbhgikaaaCO
set_option maxRecDepth 100000
set_option maxHeartbeats 4000000
namespace Go.Proofs.Ytnlfjchbhgikaaa
open Go Go.Sx Go.Azalai
def iterO (b : Breed) (c : Camel) (l : List March) (k : Bool) : Ot := ⟨false, .cl 95 [.p 1 0, .p 0 0], [(1, .cells [.sl k 8 (l.map marchL)] 44), (0, .cells (beastL b c) 107)], 2⟩
theorem iter_ok (b : Breed) (c : Camel) (l : List March) (k : Bool) : CtM Try.prog 75 [] 0 [.agg (beastL b c), .sl k 8 (l.map marchL)] (fun o => o = iterO b c l k) := by
  refine m75 (by simp [hpb]) (fun o ho => by subst ho; simp [iterO, KX, KXL, KXP, KXH, KFR_iff, KFL, KF, marchL, beastL]) ?_
  dsimp only [c75, r75, beastL, go_sem, Nat.reduceAdd, Nat.reduceMul, Nat.reduceSub]
  refine ⟨_, rfl, ?_⟩
  simp only [iterO]
  (refine entO_id ?_ ?_ ?_ rfl <;> dsimp only [beastL, marchL, id, go_sem, Nat.reduceAdd, Nat.reduceMul, Nat.reduceSub] <;> simp [beastL, marchL, KFR_iff, KFR_app, KFR, KFL, KF, mtL_same, mtO, Nat.beq_refl])
theorem days_ok (b : Breed) (c : Camel) (l : List March) (k : Bool) (hl0 : l.length < 4611686018427387904) : Ct Try.prog 31 [.agg (breedL b), .agg (camelL c), .sl k 8 (l.map marchL)] (.tup [rowsE (daysF b c l).2.2.2 (daysF b c l).1, U8 (daysF b c l).2.1, I (daysF b c l).2.2.1, I (daysF b c l).2.2.2]) := by
  refine t31 (by simp [breedL, camelL, marchL, KFR_iff, KFL, KF]) (by unfold rowsE; split <;> simp [KFL, KF, KFR_iff, camelL, U8]) ?_
  dsimp only [c31, r31, breedL, camelL, go_sem, Nat.reduceAdd, Nat.reduceMul, Nat.reduceSub]
  refine call (checkL_ok b c l hl0 k) ?_
  dsimp only [go_sem, Nat.reduceAdd, Nat.reduceMul, Nat.reduceSub]
  by_cases h0 : errL b c l = 0
  case neg =>
    refine br_t (by simpa using h0) ?_
    dsimp only [go_sem, Nat.reduceAdd, Nat.reduceMul, Nat.reduceSub]
    simp [daysF, h0, rowsE, U8]
  refine br_f (by simpa using h0) ?_
  dsimp only [go_sem, Nat.reduceAdd, Nat.reduceMul, Nat.reduceSub]
  obtain ⟨hb, hc, h60, hl⟩ := errL_0 h0
  have hall := List.all_eq_true.1 hl
  have hbd := breed_bd hb
  have hF : daysF b c l = daysG b c [] 0 l := by simp [daysF, h0]
  rw [hF]
  refine callmL [] (iter_ok b c l k) rfl rfl rfl ?_ ?_ ?_
  · exact mtL_same (by simp [breedL, camelL, beastL, marchL, KFR_iff, KFL, KF])
  · trivial
  dsimp only [iterO, beastL, go_sem, Nat.reduceAdd, Nat.reduceMul, Nat.reduceSub]
  refine gh (ent_nilcell 2 0 7 27 rfl rfl) ?_
  dsimp only [go_sem, Nat.reduceAdd, Nat.reduceMul, Nat.reduceSub]
  refine ⟨b95, fun rec => ?_⟩
  refine y95 ?_
  dsimp only [c95, r95, go_sem, Nat.reduceAdd, Nat.reduceMul, Nat.reduceSub]
  refine loopO (fun s : Nat × Nat × Camel × List Camel × Int => [(10, I s.1)]) (fun s => [(6, .cells (beastL b s.2.2.1) 107), (2, .cells [.mr 8 s.2.1] 45), (3, .cells [U8 s.2.2.2.2] 5), (8, .row s.2.1 7 (s.2.2.2.1.map camelL) 27)])
    (fun s => s.1 ≤ l.length ∧ okCamel b s.2.2.1 = true ∧ s.2.2.2.1.length = s.1 ∧ (0 ≤ s.2.2.2.2 ∧ s.2.2.2.2 ≤ 2) ∧ daysG b s.2.2.1 s.2.2.2.1 s.2.2.2.2 (l.drop s.1) = daysG b c [] 0 l) (fun s => l.length - s.1) (0, 0, c, [], 0) ⟨Nat.zero_le _, hc, rfl, ⟨Int.le_refl _, by simp⟩, rfl⟩ ?_ ?_
  · (refine ent_id ?_ ?_ ?_ rfl rfl <;> dsimp only [breedL, camelL, marchL, beastL, U8, id, go_sem, Nat.reduceAdd, Nat.reduceMul, Nat.reduceSub] <;> simp [breedL, camelL, marchL, beastL, U8, KFR_iff, KFR_app, KFR, KFL, KF, mtL_same, mtO, Nat.beq_refl])
  rintro ⟨j, v, c1, out, worst⟩ ⟨hj, hc1, ho, hw, hi⟩
  simp only at hj hc1 ho hw hi
  dsimp only [beastL, U8, go_sem, Nat.reduceAdd, Nat.reduceMul, Nat.reduceSub]
  simp only [List.length_map]
  by_cases hlt : j < l.length
  · refine br_t (by simpa using hlt) ?_
    dsimp only [go_sem, Nat.reduceAdd, Nat.reduceMul, Nat.reduceSub]
    rw [List.drop_eq_getElem_cons hlt, daysG] at hi
    have hm := hall l[j] (List.getElem_mem _)
    refine ixs_map j hlt rfl ?_
    dsimp only [marchL, go_sem, Nat.reduceAdd, Nat.reduceMul, Nat.reduceSub]
    by_cases hf2 : (afterF b c1 l[j]).2 = 2
    · refine call (day_dies b c1 l[j] hb hc1 hm hf2) ?_
      dsimp only [beastL, zeroC, go_sem, Nat.reduceAdd, Nat.reduceMul, Nat.reduceSub]
      refine ⟨rfl, rfl, ?_⟩
      refine br_t (by decide) ?_
      dsimp only [go_sem, Nat.reduceAdd, Nat.reduceMul, Nat.reduceSub]
      simp only [Nat.beq_refl]
      dsimp only [go_sem, Nat.reduceAdd, Nat.reduceMul, Nat.reduceSub]
      refine ⟨rfl, ?_⟩
      refine gb ?_
      dsimp only [go_sem, Nat.reduceAdd, Nat.reduceMul, Nat.reduceSub]
      refine gb ?_
      dsimp only [go_sem, Nat.reduceAdd, Nat.reduceMul, Nat.reduceSub]
      refine br_t (by decide) ?_
      dsimp only [go_sem, Nat.reduceAdd, Nat.reduceMul, Nat.reduceSub]
      rw [if_pos hf2] at hi
      rw [← hi]
      simp [rowsE]
    refine call (day_ok b c1 l[j] hb hc1 hm hf2) ?_
    dsimp only [beastL, go_sem, Nat.reduceAdd, Nat.reduceMul, Nat.reduceSub]
    refine ⟨rfl, rfl, ?_⟩
    refine br_f (by simpa using hf2) ?_
    dsimp only [go_sem, Nat.reduceAdd, Nat.reduceMul, Nat.reduceSub]
    simp only [Nat.beq_refl]
    dsimp only [go_sem, Nat.reduceAdd, Nat.reduceMul, Nat.reduceSub]
    refine ⟨(by intro c hc; simp only [List.mem_singleton] at hc; subst hc; rfl), by simp; omega, ?_⟩
    dsimp only [go_sem, Nat.reduceAdd, Nat.reduceMul, Nat.reduceSub]
    refine ⟨rfl, ?_⟩
    refine gb ?_
    dsimp only [go_sem, Nat.reduceAdd, Nat.reduceMul, Nat.reduceSub]
    refine gb ?_
    dsimp only [go_sem, Nat.reduceAdd, Nat.reduceMul, Nat.reduceSub]
    refine br_f (by simpa using hf2) ?_
    dsimp only [go_sem, Nat.reduceAdd, Nat.reduceMul, Nat.reduceSub]
    rw [if_neg (by simpa using hf2)] at hi
    have hfr : 0 ≤ (afterF b c1 l[j]).2 ∧ (afterF b c1 l[j]).2 ≤ 2 := by
      unfold afterF; simp only; split
      · simp
      · simp only; split <;> simp
    rw [w64_in (n := (j : Int) + 1) (by omega) (by omega)]
    refine ⟨(j + 1, v + 1, (afterF b c1 l[j]).1, out ++ [(afterF b c1 l[j]).1], max worst (afterF b c1 l[j]).2), ⟨hlt, after_ok hb hc1 hm hf2, by simp [ho], (by simp only; omega), hi⟩, by simp only; omega, ?_⟩
    (refine ent_id ?_ ?_ ?_ rfl rfl <;> dsimp only [breedL, camelL, marchL, beastL, U8, id, go_sem, Nat.reduceAdd, Nat.reduceMul, Nat.reduceSub] <;> simp [breedL, camelL, marchL, beastL, U8, KFR_iff, KFR_app, KFR, KFL, KF, mtL_same, mtO, Nat.beq_refl])
  refine br_f (by simp; omega) ?_
  dsimp only [go_sem, Nat.reduceAdd, Nat.reduceMul, Nat.reduceSub]
  have hje : j = l.length := by omega
  subst hje
  rw [List.drop_length, daysG] at hi
  simp only [Nat.beq_refl]
  rw [← hi]
  simp [rowsE, vwN]
end Go.Proofs.Ytnlfjchbhgikaaa
