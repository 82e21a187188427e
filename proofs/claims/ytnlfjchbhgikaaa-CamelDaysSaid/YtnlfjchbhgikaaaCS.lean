import Derived.Test.YtnlfjchbhgikaaaCR
set_option maxRecDepth 100000
set_option maxHeartbeats 4000000
namespace Go.Azalai
theorem daysG_bd (b : Breed) : ∀ (l : List March) (c : Camel) (out : List Camel) (worst : Int), 0 ≤ worst → worst ≤ 2 → (0 ≤ (daysG b c out worst l).2.1 ∧ (daysG b c out worst l).2.1 ≤ 2) ∧ (daysG b c out worst l).1.length ≤ out.length + l.length
  | [], c, out, worst, h1, h2 => ⟨⟨h1, h2⟩, by simp [daysG]⟩
  | m :: l, c, out, worst, h1, h2 => by
    unfold daysG
    split
    · simp
    · have hf := afterF_fate b c m
      have := daysG_bd b l (afterF b c m).1 (out ++ [(afterF b c m).1]) (max worst (afterF b c m).2) (by omega) (by omega)
      refine ⟨this.1, Nat.le_trans this.2 ?_⟩
      simp; omega
theorem daysF_bd (b : Breed) (c : Camel) (l : List March) : (0 ≤ (daysF b c l).2.1 ∧ (daysF b c l).2.1 ≤ 2) ∧ (daysF b c l).1.length ≤ l.length := by
  unfold daysF
  split
  · simp
  · have := daysG_bd b l c [] 0 (by omega) (by omega)
    simpa using this
theorem afterE_bd (b : Breed) (c : Camel) (m : March) : 0 ≤ (afterE b c m).2.1 ∧ (afterE b c m).2.1 ≤ 2 := by
  unfold afterE
  have hf := afterF_fate b c m
  repeat' split
  all_goals (simp only; omega)
end Go.Azalai
namespace Go.Proofs.Ytnlfjchbhgikaaa
open Go Go.Sx Go.Azalai
theorem sameC_nil : Ct Try.prog 28 [.v (.slice none 0 0), .v (.slice none 0 0)] (B true) := by
  have h := sameC_ok [] (by simp) false false
  refine ⟨h.bd, by simp [KFL, KF], h.kr, fun w ok vs hR => h.run w ok vs ?_⟩
  have one : ∀ y, R w E0 (fun _ => False) ok (.v (.slice none 0 0)) y → R w E0 (fun _ => False) ok (.sl false 7 (([] : List Camel).map camelL)) y := fun y hy => by
    simp only [R] at hy ⊢
    exact ⟨none, 0, 0, hy, rfl, ⟨Nat.le_refl _, fun h => by cases h⟩, by simp, .inl rfl⟩
  simp only [RL] at hR ⊢
  obtain ⟨y, r, rfl, h1, y2, r2, rfl, h2, h3⟩ := hR
  exact ⟨y, _, rfl, one y h1, y2, r2, rfl, one y2 h2, h3⟩
theorem daysLaw_ok (b : Breed) (c : Camel) (l : List March) (m : March) : Ct Try.prog 5 [.agg (breedL b), .agg (camelL c), .sl false 8 (l.map marchL), .agg (marchL m)] (B true) := by
  refine t5 (by simp [breedL, camelL, marchL, KFR_iff, KFL, KF]) (by simp [KFL, KF]) ?_
  dsimp only [c5, r5, breedL, camelL, marchL, go_sem, List.drop, List.take, List.length, List.cons_append, List.nil_append, Nat.beq, Nat.blt, Nat.ble, Nat.reduceAdd, Nat.zero_add, Nat.add_zero, Nat.mul_one, Nat.reduceMul, Nat.zero_mul, Nat.one_mul, Nat.reduceSub, cond_true, cond_false, List.set]
  simp only [List.length_map]
  by_cases hg : l.length > 100
  case pos =>
    refine br_t (by simp; omega) ?_
    dsimp only [go_sem, List.drop, List.take, List.length, List.cons_append, List.nil_append, Nat.beq, Nat.blt, Nat.ble, Nat.reduceAdd, Nat.zero_add, Nat.add_zero, Nat.mul_one, Nat.reduceMul, Nat.zero_mul, Nat.one_mul, Nat.reduceSub, cond_true, cond_false, List.set]
  refine br_f (by simp; omega) ?_
  dsimp only [go_sem, List.drop, List.take, List.length, List.cons_append, List.nil_append, Nat.beq, Nat.blt, Nat.ble, Nat.reduceAdd, Nat.zero_add, Nat.add_zero, Nat.mul_one, Nat.reduceMul, Nat.zero_mul, Nat.one_mul, Nat.reduceSub, cond_true, cond_false, List.set]
  refine app0 (by simp; omega) ?_
  dsimp only [go_sem, List.drop, List.take, List.length, List.cons_append, List.nil_append, Nat.beq, Nat.blt, Nat.ble, Nat.reduceAdd, Nat.zero_add, Nat.add_zero, Nat.mul_one, Nat.reduceMul, Nat.zero_mul, Nat.one_mul, Nat.reduceSub, cond_true, cond_false, List.set]
  refine call (after1_ok b c m) ?_
  dsimp only [U8, camelL, go_sem, List.drop, List.take, List.length, List.cons_append, List.nil_append, Nat.beq, Nat.blt, Nat.ble, Nat.reduceAdd, Nat.zero_add, Nat.add_zero, Nat.mul_one, Nat.reduceMul, Nat.zero_mul, Nat.one_mul, Nat.reduceSub, cond_true, cond_false, List.set]
  refine call (after2_ok b c m) ?_
  dsimp only [camelL, go_sem, List.drop, List.take, List.length, List.cons_append, List.nil_append, Nat.beq, Nat.blt, Nat.ble, Nat.reduceAdd, Nat.zero_add, Nat.add_zero, Nat.mul_one, Nat.reduceMul, Nat.zero_mul, Nat.one_mul, Nat.reduceSub, cond_true, cond_false, List.set]
  refine call (days_ok b c l false (by omega)) ?_
  have hd := daysF_bd b c l
  have ha := afterE_bd b c m
  have hrow : (rowsE (daysF b c l).2.2.2 (daysF b c l).1 = .v (.slice none 0 0)) ∨ rowsE (daysF b c l).2.2.2 (daysF b c l).1 = .sl false 7 ((daysF b c l).1.map camelL) := by
    unfold rowsE; split
    · exact .inr rfl
    · exact .inl rfl
  generalize hro : rowsE (daysF b c l).2.2.2 (daysF b c l).1 = ro at hrow
  have hcall : Ct Try.prog 28 [ro, ro] (B true) := by
    rcases hrow with h | h
    · rw [h]; exact sameC_nil
    · rw [h]; exact sameC_ok _ (by omega) false false
  have hdr := daysR_ok b c l false
  rw [hro] at hdr
  rcases hrow with rfl | rfl
  all_goals
    dsimp only [U8, go_sem, List.drop, List.take, List.length, List.cons_append, List.nil_append, Nat.beq, Nat.blt, Nat.ble, Nat.reduceAdd, Nat.zero_add, Nat.add_zero, Nat.mul_one, Nat.reduceMul, Nat.zero_mul, Nat.one_mul, Nat.reduceSub, cond_true, cond_false, List.set]
    refine call hdr ?_
    dsimp only [go_sem, List.drop, List.take, List.length, List.cons_append, List.nil_append, Nat.beq, Nat.blt, Nat.ble, Nat.reduceAdd, Nat.zero_add, Nat.add_zero, Nat.mul_one, Nat.reduceMul, Nat.zero_mul, Nat.one_mul, Nat.reduceSub, cond_true, cond_false, List.set]
    refine call (lasts_ok b c m) ?_
    dsimp only [tres, spanL, go_sem, List.drop, List.take, List.length, List.cons_append, List.nil_append, Nat.beq, Nat.blt, Nat.ble, Nat.reduceAdd, Nat.zero_add, Nat.add_zero, Nat.mul_one, Nat.reduceMul, Nat.zero_mul, Nat.one_mul, Nat.reduceSub, cond_true, cond_false, List.set]
    refine call (lastsR_ok b c m) ?_
    dsimp only [tres, spanL, go_sem, List.drop, List.take, List.length, List.cons_append, List.nil_append, Nat.beq, Nat.blt, Nat.ble, Nat.reduceAdd, Nat.zero_add, Nat.add_zero, Nat.mul_one, Nat.reduceMul, Nat.zero_mul, Nat.one_mul, Nat.reduceSub, cond_true, cond_false, List.set]
    simp only [List.length_map]
    refine loopO (fun k : Nat => [(85, I k)]) (fun _ => []) (fun k => k ≤ l.length) (fun k => l.length - k) 0 (Nat.zero_le _) ?_ ?_
    · (refine ent_id ?_ ?_ ?_ rfl rfl <;> dsimp only [camelL, breedL, marchL, id, go_sem, List.drop, List.take, List.length, List.cons_append, List.nil_append, Nat.beq, Nat.blt, Nat.ble, Nat.reduceAdd, Nat.zero_add, Nat.add_zero, Nat.mul_one, Nat.reduceMul, Nat.zero_mul, Nat.one_mul, Nat.reduceSub, cond_true, cond_false, List.set] <;> simp [camelL, breedL, marchL, KFR_iff, KFR_app, KFR, KFL, KF, mtL_same, mtO, Nat.beq_refl])
    intro j hj
    dsimp only [go_sem, List.drop, List.take, List.length, List.cons_append, List.nil_append, Nat.beq, Nat.blt, Nat.ble, Nat.reduceAdd, Nat.zero_add, Nat.add_zero, Nat.mul_one, Nat.reduceMul, Nat.zero_mul, Nat.one_mul, Nat.reduceSub, cond_true, cond_false, List.set]
    by_cases hlt : j < l.length
    · refine br_t (by simpa using hlt) ?_
      dsimp only [go_sem, List.drop, List.take, List.length, List.cons_append, List.nil_append, Nat.beq, Nat.blt, Nat.ble, Nat.reduceAdd, Nat.zero_add, Nat.add_zero, Nat.mul_one, Nat.reduceMul, Nat.zero_mul, Nat.one_mul, Nat.reduceSub, cond_true, cond_false, List.set]
      refine ixs_map j hlt rfl ?_
      dsimp only [go_sem, List.drop, List.take, List.length, List.cons_append, List.nil_append, Nat.beq, Nat.blt, Nat.ble, Nat.reduceAdd, Nat.zero_add, Nat.add_zero, Nat.mul_one, Nat.reduceMul, Nat.zero_mul, Nat.one_mul, Nat.reduceSub, cond_true, cond_false, List.set]
      refine ixs_map j hlt rfl ?_
      dsimp only [marchL, go_sem, List.drop, List.take, List.length, List.cons_append, List.nil_append, Nat.beq, Nat.blt, Nat.ble, Nat.reduceAdd, Nat.zero_add, Nat.add_zero, Nat.mul_one, Nat.reduceMul, Nat.zero_mul, Nat.one_mul, Nat.reduceSub, cond_true, cond_false, List.set]
      refine br_f (by simp [ngB]) ?_
      dsimp only [go_sem, List.drop, List.take, List.length, List.cons_append, List.nil_append, Nat.beq, Nat.blt, Nat.ble, Nat.reduceAdd, Nat.zero_add, Nat.add_zero, Nat.mul_one, Nat.reduceMul, Nat.zero_mul, Nat.one_mul, Nat.reduceSub, cond_true, cond_false, List.set]
      rw [w64_in (n := (j : Int) + 1) (by omega) (by omega)]
      refine ⟨j + 1, hlt, by omega, ?_⟩
      (refine ent_id ?_ ?_ ?_ rfl rfl <;> dsimp only [camelL, breedL, marchL, id, go_sem, List.drop, List.take, List.length, List.cons_append, List.nil_append, Nat.beq, Nat.blt, Nat.ble, Nat.reduceAdd, Nat.zero_add, Nat.add_zero, Nat.mul_one, Nat.reduceMul, Nat.zero_mul, Nat.one_mul, Nat.reduceSub, cond_true, cond_false, List.set] <;> simp [camelL, breedL, marchL, KFR_iff, KFR_app, KFR, KFL, KF, mtL_same, mtO, Nat.beq_refl])
    refine br_f (by simp; omega) ?_
    dsimp only [go_sem, List.drop, List.take, List.length, List.cons_append, List.nil_append, Nat.beq, Nat.blt, Nat.ble, Nat.reduceAdd, Nat.zero_add, Nat.add_zero, Nat.mul_one, Nat.reduceMul, Nat.zero_mul, Nat.one_mul, Nat.reduceSub, cond_true, cond_false, List.set]
    simp (disch := omega) only [w64_in, beq_self_eq_true, Bool.and_self, Bool.true_and]
    repeat (first | (refine gb ?_; dsimp only [go_sem, List.drop, List.take, List.length, List.cons_append, List.nil_append, Nat.beq, Nat.blt, Nat.ble, Nat.reduceAdd, Nat.zero_add, Nat.add_zero, Nat.mul_one, Nat.reduceMul, Nat.zero_mul, Nat.one_mul, Nat.reduceSub, cond_true, cond_false, List.set]) | (refine call hcall ?_; dsimp only [go_sem, List.drop, List.take, List.length, List.cons_append, List.nil_append, Nat.beq, Nat.blt, Nat.ble, Nat.reduceAdd, Nat.zero_add, Nat.add_zero, Nat.mul_one, Nat.reduceMul, Nat.zero_mul, Nat.one_mul, Nat.reduceSub, cond_true, cond_false, List.set]))
    simp (disch := omega) [w64_in]
end Go.Proofs.Ytnlfjchbhgikaaa
