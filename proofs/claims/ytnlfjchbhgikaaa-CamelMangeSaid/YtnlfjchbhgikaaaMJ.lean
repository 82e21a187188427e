import Derived.Test.YtnlfjchbhgikaaaMI
set_option maxRecDepth 100000
set_option maxHeartbeats 4000000
namespace Go.Azalai
def meetsE (n : Int) (first : List Int) (meets : List Meet) (wait : Span) (day : Int) : Int :=
  if !(inR 1 30 n && okSp 1 60 wait && inR 0 100000 day) then 2 else if first.length > 30 ∨ meets.length > 200 then 4 else if !(first.all (inR 0 (n - 1))) || meets.any (oddM n) then 14 else 0
end Go.Azalai
namespace Go.Proofs.Ytnlfjchbhgikaaa
open Go Go.Sx Go.Azalai
theorem meetsR_ok (n : Int) (first : List Int) (meets : List Meet) (wait : Span) (day : Int) (c1 c2 : Bool) (hl1 : first.length ≤ 1000) (hl2 : meets.length ≤ 1000) :
    Ct Try.prog 49 [I n, .sl c1 1 (first.map intL), .sl c2 4 (meets.map meetL), .agg (spanL wait), I day] (I (meetsE n first meets wait day)) := by
  refine t49 (by simp [meetL, KFR_iff, intL, spanL, KFL, KF]) (by simp [KFL, KF]) ?_
  dsimp only [c49, r49, spanL, go_sem, Nat.reduceAdd, Nat.reduceMul, Nat.reduceSub]
  refine call (within_ok n 1 30) ?_
  dsimp only [go_sem, Nat.reduceAdd, Nat.reduceMul, Nat.reduceSub]
  repeat (first | (refine gb ?_; dsimp only [go_sem, Nat.reduceAdd, Nat.reduceMul, Nat.reduceSub]) | (refine call (spanned_ok wait 1 60) ?_; dsimp only [go_sem, Nat.reduceAdd, Nat.reduceMul, Nat.reduceSub]) | (refine call (within_ok day 0 100000) ?_; dsimp only [go_sem, Nat.reduceAdd, Nat.reduceMul, Nat.reduceSub]))
  by_cases h1 : (inR 1 30 n && okSp 1 60 wait && inR 0 100000 day) = true
  case neg =>
    refine br_t (by revert h1; cases inR 1 30 n <;> cases okSp 1 60 wait <;> cases inR 0 100000 day <;> simp) ?_
    dsimp only [go_sem, Nat.reduceAdd, Nat.reduceMul, Nat.reduceSub]
    unfold meetsE
    rw [if_pos (by revert h1; cases inR 1 30 n <;> cases okSp 1 60 wait <;> cases inR 0 100000 day <;> simp)]
  refine br_f (by revert h1; cases inR 1 30 n <;> cases okSp 1 60 wait <;> cases inR 0 100000 day <;> simp) ?_
  dsimp only [go_sem, Nat.reduceAdd, Nat.reduceMul, Nat.reduceSub]
  repeat (refine gb ?_; dsimp only [go_sem, Nat.reduceAdd, Nat.reduceMul, Nat.reduceSub])
  simp only [List.length_map]
  by_cases h2 : first.length > 30 ∨ meets.length > 200
  · refine br_t (by simp; omega) ?_
    dsimp only [go_sem, Nat.reduceAdd, Nat.reduceMul, Nat.reduceSub]
    unfold meetsE
    rw [if_neg (by simp [h1]), if_pos h2]
  refine br_f (by simp; omega) ?_
  dsimp only [go_sem, Nat.reduceAdd, Nat.reduceMul, Nat.reduceSub]
  have hn : 1 ≤ n ∧ n ≤ 30 := by simp only [Bool.and_eq_true, inR, decide_eq_true_eq] at h1; exact h1.1.1
  have hE : meetsE n first meets wait day = if !(first.all (inR 0 (n - 1))) || meets.any (oddM n) then 14 else 0 := by
    unfold meetsE
    rw [if_neg (by simp [h1]), if_neg h2]
  rw [hE]
  clear hE h1 h2
  refine loopO (fun j : Nat => [(11, I j)]) (fun _ => []) (fun j => j ≤ first.length ∧ (first.drop j).all (inR 0 (n - 1)) = first.all (inR 0 (n - 1))) (fun j => first.length - j) 0 ⟨Nat.zero_le _, rfl⟩ ?_ ?_
  · (refine ent_id ?_ ?_ ?_ rfl rfl <;> dsimp only [meetL, intL, id, go_sem, Nat.reduceAdd, Nat.reduceMul, Nat.reduceSub] <;> simp [meetL, intL, KFR_iff, KFR_app, KFR, KFL, KF, mtL_same, mtO, Nat.beq_refl])
  rintro j ⟨hj, hi⟩
  dsimp only [go_sem, Nat.reduceAdd, Nat.reduceMul, Nat.reduceSub]
  simp only [List.length_map]
  by_cases hlt : j < first.length
  · refine br_t (by simpa using hlt) ?_
    dsimp only [go_sem, Nat.reduceAdd, Nat.reduceMul, Nat.reduceSub]
    refine ixs_map j hlt rfl ?_
    dsimp only [intL, go_sem, Nat.reduceAdd, Nat.reduceMul, Nat.reduceSub]
    rw [w64_in (n := n - 1) (by omega) (by omega)]
    refine call (within_ok first[j] 0 (n - 1)) ?_
    dsimp only [go_sem, Nat.reduceAdd, Nat.reduceMul, Nat.reduceSub]
    rw [List.drop_eq_getElem_cons hlt, List.all_cons] at hi
    by_cases hx : inR 0 (n - 1) first[j] = true
    · refine br_f (by simp [hx]) ?_
      dsimp only [go_sem, Nat.reduceAdd, Nat.reduceMul, Nat.reduceSub]
      rw [w64_in (n := (j : Int) + 1) (by omega) (by omega)]
      refine ⟨j + 1, ⟨hlt, by simpa [hx] using hi⟩, by omega, ?_⟩
      (refine ent_id ?_ ?_ ?_ rfl rfl <;> dsimp only [meetL, intL, id, go_sem, Nat.reduceAdd, Nat.reduceMul, Nat.reduceSub] <;> simp [meetL, intL, KFR_iff, KFR_app, KFR, KFL, KF, mtL_same, mtO, Nat.beq_refl])
    · refine br_t (by simp [hx]) ?_
      dsimp only [go_sem, Nat.reduceAdd, Nat.reduceMul, Nat.reduceSub]
      rw [← hi]; simp [hx]
  refine br_f (by simp; omega) ?_
  dsimp only [go_sem, Nat.reduceAdd, Nat.reduceMul, Nat.reduceSub]
  rw [show j = first.length from by omega, List.drop_length] at hi
  rw [← hi]
  refine loopO (fun j : Nat => [(12, I j)]) (fun _ => []) (fun j => j ≤ meets.length ∧ (meets.drop j).any (oddM n) = meets.any (oddM n)) (fun j => meets.length - j) 0 ⟨Nat.zero_le _, rfl⟩ ?_ ?_
  · (refine ent_id ?_ ?_ ?_ rfl rfl <;> dsimp only [meetL, intL, id, go_sem, Nat.reduceAdd, Nat.reduceMul, Nat.reduceSub] <;> simp [meetL, intL, KFR_iff, KFR_app, KFR, KFL, KF, mtL_same, mtO, Nat.beq_refl])
  rintro q ⟨hq, hi2⟩
  dsimp only [go_sem, Nat.reduceAdd, Nat.reduceMul, Nat.reduceSub]
  simp only [List.length_map]
  by_cases hlt2 : q < meets.length
  · refine br_t (by simpa using hlt2) ?_
    dsimp only [go_sem, Nat.reduceAdd, Nat.reduceMul, Nat.reduceSub]
    refine ixs_map q hlt2 rfl ?_
    dsimp only [meetL, go_sem, Nat.reduceAdd, Nat.reduceMul, Nat.reduceSub]
    rw [List.drop_eq_getElem_cons hlt2, List.any_cons] at hi2
    generalize meets[q] = m at hi2
    rw [w64_in (n := n - 1) (by omega) (by omega)]
    refine call (within_ok m.a 0 (n - 1)) ?_
    dsimp only [go_sem, Nat.reduceAdd, Nat.reduceMul, Nat.reduceSub]
    repeat (first | (refine gb ?_; dsimp only [go_sem, Nat.reduceAdd, Nat.reduceMul, Nat.reduceSub]) | (refine call (within_ok m.b 0 (n - 1)) ?_; dsimp only [go_sem, Nat.reduceAdd, Nat.reduceMul, Nat.reduceSub]) | (refine call (within_ok m.day 0 100000) ?_; dsimp only [go_sem, Nat.reduceAdd, Nat.reduceMul, Nat.reduceSub]) | (rw [w64_in (n := n - 1) (by omega) (by omega)]))
    rw [show (!inR 0 (n - 1) m.a || !inR 0 (n - 1) m.b || m.a == m.b || !inR 0 100000 m.day) = oddM n m from by unfold oddM; rw [Bool.not_and]; rfl]
    by_cases hx : oddM n m = true
    · refine br_t hx ?_
      dsimp only [go_sem, Nat.reduceAdd, Nat.reduceMul, Nat.reduceSub]
      rw [← hi2]; simp [hx]
    · refine br_f (by simpa using hx) ?_
      dsimp only [go_sem, Nat.reduceAdd, Nat.reduceMul, Nat.reduceSub]
      rw [w64_in (n := (q : Int) + 1) (by omega) (by omega)]
      refine ⟨q + 1, ⟨hlt2, by simpa [hx] using hi2⟩, by omega, ?_⟩
      (refine ent_id ?_ ?_ ?_ rfl rfl <;> dsimp only [meetL, intL, id, go_sem, Nat.reduceAdd, Nat.reduceMul, Nat.reduceSub] <;> simp [meetL, intL, KFR_iff, KFR_app, KFR, KFL, KF, mtL_same, mtO, Nat.beq_refl])
  refine br_f (by simp; omega) ?_
  dsimp only [go_sem, Nat.reduceAdd, Nat.reduceMul, Nat.reduceSub]
  rw [show q = meets.length from by omega, List.drop_length] at hi2
  rw [← hi2]
  simp
end Go.Proofs.Ytnlfjchbhgikaaa
