import Derived.Test.YtnlfjchbhgikaaaCQ
set_option maxRecDepth 100000
set_option maxHeartbeats 4000000
namespace Go.Azalai
def lastsG (b : Breed) (m : March) : Nat → Camel → Int → Int → Bool → Span
  | 0, _, lo, hi, _ => ⟨lo, hi⟩
  | k + 1, c, lo, hi, s =>
    if (afterF b c m).2 = 2 then ⟨lo, hi⟩
    else lastsG b m k (afterF b c m).1 (if (s && decide ((afterF b c m).2 = 0)) = true then lo + 1 else lo) (hi + 1) (s && decide ((afterF b c m).2 = 0))
def lastsF (b : Breed) (c : Camel) (m : March) : Span × Int := if errL b c [m] ≠ 0 then (⟨0, 0⟩, errL b c [m]) else (lastsG b m 60 c 0 0 true, 0)
theorem afterF_fate (b : Breed) (c : Camel) (m : March) : (afterF b c m).2 = 0 ∨ (afterF b c m).2 = 1 ∨ (afterF b c m).2 = 2 := by
  unfold afterF; simp only; split
  · simp
  · simp only; split <;> simp
end Go.Azalai
namespace Go.Proofs.Ytnlfjchbhgikaaa
open Go Go.Sx Go.Azalai
theorem lastsR_ok (b : Breed) (c : Camel) (m : March) : Ct Try.prog 34 [.agg (breedL b), .agg (camelL c), .agg (marchL m)] (tres (lastsF b c m)) := by
  refine t34 (by simp [breedL, camelL, marchL, KFL, KF]) (by simp [tres, spanL, KFL, KF]) ?_
  dsimp only [c34, r34, breedL, camelL, marchL, tres, spanL, go_sem, List.drop, List.take, List.length, List.cons_append, List.nil_append, Nat.beq, Nat.blt, Nat.ble, Nat.reduceAdd, Nat.zero_add, Nat.add_zero, Nat.mul_one, Nat.reduceMul, Nat.zero_mul, Nat.one_mul, Nat.reduceSub, cond_true, cond_false, List.set]
  refine call (askedL_ok b c [m] true) ?_
  dsimp only [go_sem, List.drop, List.take, List.length, List.cons_append, List.nil_append, Nat.beq, Nat.blt, Nat.ble, Nat.reduceAdd, Nat.zero_add, Nat.add_zero, Nat.mul_one, Nat.reduceMul, Nat.zero_mul, Nat.one_mul, Nat.reduceSub, cond_true, cond_false, List.set]
  by_cases h0 : errL b c [m] = 0
  case neg =>
    refine br_t (by simpa using h0) ?_
    dsimp only [go_sem, List.drop, List.take, List.length, List.cons_append, List.nil_append, Nat.beq, Nat.blt, Nat.ble, Nat.reduceAdd, Nat.zero_add, Nat.add_zero, Nat.mul_one, Nat.reduceMul, Nat.zero_mul, Nat.one_mul, Nat.reduceSub, cond_true, cond_false, List.set]
    simp [lastsF, h0]
  refine br_f (by simpa using h0) ?_
  dsimp only [go_sem, List.drop, List.take, List.length, List.cons_append, List.nil_append, Nat.beq, Nat.blt, Nat.ble, Nat.reduceAdd, Nat.zero_add, Nat.add_zero, Nat.mul_one, Nat.reduceMul, Nat.zero_mul, Nat.one_mul, Nat.reduceSub, cond_true, cond_false, List.set]
  obtain ⟨hb, hc, _, hl⟩ := errL_0 h0
  have hm : okMarch m = true := by simpa using hl
  have hF : lastsF b c m = (lastsG b m 60 c 0 0 true, 0) := by simp [lastsF, h0]
  rw [hF]
  refine loopO (fun s : Nat × Camel × Int × Bool => [(10, I s.1)]) (fun s => [(1, .cells (camelL s.2.1) 27), (4, .cells [I (if s.2.2.2 = true then 60 else s.2.2.1), I 60] 23)])
    (fun s => s.1 ≤ 60 ∧ okCamel b s.2.1 = true ∧ (0 ≤ s.2.2.1 ∧ s.2.2.1 ≤ s.1 ∧ (s.2.2.2 = true → s.2.2.1 = s.1)) ∧ lastsG b m (60 - s.1) s.2.1 s.2.2.1 s.1 s.2.2.2 = lastsG b m 60 c 0 0 true) (fun s => 60 - s.1) (0, c, 0, true) ⟨by simp, hc, by simp, rfl⟩ ?_ ?_
  · (refine ent_id ?_ ?_ ?_ rfl rfl <;> dsimp only [breedL, camelL, marchL, id, go_sem, List.drop, List.take, List.length, List.cons_append, List.nil_append, Nat.beq, Nat.blt, Nat.ble, Nat.reduceAdd, Nat.zero_add, Nat.add_zero, Nat.mul_one, Nat.reduceMul, Nat.zero_mul, Nat.one_mul, Nat.reduceSub, cond_true, cond_false, List.set] <;> simp [breedL, camelL, marchL, KFR_iff, KFR_app, KFR, KFL, KF, mtL_same, mtO, Nat.beq_refl])
  rintro ⟨j, c1, lo, s⟩ ⟨hj, hc1, hs, hi⟩
  simp only at hj hc1 hs hi
  dsimp only [camelL, go_sem, List.drop, List.take, List.length, List.cons_append, List.nil_append, Nat.beq, Nat.blt, Nat.ble, Nat.reduceAdd, Nat.zero_add, Nat.add_zero, Nat.mul_one, Nat.reduceMul, Nat.zero_mul, Nat.one_mul, Nat.reduceSub, cond_true, cond_false, List.set]
  by_cases hlt : j < 60
  · refine br_t (by simp; omega) ?_
    dsimp only [go_sem, List.drop, List.take, List.length, List.cons_append, List.nil_append, Nat.beq, Nat.blt, Nat.ble, Nat.reduceAdd, Nat.zero_add, Nat.add_zero, Nat.mul_one, Nat.reduceMul, Nat.zero_mul, Nat.one_mul, Nat.reduceSub, cond_true, cond_false, List.set]
    rw [show 60 - j = (60 - (j + 1)) + 1 from by omega, lastsG] at hi
    refine call (afterR_ok b c1 m hb hc1 hm) ?_
    dsimp only [camelL, go_sem, List.drop, List.take, List.length, List.cons_append, List.nil_append, Nat.beq, Nat.blt, Nat.ble, Nat.reduceAdd, Nat.zero_add, Nat.add_zero, Nat.mul_one, Nat.reduceMul, Nat.zero_mul, Nat.one_mul, Nat.reduceSub, cond_true, cond_false, List.set]
    by_cases hf2 : (afterF b c1 m).2 = 2
    · refine br_t (by simpa using hf2) ?_
      dsimp only [go_sem, List.drop, List.take, List.length, List.cons_append, List.nil_append, Nat.beq, Nat.blt, Nat.ble, Nat.reduceAdd, Nat.zero_add, Nat.add_zero, Nat.mul_one, Nat.reduceMul, Nat.zero_mul, Nat.one_mul, Nat.reduceSub, cond_true, cond_false, List.set]
      rw [if_pos hf2] at hi
      rw [← hi]
      have : min (if s = true then 60 else lo) (j : Int) = lo := by cases s <;> simp at hs ⊢ <;> omega
      simp [this]
    refine br_f (by simpa using hf2) ?_
    dsimp only [go_sem, List.drop, List.take, List.length, List.cons_append, List.nil_append, Nat.beq, Nat.blt, Nat.ble, Nat.reduceAdd, Nat.zero_add, Nat.add_zero, Nat.mul_one, Nat.reduceMul, Nat.zero_mul, Nat.one_mul, Nat.reduceSub, cond_true, cond_false, List.set]
    rw [if_neg hf2] at hi
    by_cases hf1 : (afterF b c1 m).2 = 1
    · refine br_t (by simpa using hf1) ?_
      dsimp only [go_sem, List.drop, List.take, List.length, List.cons_append, List.nil_append, Nat.beq, Nat.blt, Nat.ble, Nat.reduceAdd, Nat.zero_add, Nat.add_zero, Nat.mul_one, Nat.reduceMul, Nat.zero_mul, Nat.one_mul, Nat.reduceSub, cond_true, cond_false, List.set]
      have hmin : min (if s = true then 60 else lo) (j : Int) = lo := by cases s <;> simp at hs ⊢ <;> omega
      rw [hmin]
      rw [w64_in (n := (j : Int) + 1) (by omega) (by omega)]
      have hs0 : (s && decide ((afterF b c1 m).2 = 0)) = false := by simp [hf1]
      rw [hs0] at hi
      refine ⟨(j + 1, (afterF b c1 m).1, lo, false), ⟨by simp only; omega, after_ok hb hc1 hm hf2, by simp; omega, by simpa using hi⟩, by simp only; omega, ?_⟩
      (refine ent_id ?_ ?_ ?_ rfl rfl <;> dsimp only [breedL, camelL, marchL, id, go_sem, List.drop, List.take, List.length, List.cons_append, List.nil_append, Nat.beq, Nat.blt, Nat.ble, Nat.reduceAdd, Nat.zero_add, Nat.add_zero, Nat.mul_one, Nat.reduceMul, Nat.zero_mul, Nat.one_mul, Nat.reduceSub, cond_true, cond_false, List.set] <;> simp [breedL, camelL, marchL, KFR_iff, KFR_app, KFR, KFL, KF, mtL_same, mtO, Nat.beq_refl])
    refine br_f (by simpa using hf1) ?_
    dsimp only [go_sem, List.drop, List.take, List.length, List.cons_append, List.nil_append, Nat.beq, Nat.blt, Nat.ble, Nat.reduceAdd, Nat.zero_add, Nat.add_zero, Nat.mul_one, Nat.reduceMul, Nat.zero_mul, Nat.one_mul, Nat.reduceSub, cond_true, cond_false, List.set]
    have hf0 : (afterF b c1 m).2 = 0 := by rcases afterF_fate b c1 m with h | h | h; exact h; exact absurd h hf1; exact absurd h hf2
    rw [w64_in (n := (j : Int) + 1) (by omega) (by omega)]
    have hs0 : (s && decide ((afterF b c1 m).2 = 0)) = s := by simp [hf0]
    rw [hs0] at hi
    refine ⟨(j + 1, (afterF b c1 m).1, if s = true then lo + 1 else lo, s), ⟨by simp only; omega, after_ok hb hc1 hm hf2, by cases s <;> simp at hs ⊢ <;> omega, by simpa using hi⟩, by simp only; omega, ?_⟩
    cases s <;> (refine ent_id ?_ ?_ ?_ rfl rfl <;> dsimp only [breedL, camelL, marchL, id, go_sem, List.drop, List.take, List.length, List.cons_append, List.nil_append, Nat.beq, Nat.blt, Nat.ble, Nat.reduceAdd, Nat.zero_add, Nat.add_zero, Nat.mul_one, Nat.reduceMul, Nat.zero_mul, Nat.one_mul, Nat.reduceSub, cond_true, cond_false, List.set] <;> simp [breedL, camelL, marchL, KFR_iff, KFR_app, KFR, KFL, KF, mtL_same, mtO, Nat.beq_refl])
  refine br_f (by simp; omega) ?_
  dsimp only [go_sem, List.drop, List.take, List.length, List.cons_append, List.nil_append, Nat.beq, Nat.blt, Nat.ble, Nat.reduceAdd, Nat.zero_add, Nat.add_zero, Nat.mul_one, Nat.reduceMul, Nat.zero_mul, Nat.one_mul, Nat.reduceSub, cond_true, cond_false, List.set]
  have hje : j = 60 := by omega
  subst hje
  rw [show 60 - 60 = 0 from rfl, lastsG] at hi
  rw [← hi]
  cases s <;> simp at hs ⊢ <;> omega
theorem lasts_ok (b : Breed) (c : Camel) (m : March) : Ct Try.prog 33 [.agg (breedL b), .agg (camelL c), .agg (marchL m)] (tres (lastsF b c m)) := by
  refine t33 (by simp [breedL, camelL, marchL, KFL, KF]) (by simp [tres, spanL, KFL, KF]) ?_
  dsimp only [c33, r33, breedL, camelL, marchL, tres, spanL, go_sem, List.drop, List.take, List.length, List.cons_append, List.nil_append, Nat.beq, Nat.blt, Nat.ble, Nat.reduceAdd, Nat.zero_add, Nat.add_zero, Nat.mul_one, Nat.reduceMul, Nat.zero_mul, Nat.one_mul, Nat.reduceSub, cond_true, cond_false, List.set]
  refine call (checkL_ok b c [m] (by simp) true) ?_
  dsimp only [go_sem, List.drop, List.take, List.length, List.cons_append, List.nil_append, Nat.beq, Nat.blt, Nat.ble, Nat.reduceAdd, Nat.zero_add, Nat.add_zero, Nat.mul_one, Nat.reduceMul, Nat.zero_mul, Nat.one_mul, Nat.reduceSub, cond_true, cond_false, List.set]
  by_cases h0 : errL b c [m] = 0
  case neg =>
    refine br_t (by simpa using h0) ?_
    dsimp only [go_sem, List.drop, List.take, List.length, List.cons_append, List.nil_append, Nat.beq, Nat.blt, Nat.ble, Nat.reduceAdd, Nat.zero_add, Nat.add_zero, Nat.mul_one, Nat.reduceMul, Nat.zero_mul, Nat.one_mul, Nat.reduceSub, cond_true, cond_false, List.set]
    simp [lastsF, h0]
  refine br_f (by simpa using h0) ?_
  dsimp only [go_sem, List.drop, List.take, List.length, List.cons_append, List.nil_append, Nat.beq, Nat.blt, Nat.ble, Nat.reduceAdd, Nat.zero_add, Nat.add_zero, Nat.mul_one, Nat.reduceMul, Nat.zero_mul, Nat.one_mul, Nat.reduceSub, cond_true, cond_false, List.set]
  obtain ⟨hb, hc, _, hl⟩ := errL_0 h0
  have hm : okMarch m = true := by simpa using hl
  have hF : lastsF b c m = (lastsG b m 60 c 0 0 true, 0) := by simp [lastsF, h0]
  rw [hF]
  refine call (rep_ok m 60 (by decide) (by decide) true) ?_
  rw [← List.map_replicate]
  obtain ⟨l, hl⟩ : ∃ l, l = List.replicate 60 m := ⟨_, rfl⟩
  rw [← hl]
  have hl60 : l.length = 60 := by rw [hl]; simp
  have hlm : ∀ (j : Nat) (h : j < l.length), l[j] = m := fun j h => by subst hl; exact List.getElem_replicate _
  clear hl
  dsimp only [go_sem, List.drop, List.take, List.length, List.cons_append, List.nil_append, Nat.beq, Nat.blt, Nat.ble, Nat.reduceAdd, Nat.zero_add, Nat.add_zero, Nat.mul_one, Nat.reduceMul, Nat.zero_mul, Nat.one_mul, Nat.reduceSub, cond_true, cond_false, List.set]
  refine callmL [] (iter_ok b c l false) rfl rfl rfl ?_ ?_ ?_
  · exact mtL_same (by simp [breedL, camelL, beastL, marchL, KFR_iff, KFL, KF])
  · trivial
  dsimp only [iterO, beastL, go_sem, List.drop, List.take, List.length, List.cons_append, List.nil_append, Nat.beq, Nat.blt, Nat.ble, Nat.reduceAdd, Nat.zero_add, Nat.add_zero, Nat.mul_one, Nat.reduceMul, Nat.zero_mul, Nat.one_mul, Nat.reduceSub, cond_true, cond_false, List.set]
  refine gh ent_refl ?_
  dsimp only [go_sem, List.drop, List.take, List.length, List.cons_append, List.nil_append, Nat.beq, Nat.blt, Nat.ble, Nat.reduceAdd, Nat.zero_add, Nat.add_zero, Nat.mul_one, Nat.reduceMul, Nat.zero_mul, Nat.one_mul, Nat.reduceSub, cond_true, cond_false, List.set]
  refine ⟨b95, fun rec => ?_⟩
  refine y95 ?_
  dsimp only [c95, r95, go_sem, List.drop, List.take, List.length, List.cons_append, List.nil_append, Nat.beq, Nat.blt, Nat.ble, Nat.reduceAdd, Nat.zero_add, Nat.add_zero, Nat.mul_one, Nat.reduceMul, Nat.zero_mul, Nat.one_mul, Nat.reduceSub, cond_true, cond_false, List.set]
  refine loopO (fun s : Nat × Camel × Int × Bool => [(10, I s.1)]) (fun s => [(6, .cells (beastL b s.2.1) 107), (4, .cells [I s.2.2.1, I s.1] 23), (5, .cells [B s.2.2.2] 4)])
    (fun s => s.1 ≤ 60 ∧ okCamel b s.2.1 = true ∧ (0 ≤ s.2.2.1 ∧ s.2.2.1 ≤ s.1) ∧ lastsG b m (60 - s.1) s.2.1 s.2.2.1 s.1 s.2.2.2 = lastsG b m 60 c 0 0 true) (fun s => 60 - s.1) (0, c, 0, true) ⟨by simp, hc, by simp, rfl⟩ ?_ ?_
  · (refine ent_id ?_ ?_ ?_ rfl rfl <;> dsimp only [breedL, camelL, marchL, beastL, id, go_sem, List.drop, List.take, List.length, List.cons_append, List.nil_append, Nat.beq, Nat.blt, Nat.ble, Nat.reduceAdd, Nat.zero_add, Nat.add_zero, Nat.mul_one, Nat.reduceMul, Nat.zero_mul, Nat.one_mul, Nat.reduceSub, cond_true, cond_false, List.set] <;> simp [breedL, camelL, marchL, beastL, KFR_iff, KFR_app, KFR, KFL, KF, mtL_same, mtO, Nat.beq_refl])
  rintro ⟨j, c1, lo, s⟩ ⟨hj, hc1, hs, hi⟩
  simp only at hj hc1 hs hi
  dsimp only [beastL, go_sem, List.drop, List.take, List.length, List.cons_append, List.nil_append, Nat.beq, Nat.blt, Nat.ble, Nat.reduceAdd, Nat.zero_add, Nat.add_zero, Nat.mul_one, Nat.reduceMul, Nat.zero_mul, Nat.one_mul, Nat.reduceSub, cond_true, cond_false, List.set]
  simp only [List.length_map, hl60]
  by_cases hlt : j < 60
  · refine br_t (by simp; omega) ?_
    dsimp only [go_sem, List.drop, List.take, List.length, List.cons_append, List.nil_append, Nat.beq, Nat.blt, Nat.ble, Nat.reduceAdd, Nat.zero_add, Nat.add_zero, Nat.mul_one, Nat.reduceMul, Nat.zero_mul, Nat.one_mul, Nat.reduceSub, cond_true, cond_false, List.set]
    rw [show 60 - j = (60 - (j + 1)) + 1 from by omega, lastsG] at hi
    refine ixs_map j (by omega) rfl ?_
    rw [hlm]
    dsimp only [marchL, go_sem, List.drop, List.take, List.length, List.cons_append, List.nil_append, Nat.beq, Nat.blt, Nat.ble, Nat.reduceAdd, Nat.zero_add, Nat.add_zero, Nat.mul_one, Nat.reduceMul, Nat.zero_mul, Nat.one_mul, Nat.reduceSub, cond_true, cond_false, List.set]
    by_cases hf2 : (afterF b c1 m).2 = 2
    · refine call (day_dies b c1 m hb hc1 hm hf2) ?_
      dsimp only [beastL, zeroC, go_sem, List.drop, List.take, List.length, List.cons_append, List.nil_append, Nat.beq, Nat.blt, Nat.ble, Nat.reduceAdd, Nat.zero_add, Nat.add_zero, Nat.mul_one, Nat.reduceMul, Nat.zero_mul, Nat.one_mul, Nat.reduceSub, cond_true, cond_false, List.set]
      refine ⟨rfl, rfl, ?_⟩
      refine br_t (by decide) ?_
      dsimp only [go_sem, List.drop, List.take, List.length, List.cons_append, List.nil_append, Nat.beq, Nat.blt, Nat.ble, Nat.reduceAdd, Nat.zero_add, Nat.add_zero, Nat.mul_one, Nat.reduceMul, Nat.zero_mul, Nat.one_mul, Nat.reduceSub, cond_true, cond_false, List.set]
      refine ⟨rfl, ?_⟩
      refine gb ?_
      dsimp only [go_sem, List.drop, List.take, List.length, List.cons_append, List.nil_append, Nat.beq, Nat.blt, Nat.ble, Nat.reduceAdd, Nat.zero_add, Nat.add_zero, Nat.mul_one, Nat.reduceMul, Nat.zero_mul, Nat.one_mul, Nat.reduceSub, cond_true, cond_false, List.set]
      refine gb ?_
      dsimp only [go_sem, List.drop, List.take, List.length, List.cons_append, List.nil_append, Nat.beq, Nat.blt, Nat.ble, Nat.reduceAdd, Nat.zero_add, Nat.add_zero, Nat.mul_one, Nat.reduceMul, Nat.zero_mul, Nat.one_mul, Nat.reduceSub, cond_true, cond_false, List.set]
      refine br_t (by decide) ?_
      dsimp only [go_sem, List.drop, List.take, List.length, List.cons_append, List.nil_append, Nat.beq, Nat.blt, Nat.ble, Nat.reduceAdd, Nat.zero_add, Nat.add_zero, Nat.mul_one, Nat.reduceMul, Nat.zero_mul, Nat.one_mul, Nat.reduceSub, cond_true, cond_false, List.set]
      rw [if_pos hf2] at hi
      rw [← hi]
    refine call (day_ok b c1 m hb hc1 hm hf2) ?_
    dsimp only [beastL, go_sem, List.drop, List.take, List.length, List.cons_append, List.nil_append, Nat.beq, Nat.blt, Nat.ble, Nat.reduceAdd, Nat.zero_add, Nat.add_zero, Nat.mul_one, Nat.reduceMul, Nat.zero_mul, Nat.one_mul, Nat.reduceSub, cond_true, cond_false, List.set]
    refine ⟨rfl, rfl, ?_⟩
    refine br_f (by simpa using hf2) ?_
    dsimp only [go_sem, List.drop, List.take, List.length, List.cons_append, List.nil_append, Nat.beq, Nat.blt, Nat.ble, Nat.reduceAdd, Nat.zero_add, Nat.add_zero, Nat.mul_one, Nat.reduceMul, Nat.zero_mul, Nat.one_mul, Nat.reduceSub, cond_true, cond_false, List.set]
    rw [if_neg hf2] at hi
    rw [w64_in (n := (j : Int) + 1) (by omega) (by omega)]
    cases s
    · refine gb ?_
      dsimp only [go_sem, List.drop, List.take, List.length, List.cons_append, List.nil_append, Nat.beq, Nat.blt, Nat.ble, Nat.reduceAdd, Nat.zero_add, Nat.add_zero, Nat.mul_one, Nat.reduceMul, Nat.zero_mul, Nat.one_mul, Nat.reduceSub, cond_true, cond_false, List.set]
      refine gb ?_
      dsimp only [go_sem, List.drop, List.take, List.length, List.cons_append, List.nil_append, Nat.beq, Nat.blt, Nat.ble, Nat.reduceAdd, Nat.zero_add, Nat.add_zero, Nat.mul_one, Nat.reduceMul, Nat.zero_mul, Nat.one_mul, Nat.reduceSub, cond_true, cond_false, List.set]
      have hf0 : True := trivial
      simp only [Bool.false_and]
      refine br_f rfl ?_
      dsimp only [go_sem, List.drop, List.take, List.length, List.cons_append, List.nil_append, Nat.beq, Nat.blt, Nat.ble, Nat.reduceAdd, Nat.zero_add, Nat.add_zero, Nat.mul_one, Nat.reduceMul, Nat.zero_mul, Nat.one_mul, Nat.reduceSub, cond_true, cond_false, List.set]
      refine ⟨rfl, ?_⟩
      refine gb ?_
      dsimp only [go_sem, List.drop, List.take, List.length, List.cons_append, List.nil_append, Nat.beq, Nat.blt, Nat.ble, Nat.reduceAdd, Nat.zero_add, Nat.add_zero, Nat.mul_one, Nat.reduceMul, Nat.zero_mul, Nat.one_mul, Nat.reduceSub, cond_true, cond_false, List.set]
      refine gb ?_
      dsimp only [go_sem, List.drop, List.take, List.length, List.cons_append, List.nil_append, Nat.beq, Nat.blt, Nat.ble, Nat.reduceAdd, Nat.zero_add, Nat.add_zero, Nat.mul_one, Nat.reduceMul, Nat.zero_mul, Nat.one_mul, Nat.reduceSub, cond_true, cond_false, List.set]
      refine br_f (by simpa using hf2) ?_
      dsimp only [go_sem, List.drop, List.take, List.length, List.cons_append, List.nil_append, Nat.beq, Nat.blt, Nat.ble, Nat.reduceAdd, Nat.zero_add, Nat.add_zero, Nat.mul_one, Nat.reduceMul, Nat.zero_mul, Nat.one_mul, Nat.reduceSub, cond_true, cond_false, List.set]
      rw [w64_in (n := (j : Int) + 1) (by omega) (by omega)]
      refine ⟨(j + 1, (afterF b c1 m).1, lo, false), ⟨by simp only; omega, after_ok hb hc1 hm hf2, by simp only; omega, by simpa [hf0] using hi⟩, by simp only; omega, ?_⟩
      (refine ent_id ?_ ?_ ?_ rfl rfl <;> dsimp only [breedL, camelL, marchL, beastL, id, go_sem, List.drop, List.take, List.length, List.cons_append, List.nil_append, Nat.beq, Nat.blt, Nat.ble, Nat.reduceAdd, Nat.zero_add, Nat.add_zero, Nat.mul_one, Nat.reduceMul, Nat.zero_mul, Nat.one_mul, Nat.reduceSub, cond_true, cond_false, List.set] <;> simp [breedL, camelL, marchL, beastL, KFR_iff, KFR_app, KFR, KFL, KF, mtL_same, mtO, Nat.beq_refl])
    · refine gb ?_
      dsimp only [go_sem, List.drop, List.take, List.length, List.cons_append, List.nil_append, Nat.beq, Nat.blt, Nat.ble, Nat.reduceAdd, Nat.zero_add, Nat.add_zero, Nat.mul_one, Nat.reduceMul, Nat.zero_mul, Nat.one_mul, Nat.reduceSub, cond_true, cond_false, List.set]
      refine gb ?_
      dsimp only [go_sem, List.drop, List.take, List.length, List.cons_append, List.nil_append, Nat.beq, Nat.blt, Nat.ble, Nat.reduceAdd, Nat.zero_add, Nat.add_zero, Nat.mul_one, Nat.reduceMul, Nat.zero_mul, Nat.one_mul, Nat.reduceSub, cond_true, cond_false, List.set]
      by_cases hf0 : (afterF b c1 m).2 = 0
      · rw [show (true && (afterF b c1 m).2 == 0) = true from by simp [hf0]]
        refine br_t rfl ?_
        dsimp only [go_sem, List.drop, List.take, List.length, List.cons_append, List.nil_append, Nat.beq, Nat.blt, Nat.ble, Nat.reduceAdd, Nat.zero_add, Nat.add_zero, Nat.mul_one, Nat.reduceMul, Nat.zero_mul, Nat.one_mul, Nat.reduceSub, cond_true, cond_false, List.set]
        rw [w64_in (n := lo + 1) (by omega) (by omega)]
        refine ⟨rfl, ?_⟩
        refine gb ?_
        dsimp only [go_sem, List.drop, List.take, List.length, List.cons_append, List.nil_append, Nat.beq, Nat.blt, Nat.ble, Nat.reduceAdd, Nat.zero_add, Nat.add_zero, Nat.mul_one, Nat.reduceMul, Nat.zero_mul, Nat.one_mul, Nat.reduceSub, cond_true, cond_false, List.set]
        refine gb ?_
        dsimp only [go_sem, List.drop, List.take, List.length, List.cons_append, List.nil_append, Nat.beq, Nat.blt, Nat.ble, Nat.reduceAdd, Nat.zero_add, Nat.add_zero, Nat.mul_one, Nat.reduceMul, Nat.zero_mul, Nat.one_mul, Nat.reduceSub, cond_true, cond_false, List.set]
        refine br_f (by simpa using hf2) ?_
        dsimp only [go_sem, List.drop, List.take, List.length, List.cons_append, List.nil_append, Nat.beq, Nat.blt, Nat.ble, Nat.reduceAdd, Nat.zero_add, Nat.add_zero, Nat.mul_one, Nat.reduceMul, Nat.zero_mul, Nat.one_mul, Nat.reduceSub, cond_true, cond_false, List.set]
        rw [w64_in (n := (j : Int) + 1) (by omega) (by omega)]
        refine ⟨(j + 1, (afterF b c1 m).1, lo + 1, true), ⟨by simp only; omega, after_ok hb hc1 hm hf2, by simp only; omega, by simpa [hf0] using hi⟩, by simp only; omega, ?_⟩
        (refine ent_id ?_ ?_ ?_ rfl rfl <;> dsimp only [breedL, camelL, marchL, beastL, id, go_sem, List.drop, List.take, List.length, List.cons_append, List.nil_append, Nat.beq, Nat.blt, Nat.ble, Nat.reduceAdd, Nat.zero_add, Nat.add_zero, Nat.mul_one, Nat.reduceMul, Nat.zero_mul, Nat.one_mul, Nat.reduceSub, cond_true, cond_false, List.set] <;> simp [breedL, camelL, marchL, beastL, KFR_iff, KFR_app, KFR, KFL, KF, mtL_same, mtO, Nat.beq_refl])
      · rw [show (true && (afterF b c1 m).2 == 0) = false from by simp [hf0]]
        refine br_f rfl ?_
        dsimp only [go_sem, List.drop, List.take, List.length, List.cons_append, List.nil_append, Nat.beq, Nat.blt, Nat.ble, Nat.reduceAdd, Nat.zero_add, Nat.add_zero, Nat.mul_one, Nat.reduceMul, Nat.zero_mul, Nat.one_mul, Nat.reduceSub, cond_true, cond_false, List.set]
        refine ⟨rfl, ?_⟩
        refine gb ?_
        dsimp only [go_sem, List.drop, List.take, List.length, List.cons_append, List.nil_append, Nat.beq, Nat.blt, Nat.ble, Nat.reduceAdd, Nat.zero_add, Nat.add_zero, Nat.mul_one, Nat.reduceMul, Nat.zero_mul, Nat.one_mul, Nat.reduceSub, cond_true, cond_false, List.set]
        refine gb ?_
        dsimp only [go_sem, List.drop, List.take, List.length, List.cons_append, List.nil_append, Nat.beq, Nat.blt, Nat.ble, Nat.reduceAdd, Nat.zero_add, Nat.add_zero, Nat.mul_one, Nat.reduceMul, Nat.zero_mul, Nat.one_mul, Nat.reduceSub, cond_true, cond_false, List.set]
        refine br_f (by simpa using hf2) ?_
        dsimp only [go_sem, List.drop, List.take, List.length, List.cons_append, List.nil_append, Nat.beq, Nat.blt, Nat.ble, Nat.reduceAdd, Nat.zero_add, Nat.add_zero, Nat.mul_one, Nat.reduceMul, Nat.zero_mul, Nat.one_mul, Nat.reduceSub, cond_true, cond_false, List.set]
        rw [w64_in (n := (j : Int) + 1) (by omega) (by omega)]
        refine ⟨(j + 1, (afterF b c1 m).1, lo, false), ⟨by simp only; omega, after_ok hb hc1 hm hf2, by simp only; omega, by simpa [hf0] using hi⟩, by simp only; omega, ?_⟩
        (refine ent_id ?_ ?_ ?_ rfl rfl <;> dsimp only [breedL, camelL, marchL, beastL, id, go_sem, List.drop, List.take, List.length, List.cons_append, List.nil_append, Nat.beq, Nat.blt, Nat.ble, Nat.reduceAdd, Nat.zero_add, Nat.add_zero, Nat.mul_one, Nat.reduceMul, Nat.zero_mul, Nat.one_mul, Nat.reduceSub, cond_true, cond_false, List.set] <;> simp [breedL, camelL, marchL, beastL, KFR_iff, KFR_app, KFR, KFL, KF, mtL_same, mtO, Nat.beq_refl])
  refine br_f (by simp; omega) ?_
  dsimp only [go_sem, List.drop, List.take, List.length, List.cons_append, List.nil_append, Nat.beq, Nat.blt, Nat.ble, Nat.reduceAdd, Nat.zero_add, Nat.add_zero, Nat.mul_one, Nat.reduceMul, Nat.zero_mul, Nat.one_mul, Nat.reduceSub, cond_true, cond_false, List.set]
  have hje : j = 60 := by omega
  subst hje
  rw [show 60 - 60 = 0 from rfl, lastsG] at hi
  rw [← hi]
end Go.Proofs.Ytnlfjchbhgikaaa
