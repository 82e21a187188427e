import Derived.Test.YtnlfjchbhgikaaaCL
set_option maxRecDepth 100000
set_option maxHeartbeats 4000000
namespace Go.Proofs.Ytnlfjchbhgikaaa
open Go Go.Sx Go.Azalai
theorem bears_ok (b : Breed) (c : Camel) (l : List March) (load : Int) (hb : okBreed b = true) (hc : okCamel b c = true) (hl : l.all okMarch = true) (h60 : l.length ≤ 60) (h0 : inR 0 1000000 load = true) (k : Bool) :
    Ct Try.prog 67 [I load, .ps (breedL b) 0, .ps (camelL c) 0, .ps [.sl k 8 (l.map marchL)] 0] (B (bearsL b load c l)) := by
  have hbd := breed_bd hb
  have hlo := h0
  simp only [inR, decide_eq_true_eq] at hlo
  have hall := List.all_eq_true.1 hl
  refine t67 (by simp [breedL, camelL, marchL, KFR_iff, KFL, KF]) (by simp [KFL, KF]) ?_
  dsimp only [c67, r67, breedL, camelL, go_sem, Nat.reduceAdd, Nat.reduceMul, Nat.reduceSub]
  refine loopO (fun s : Nat × Camel => [(16, I s.1)]) (fun s => [(0, .cells (beastL b s.2) 107)]) (fun s => s.1 ≤ l.length ∧ okCamel b s.2 = true ∧ bearsL b load s.2 (l.drop s.1) = bearsL b load c l) (fun s => l.length - s.1) (0, c) ⟨Nat.zero_le _, hc, rfl⟩ ?_ ?_
  · (refine ent_id ?_ ?_ ?_ rfl rfl <;> dsimp only [breedL, camelL, marchL, beastL, id, go_sem, Nat.reduceAdd, Nat.reduceMul, Nat.reduceSub] <;> simp [breedL, camelL, marchL, beastL, KFR_iff, KFR_app, KFR, KFL, KF, mtL_same, mtO, Nat.beq_refl])
  rintro ⟨j, c1⟩ ⟨hj, hc1, hi⟩
  simp only at hj hc1 hi
  dsimp only [beastL, go_sem, Nat.reduceAdd, Nat.reduceMul, Nat.reduceSub]
  simp only [List.length_map]
  by_cases hlt : j < l.length
  · refine br_t (by simpa using hlt) ?_
    dsimp only [go_sem, Nat.reduceAdd, Nat.reduceMul, Nat.reduceSub]
    rw [List.drop_eq_getElem_cons hlt, bearsL] at hi
    have hm := hall l[j] (List.getElem_mem _)
    have hm' : okMarch { l[j] with load := load } = true := by
      simp only [okMarch, Bool.and_eq_true] at hm ⊢
      exact ⟨⟨⟨⟨hm.1.1.1.1, h0⟩, hm.1.1.2⟩, hm.1.2⟩, hm.2⟩
    refine ixs_map j hlt rfl ?_
    dsimp only [marchL, go_sem, Nat.reduceAdd, Nat.reduceMul, Nat.reduceSub]
    repeat (first | (refine gb ?_; dsimp only [go_sem, Nat.reduceAdd, Nat.reduceMul, Nat.reduceSub]) | (refine call (car_ok b c1 hb hc1) ?_; dsimp only [spanL, go_sem, Nat.reduceAdd, Nat.reduceMul, Nat.reduceSub]))
    by_cases hcar : l[j].hours > 0 ∧ load > (carF b c1).lo
    case pos =>
      refine br_t (by grind) ?_
      dsimp only [go_sem, Nat.reduceAdd, Nat.reduceMul, Nat.reduceSub]
      rw [if_pos hcar] at hi
      rw [← hi]
    refine br_f (by grind) ?_
    dsimp only [go_sem, Nat.reduceAdd, Nat.reduceMul, Nat.reduceSub]
    rw [if_neg hcar] at hi
    by_cases hf2 : (afterF b c1 { l[j] with load := load }).2 = 2
    · refine call (day_dies b c1 { l[j] with load := load } hb hc1 hm' hf2) ?_
      dsimp only [beastL, zeroC, go_sem, Nat.reduceAdd, Nat.reduceMul, Nat.reduceSub]
      refine br_t (by decide) ?_
      dsimp only [go_sem, Nat.reduceAdd, Nat.reduceMul, Nat.reduceSub]
      rw [if_pos (by rw [hf2]; decide)] at hi
      rw [← hi]
    refine call (day_ok b c1 { l[j] with load := load } hb hc1 hm' hf2) ?_
    dsimp only [beastL, go_sem, Nat.reduceAdd, Nat.reduceMul, Nat.reduceSub]
    by_cases hf0 : (afterF b c1 { l[j] with load := load }).2 = 0
    case neg =>
      refine br_t (by simpa using hf0) ?_
      dsimp only [go_sem, Nat.reduceAdd, Nat.reduceMul, Nat.reduceSub]
      rw [if_pos hf0] at hi
      rw [← hi]
    refine br_f (by simpa using hf0) ?_
    dsimp only [go_sem, Nat.reduceAdd, Nat.reduceMul, Nat.reduceSub]
    rw [if_neg (by simpa using hf0)] at hi
    rw [w64_in (n := (j : Int) + 1) (by omega) (by omega)]
    refine ⟨(j + 1, (afterF b c1 { l[j] with load := load }).1), ⟨hlt, after_ok hb hc1 hm' hf2, hi⟩, by simp only; omega, ?_⟩
    (refine ent_id ?_ ?_ ?_ rfl rfl <;> dsimp only [breedL, camelL, marchL, beastL, id, go_sem, Nat.reduceAdd, Nat.reduceMul, Nat.reduceSub] <;> simp [breedL, camelL, marchL, beastL, KFR_iff, KFR_app, KFR, KFL, KF, mtL_same, mtO, Nat.beq_refl])
  refine br_f (by simp; omega) ?_
  dsimp only [go_sem, Nat.reduceAdd, Nat.reduceMul, Nat.reduceSub]
  have hje : j = l.length := by omega
  subst hje
  rw [List.drop_length, bearsL] at hi
  rw [← hi]
theorem heavy_ok (b : Breed) (c : Camel) (l : List March) (k : Bool) (hl : l.length ≤ 1000) : Ct Try.prog 24 [.agg (breedL b), .agg (camelL c), .sl k 8 (l.map marchL)] (.tup [I (heavyF b c l).1, I (heavyF b c l).2]) := by
  refine t24 (by simp [breedL, camelL, marchL, KFR_iff, KFL, KF]) (by simp [KFL, KF]) ?_
  dsimp only [c24, r24, breedL, camelL, go_sem, Nat.reduceAdd, Nat.reduceMul, Nat.reduceSub]
  refine call (checkL_ok b c l (by omega) k) ?_
  dsimp only [go_sem, Nat.reduceAdd, Nat.reduceMul, Nat.reduceSub]
  by_cases h0 : errL b c l = 0
  case neg =>
    refine br_t (by simpa using h0) ?_
    dsimp only [go_sem, Nat.reduceAdd, Nat.reduceMul, Nat.reduceSub]
    simp [heavyF, h0]
  refine br_f (by simpa using h0) ?_
  dsimp only [go_sem, Nat.reduceAdd, Nat.reduceMul, Nat.reduceSub]
  have hq : okBreed b = true ∧ okCamel b c = true ∧ l.length ≤ 60 ∧ l.all okMarch = true := by
    unfold errL at h0
    by_cases e1 : errC b c = 0
    · obtain ⟨q1, q2⟩ := errC_0.1 e1
      by_cases e2 : l.length > 60
      · simp [e1, e2] at h0
      · by_cases e3 : l.all okMarch = true
        · exact ⟨q1, q2, by omega, e3⟩
        · simp only [e1, e2] at h0; simp at e3 h0; grind
    · simp [e1] at h0
  obtain ⟨q1, q2, q3, q4⟩ := hq
  have hbear : ∀ n, inR 0 1000000 n = true → Ct Try.prog 67 [I n, .ps (breedL b) 0, .ps (camelL c) 0, .ps [.sl k 8 (l.map marchL)] 0] (B (bearsL b n c l)) := fun n hn => bears_ok b c l n q1 q2 q4 q3 hn k
  refine callv (by simp [FLT]) (res := B (bearsL b 0 c l)) ?_ ?_
  · dsimp only [go_sem, Nat.reduceAdd, Nat.reduceMul, Nat.reduceSub]
    exact hbear 0 (by decide)
  dsimp only [go_sem, Nat.reduceAdd, Nat.reduceMul, Nat.reduceSub]
  by_cases hb0 : bearsL b 0 c l = true
  case neg =>
    refine br_t (by simpa using hb0) ?_
    dsimp only [go_sem, Nat.reduceAdd, Nat.reduceMul, Nat.reduceSub]
    have : bearsL b 0 c l = false := by simpa using hb0
    simp [heavyF, h0, this]
  refine br_f (by simp [hb0]) ?_
  dsimp only [go_sem, Nat.reduceAdd, Nat.reduceMul, Nat.reduceSub]
  have hh : heavyF b c l = (seekN (fun n => bearsL b n c l) 2000000 0 1000000, 0) := by simp [heavyF, h0, hb0]
  rw [hh]
  refine callv (by simp [FLT]) (res := I (seekN (fun n => bearsL b n c l) 2000000 0 1000000)) ?_ ?_
  · dsimp only [go_sem, Nat.reduceAdd, Nat.reduceMul, Nat.reduceSub]
    exact greatest_ok 67 [.ps (breedL b) 0, .ps (camelL c) 0, .ps [.sl k 8 (l.map marchL)] 0] (by simp [breedL, camelL, marchL, KFR_iff, KFL, KF]) (fun n => bearsL b n c l) hbear
  dsimp only [go_sem, Nat.reduceAdd, Nat.reduceMul, Nat.reduceSub]
theorem loads_ok (b : Breed) (c : Camel) (l : List March) (herd : List Camel) : Ct Try.prog 4 [.agg (breedL b), .agg (camelL c), .sl false 8 (l.map marchL), .sl false 7 (herd.map camelL)] (B true) := by
  refine t4 (by simp [breedL, camelL, marchL, KFR_iff, KFL, KF]) (by simp [KFL, KF]) ?_
  dsimp only [c4, r4, breedL, camelL, go_sem, Nat.reduceAdd, Nat.reduceMul, Nat.reduceSub]
  simp only [List.length_map]
  repeat (refine gb ?_; dsimp only [go_sem, Nat.reduceAdd, Nat.reduceMul, Nat.reduceSub])
  by_cases hg : l.length > 100 ∨ herd.length > 50
  case pos =>
    refine br_t (by grind) ?_
    dsimp only [go_sem, Nat.reduceAdd, Nat.reduceMul, Nat.reduceSub]
  refine br_f (by grind) ?_
  dsimp only [go_sem, Nat.reduceAdd, Nat.reduceMul, Nat.reduceSub]
  refine app0 (by simp; omega) ?_
  dsimp only [go_sem, Nat.reduceAdd, Nat.reduceMul, Nat.reduceSub]
  refine call (heavy_ok b c l false (by omega)) ?_
  dsimp only [go_sem, Nat.reduceAdd, Nat.reduceMul, Nat.reduceSub]
  refine call (heavyR_ok b c l false (by omega)) ?_
  dsimp only [go_sem, Nat.reduceAdd, Nat.reduceMul, Nat.reduceSub]
  refine call (thirst_ok b herd (by omega) false) ?_
  dsimp only [tres, spanL, go_sem, Nat.reduceAdd, Nat.reduceMul, Nat.reduceSub]
  refine call (thirstR_ok b herd (by omega) false) ?_
  dsimp only [tres, spanL, go_sem, Nat.reduceAdd, Nat.reduceMul, Nat.reduceSub]
  repeat (first | (refine gb ?_; dsimp only [go_sem, Nat.reduceAdd, Nat.reduceMul, Nat.reduceSub]) | (refine call (sameC_ok herd (by omega) false false) ?_; dsimp only [go_sem, Nat.reduceAdd, Nat.reduceMul, Nat.reduceSub]))
  simp
end Go.Proofs.Ytnlfjchbhgikaaa
