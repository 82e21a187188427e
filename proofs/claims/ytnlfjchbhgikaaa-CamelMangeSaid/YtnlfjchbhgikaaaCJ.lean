import Derived.Test.YtnlfjchbhgikaaaCI
set_option maxRecDepth 100000
set_option maxHeartbeats 4000000
namespace Go.Azalai
def bearsL (b : Breed) (load : Int) (c : Camel) : List March → Bool
  | [] => true
  | m :: r => if m.hours > 0 ∧ load > (carF b c).lo then false else if (afterF b c { m with load := load }).2 ≠ 0 then false else bearsL b load (afterF b c { m with load := load }).1 r
theorem tdiv_up {x y d : Int} (hd : 1 ≤ d) (h0 : 0 ≤ x) (h : x ≤ y) : x.tdiv d ≤ upF y d := by
  unfold upF
  rw [Int.tdiv_eq_ediv_of_nonneg h0, Int.tdiv_eq_ediv_of_nonneg (by omega)]
  exact Int.ediv_le_ediv (by omega) (by omega)
theorem costW_le {b : Breed} {k : Bool} {m : March} (hb : okBreed b = true) (hm : okMarch m = true) : (costW b k m).lo ≤ (costW b k m).hi := by
  have h := Go.Proofs.Ytnlfjchbhgikaaa.breed_bd hb
  have h2 := Go.Proofs.Ytnlfjchbhgikaaa.march_bd hm
  have hw := Go.Proofs.Ytnlfjchbhgikaaa.work_bd hm
  have q1 : (b.toil.lo * workF m).tdiv 100000 ≤ upF (b.toil.hi * workF m) 100000 := tdiv_up (by omega) (Int.mul_nonneg (by omega) hw.1) (Int.mul_le_mul_of_nonneg_right (by omega) hw.1)
  have q2 : b.heat.lo * max 0 (m.heat.lo - 20) ≤ b.heat.hi * max 0 (m.heat.hi - 20) := Int.mul_le_mul (by omega) (by omega) (by omega) (by omega)
  simp only [costW]
  cases k <;> simp <;> omega
theorem costF_le {b : Breed} {m : March} (hb : okBreed b = true) (hm : okMarch m = true) : (costF b m).lo ≤ (costF b m).hi := by
  have h := Go.Proofs.Ytnlfjchbhgikaaa.breed_bd hb
  have hw := Go.Proofs.Ytnlfjchbhgikaaa.work_bd hm
  exact tdiv_up (by omega) (Int.mul_nonneg (by omega) hw.1) (Int.mul_le_mul_of_nonneg_right (by omega) hw.1)
theorem after_ok {b : Breed} {c : Camel} {m : March} (hb : okBreed b = true) (hc : okCamel b c = true) (hm : okMarch m = true) (hd : (afterF b c m).2 ≠ 2) : okCamel b (afterF b c m).1 = true := by
  have h1 := Go.Proofs.Ytnlfjchbhgikaaa.breed_bd hb
  have h2 := Go.Proofs.Ytnlfjchbhgikaaa.camel_bd hb hc
  have h3 := Go.Proofs.Ytnlfjchbhgikaaa.march_bd hm
  have w1 := costW_bd (k := c.milks) hb hm
  have w2 := costF_bd hb hm
  have hlo : (costW b c.milks m).lo ≤ (costW b c.milks m).hi := costW_le hb hm
  have hlf : (costF b m).lo ≤ (costF b m).hi := costF_le hb hm
  have hr : (b.rub.lo * (m.hours * m.load)).tdiv 1000000 ≤ upF (b.rub.hi * (m.hours * m.load)) 1000000 :=
    tdiv_up (by omega) (Int.mul_nonneg (by omega) (Int.mul_nonneg (by omega) (by omega))) (Int.mul_le_mul_of_nonneg_right (by omega) (Int.mul_nonneg (by omega) (by omega)))
  have hr0 : 0 ≤ (b.rub.lo * (m.hours * m.load)).tdiv 1000000 :=
    Int.tdiv_nonneg (Int.mul_nonneg (by omega) (Int.mul_nonneg (by omega) (by omega))) (by omega)
  unfold afterF at hd ⊢
  simp only at hd ⊢
  split at hd
  · exact absurd rfl hd
  · rename_i h
    rw [if_neg h]
    simp only [okCamel, okSp, lostF, soreF, Bool.and_eq_true, decide_eq_true_eq]
    by_cases hz : m.hours = 0
    · simp only [if_pos hz, Bool.and_eq_true, decide_eq_true_eq]
      refine ⟨⟨decide_eq_true ⟨by omega, by omega, by omega⟩, decide_eq_true ⟨by omega, by omega, by omega⟩⟩, by omega, by omega, by omega⟩
    · simp only [if_neg hz, Bool.and_eq_true, decide_eq_true_eq]
      refine ⟨⟨decide_eq_true ⟨by omega, by omega, by omega⟩, decide_eq_true ⟨by omega, by omega, by omega⟩⟩, by omega, by omega, by omega⟩
end Go.Azalai
namespace Go.Proofs.Ytnlfjchbhgikaaa
open Go Go.Sx Go.Azalai
theorem bearsR_ok (b : Breed) (c : Camel) (l : List March) (load : Int) (hb : okBreed b = true) (hc : okCamel b c = true) (hl : l.all okMarch = true) (h60 : l.length ≤ 60) (h0 : inR 0 1000000 load = true) (k : Bool) :
    Ct Try.prog 71 [.agg (breedL b), .agg (camelL c), .sl k 8 (l.map marchL), I load] (B (bearsL b load c l)) := by
  have hbd := breed_bd hb
  have hlo := h0
  simp only [inR, decide_eq_true_eq] at hlo
  have hall := List.all_eq_true.1 hl
  refine t71 (by simp [breedL, camelL, marchL, KFR_iff, KFL, KF]) (by simp [KFL, KF]) ?_
  dsimp only [c71, r71, breedL, camelL, go_sem, Nat.reduceAdd, Nat.reduceMul, Nat.reduceSub]
  refine loopO (fun s : Nat × Camel => [(9, I s.1)]) (fun s => [(1, .cells (camelL s.2) 27)]) (fun s => s.1 ≤ l.length ∧ okCamel b s.2 = true ∧ bearsL b load s.2 (l.drop s.1) = bearsL b load c l) (fun s => l.length - s.1) (0, c) ⟨Nat.zero_le _, hc, rfl⟩ ?_ ?_
  · (refine ent_id ?_ ?_ ?_ rfl rfl <;> dsimp only [breedL, camelL, marchL, id, go_sem, Nat.reduceAdd, Nat.reduceMul, Nat.reduceSub] <;> simp [breedL, camelL, marchL, KFR_iff, KFR_app, KFR, KFL, KF, mtL_same, mtO, Nat.beq_refl])
  rintro ⟨j, c1⟩ ⟨hj, hc1, hi⟩
  simp only at hj hc1 hi
  dsimp only [camelL, go_sem, Nat.reduceAdd, Nat.reduceMul, Nat.reduceSub]
  simp only [List.length_map]
  by_cases hlt : j < l.length
  · refine br_t (by simpa using hlt) ?_
    dsimp only [go_sem, Nat.reduceAdd, Nat.reduceMul, Nat.reduceSub]
    rw [List.drop_eq_getElem_cons hlt, bearsL] at hi
    have hm := hall l[j] (List.getElem_mem _)
    have hm' : okMarch { l[j] with load := load } = true := by
      simp only [okMarch, Bool.and_eq_true] at hm ⊢
      exact ⟨⟨⟨⟨hm.1.1.1.1, h0⟩, hm.1.1.2⟩, hm.1.2⟩, hm.2⟩
    refine ixs_map j hlt rfl ?_
    dsimp only [marchL, go_sem, Nat.reduceAdd, Nat.reduceMul, Nat.reduceSub]
    have hf := fit_bd hb hc1
    have hsf := mul_bd (a := b.strong.lo) (b := (fitF b c1).lo) (A := 1000000) (B := 1000) (by omega) (by omega) (by omega) (by omega)
    have hsd := tdiv_bd hsf.1 hsf.2 (d := 1000) (by omega)
    repeat (first | (refine gb ?_; dsimp only [go_sem, Nat.reduceAdd, Nat.reduceMul, Nat.reduceSub]) | (refine call (fitR_ok b c1 hb hc1) ?_; dsimp only [spanL, go_sem, Nat.reduceAdd, Nat.reduceMul, Nat.reduceSub]) | (refine div0 (by omega) ?_; dsimp only [go_sem, Nat.reduceAdd, Nat.reduceMul, Nat.reduceSub]))
    simp (disch := omega) only [w64_in]
    by_cases hcar : l[j].hours > 0 ∧ load > (carF b c1).lo
    case pos =>
      refine br_t (by simp only [carF] at hcar; grind) ?_
      dsimp only [go_sem, Nat.reduceAdd, Nat.reduceMul, Nat.reduceSub]
      rw [if_pos hcar] at hi
      rw [← hi]
    refine br_f (by simp only [carF] at hcar; grind) ?_
    dsimp only [go_sem, Nat.reduceAdd, Nat.reduceMul, Nat.reduceSub]
    rw [if_neg hcar] at hi
    refine call (afterR_ok b c1 { l[j] with load := load } hb hc1 hm') ?_
    dsimp only [camelL, go_sem, Nat.reduceAdd, Nat.reduceMul, Nat.reduceSub]
    by_cases hf2 : (afterF b c1 { l[j] with load := load }).2 = 0
    case neg =>
      refine br_t (by simpa using hf2) ?_
      dsimp only [go_sem, Nat.reduceAdd, Nat.reduceMul, Nat.reduceSub]
      rw [if_pos hf2] at hi
      rw [← hi]
    refine br_f (by simpa using hf2) ?_
    dsimp only [go_sem, Nat.reduceAdd, Nat.reduceMul, Nat.reduceSub]
    rw [if_neg (by simpa using hf2)] at hi
    rw [w64_in (n := (j : Int) + 1) (by omega) (by omega)]
    refine ⟨(j + 1, (afterF b c1 { l[j] with load := load }).1), ⟨hlt, after_ok hb hc1 hm' (by rw [hf2]; decide), hi⟩, by simp only; omega, ?_⟩
    (refine ent_id ?_ ?_ ?_ rfl rfl <;> dsimp only [breedL, camelL, marchL, id, go_sem, Nat.reduceAdd, Nat.reduceMul, Nat.reduceSub] <;> simp [breedL, camelL, marchL, KFR_iff, KFR_app, KFR, KFL, KF, mtL_same, mtO, Nat.beq_refl])
  refine br_f (by simp; omega) ?_
  dsimp only [go_sem, Nat.reduceAdd, Nat.reduceMul, Nat.reduceSub]
  have hje : j = l.length := by omega
  subst hje
  rw [List.drop_length, bearsL] at hi
  rw [← hi]
end Go.Proofs.Ytnlfjchbhgikaaa
