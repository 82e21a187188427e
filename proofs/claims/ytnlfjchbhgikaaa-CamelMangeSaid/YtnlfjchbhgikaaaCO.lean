import Derived.Test.YtnlfjchbhgikaaaCM
set_option maxRecDepth 100000
set_option maxHeartbeats 4000000
namespace Go.Azalai
def afterE (b : Breed) (c : Camel) (m : March) : Camel × Int × Int :=
  if errC b c ≠ 0 then (zeroC, 0, errC b c) else if okMarch m = false then (zeroC, 0, 12) else if (afterF b c m).2 = 2 then (zeroC, 0, 13) else ((afterF b c m).1, (afterF b c m).2, 0)
def daysG (b : Breed) (c : Camel) (out : List Camel) (worst : Int) : List March → List Camel × Int × Int × Int
  | [] => (out, worst, 0, 0)
  | m :: r => if (afterF b c m).2 = 2 then ([], 2, out.length, 13) else daysG b (afterF b c m).1 (out ++ [(afterF b c m).1]) (max worst (afterF b c m).2) r
def daysF (b : Breed) (c : Camel) (l : List March) : List Camel × Int × Int × Int := if errL b c l ≠ 0 then ([], 0, 0, errL b c l) else daysG b c [] 0 l
end Go.Azalai
namespace Go.Proofs.Ytnlfjchbhgikaaa
open Go Go.Sx Go.Azalai
def rowsE (e : Int) (l : List Camel) : SV := if e = 0 then .sl false 7 (l.map camelL) else .v (.slice none 0 0)
def U8 (n : Int) : SV := .v (.int .u8 n)
theorem after1_ok (b : Breed) (c : Camel) (m : March) : Ct Try.prog 29 [.agg (breedL b), .agg (camelL c), .agg (marchL m)] (.tup [.agg (camelL (afterE b c m).1), U8 (afterE b c m).2.1, I (afterE b c m).2.2]) := by
  refine t29 (by simp [breedL, camelL, marchL, KFL, KF]) (by simp [camelL, U8, KFL, KF]) ?_
  dsimp only [c29, r29, breedL, camelL, marchL, go_sem, Nat.reduceAdd, Nat.reduceMul, Nat.reduceSub]
  refine call (checkCamel_ok b c) ?_
  dsimp only [go_sem, Nat.reduceAdd, Nat.reduceMul, Nat.reduceSub]
  by_cases h0 : errC b c = 0
  case neg =>
    refine br_t (by simpa using h0) ?_
    dsimp only [go_sem, Nat.reduceAdd, Nat.reduceMul, Nat.reduceSub]
    simp [afterE, h0, zeroC, U8, camelL]
  refine br_f (by simpa using h0) ?_
  dsimp only [go_sem, Nat.reduceAdd, Nat.reduceMul, Nat.reduceSub]
  obtain ⟨hb, hc⟩ := errC_0.1 h0
  refine call (checkDay1 m true) ?_
  dsimp only [go_sem, Nat.reduceAdd, Nat.reduceMul, Nat.reduceSub]
  by_cases hm : okMarch m = true
  case neg =>
    refine br_t (by simp [hm]) ?_
    dsimp only [go_sem, Nat.reduceAdd, Nat.reduceMul, Nat.reduceSub]
    simp [afterE, h0, hm, zeroC, U8, camelL]
  refine br_f (by simp [hm]) ?_
  dsimp only [go_sem, Nat.reduceAdd, Nat.reduceMul, Nat.reduceSub]
  by_cases hd : (afterF b c m).2 = 2
  · refine call (day_dies b c m hb hc hm hd) ?_
    dsimp only [beastL, zeroC, go_sem, Nat.reduceAdd, Nat.reduceMul, Nat.reduceSub]
    refine br_t (by decide) ?_
    dsimp only [go_sem, Nat.reduceAdd, Nat.reduceMul, Nat.reduceSub]
    simp [afterE, h0, hm, hd, zeroC, U8, camelL]
  refine call (day_ok b c m hb hc hm hd) ?_
  dsimp only [beastL, go_sem, Nat.reduceAdd, Nat.reduceMul, Nat.reduceSub]
  refine br_f (by simpa using hd) ?_
  dsimp only [go_sem, Nat.reduceAdd, Nat.reduceMul, Nat.reduceSub]
  simp [afterE, h0, hm, hd, U8, camelL]
theorem after2_ok (b : Breed) (c : Camel) (m : March) : Ct Try.prog 30 [.agg (breedL b), .agg (camelL c), .agg (marchL m)] (.tup [.agg (camelL (afterE b c m).1), I (afterE b c m).2.1, I (afterE b c m).2.2]) := by
  refine t30 (by simp [breedL, camelL, marchL, KFL, KF]) (by simp [camelL, KFL, KF]) ?_
  dsimp only [c30, r30, breedL, camelL, marchL, go_sem, Nat.reduceAdd, Nat.reduceMul, Nat.reduceSub]
  refine call (checkCamelR_ok b c) ?_
  dsimp only [go_sem, Nat.reduceAdd, Nat.reduceMul, Nat.reduceSub]
  by_cases h0 : errC b c = 0
  case neg =>
    refine br_t (by simpa using h0) ?_
    dsimp only [go_sem, Nat.reduceAdd, Nat.reduceMul, Nat.reduceSub]
    simp [afterE, h0, zeroC, camelL]
  refine br_f (by simpa using h0) ?_
  dsimp only [go_sem, Nat.reduceAdd, Nat.reduceMul, Nat.reduceSub]
  obtain ⟨hb, hc⟩ := errC_0.1 h0
  refine call (marchR_ok m) ?_
  dsimp only [go_sem, Nat.reduceAdd, Nat.reduceMul, Nat.reduceSub]
  by_cases hm : okMarch m = true
  case neg =>
    refine br_t (by simp [hm]) ?_
    dsimp only [go_sem, Nat.reduceAdd, Nat.reduceMul, Nat.reduceSub]
    simp [afterE, h0, hm, zeroC, camelL]
  refine br_f (by simp [hm]) ?_
  dsimp only [go_sem, Nat.reduceAdd, Nat.reduceMul, Nat.reduceSub]
  refine call (afterR_ok b c m hb hc hm) ?_
  dsimp only [camelL, go_sem, Nat.reduceAdd, Nat.reduceMul, Nat.reduceSub]
  by_cases hd : (afterF b c m).2 = 2
  · refine br_t (by simpa using hd) ?_
    dsimp only [go_sem, Nat.reduceAdd, Nat.reduceMul, Nat.reduceSub]
    simp [afterE, h0, hm, hd, zeroC, camelL]
  refine br_f (by simpa using hd) ?_
  dsimp only [go_sem, Nat.reduceAdd, Nat.reduceMul, Nat.reduceSub]
  simp [afterE, h0, hm, hd, camelL]
theorem errL_0 {b : Breed} {c : Camel} {l : List March} (h0 : errL b c l = 0) : okBreed b = true ∧ okCamel b c = true ∧ l.length ≤ 60 ∧ l.all okMarch = true := by
  unfold errL at h0
  by_cases e1 : errC b c = 0
  · obtain ⟨q1, q2⟩ := errC_0.1 e1
    by_cases e2 : l.length > 60
    · simp [e1, e2] at h0
    · by_cases e3 : l.all okMarch = true
      · exact ⟨q1, q2, by omega, e3⟩
      · simp only [e1, e2] at h0; simp at e3 h0; grind
  · simp [e1] at h0
theorem daysR_ok (b : Breed) (c : Camel) (l : List March) (k : Bool) : Ct Try.prog 32 [.agg (breedL b), .agg (camelL c), .sl k 8 (l.map marchL)] (.tup [rowsE (daysF b c l).2.2.2 (daysF b c l).1, I (daysF b c l).2.1, I (daysF b c l).2.2.1, I (daysF b c l).2.2.2]) := by
  refine t32 (by simp [breedL, camelL, marchL, KFR_iff, KFL, KF]) (by unfold rowsE; split <;> simp [KFL, KF, KFR_iff, camelL]) ?_
  dsimp only [c32, r32, breedL, camelL, go_sem, Nat.reduceAdd, Nat.reduceMul, Nat.reduceSub]
  refine call (askedL_ok b c l k) ?_
  dsimp only [go_sem, Nat.reduceAdd, Nat.reduceMul, Nat.reduceSub]
  by_cases h0 : errL b c l = 0
  case neg =>
    refine br_t (by simpa using h0) ?_
    dsimp only [go_sem, Nat.reduceAdd, Nat.reduceMul, Nat.reduceSub]
    simp [daysF, h0, rowsE]
  refine br_f (by simpa using h0) ?_
  dsimp only [go_sem, Nat.reduceAdd, Nat.reduceMul, Nat.reduceSub]
  obtain ⟨hb, hc, h60, hl⟩ := errL_0 h0
  have hall := List.all_eq_true.1 hl
  have hbd := breed_bd hb
  have hF : daysF b c l = daysG b c [] 0 l := by simp [daysF, h0]
  rw [hF]
  refine loopG (ent_nilslot 11 7 27 rfl rfl) (fun s : Nat × Nat × Camel × List Camel × Int => [(13, I s.1), (12, I s.2.2.2.2), (11, .mr 2 s.2.1)]) (fun s => [(1, .cells (camelL s.2.2.1) 27), (2, .row s.2.1 7 (s.2.2.2.1.map camelL) 27)])
    (fun s => s.1 ≤ l.length ∧ okCamel b s.2.2.1 = true ∧ s.2.2.2.1.length = s.1 ∧ (0 ≤ s.2.2.2.2 ∧ s.2.2.2.2 ≤ 2) ∧ daysG b s.2.2.1 s.2.2.2.1 s.2.2.2.2 (l.drop s.1) = daysG b c [] 0 l) (fun s => l.length - s.1) (0, 0, c, [], 0) ⟨Nat.zero_le _, hc, rfl, ⟨Int.le_refl _, by simp⟩, rfl⟩ ?_ ?_
  · (refine ent_id ?_ ?_ ?_ rfl rfl <;> dsimp only [breedL, camelL, marchL, id, go_sem, Nat.reduceAdd, Nat.reduceMul, Nat.reduceSub] <;> simp [breedL, camelL, marchL, KFR_iff, KFR_app, KFR, KFL, KF, mtL_same, mtO, Nat.beq_refl])
  rintro ⟨j, v, c1, out, worst⟩ ⟨hj, hc1, ho, hw, hi⟩
  simp only at hj hc1 ho hw hi
  dsimp only [camelL, go_sem, Nat.reduceAdd, Nat.reduceMul, Nat.reduceSub]
  simp only [List.length_map]
  by_cases hlt : j < l.length
  · refine br_t (by simpa using hlt) ?_
    dsimp only [go_sem, Nat.reduceAdd, Nat.reduceMul, Nat.reduceSub]
    rw [List.drop_eq_getElem_cons hlt, daysG] at hi
    have hm := hall l[j] (List.getElem_mem _)
    refine ixs_map j hlt rfl ?_
    dsimp only [marchL, go_sem, Nat.reduceAdd, Nat.reduceMul, Nat.reduceSub]
    refine call (afterR_ok b c1 l[j] hb hc1 hm) ?_
    dsimp only [camelL, go_sem, Nat.reduceAdd, Nat.reduceMul, Nat.reduceSub]
    by_cases hf2 : (afterF b c1 l[j]).2 = 2
    case pos =>
      refine br_t (by simpa using hf2) ?_
      dsimp only [go_sem, Nat.reduceAdd, Nat.reduceMul, Nat.reduceSub]
      rw [if_pos hf2] at hi
      rw [← hi]
      simp [rowsE, ho]
    refine br_f (by simpa using hf2) ?_
    dsimp only [go_sem, Nat.reduceAdd, Nat.reduceMul, Nat.reduceSub]
    rw [if_neg (by simpa using hf2)] at hi
    simp only [Nat.beq_refl]
    dsimp only [go_sem, Nat.reduceAdd, Nat.reduceMul, Nat.reduceSub]
    have hfr : 0 ≤ (afterF b c1 l[j]).2 ∧ (afterF b c1 l[j]).2 ≤ 2 := by
      unfold afterF; simp only; split
      · simp
      · simp only; split <;> simp
    refine ⟨(by intro c hc; simp only [List.mem_singleton] at hc; subst hc; rfl), by simp; omega, ?_⟩
    dsimp only [go_sem, Nat.reduceAdd, Nat.reduceMul, Nat.reduceSub]
    rw [w64_in (n := (j : Int) + 1) (by omega) (by omega)]
    refine ⟨(j + 1, v + 1, (afterF b c1 l[j]).1, out ++ [(afterF b c1 l[j]).1], max worst (afterF b c1 l[j]).2), ⟨hlt, after_ok hb hc1 hm hf2, by simp [ho], (by simp only; omega), hi⟩, by simp only; omega, ?_⟩
    (refine ent_id ?_ ?_ ?_ rfl rfl <;> dsimp only [breedL, camelL, marchL, id, go_sem, Nat.reduceAdd, Nat.reduceMul, Nat.reduceSub] <;> simp [breedL, camelL, marchL, KFR_iff, KFR_app, KFR, KFL, KF, mtL_same, mtO, Nat.beq_refl])
  refine br_f (by simp; omega) ?_
  dsimp only [go_sem, Nat.reduceAdd, Nat.reduceMul, Nat.reduceSub]
  have hje : j = l.length := by omega
  subst hje
  rw [List.drop_length, daysG] at hi
  simp only [Nat.beq_refl]
  dsimp only [go_sem, Nat.reduceAdd, Nat.reduceMul, Nat.reduceSub]
  rw [← hi]
  simp [rowsE]
end Go.Proofs.Ytnlfjchbhgikaaa
