import Derived.Test.YtnlfjchbhgikaaaCJ
set_option maxRecDepth 100000
set_option maxHeartbeats 4000000
namespace Go.Azalai
/-- the search between two numbers, in some rounds -/
def seekN (g : Int → Bool) : Nat → Int → Int → Int
  | 0, lo, _ => lo
  | n + 1, lo, hi => if lo < hi then (if g ((lo + hi + 1).tdiv 2) then seekN g n ((lo + hi + 1).tdiv 2) hi else seekN g n lo ((lo + hi + 1).tdiv 2 - 1)) else lo
def heavyF (b : Breed) (c : Camel) (l : List March) : Int × Int :=
  if errL b c l ≠ 0 then (0, errL b c l) else if bearsL b 0 c l = false then (0, 13) else (seekN (fun n => bearsL b n c l) 2000000 0 1000000, 0)
theorem seek_enough {g : Int → Bool} : ∀ (n m : Nat) (lo hi : Int), 0 ≤ lo → hi - lo ≤ n → n ≤ m → seekN g m lo hi = seekN g n lo hi
  | 0, 0, lo, hi, _, _, _ => rfl
  | 0, m + 1, lo, hi, _, h, _ => by simp only [seekN]; rw [if_neg (by omega)]
  | n + 1, 0, lo, hi, _, _, h => by omega
  | n + 1, m + 1, lo, hi, h0, h, hm => by
    simp only [seekN]
    split
    · rename_i hlt
      have e : (lo + hi + 1).tdiv 2 = (lo + hi + 1) / 2 := Int.tdiv_eq_ediv_of_nonneg (by omega)
      rw [e]
      rw [seek_enough n m _ hi (by omega) (by omega) (by omega), seek_enough n m lo _ (by omega) (by omega) (by omega)]
    · rfl
end Go.Azalai
namespace Go.Proofs.Ytnlfjchbhgikaaa
open Go Go.Sx Go.Azalai
theorem heavyR_ok (b : Breed) (c : Camel) (l : List March) (k : Bool) (hl : l.length ≤ 1000) : Ct Try.prog 25 [.agg (breedL b), .agg (camelL c), .sl k 8 (l.map marchL)] (.tup [I (heavyF b c l).1, I (heavyF b c l).2]) := by
  refine t25 (by simp [breedL, camelL, marchL, KFR_iff, KFL, KF]) (by simp [KFL, KF]) ?_
  dsimp only [c25, r25, breedL, camelL, go_sem, Nat.reduceAdd, Nat.reduceMul, Nat.reduceSub]
  refine call (askedL_ok b c l k) ?_
  dsimp only [go_sem, Nat.reduceAdd, Nat.reduceMul, Nat.reduceSub]
  by_cases h0 : errL b c l = 0
  case neg =>
    refine br_t (by simpa using h0) ?_
    dsimp only [go_sem, Nat.reduceAdd, Nat.reduceMul, Nat.reduceSub]
    simp [heavyF, h0]
  refine br_f (by simpa using h0) ?_
  dsimp only [go_sem, Nat.reduceAdd, Nat.reduceMul, Nat.reduceSub]
  have hq : okBreed b = true ∧ okCamel b c = true ∧ l.length ≤ 60 ∧ l.all okMarch = true := by
    unfold errL at h0
    by_cases e1 : errC b c = 0
    · obtain ⟨q1, q2⟩ := errC_0.1 e1
      by_cases e2 : l.length > 60
      · simp [e1, e2] at h0
      · by_cases e3 : l.all okMarch = true
        · exact ⟨q1, q2, by omega, e3⟩
        · simp only [e1, e2] at h0; simp at e3 h0; grind
    · simp [e1] at h0
  obtain ⟨q1, q2, q3, q4⟩ := hq
  have hbear : ∀ n, inR 0 1000000 n = true → Ct Try.prog 71 [.agg (breedL b), .agg (camelL c), .sl k 8 (l.map marchL), I n] (B (bearsL b n c l)) := fun n hn => bearsR_ok b c l n q1 q2 q4 q3 hn k
  refine call (hbear 0 (by decide)) ?_
  dsimp only [go_sem, Nat.reduceAdd, Nat.reduceMul, Nat.reduceSub]
  by_cases hb0 : bearsL b 0 c l = true
  case neg =>
    refine br_t (by simpa using hb0) ?_
    dsimp only [go_sem, Nat.reduceAdd, Nat.reduceMul, Nat.reduceSub]
    have : bearsL b 0 c l = false := by simpa using hb0
    simp [heavyF, h0, this]
  refine br_f (by simp [hb0]) ?_
  dsimp only [go_sem, Nat.reduceAdd, Nat.reduceMul, Nat.reduceSub]
  have hh : heavyF b c l = (seekN (fun n => bearsL b n c l) 2000000 0 1000000, 0) := by simp [heavyF, h0, hb0]
  rw [hh]
  refine loopO (fun s : Int × Int => [(9, I s.1), (10, I s.2)]) (fun _ => []) (fun s => 0 ≤ s.1 ∧ s.1 ≤ s.2 ∧ s.2 ≤ 1000000 ∧ seekN (fun n => bearsL b n c l) 2000000 s.1 s.2 = seekN (fun n => bearsL b n c l) 2000000 0 1000000) (fun s => (s.2 - s.1).toNat) (0, 1000000) ⟨by decide, by decide, by decide, rfl⟩ ?_ ?_
  · (refine ent_id ?_ ?_ ?_ rfl rfl <;> dsimp only [breedL, camelL, marchL, id, go_sem, Nat.reduceAdd, Nat.reduceMul, Nat.reduceSub] <;> simp [breedL, camelL, marchL, KFR_iff, KFR_app, KFR, KFL, KF, mtL_same, mtO, Nat.beq_refl])
  rintro ⟨lo, hi⟩ ⟨g1, g2, g3, g4⟩
  simp only at g1 g2 g3 g4
  dsimp only [go_sem, Nat.reduceAdd, Nat.reduceMul, Nat.reduceSub]
  by_cases hlt : lo < hi
  · refine br_t (by simpa using hlt) ?_
    dsimp only [go_sem, Nat.reduceAdd, Nat.reduceMul, Nat.reduceSub]
    simp (disch := omega) only [w64_in]
    have e : (lo + hi + 1).tdiv 2 = (lo + hi + 1) / 2 := Int.tdiv_eq_ediv_of_nonneg (by omega)
    have g5 : seekN (fun n => bearsL b n c l) 2000000 lo hi = if bearsL b ((lo + hi + 1).tdiv 2) c l then seekN (fun n => bearsL b n c l) 2000000 ((lo + hi + 1).tdiv 2) hi else seekN (fun n => bearsL b n c l) 2000000 lo ((lo + hi + 1).tdiv 2 - 1) := by
      rw [← seek_enough 2000000 2000001 lo hi g1 (by omega) (by omega)]
      rw [seekN, if_pos hlt]
    rw [g4] at g5
    refine div0 (by decide) ?_
    dsimp only [go_sem, Nat.reduceAdd, Nat.reduceMul, Nat.reduceSub]
    simp only [e] at g5 ⊢
    simp (disch := omega) only [w64_in]
    refine call (hbear ((lo + hi + 1) / 2) (by simp only [inR, decide_eq_true_eq]; omega)) ?_
    dsimp only [go_sem, Nat.reduceAdd, Nat.reduceMul, Nat.reduceSub]
    refine br ?_ ?_
    · intro hb1
      dsimp only [go_sem, Nat.reduceAdd, Nat.reduceMul, Nat.reduceSub]
      rw [if_pos hb1] at g5
      refine ⟨((lo + hi + 1) / 2, hi), ⟨by simp only; omega, by simp only; omega, by simp only; omega, g5.symm⟩, by simp only; omega, ?_⟩
      (refine ent_id ?_ ?_ ?_ rfl rfl <;> dsimp only [breedL, camelL, marchL, id, go_sem, Nat.reduceAdd, Nat.reduceMul, Nat.reduceSub] <;> simp [breedL, camelL, marchL, KFR_iff, KFR_app, KFR, KFL, KF, mtL_same, mtO, Nat.beq_refl])
    · intro hb1
      dsimp only [go_sem, Nat.reduceAdd, Nat.reduceMul, Nat.reduceSub]
      simp (disch := omega) only [w64_in]
      rw [if_neg (by simpa using hb1)] at g5
      refine ⟨(lo, (lo + hi + 1) / 2 - 1), ⟨by simp only; omega, by simp only; omega, by simp only; omega, g5.symm⟩, by simp only; omega, ?_⟩
      (refine ent_id ?_ ?_ ?_ rfl rfl <;> dsimp only [breedL, camelL, marchL, id, go_sem, Nat.reduceAdd, Nat.reduceMul, Nat.reduceSub] <;> simp [breedL, camelL, marchL, KFR_iff, KFR_app, KFR, KFL, KF, mtL_same, mtO, Nat.beq_refl])
  refine br_f (by simp; omega) ?_
  dsimp only [go_sem, Nat.reduceAdd, Nat.reduceMul, Nat.reduceSub]
  have : seekN (fun n => bearsL b n c l) 2000000 lo hi = lo := by
    rw [← seek_enough 2000000 2000001 lo hi g1 (by omega) (by omega), seekN, if_neg hlt]
  rw [← g4, this]
end Go.Proofs.Ytnlfjchbhgikaaa
