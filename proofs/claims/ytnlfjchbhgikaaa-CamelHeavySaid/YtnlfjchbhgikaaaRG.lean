/- Walks and plain laws that lead to the given statement, part 7 of 8. -/
import Derived.Test.YtnlfjchbhgikaaaRF
import Derived.Laws.BytesString
import Derived.Test.YtnlfjchbhgikaaaProg
set_option maxRecDepth 100000
set_option maxHeartbeats 4000000
namespace Go.Azalai
theorem pairwise_of_srt {l : List Meet} (h : Srt Meet.day 0 l.length l) : l.Pairwise (fun x y => x.day ≤ y.day) := by
  rw [List.pairwise_iff_getElem]
  intro i j hi hj hij
  have := h i j (Nat.zero_le _) hij hj
  rwa [ky_eq Meet.day hi, ky_eq Meet.day hj] at this
/-- what the code knows is what is known -/
theorem mange_eq {n : Nat} {first : List Int} {meets l : List Meet} {wait : Span} {day : Int} (hw : 1 ≤ wait.lo ∧ wait.lo ≤ wait.hi) (hd : 0 ≤ day ∧ day ≤ 100000) (hf : ∀ i ∈ first, 0 ≤ i ∧ i < (n : Int)) (hm : ∀ m ∈ meets, okM n m)
    (hp : l.Perm meets) (hs : l.Pairwise (fun x y => x.day ≤ y.day)) (hl : ∃ s, Least n first (act false meets) wait.lo s) (hl2 : ∃ s, Least n first (act true meets) wait.hi s) {i : Nat} (hi : i < n) :
    (if gI (spreadF wait.hi day (l.filter (·.close)) (baseF first (List.replicate n 100061))) i ≤ day then 2 else if gI (spreadF wait.lo day l (baseF first (List.replicate n 100061))) i ≤ day then 1 else 0) = knF day (gI (sickF n first (act false meets) wait.lo) i) (gI (sickF n first (act true meets) wait.hi) i) := by
  obtain ⟨s1, h1⟩ := hl
  obtain ⟨s2, h2⟩ := hl2
  rw [h1.sickF, h2.sickF]
  have hml : ∀ m ∈ l, okM n m := fun m h => hm m (hp.mem_iff.1 h)
  have e1 := spread_sick (n := n) (first := first) (l := l) (w := wait.lo) (day := day) hw.1 hd.2 hf hml hs (i := (i : Int)) (by omega) (by omega)
  have e2 := spread_sick (n := n) (first := first) (l := l.filter (·.close)) (w := wait.hi) (day := day) (by omega) hd.2 hf (fun m h => hml m (List.mem_filter.1 h).1) (hs.filter _) (i := (i : Int)) (by omega) (by omega)
  have g1 := h1.sick (day := day) hd.2 (i := (i : Int)) (by omega) (by omega)
  have g2 := h2.sick (day := day) hd.2 (i := (i : Int)) (by omega) (by omega)
  have c1 : Sick first (· ∈ l) wait.lo i day ↔ Sick first (act false meets) wait.lo i day :=
    ⟨fun ⟨t, ht, h⟩ => ⟨t, ht, h.mono fun m hm => ⟨hp.mem_iff.1 hm, fun h => by cases h⟩⟩, fun ⟨t, ht, h⟩ => ⟨t, ht, h.mono fun m hm => hp.mem_iff.2 hm.1⟩⟩
  have c2 : Sick first (· ∈ l.filter (·.close)) wait.hi i day ↔ Sick first (act true meets) wait.hi i day :=
    ⟨fun ⟨t, ht, h⟩ => ⟨t, ht, h.mono fun m hm => ⟨hp.mem_iff.1 (List.mem_filter.1 hm).1, fun _ => (List.mem_filter.1 hm).2⟩⟩, fun ⟨t, ht, h⟩ => ⟨t, ht, h.mono fun m hm => List.mem_filter.2 ⟨hp.mem_iff.2 hm.1, hm.2 rfl⟩⟩⟩
  have c3 : Sick first (act true meets) wait.hi i day → Sick first (act false meets) wait.lo i day := fun ⟨t, ht, h⟩ => by
    obtain ⟨t', q1, q2⟩ := h.earlier (M' := act false meets) (w' := wait.lo) (fun m hm => ⟨hm.1, fun h => by cases h⟩) hw.2
    exact ⟨t', by omega, q2⟩
  rw [c1, ← g1] at e1
  rw [c2, ← g2] at e2
  rw [← g1, ← g2] at c3
  unfold knF
  by_cases q2 : gI s2 (i : Int) ≤ day
  · have := c3 q2
    rw [if_pos (e2.2 q2), if_neg (by omega), if_pos q2]
  · rw [if_neg (fun h => q2 (e2.1 h))]
    by_cases q1 : gI s1 (i : Int) ≤ day
    · rw [if_pos (e1.2 q1), if_neg (by omega), if_neg q2]
    · rw [if_neg (fun h => q1 (e1.1 h)), if_pos (by omega)]
end Go.Azalai
namespace Go.Proofs.Ytnlfjchbhgikaaa
open Go Go.Sx Go.Azalai
theorem mange_ok (n : Int) (first : List Int) (meets : List Meet) (wait : Span) (day : Int) (c1 c2 : Bool) (hl1 : first.length ≤ 1000) (hl2 : meets.length ≤ 1000) :
    Ct Try.prog 35 [I n, .sl c1 1 (first.map intL), .sl c2 4 (meets.map meetL), .agg (spanL wait), I day] (.tup [rowsK (meetsE n first meets wait day) (mangeK n first meets wait day), I (meetsE n first meets wait day)]) := by
  have hkr : KF (rowsK (meetsE n first meets wait day) (mangeK n first meets wait day)) := by
    unfold rowsK; split <;> simp [KF, KFR_iff, KFL, u8L, U8]
  refine t35 (by simp [meetL, KFR_iff, intL, spanL, KFL, KF]) (by simp [KF, KFL, hkr]) ?_
  dsimp only [c35, r35, spanL, go_sem, Nat.reduceAdd, Nat.reduceMul, Nat.reduceSub]
  refine call (from1 1 30 n true) ?_
  dsimp only [go_sem, Nat.reduceAdd, Nat.reduceMul, Nat.reduceSub]
  repeat (first | (refine gb ?_; dsimp only [go_sem, Nat.reduceAdd, Nat.reduceMul, Nat.reduceSub]) | (refine call (ordered1 1 60 wait true) ?_; dsimp only [go_sem, Nat.reduceAdd, Nat.reduceMul, Nat.reduceSub]) | (refine call (from1 0 100000 day true) ?_; dsimp only [go_sem, Nat.reduceAdd, Nat.reduceMul, Nat.reduceSub]))
  by_cases h1 : (inR 1 30 n && okSp 1 60 wait && inR 0 100000 day) = true
  case neg =>
    refine br_t (by revert h1; cases inR 1 30 n <;> cases okSp 1 60 wait <;> cases inR 0 100000 day <;> simp) ?_
    dsimp only [go_sem, Nat.reduceAdd, Nat.reduceMul, Nat.reduceSub]
    have hE : meetsE n first meets wait day = 2 := by
      unfold meetsE
      rw [if_pos (by revert h1; cases inR 1 30 n <;> cases okSp 1 60 wait <;> cases inR 0 100000 day <;> simp)]
    simp [rowsK, hE]
  refine br_f (by revert h1; cases inR 1 30 n <;> cases okSp 1 60 wait <;> cases inR 0 100000 day <;> simp) ?_
  dsimp only [go_sem, Nat.reduceAdd, Nat.reduceMul, Nat.reduceSub]
  repeat (refine gb ?_; dsimp only [go_sem, Nat.reduceAdd, Nat.reduceMul, Nat.reduceSub])
  simp only [List.length_map]
  by_cases h2 : first.length > 30 ∨ meets.length > 200
  · refine br_t (by simp; omega) ?_
    dsimp only [go_sem, Nat.reduceAdd, Nat.reduceMul, Nat.reduceSub]
    have hE : meetsE n first meets wait day = 4 := by
      unfold meetsE
      rw [if_neg (by simp [h1]), if_pos h2]
    simp [rowsK, hE]
  refine br_f (by simp; omega) ?_
  dsimp only [go_sem, Nat.reduceAdd, Nat.reduceMul, Nat.reduceSub]
  have hn : 1 ≤ n ∧ n ≤ 30 := by simp only [Bool.and_eq_true, inR, decide_eq_true_eq] at h1; exact h1.1.1
  have hE0 : meetsE n first meets wait day = if !(first.all (inR 0 (n - 1))) || meets.any (oddM n) then 14 else 0 := by
    unfold meetsE
    rw [if_neg (by simp [h1]), if_neg h2]
  rw [w64_in (n := n - 1) (by omega) (by omega)]
  refine call (from_any 0 (n - 1) first (by omega) c1) ?_
  dsimp only [go_sem, Nat.reduceAdd, Nat.reduceMul, Nat.reduceSub]
  repeat (refine gb ?_; dsimp only [go_sem, Nat.reduceAdd, Nat.reduceMul, Nat.reduceSub])
  refine callv (by simp [FLT]) (res := B (meets.any (oddM n))) ?_ ?_
  · dsimp only [go_sem, Nat.reduceAdd, Nat.reduceMul, Nat.reduceSub]
    exact con78 77 [.ps [I n] 0] (by simp [KFL, KF]) (oddM n) meets (fun x _ => odd_ok n hn.1 hn.2 x) (by omega)
  dsimp only [go_sem, Nat.reduceAdd, Nat.reduceMul, Nat.reduceSub]
  repeat (refine gb ?_; dsimp only [go_sem, Nat.reduceAdd, Nat.reduceMul, Nat.reduceSub])
  by_cases h3 : (!(first.all (inR 0 (n - 1))) || meets.any (oddM n)) = true
  · refine br_t (by revert h3; cases first.all (inR 0 (n - 1)) <;> cases meets.any (oddM n) <;> simp) ?_
    dsimp only [go_sem, Nat.reduceAdd, Nat.reduceMul, Nat.reduceSub]
    rw [if_pos h3] at hE0
    simp [rowsK, hE0]
  refine br_f (by revert h3; cases first.all (inR 0 (n - 1)) <;> cases meets.any (oddM n) <;> simp) ?_
  dsimp only [go_sem, Nat.reduceAdd, Nat.reduceMul, Nat.reduceSub]
  rw [if_neg h3] at hE0
  obtain ⟨_, hw, hd, hf1, hm1, hf, hm⟩ := meetsE_0 hE0
  clear h1 h2 h3
  refine callmP [] (clone_ok meets (by omega) c2) rfl rfl rfl ?_ ?_ ?_
  · ((try dsimp only [go_sem, Nat.reduceAdd, Nat.reduceMul, Nat.reduceSub]); repeat (simp only [Nat.beq_refl]; try dsimp only [go_sem, Nat.reduceAdd, Nat.reduceMul, Nat.reduceSub]))
    simp [mtL, mtB, mtS, KFR_iff, KFR, KFL, KF, meetL]
  · ((try dsimp only [go_sem, Nat.reduceAdd, Nat.reduceMul, Nat.reduceSub]); repeat (simp only [Nat.beq_refl]; try dsimp only [go_sem, Nat.reduceAdd, Nat.reduceMul, Nat.reduceSub]))
  rintro _ rfl
  ((try dsimp only [go_sem, Nat.reduceAdd, Nat.reduceMul, Nat.reduceSub]); repeat (simp only [Nat.beq_refl]; try dsimp only [go_sem, Nat.reduceAdd, Nat.reduceMul, Nat.reduceSub]))
  refine gh ent_refl ?_
  ((try dsimp only [go_sem, Nat.reduceAdd, Nat.reduceMul, Nat.reduceSub]); repeat (simp only [Nat.beq_refl]; try dsimp only [go_sem, Nat.reduceAdd, Nat.reduceMul, Nat.reduceSub]))
  refine callmP [2] (sort_ok 0 meets (by omega)) rfl rfl rfl ?_ ?_ ?_
  · ((try dsimp only [go_sem, Nat.reduceAdd, Nat.reduceMul, Nat.reduceSub]); repeat (simp only [Nat.beq_refl]; try dsimp only [go_sem, Nat.reduceAdd, Nat.reduceMul, Nat.reduceSub]))
    simp [mtL, mtB, mtS]
  · ((try dsimp only [go_sem, Nat.reduceAdd, Nat.reduceMul, Nat.reduceSub]); repeat (simp only [Nat.beq_refl]; try dsimp only [go_sem, Nat.reduceAdd, Nat.reduceMul, Nat.reduceSub]))
    simp [KFR_iff, meetL, KFL, KF]
  rintro _ ⟨l, hpl, hsl, rfl⟩
  ((try dsimp only [rowO, go_sem, Nat.reduceAdd, Nat.reduceMul, Nat.reduceSub]); repeat (simp only [Nat.beq_refl]; try dsimp only [go_sem, Nat.reduceAdd, Nat.reduceMul, Nat.reduceSub]))
  refine gh (ent_frz 13 2 0 rfl rfl rfl rfl) ?_
  obtain ⟨k, rfl⟩ : ∃ k : Nat, n = k := ⟨n.toNat, by omega⟩
  have hll := hpl.len
  have hso := pairwise_of_srt (by rw [hll]; exact hsl)
  have hml : ∀ m ∈ l, okM k m := fun m h => hm m (hpl.perm.mem_iff.1 h)
  ((try dsimp only [go_sem, Nat.reduceAdd, Nat.reduceMul, Nat.reduceSub]); repeat (simp only [Nat.beq_refl]; try dsimp only [go_sem, Nat.reduceAdd, Nat.reduceMul, Nat.reduceSub]))
  refine call (spread_ok k first l wait.lo day c1 false (by omega) (by omega) hf hml (by omega) hl1 (by omega)) ?_
  ((try dsimp only [go_sem, Nat.reduceAdd, Nat.reduceMul, Nat.reduceSub]); repeat (simp only [Nat.beq_refl]; try dsimp only [go_sem, Nat.reduceAdd, Nat.reduceMul, Nat.reduceSub]))
  refine callmP [] (clone_ok l (by omega) false) rfl rfl rfl ?_ ?_ ?_
  · ((try dsimp only [go_sem, Nat.reduceAdd, Nat.reduceMul, Nat.reduceSub]); repeat (simp only [Nat.beq_refl]; try dsimp only [go_sem, Nat.reduceAdd, Nat.reduceMul, Nat.reduceSub]))
    simp [mtL, mtB, mtS, KFR_iff, KFR, KFL, KF, meetL]
  · ((try dsimp only [go_sem, Nat.reduceAdd, Nat.reduceMul, Nat.reduceSub]); repeat (simp only [Nat.beq_refl]; try dsimp only [go_sem, Nat.reduceAdd, Nat.reduceMul, Nat.reduceSub]))
  rintro _ rfl
  ((try dsimp only [go_sem, Nat.reduceAdd, Nat.reduceMul, Nat.reduceSub]); repeat (simp only [Nat.beq_refl]; try dsimp only [go_sem, Nat.reduceAdd, Nat.reduceMul, Nat.reduceSub]))
  refine callmP [3] (delete_ok 0 l (by omega)) rfl rfl rfl ?_ ?_ ?_
  · ((try dsimp only [go_sem, Nat.reduceAdd, Nat.reduceMul, Nat.reduceSub]); repeat (simp only [Nat.beq_refl]; try dsimp only [go_sem, Nat.reduceAdd, Nat.reduceMul, Nat.reduceSub]))
    simp [mtL, mtB, mtS]
  · ((try dsimp only [go_sem, Nat.reduceAdd, Nat.reduceMul, Nat.reduceSub]); repeat (simp only [Nat.beq_refl]; try dsimp only [go_sem, Nat.reduceAdd, Nat.reduceMul, Nat.reduceSub]))
    simp [KFR_iff, meetL, KFL, KF]
  rintro _ (⟨hfl, rfl⟩ | ⟨l', hl', hle, htk, rfl⟩)
  · ((try dsimp only [go_sem, Nat.reduceAdd, Nat.reduceMul, Nat.reduceSub]); repeat (simp only [Nat.beq_refl]; try dsimp only [go_sem, Nat.reduceAdd, Nat.reduceMul, Nat.reduceSub]))
    refine gh (ent_frz 15 3 0 rfl rfl rfl rfl) ?_
    rw [show l.map meetL = (l.filter (·.close)).map meetL from by rw [hfl]]
    clear hfl
    generalize hfl0 : l.filter (·.close) = fl at *
    ((try dsimp only [go_sem, Nat.reduceAdd, Nat.reduceMul, Nat.reduceSub]); repeat (simp only [Nat.beq_refl]; try dsimp only [go_sem, Nat.reduceAdd, Nat.reduceMul, Nat.reduceSub]))
    refine call (spread_ok k first fl wait.hi day c1 false (by omega) (by omega) hf (fun m h => hml m (by rw [← hfl0] at h; exact (List.mem_filter.1 h).1)) (by omega) hl1 (by rw [← hfl0]; exact Nat.le_trans (List.length_filter_le _ _) (by omega))) ?_
    ((try dsimp only [go_sem, Nat.reduceAdd, Nat.reduceMul, Nat.reduceSub]); repeat (simp only [Nat.beq_refl]; try dsimp only [go_sem, Nat.reduceAdd, Nat.reduceMul, Nat.reduceSub]))
    have hlenE : (spreadF wait.lo day l (baseF first (List.replicate k 100061))).length = k := by rw [spreadF_len, baseF_len]; simp
    have hlenL : (spreadF wait.hi day fl (baseF first (List.replicate k 100061))).length = k := by rw [spreadF_len, baseF_len]; simp
    have heq : ∀ i : Nat, i < k → (if gI (spreadF wait.hi day fl (baseF first (List.replicate k 100061))) (i : Int) ≤ day then 2 else if gI (spreadF wait.lo day l (baseF first (List.replicate k 100061))) (i : Int) ≤ day then 1 else 0) = knF day (gI (sickF k first (act false meets) wait.lo) i) (gI (sickF k first (act true meets) wait.hi) i) := fun i hi => by
      have := mange_eq (meets := meets) (l := l) ⟨hw.1, hw.2.1⟩ hd hf hm hpl.perm hso (least_ex hf (fun m h => hm m h.1) (by omega)) (least_ex hf (fun m h => hm m h.1) (by omega)) hi
      rw [hfl0] at this
      exact this
    generalize spreadF wait.lo day l (baseF first (List.replicate k 100061)) = E at hlenE heq
    generalize spreadF wait.hi day fl (baseF first (List.replicate k 100061)) = L at hlenL heq
    refine ⟨k, rfl, by omega, ?_⟩
    ((try dsimp only [go_sem, Nat.reduceAdd, Nat.reduceMul, Nat.reduceSub]); repeat (simp only [Nat.beq_refl]; try dsimp only [go_sem, Nat.reduceAdd, Nat.reduceMul, Nat.reduceSub]))
    rw [show List.replicate k [SV.v (Value.int IntKind.u8 0)] = (List.replicate k (0 : Int)).map u8L from by simp [u8L, U8]]
    simp only [List.length_map, List.length_replicate]
    have hs0 : (List.replicate k (0 : Int)).length = k ∧ ∀ i, i < k → (List.replicate k (0 : Int))[i]? = some 0 := ⟨by simp, fun i hi => by rw [List.getElem?_replicate, if_pos hi]⟩
    generalize List.replicate k (0 : Int) = ks0 at hs0
    refine loopO (fun z : Nat × List Int => [(79, I z.1)]) (fun z => [(4, .row 0 1 (z.2.map u8L) 5)]) (fun z => z.1 ≤ k ∧ z.2.length = k ∧ ∀ i, i < k → z.2[i]? = some (if i < z.1 then (if gI L (i : Int) ≤ day then 2 else if gI E (i : Int) ≤ day then 1 else 0) else 0)) (fun z => k - z.1) (0, ks0) ⟨Nat.zero_le _, hs0.1, fun i hi => by rw [hs0.2 i hi, if_neg (Nat.not_lt_zero _)]⟩ ?_ ?_
    · (refine ent_id ?_ ?_ ?_ rfl rfl <;> dsimp only [meetL, intL, u8L, U8, id, go_sem, Nat.reduceAdd, Nat.reduceMul, Nat.reduceSub] <;> simp [meetL, intL, u8L, U8, KFR_iff, KFR_app, KFR, KFL, KF, mtL_same, mtO, Nat.beq_refl])
    rintro ⟨j, ks⟩ ⟨hj, hkl, hki⟩
    simp only at hj hkl hki
    ((try dsimp only [go_sem, Nat.reduceAdd, Nat.reduceMul, Nat.reduceSub]); repeat (simp only [Nat.beq_refl]; try dsimp only [go_sem, Nat.reduceAdd, Nat.reduceMul, Nat.reduceSub]))
    by_cases hlt : j < k
    · refine br_t (by simpa using hlt) ?_
      ((try dsimp only [go_sem, Nat.reduceAdd, Nat.reduceMul, Nat.reduceSub]); repeat (simp only [Nat.beq_refl]; try dsimp only [go_sem, Nat.reduceAdd, Nat.reduceMul, Nat.reduceSub]))
      have gL : gI L (j : Int) = L[j] := gI_eq rfl (by omega)
      have gE : gI E (j : Int) = E[j] := gI_eq rfl (by omega)
      refine ixs_map j (by omega) rfl ?_
      ((try dsimp only [intL, go_sem, Nat.reduceAdd, Nat.reduceMul, Nat.reduceSub]); repeat (simp only [Nat.beq_refl]; try dsimp only [go_sem, Nat.reduceAdd, Nat.reduceMul, Nat.reduceSub]))
      by_cases q2 : L[j] ≤ day
      · refine br_t (by simpa using q2) ?_
        have hx : (if gI L (j : Int) ≤ day then (2 : Int) else if gI E (j : Int) ≤ day then 1 else 0) = 2 := by rw [gL, if_pos q2]
        ((try dsimp only [go_sem, Nat.reduceAdd, Nat.reduceMul, Nat.reduceSub]); repeat (simp only [Nat.beq_refl]; try dsimp only [go_sem, Nat.reduceAdd, Nat.reduceMul, Nat.reduceSub]))
        refine ixrm j rfl (by first | omega | (simp; omega)) ?_
        ((try dsimp only [go_sem, Nat.reduceAdd, Nat.reduceMul, Nat.reduceSub]); repeat (simp only [Nat.beq_refl]; try dsimp only [go_sem, Nat.reduceAdd, Nat.reduceMul, Nat.reduceSub]))
        refine strm (2 : Int) (by first | omega | (simp; omega)) (by simp [u8L, U8]) (by simp [u8L, U8, splice]) ?_
        ((try dsimp only [go_sem, Nat.reduceAdd, Nat.reduceMul, Nat.reduceSub]); repeat (simp only [Nat.beq_refl]; try dsimp only [go_sem, Nat.reduceAdd, Nat.reduceMul, Nat.reduceSub]))
        rw [w64_in (n := (j : Int) + 1) (by omega) (by omega)]
        refine ⟨(j + 1, ks.set j 2), ⟨hlt, by simp [hkl], fun i hi => ?_⟩, by simp only; omega, ?_⟩
        · dsimp only
          have := hki i hi
          by_cases hij : i = j
          · subst hij; rw [List.getElem?_set_self (by omega), if_pos (Nat.lt_succ_self i), hx]
          · rw [List.getElem?_set_ne (by omega), this]
            by_cases hij2 : i < j
            · rw [if_pos hij2, if_pos (c := i < j + 1) (by omega)]
            · rw [if_neg hij2, if_neg (c := i < j + 1) (by omega)]
        generalize ks.set j 2 = ks2
        (refine ent_id ?_ ?_ ?_ rfl rfl <;> dsimp only [meetL, intL, u8L, U8, id, go_sem, Nat.reduceAdd, Nat.reduceMul, Nat.reduceSub] <;> simp [meetL, intL, u8L, U8, KFR_iff, KFR_app, KFR, KFL, KF, mtL_same, mtO, Nat.beq_refl])
      refine br_f (by simpa using q2) ?_
      ((try dsimp only [go_sem, Nat.reduceAdd, Nat.reduceMul, Nat.reduceSub]); repeat (simp only [Nat.beq_refl]; try dsimp only [go_sem, Nat.reduceAdd, Nat.reduceMul, Nat.reduceSub]))
      refine ixs_map j (by omega) rfl ?_
      ((try dsimp only [intL, go_sem, Nat.reduceAdd, Nat.reduceMul, Nat.reduceSub]); repeat (simp only [Nat.beq_refl]; try dsimp only [go_sem, Nat.reduceAdd, Nat.reduceMul, Nat.reduceSub]))
      by_cases q1 : E[j] ≤ day
      · refine br_t (by simpa using q1) ?_
        have hx : (if gI L (j : Int) ≤ day then (2 : Int) else if gI E (j : Int) ≤ day then 1 else 0) = 1 := by rw [gL, gE, if_neg q2, if_pos q1]
        ((try dsimp only [go_sem, Nat.reduceAdd, Nat.reduceMul, Nat.reduceSub]); repeat (simp only [Nat.beq_refl]; try dsimp only [go_sem, Nat.reduceAdd, Nat.reduceMul, Nat.reduceSub]))
        refine ixrm j rfl (by first | omega | (simp; omega)) ?_
        ((try dsimp only [go_sem, Nat.reduceAdd, Nat.reduceMul, Nat.reduceSub]); repeat (simp only [Nat.beq_refl]; try dsimp only [go_sem, Nat.reduceAdd, Nat.reduceMul, Nat.reduceSub]))
        refine strm (1 : Int) (by first | omega | (simp; omega)) (by simp [u8L, U8]) (by simp [u8L, U8, splice]) ?_
        ((try dsimp only [go_sem, Nat.reduceAdd, Nat.reduceMul, Nat.reduceSub]); repeat (simp only [Nat.beq_refl]; try dsimp only [go_sem, Nat.reduceAdd, Nat.reduceMul, Nat.reduceSub]))
        rw [w64_in (n := (j : Int) + 1) (by omega) (by omega)]
        refine ⟨(j + 1, ks.set j 1), ⟨hlt, by simp [hkl], fun i hi => ?_⟩, by simp only; omega, ?_⟩
        · dsimp only
          have := hki i hi
          by_cases hij : i = j
          · subst hij; rw [List.getElem?_set_self (by omega), if_pos (Nat.lt_succ_self i), hx]
          · rw [List.getElem?_set_ne (by omega), this]
            by_cases hij2 : i < j
            · rw [if_pos hij2, if_pos (c := i < j + 1) (by omega)]
            · rw [if_neg hij2, if_neg (c := i < j + 1) (by omega)]
        generalize ks.set j 1 = ks2
        (refine ent_id ?_ ?_ ?_ rfl rfl <;> dsimp only [meetL, intL, u8L, U8, id, go_sem, Nat.reduceAdd, Nat.reduceMul, Nat.reduceSub] <;> simp [meetL, intL, u8L, U8, KFR_iff, KFR_app, KFR, KFL, KF, mtL_same, mtO, Nat.beq_refl])
      refine br_f (by simpa using q1) ?_
      have hx : (if gI L (j : Int) ≤ day then (2 : Int) else if gI E (j : Int) ≤ day then 1 else 0) = 0 := by rw [gL, gE, if_neg q2, if_neg q1]
      ((try dsimp only [go_sem, Nat.reduceAdd, Nat.reduceMul, Nat.reduceSub]); repeat (simp only [Nat.beq_refl]; try dsimp only [go_sem, Nat.reduceAdd, Nat.reduceMul, Nat.reduceSub]))
      rw [w64_in (n := (j : Int) + 1) (by omega) (by omega)]
      refine ⟨(j + 1, ks), ⟨hlt, hkl, fun i hi => ?_⟩, by simp only; omega, ?_⟩
      · dsimp only
        have := hki i hi
        by_cases hij : i = j
        · subst hij; rw [this, if_neg (Nat.lt_irrefl i), if_pos (Nat.lt_succ_self i), hx]
        · rw [this]
          by_cases hij2 : i < j
          · rw [if_pos hij2, if_pos (c := i < j + 1) (by omega)]
          · rw [if_neg hij2, if_neg (c := i < j + 1) (by omega)]
      (refine ent_id ?_ ?_ ?_ rfl rfl <;> dsimp only [meetL, intL, u8L, U8, id, go_sem, Nat.reduceAdd, Nat.reduceMul, Nat.reduceSub] <;> simp [meetL, intL, u8L, U8, KFR_iff, KFR_app, KFR, KFL, KF, mtL_same, mtO, Nat.beq_refl])
    refine br_f (by simp; omega) ?_
    ((try dsimp only [go_sem, Nat.reduceAdd, Nat.reduceMul, Nat.reduceSub]); repeat (simp only [Nat.beq_refl]; try dsimp only [go_sem, Nat.reduceAdd, Nat.reduceMul, Nat.reduceSub]))
    have hjk : j = k := by omega
    subst hjk
    have hks : ks = mangeK j first meets wait day := by
      apply List.ext_getElem? 
      intro i
      unfold mangeK
      rw [Int.toNat_natCast, List.getElem?_map]
      by_cases hi : i < j
      · rw [hki i hi, if_pos hi, heq i hi, List.getElem?_range hi]; rfl
      · rw [List.getElem?_eq_none (by omega), List.getElem?_eq_none (by simp; omega)]; rfl
    rw [hks]
    simp [rowsK, hE0]
  · ((try dsimp only [go_sem, Nat.reduceAdd, Nat.reduceMul, Nat.reduceSub]); repeat (simp only [Nat.beq_refl]; try dsimp only [go_sem, Nat.reduceAdd, Nat.reduceMul, Nat.reduceSub]))
    refine gh (ent_frzp 15 3 0 _ rfl rfl rfl rfl (by simpa using hle)) ?_
    rw [← List.map_take, htk]
    clear htk hle
    generalize hfl0 : l.filter (·.close) = fl at *
    ((try dsimp only [go_sem, Nat.reduceAdd, Nat.reduceMul, Nat.reduceSub]); repeat (simp only [Nat.beq_refl]; try dsimp only [go_sem, Nat.reduceAdd, Nat.reduceMul, Nat.reduceSub]))
    refine call (spread_ok k first fl wait.hi day c1 false (by omega) (by omega) hf (fun m h => hml m (by rw [← hfl0] at h; exact (List.mem_filter.1 h).1)) (by omega) hl1 (by rw [← hfl0]; exact Nat.le_trans (List.length_filter_le _ _) (by omega))) ?_
    ((try dsimp only [go_sem, Nat.reduceAdd, Nat.reduceMul, Nat.reduceSub]); repeat (simp only [Nat.beq_refl]; try dsimp only [go_sem, Nat.reduceAdd, Nat.reduceMul, Nat.reduceSub]))
    have hlenE : (spreadF wait.lo day l (baseF first (List.replicate k 100061))).length = k := by rw [spreadF_len, baseF_len]; simp
    have hlenL : (spreadF wait.hi day fl (baseF first (List.replicate k 100061))).length = k := by rw [spreadF_len, baseF_len]; simp
    have heq : ∀ i : Nat, i < k → (if gI (spreadF wait.hi day fl (baseF first (List.replicate k 100061))) (i : Int) ≤ day then 2 else if gI (spreadF wait.lo day l (baseF first (List.replicate k 100061))) (i : Int) ≤ day then 1 else 0) = knF day (gI (sickF k first (act false meets) wait.lo) i) (gI (sickF k first (act true meets) wait.hi) i) := fun i hi => by
      have := mange_eq (meets := meets) (l := l) ⟨hw.1, hw.2.1⟩ hd hf hm hpl.perm hso (least_ex hf (fun m h => hm m h.1) (by omega)) (least_ex hf (fun m h => hm m h.1) (by omega)) hi
      rw [hfl0] at this
      exact this
    generalize spreadF wait.lo day l (baseF first (List.replicate k 100061)) = E at hlenE heq
    generalize spreadF wait.hi day fl (baseF first (List.replicate k 100061)) = L at hlenL heq
    refine ⟨k, rfl, by omega, ?_⟩
    ((try dsimp only [go_sem, Nat.reduceAdd, Nat.reduceMul, Nat.reduceSub]); repeat (simp only [Nat.beq_refl]; try dsimp only [go_sem, Nat.reduceAdd, Nat.reduceMul, Nat.reduceSub]))
    rw [show List.replicate k [SV.v (Value.int IntKind.u8 0)] = (List.replicate k (0 : Int)).map u8L from by simp [u8L, U8]]
    simp only [List.length_map, List.length_replicate]
    have hs0 : (List.replicate k (0 : Int)).length = k ∧ ∀ i, i < k → (List.replicate k (0 : Int))[i]? = some 0 := ⟨by simp, fun i hi => by rw [List.getElem?_replicate, if_pos hi]⟩
    generalize List.replicate k (0 : Int) = ks0 at hs0
    refine loopO (fun z : Nat × List Int => [(79, I z.1)]) (fun z => [(4, .row 0 1 (z.2.map u8L) 5)]) (fun z => z.1 ≤ k ∧ z.2.length = k ∧ ∀ i, i < k → z.2[i]? = some (if i < z.1 then (if gI L (i : Int) ≤ day then 2 else if gI E (i : Int) ≤ day then 1 else 0) else 0)) (fun z => k - z.1) (0, ks0) ⟨Nat.zero_le _, hs0.1, fun i hi => by rw [hs0.2 i hi, if_neg (Nat.not_lt_zero _)]⟩ ?_ ?_
    · (refine ent_id ?_ ?_ ?_ rfl rfl <;> dsimp only [meetL, intL, u8L, U8, id, go_sem, Nat.reduceAdd, Nat.reduceMul, Nat.reduceSub] <;> simp [meetL, intL, u8L, U8, KFR_iff, KFR_app, KFR, KFL, KF, mtL_same, mtO, Nat.beq_refl])
    rintro ⟨j, ks⟩ ⟨hj, hkl, hki⟩
    simp only at hj hkl hki
    ((try dsimp only [go_sem, Nat.reduceAdd, Nat.reduceMul, Nat.reduceSub]); repeat (simp only [Nat.beq_refl]; try dsimp only [go_sem, Nat.reduceAdd, Nat.reduceMul, Nat.reduceSub]))
    by_cases hlt : j < k
    · refine br_t (by simpa using hlt) ?_
      ((try dsimp only [go_sem, Nat.reduceAdd, Nat.reduceMul, Nat.reduceSub]); repeat (simp only [Nat.beq_refl]; try dsimp only [go_sem, Nat.reduceAdd, Nat.reduceMul, Nat.reduceSub]))
      have gL : gI L (j : Int) = L[j] := gI_eq rfl (by omega)
      have gE : gI E (j : Int) = E[j] := gI_eq rfl (by omega)
      refine ixs_map j (by omega) rfl ?_
      ((try dsimp only [intL, go_sem, Nat.reduceAdd, Nat.reduceMul, Nat.reduceSub]); repeat (simp only [Nat.beq_refl]; try dsimp only [go_sem, Nat.reduceAdd, Nat.reduceMul, Nat.reduceSub]))
      by_cases q2 : L[j] ≤ day
      · refine br_t (by simpa using q2) ?_
        have hx : (if gI L (j : Int) ≤ day then (2 : Int) else if gI E (j : Int) ≤ day then 1 else 0) = 2 := by rw [gL, if_pos q2]
        ((try dsimp only [go_sem, Nat.reduceAdd, Nat.reduceMul, Nat.reduceSub]); repeat (simp only [Nat.beq_refl]; try dsimp only [go_sem, Nat.reduceAdd, Nat.reduceMul, Nat.reduceSub]))
        refine ixrm j rfl (by first | omega | (simp; omega)) ?_
        ((try dsimp only [go_sem, Nat.reduceAdd, Nat.reduceMul, Nat.reduceSub]); repeat (simp only [Nat.beq_refl]; try dsimp only [go_sem, Nat.reduceAdd, Nat.reduceMul, Nat.reduceSub]))
        refine strm (2 : Int) (by first | omega | (simp; omega)) (by simp [u8L, U8]) (by simp [u8L, U8, splice]) ?_
        ((try dsimp only [go_sem, Nat.reduceAdd, Nat.reduceMul, Nat.reduceSub]); repeat (simp only [Nat.beq_refl]; try dsimp only [go_sem, Nat.reduceAdd, Nat.reduceMul, Nat.reduceSub]))
        rw [w64_in (n := (j : Int) + 1) (by omega) (by omega)]
        refine ⟨(j + 1, ks.set j 2), ⟨hlt, by simp [hkl], fun i hi => ?_⟩, by simp only; omega, ?_⟩
        · dsimp only
          have := hki i hi
          by_cases hij : i = j
          · subst hij; rw [List.getElem?_set_self (by omega), if_pos (Nat.lt_succ_self i), hx]
          · rw [List.getElem?_set_ne (by omega), this]
            by_cases hij2 : i < j
            · rw [if_pos hij2, if_pos (c := i < j + 1) (by omega)]
            · rw [if_neg hij2, if_neg (c := i < j + 1) (by omega)]
        generalize ks.set j 2 = ks2
        (refine ent_id ?_ ?_ ?_ rfl rfl <;> dsimp only [meetL, intL, u8L, U8, id, go_sem, Nat.reduceAdd, Nat.reduceMul, Nat.reduceSub] <;> simp [meetL, intL, u8L, U8, KFR_iff, KFR_app, KFR, KFL, KF, mtL_same, mtO, Nat.beq_refl])
      refine br_f (by simpa using q2) ?_
      ((try dsimp only [go_sem, Nat.reduceAdd, Nat.reduceMul, Nat.reduceSub]); repeat (simp only [Nat.beq_refl]; try dsimp only [go_sem, Nat.reduceAdd, Nat.reduceMul, Nat.reduceSub]))
      refine ixs_map j (by omega) rfl ?_
      ((try dsimp only [intL, go_sem, Nat.reduceAdd, Nat.reduceMul, Nat.reduceSub]); repeat (simp only [Nat.beq_refl]; try dsimp only [go_sem, Nat.reduceAdd, Nat.reduceMul, Nat.reduceSub]))
      by_cases q1 : E[j] ≤ day
      · refine br_t (by simpa using q1) ?_
        have hx : (if gI L (j : Int) ≤ day then (2 : Int) else if gI E (j : Int) ≤ day then 1 else 0) = 1 := by rw [gL, gE, if_neg q2, if_pos q1]
        ((try dsimp only [go_sem, Nat.reduceAdd, Nat.reduceMul, Nat.reduceSub]); repeat (simp only [Nat.beq_refl]; try dsimp only [go_sem, Nat.reduceAdd, Nat.reduceMul, Nat.reduceSub]))
        refine ixrm j rfl (by first | omega | (simp; omega)) ?_
        ((try dsimp only [go_sem, Nat.reduceAdd, Nat.reduceMul, Nat.reduceSub]); repeat (simp only [Nat.beq_refl]; try dsimp only [go_sem, Nat.reduceAdd, Nat.reduceMul, Nat.reduceSub]))
        refine strm (1 : Int) (by first | omega | (simp; omega)) (by simp [u8L, U8]) (by simp [u8L, U8, splice]) ?_
        ((try dsimp only [go_sem, Nat.reduceAdd, Nat.reduceMul, Nat.reduceSub]); repeat (simp only [Nat.beq_refl]; try dsimp only [go_sem, Nat.reduceAdd, Nat.reduceMul, Nat.reduceSub]))
        rw [w64_in (n := (j : Int) + 1) (by omega) (by omega)]
        refine ⟨(j + 1, ks.set j 1), ⟨hlt, by simp [hkl], fun i hi => ?_⟩, by simp only; omega, ?_⟩
        · dsimp only
          have := hki i hi
          by_cases hij : i = j
          · subst hij; rw [List.getElem?_set_self (by omega), if_pos (Nat.lt_succ_self i), hx]
          · rw [List.getElem?_set_ne (by omega), this]
            by_cases hij2 : i < j
            · rw [if_pos hij2, if_pos (c := i < j + 1) (by omega)]
            · rw [if_neg hij2, if_neg (c := i < j + 1) (by omega)]
        generalize ks.set j 1 = ks2
        (refine ent_id ?_ ?_ ?_ rfl rfl <;> dsimp only [meetL, intL, u8L, U8, id, go_sem, Nat.reduceAdd, Nat.reduceMul, Nat.reduceSub] <;> simp [meetL, intL, u8L, U8, KFR_iff, KFR_app, KFR, KFL, KF, mtL_same, mtO, Nat.beq_refl])
      refine br_f (by simpa using q1) ?_
      have hx : (if gI L (j : Int) ≤ day then (2 : Int) else if gI E (j : Int) ≤ day then 1 else 0) = 0 := by rw [gL, gE, if_neg q2, if_neg q1]
      ((try dsimp only [go_sem, Nat.reduceAdd, Nat.reduceMul, Nat.reduceSub]); repeat (simp only [Nat.beq_refl]; try dsimp only [go_sem, Nat.reduceAdd, Nat.reduceMul, Nat.reduceSub]))
      rw [w64_in (n := (j : Int) + 1) (by omega) (by omega)]
      refine ⟨(j + 1, ks), ⟨hlt, hkl, fun i hi => ?_⟩, by simp only; omega, ?_⟩
      · dsimp only
        have := hki i hi
        by_cases hij : i = j
        · subst hij; rw [this, if_neg (Nat.lt_irrefl i), if_pos (Nat.lt_succ_self i), hx]
        · rw [this]
          by_cases hij2 : i < j
          · rw [if_pos hij2, if_pos (c := i < j + 1) (by omega)]
          · rw [if_neg hij2, if_neg (c := i < j + 1) (by omega)]
      (refine ent_id ?_ ?_ ?_ rfl rfl <;> dsimp only [meetL, intL, u8L, U8, id, go_sem, Nat.reduceAdd, Nat.reduceMul, Nat.reduceSub] <;> simp [meetL, intL, u8L, U8, KFR_iff, KFR_app, KFR, KFL, KF, mtL_same, mtO, Nat.beq_refl])
    refine br_f (by simp; omega) ?_
    ((try dsimp only [go_sem, Nat.reduceAdd, Nat.reduceMul, Nat.reduceSub]); repeat (simp only [Nat.beq_refl]; try dsimp only [go_sem, Nat.reduceAdd, Nat.reduceMul, Nat.reduceSub]))
    have hjk : j = k := by omega
    subst hjk
    have hks : ks = mangeK j first meets wait day := by
      apply List.ext_getElem? 
      intro i
      unfold mangeK
      rw [Int.toNat_natCast, List.getElem?_map]
      by_cases hi : i < j
      · rw [hki i hi, if_pos hi, heq i hi, List.getElem?_range hi]; rfl
      · rw [List.getElem?_eq_none (by omega), List.getElem?_eq_none (by simp; omega)]; rfl
    rw [hks]
    simp [rowsK, hE0]
end Go.Proofs.Ytnlfjchbhgikaaa
namespace Go.Sx
open Go
def byS (ns : List Int) : ByteArray := ns.foldl (fun r n => r.push (UInt8.ofNat n.toNat)) ByteArray.empty
theorem RL_vals {w : World} {E : Env} {n ok : Nat → Prop} : ∀ {l ys : List Value}, RL w E n ok (l.map SV.v) ys → ys = l
  | [], ys, h => by simpa [RL] using h
  | x :: l, ys, h => by
    simp only [List.map_cons, RL] at h
    obtain ⟨y, r, rfl, h1, h2⟩ := h
    simp only [R] at h1
    rw [h1, RL_vals h2]
theorem flat1 {α β : Type} (f : α → β) : ∀ l : List α, (l.map fun n => [f n]).flatten = l.map f
  | [] => rfl
  | x :: l => by simp only [List.map_cons, List.flatten_cons, flat1 f l]; rfl
/-- a row of bytes as a string -/
theorem raw_str {P : Program} {d : Option Nat} {u src dst ty e : Nat} {ns : List Int} {s : SV} {σ : St} {r : KT} {K : RK} (hl : lk u σ.fr = s) (hng : ∀ j b u, s ≠ .gd j b u) (hs : sprV 1 s = some (ns.map fun n => [SV.v (.int .u8 n)]))
    (hsrc : P.underlying src = some (.slice e)) (hdst : P.underlying dst = some .string) (he : P.underlying e = some (.int .u8)) (hk : putK d (.v (.string (byS ns))) none σ r K) : RAW P d (.convert src dst (.tmp u)) ty σ r K := by
  intro o C E a w next Q h1 h2 h3 hS hn hq
  have hR := FR_R (hS.fr u) (fun j b u' e => hng j b u' (hl ▸ e))
  rw [hl] at hR
  obtain ⟨cs, ⟨ad, cap, y0, y1, y2, y3⟩, hcs, _⟩ := sprV_shows hR hs
  have hflat : (ns.map fun n => [SV.v (.int .u8 n)]).flatten = (ns.map (Value.int .u8)).map SV.v := by rw [flat1 (fun n => SV.v (.int .u8 n)), List.map_map]; rfl
  rw [hflat] at hcs
  have hcs := RL_vals hcs
  subst hcs
  have hrun : (convert src dst (a.tmps.getD u undef)).run P w = .ok (.string (byS ns)) w := by
    rw [y0, run_convert_bytes_string w src dst e ad _ cap hsrc he hdst]
    cases ad with
    | none =>
      have : ns = [] := by
        rcases y3 with h | ⟨b, off, h, _⟩
        · simpa using h
        · cases h
      subst this
      simp [Conv.bytesToString, Sem.run_pure, byS]
    | some ad =>
      refine run_bytesToString w ad _ cap ns ?_
      rcases y3 with h | ⟨b, off, h, hc⟩
      · have : ns = [] := by simpa using h
        subst this
        simp [loadCells, loadCellsFrom, Sem.run_pure]
      · cases h
        have hlen : (ns.map fun n => [SV.v (.int .u8 n)]).length = (ns.map (Value.int .u8)).length := by simp
        rw [hlen]
        exact run_loadCells_list w _ _ (fun j v hv => by rw [addr_add]; exact hc j v hv)
  have hx : (execOp a.eval o).run P w = .ok (.value (.string (byS ns))) w := by
    obtain ⟨dst', op', ty', pos, after, guard⟩ := o
    simp only at h2; subst h2
    simp only [Array.getD_eq_getD_getElem?] at hrun
    simp only [execOp, Act.eval]
    simp [Sem.run_bind, hrun]
  refine wpq_res hx (by simp) ?_
  show next (a.put o.dst _) w
  rcases putK_ex hk with ⟨g1, g2⟩ | ⟨t, g1, g2, g3, g4, g5⟩
  · rw [h1, g1]; exact hn _ E _ _ g2 hS
  · rw [h1, g1]
    exact hn _ E _ _ g5 (Sim_put hS (fun b hb _ => ⟨hb, rfl⟩) (fun _ _ => Ele.rfl) (Nat.le_refl _) hS.hs g2 g3 (fun j b u e => by rw [e] at g4; cases g4) (by simp only [R]))
/-- a string and a given one -/
theorem raw_seqc {P : Program} {d : Option Nat} {u t t' ty : Nat} {op : BinOp} {q : Bool} {x y : ByteArray} {σ : St} {r : KT} {K : RK} (hu : lk u σ.fr = .v (.string x)) (hq0 : (op = .eql ∧ q = (x.toList == y.toList)) ∨ (op = .neq ∧ q = !(x.toList == y.toList))) 
    (hk : putK d (.v (.bool q)) none σ r K) : RAW P d (.binOp op t (.tmp u) (.const (.string y)) t') ty σ r K := by
  intro o C E a w next Q h1 h2 h3 hS hn hq
  have hx : a.eval (.tmp u) = .string x := by
    have := hS.fr u
    rw [hu] at this
    simp only [FR, R] at this
    exact this
  have hrun : (execOp a.eval o).run P w =   .ok (.value (.bool q)) w := by
    obtain ⟨dst', op', ty', pos, after, guard⟩ := o
    simp only at h2; subst h2
    have hc : a.eval (.const (.string y)) = .string y := rfl
    simp only [execOp, hx, hc]
    rcases hq0 with ⟨rfl, rfl⟩ | ⟨rfl, rfl⟩ <;> simp [Sem.run_bind, eqGuard, binOp, Op.stringOp, Sem.run_pure]
  refine wpq_res hrun (by simp) ?_
  show next (a.put o.dst _) w
  rcases putK_ex hk with ⟨g1, g2⟩ | ⟨t, g1, g2, g3, g4, g5⟩
  · rw [h1, g1]; exact hn _ E _ _ g2 hS
  · rw [h1, g1]
    exact hn _ E _ _ g5 (Sim_put hS (fun b hb _ => ⟨hb, rfl⟩) (fun _ _ => Ele.rfl) (Nat.le_refl _) hS.hs g2 g3 (fun j b u e => by rw [e] at g4; cases g4) (by simp only [R]))
end Go.Sx
set_option maxRecDepth 100000
set_option maxHeartbeats 4000000
namespace Go.Proofs.Ytnlfjchbhgikaaa
open Go Go.Sx Go.Azalai
end Go.Proofs.Ytnlfjchbhgikaaa
set_option maxRecDepth 100000
set_option maxHeartbeats 4000000
namespace Go.Azalai
def herdE : List Meet := [⟨0, 1, 5, false⟩, ⟨1, 2, 9, true⟩]
theorem herd_early : Least 3 [0] (act false herdE) 3 [0, 8, 12] := by
  refine Sk.least ⟨rfl, fun i h0 h1 => ?_, fun i hi => ?_, fun i h0 h1 => ?_⟩ (fun m hm => ?_) (fun m hm => ?_)
  · have e1 : Inf [0] (act false herdE) 3 0 0 := .base (by simp)
    have e2 : Inf [0] (act false herdE) 3 1 (5 + 3) := .l (m := ⟨0, 1, 5, false⟩) ⟨by simp [herdE], fun h => by cases h⟩ e1 (by decide)
    have e3 : Inf [0] (act false herdE) 3 2 (9 + 3) := .l (m := ⟨1, 2, 9, true⟩) ⟨by simp [herdE], fun h => by cases h⟩ e2 (by decide)
    have : i = 0 ∨ i = 1 ∨ i = 2 := by omega
    rcases this with rfl | rfl | rfl
    · exact .inr e1
    · exact .inr e2
    · exact .inr e3
  · simp at hi; subst hi; decide
  · have : i = 0 ∨ i = 1 ∨ i = 2 := by omega
    rcases this with rfl | rfl | rfl <;> decide
  · have := hm.1; simp [herdE] at this; rcases this with rfl | rfl <;> (unfold okM; simp)
  · have := hm.1; simp [herdE] at this; rcases this with rfl | rfl <;> decide
theorem herd_late : Least 3 [0] (act true herdE) 5 [0, never, never] := by
  refine Sk.least ⟨rfl, fun i h0 h1 => ?_, fun i hi => ?_, fun i h0 h1 => ?_⟩ (fun m hm => ?_) (fun m hm => ?_)
  · have : i = 0 ∨ i = 1 ∨ i = 2 := by omega
    rcases this with rfl | rfl | rfl
    · exact .inr (.base (by simp))
    · exact .inl rfl
    · exact .inl rfl
  · simp at hi; subst hi; decide
  · have : i = 0 ∨ i = 1 ∨ i = 2 := by omega
    rcases this with rfl | rfl | rfl <;> decide
  · have := hm.1; simp [herdE] at this; rcases this with rfl | rfl <;> (unfold okM; simp)
  · obtain ⟨h1, h2⟩ := hm
    simp [herdE] at h1
    rcases h1 with rfl | rfl
    · exact absurd (h2 rfl) (by simp)
    · decide
theorem herdK (day : Int) : mangeK 3 [0] herdE ⟨3, 5⟩ day = [knF day 0 0, knF day 8 never, knF day 12 never] := by
  unfold mangeK
  rw [show (3 : Int).toNat = 3 from rfl, herd_early.sickF, herd_late.sickF]
  rfl
end Go.Azalai
namespace Go.Proofs.Ytnlfjchbhgikaaa
open Go Go.Sx Go.Azalai
theorem herd_ok : Ct Try.prog 51 [] (.sl true 4 (herdE.map meetL)) := by
  refine t51 (by simp [KFL, KF]) (by simp [herdE, meetL, KFR, KFL, KF]) ?_
  dsimp only [c51, r51, go_sem, Nat.reduceAdd, Nat.reduceMul, Nat.reduceSub]
  rfl
theorem eFit : sres breedE animalE (fitF breedE animalE) = .tup [.agg [I 800, I 1000], I 0] := by kernel_rfl
theorem eCar : sres breedE animalE (carF breedE animalE) = .tup [.agg [I 120000, I 200000], I 0] := by kernel_rfl
theorem eCost : cres breedE false dayE = .tup [.agg [I 7000, I 9500], .agg [I 800, I 1000], I 0] := by kernel_rfl
theorem eAft : afterE breedE animalE dayE = (⟨⟨50500, 63000⟩, ⟨19000, 29200⟩, ⟨100, 300⟩, false⟩, 0, 0) := by kernel_rfl
theorem eLast : tres (lastsF breedE animalE dayE) = .tup [.agg [I 6, I 10], I 0] := by kernel_rfl
theorem eMeet : meetsE 3 [0] herdE ⟨3, 5⟩ 8 = 0 := by kernel_rfl
theorem eKn : ([knF 8 0 0, knF 8 8 never, knF 8 12 never] : List Int) = [2, 1, 0] := by kernel_rfl
theorem eRow : rowsK 0 [2, 1, 0] = .sl false 1 ([2, 1, 0].map u8L) := rfl
end Go.Proofs.Ytnlfjchbhgikaaa
set_option maxRecDepth 100000
set_option maxHeartbeats 4000000
namespace Go.Proofs.Ytnlfjchbhgikaaa
open Go Go.Sx Go.Azalai
theorem alive_ok : Ct Try.prog 38 [] (B true) := by
  refine t38 (by simp [KFL, KF]) (by simp [KFL, KF]) ?_
  dsimp only [c38, r38, go_sem, Nat.reduceAdd, Nat.reduceMul, Nat.reduceSub]
  refine call breedE_ok ?_
  dsimp only [go_sem, Nat.reduceAdd, Nat.reduceMul, Nat.reduceSub]
  refine call animalE_ok ?_
  dsimp only [go_sem, Nat.reduceAdd, Nat.reduceMul, Nat.reduceSub]
  refine call (fitness_ok breedE animalE) ?_
  rw [eFit]
  dsimp only [go_sem, Nat.reduceAdd, Nat.reduceMul, Nat.reduceSub]
  refine call breedE_ok ?_
  dsimp only [go_sem, Nat.reduceAdd, Nat.reduceMul, Nat.reduceSub]
  refine call animalE_ok ?_
  dsimp only [go_sem, Nat.reduceAdd, Nat.reduceMul, Nat.reduceSub]
  refine call (carries_ok breedE animalE) ?_
  rw [eCar]
  dsimp only [go_sem, Nat.reduceAdd, Nat.reduceMul, Nat.reduceSub]
  refine call breedE_ok ?_
  dsimp only [go_sem, Nat.reduceAdd, Nat.reduceMul, Nat.reduceSub]
  refine call dayE_ok ?_
  dsimp only [go_sem, Nat.reduceAdd, Nat.reduceMul, Nat.reduceSub]
  refine call (Cost_ok breedE false dayE) ?_
  rw [eCost]
  dsimp only [go_sem, Nat.reduceAdd, Nat.reduceMul, Nat.reduceSub]
  refine call breedE_ok ?_
  dsimp only [go_sem, Nat.reduceAdd, Nat.reduceMul, Nat.reduceSub]
  refine call animalE_ok ?_
  dsimp only [go_sem, Nat.reduceAdd, Nat.reduceMul, Nat.reduceSub]
  refine call dayE_ok ?_
  dsimp only [go_sem, Nat.reduceAdd, Nat.reduceMul, Nat.reduceSub]
  refine call (after1_ok breedE animalE dayE) ?_
  rw [eAft]
  dsimp only [camelL, U8, go_sem, Nat.reduceAdd, Nat.reduceMul, Nat.reduceSub]
  refine call breedE_ok ?_
  dsimp only [go_sem, Nat.reduceAdd, Nat.reduceMul, Nat.reduceSub]
  refine call animalE_ok ?_
  dsimp only [go_sem, Nat.reduceAdd, Nat.reduceMul, Nat.reduceSub]
  refine call dayE_ok ?_
  dsimp only [go_sem, Nat.reduceAdd, Nat.reduceMul, Nat.reduceSub]
  refine call (lasts_ok breedE animalE dayE) ?_
  rw [eLast]
  dsimp only [go_sem, Nat.reduceAdd, Nat.reduceMul, Nat.reduceSub]
  refine call herd_ok ?_
  dsimp only [go_sem, Nat.reduceAdd, Nat.reduceMul, Nat.reduceSub]
  refine call (span_ok 3 5) ?_
  dsimp only [go_sem, Nat.reduceAdd, Nat.reduceMul, Nat.reduceSub]
  refine call (mange_ok 3 [0] herdE ⟨3, 5⟩ 8 true true (by decide) (by decide)) ?_
  rw [herdK, eMeet, eKn, eRow]
  dsimp only [go_sem, Nat.reduceAdd, Nat.reduceMul, Nat.reduceSub]
  repeat (first | (refine .inl ⟨rfl, ?_⟩; dsimp only [go_sem, Nat.reduceAdd, Nat.reduceMul, Nat.reduceSub]) | (refine call (span_ok _ _) ?_; dsimp only [go_sem, Nat.reduceAdd, Nat.reduceMul, Nat.reduceSub]))
  refine raw_str (e := 5) (ns := [2, 1, 0]) rfl (fun _ _ _ e => by cases e) rfl (by kernel_rfl) (by kernel_rfl) (by kernel_rfl) ?_
  dsimp only [go_sem, Nat.reduceAdd, Nat.reduceMul, Nat.reduceSub]
  refine .inl ⟨rfl, ?_⟩
  dsimp only [go_sem, Nat.reduceAdd, Nat.reduceMul, Nat.reduceSub]
  refine raw_seqc (q := true) rfl (.inl ⟨rfl, by decide +kernel⟩) ?_
  dsimp only [go_sem, Nat.reduceAdd, Nat.reduceMul, Nat.reduceSub]
  simp
end Go.Proofs.Ytnlfjchbhgikaaa
namespace Go.Azalai
theorem tdiv_mono {a b d : Int} (h0 : 0 ≤ a) (h : a ≤ b) (hd : 0 < d) : a.tdiv d ≤ b.tdiv d := by
  rw [Int.tdiv_eq_ediv_of_nonneg h0, Int.tdiv_eq_ediv_of_nonneg (Int.le_trans h0 h)]
  exact Int.ediv_le_ediv hd h
theorem upF_mono {a b d : Int} (h0 : 0 ≤ a) (h : a ≤ b) (hd : 0 < d) : upF a d ≤ upF b d := by
  unfold upF; exact tdiv_mono (by omega) (by omega) hd
theorem workF_le {m n : March} (h1 : n.hours ≤ m.hours) (h0 : 0 ≤ n.hours) (h2 : n.load ≤ m.load) (h3 : 0 ≤ n.load) : 0 ≤ workF n ∧ workF n ≤ workF m := by
  unfold workF
  exact ⟨Int.mul_nonneg h0 (by omega), Int.mul_le_mul h1 (by omega) (by omega) (by omega)⟩
theorem mulw {x a b : Int} (hx : 0 ≤ x) (h : 0 ≤ a ∧ a ≤ b) : 0 ≤ x * a ∧ x * a ≤ x * b := ⟨Int.mul_nonneg hx h.1, Int.mul_le_mul_of_nonneg_left h.2 hx⟩
end Go.Azalai
set_option maxRecDepth 100000
set_option maxHeartbeats 4000000
namespace Go.Proofs.Ytnlfjchbhgikaaa
open Go Go.Sx Go.Azalai
theorem readyF_iff {b : Breed} {c : Camel} {l : List March} : readyF b c l = true ↔ okBreed b = true ∧ okCamel b c = true ∧ l.length ≤ 60 ∧ l.all okMarch = true := by
  unfold readyF
  rw [Bool.and_eq_true, Bool.and_eq_true, decide_eq_true_eq, decide_eq_true_eq, errC_0]
  exact ⟨fun ⟨⟨⟨h1, h2⟩, h3⟩, h4⟩ => ⟨h1, h2, h3, h4⟩, fun ⟨h1, h2, h3, h4⟩ => ⟨⟨⟨h1, h2⟩, h3⟩, h4⟩⟩
end Go.Proofs.Ytnlfjchbhgikaaa
namespace Go.Azalai
/-- a span in another one -/
def inn (s t : Span) : Prop := t.lo ≤ s.lo ∧ s.lo ≤ s.hi ∧ s.hi ≤ t.hi
def partF (s : Span) (a b : Int) : Span := ⟨s.lo + a.tmod (s.hi - s.lo + 1), s.lo + a.tmod (s.hi - s.lo + 1) + b.tmod (s.hi - (s.lo + a.tmod (s.hi - s.lo + 1)) + 1)⟩
structure innB (d b : Breed) : Prop where
  full : d.full = b.full
  fed : d.fed = b.fed
  heal : d.heal = b.heal
  rest : inn d.rest b.rest
  heat : inn d.heat b.heat
  toil : inn d.toil b.toil
  burn : inn d.burn b.burn
  rub : inn d.rub b.rub
  milk : inn d.milk b.milk
  strong : inn d.strong b.strong
structure innC (a c : Camel) : Prop where
  water : inn a.water c.water
  fat : inn a.fat c.fat
  sore : inn a.sore c.sore
  milks : a.milks = c.milks
structure innM (n m : March) : Prop where
  hours : n.hours = m.hours
  load : n.load = m.load
  heat : inn n.heat m.heat
  grass : inn n.grass m.grass
  drinks : inn n.drinks m.drinks
theorem mulm {x y a b : Int} (hx : 0 ≤ x) (hxy : x ≤ y) (ha : 0 ≤ a) (hab : a ≤ b) : 0 ≤ x * a ∧ x * a ≤ y * b := ⟨Int.mul_nonneg hx ha, Int.mul_le_mul hxy hab ha (by omega)⟩
theorem innB.ok {d b : Breed} (h : innB d b) (hb : okBreed b = true) : okBreed d = true := by
  obtain ⟨h1, h2, h3, r1, r2, r3, r4, r5, r6, r7⟩ := h
  simp only [okBreed, inR, okSp, Bool.and_eq_true, decide_eq_true_eq] at hb ⊢
  unfold inn at *
  omega
theorem innC.ok {d b : Breed} {a c : Camel} (hd : innB d b) (h : innC a c) (hc : okCamel b c = true) : okCamel d a = true := by
  obtain ⟨r1, r2, r3, r4⟩ := h
  simp only [okCamel, okSp, Bool.and_eq_true, decide_eq_true_eq] at hc ⊢
  rw [hd.full, hd.fed]
  unfold inn at *
  omega
theorem innM.ok {n m : March} (h : innM n m) (hm : okMarch m = true) : okMarch n = true := by
  obtain ⟨r1, r2, r3, r4, r5⟩ := h
  simp only [okMarch, inR, okSp, Bool.and_eq_true, decide_eq_true_eq] at hm ⊢
  unfold inn at *
  omega
theorem tdiv_upF {a b d : Int} (h0 : 0 ≤ a) (h : a ≤ b) (hd : 0 < d) : a.tdiv d ≤ upF b d := by
  unfold upF; exact tdiv_mono h0 (by omega) hd
theorem cost_lohi {b : Breed} {m : March} (k : Bool) (hb : okBreed b = true) (hm : okMarch m = true) : (costW b k m).lo ≤ (costW b k m).hi ∧ (costF b m).lo ≤ (costF b m).hi := by
  have hbb := Go.Proofs.Ytnlfjchbhgikaaa.breed_bd hb
  have hmm := Go.Proofs.Ytnlfjchbhgikaaa.march_bd hm
  have hw : 0 ≤ workF m := by unfold workF; exact Int.mul_nonneg (by omega) (by omega)
  have a1 := mulm (x := b.heat.lo) (y := b.heat.hi) (a := max 0 (m.heat.lo - 20)) (b := max 0 (m.heat.hi - 20)) (by omega) (by omega) (by omega) (by omega)
  have t1 := mulm (x := b.toil.lo) (y := b.toil.hi) (a := workF m) (b := workF m) (by omega) (by omega) hw (Int.le_refl _)
  have u1 := mulm (x := b.burn.lo) (y := b.burn.hi) (a := workF m) (b := workF m) (by omega) (by omega) hw (Int.le_refl _)
  have T1 := tdiv_upF t1.1 t1.2 (d := 100000) (by decide)
  have U1 := tdiv_upF u1.1 u1.2 (d := 100000) (by decide)
  simp only [costW, costF]
  cases k <;> simp <;> omega
end Go.Azalai
set_option maxRecDepth 100000
namespace Go.Proofs.Ytnlfjchbhgikaaa
open Go Go.Sx
def c8 : SC := (.seq (.reg [
  ⟨some 4, .box (.t 0) 0 25, none, []⟩,
  ⟨some 5, .box (.t 1) 0 27, none, []⟩,
  ⟨some 6, .box (.t 2) 0 29, none, []⟩,
  ⟨some 8, .mv (.c (.bool false)), none, []⟩])
  (.seq (.reg [
  ⟨some 32, .call 38 [], none, []⟩,
  ⟨some 9, .mv (.t 32), none, []⟩])
  (.seq (.seq (.reg [
  ⟨some 33, .mv (.t 9), none, []⟩,
  ⟨some 34, .un .not (.t 33), none, []⟩])
  (.cond (.t 34)
  (.seq (.reg [
   ⟨some 8, .mv (.c (.bool false)), none, []⟩])
   .ret)
  .skip))
  (.seq (.seq (.reg [
  ⟨some 35, .ld (.t 4) 17 true, none, []⟩,
  ⟨some 36, .ld (.t 5) 7 true, none, []⟩,
  ⟨some 37, .ld (.t 6) 8 true, none, []⟩,
  ⟨some 38, .bsl 8 29 [.t 37], none, []⟩,
  ⟨some 39, .call 39 [.t 35, .t 36, .t 38], none, []⟩,
  ⟨some 40, .un .not (.t 39), none, []⟩])
  (.cond (.t 40)
  (.seq (.reg [
   ⟨some 41, .mv (.t 9), none, []⟩,
   ⟨some 8, .mv (.t 41), none, []⟩])
   .ret)
  .skip))
  (.seq (.regd [0, 1, 2, 3, 4, 5, 6, 7, 8] [
  .op ⟨some 42, .ld (.t 4) 17 true, none, []⟩,
  .op ⟨some 43, .ld (.t 5) 7 true, none, []⟩,
  .op ⟨some 44, .ld (.t 6) 8 true, none, []⟩] 3 3 [
  ⟨some 10, .alloc [.int .i64 0, .int .i64 0, .int .i64 0, .int .i64 0, .int .i64 0, .int .i64 0, .int .i64 0, .int .i64 0, .int .i64 0, .int .i64 0, .int .i64 0, .int .i64 0, .int .i64 0, .int .i64 0, .int .i64 0, .int .i64 0, .int .i64 0] 25, none, []⟩,
  ⟨some 11, .alloc [.int .i64 0, .int .i64 0, .int .i64 0, .int .i64 0, .int .i64 0, .int .i64 0, .bool false] 27, none, []⟩,
  ⟨some 12, .alloc [.int .i64 0, .int .i64 0, .int .i64 0, .int .i64 0, .int .i64 0, .int .i64 0, .int .i64 0, .int .i64 0] 29, none, []⟩,
  ⟨none, .st (.t 10) (.t 42) 17, none, [0, 3, 4, 5]⟩,
  ⟨none, .st (.t 11) (.t 43) 7, none, [0, 1, 3, 4, 5, 6]⟩,
  ⟨none, .st (.t 12) (.t 44) 8, none, [0, 1, 2, 3, 4, 5, 6, 7]⟩])
  (.seq (.reg [
  ⟨some 13, .mv (.c (.int .i64 0)), none, []⟩])
  (.seq (.seq (.reg [
  ⟨some 45, .addo (.t 10) 2, none, []⟩,
  ⟨some 46, .addo (.t 10) 4, none, []⟩,
  ⟨some 47, .addo (.t 10) 6, none, []⟩,
  ⟨some 48, .addo (.t 10) 8, none, []⟩,
  ⟨some 49, .addo (.t 10) 10, none, []⟩,
  ⟨some 50, .addo (.t 10) 12, none, []⟩,
  ⟨some 51, .addo (.t 10) 15, none, []⟩,
  ⟨some 52, .addo (.t 11) 0, none, []⟩,
  ⟨some 53, .addo (.t 11) 2, none, []⟩,
  ⟨some 54, .addo (.t 11) 4, none, []⟩,
  ⟨some 55, .addo (.t 12) 2, none, []⟩,
  ⟨some 56, .addo (.t 12) 4, none, []⟩,
  ⟨some 57, .addo (.t 12) 6, none, []⟩,
  ⟨some 58, .bsl 1 89 [.t 45, .t 46, .t 47, .t 48, .t 49, .t 50, .t 51, .t 52, .t 53, .t 54, .t 55, .t 56, .t 57], none, []⟩,
  ⟨some 59, .len (.t 58), none, []⟩,
  ⟨some 60, .mv (.c (.int .i64 0)), none, []⟩])
  (.block 0 (.loop (.seq (.reg [
    ⟨some 61, .bin .lss (.t 60) (.t 59), none, []⟩])
    (.seq (.cond (.t 61)
    .skip
    (.exit 0))
    (.seq (.block 1 (.seq (.reg [
     ⟨some 62, .ixs (.t 58) (.t 60) 1, none, []⟩,
     ⟨some 63, .ld (.t 62) 1 false, none, []⟩,
     ⟨some 15, .mv (.t 63), none, []⟩])
     (.seq (.regd [0, 1, 2, 3, 4, 5, 6, 7, 8, 9, 10, 11, 12, 13] [
     .op ⟨some 64, .mv (.t 15), none, []⟩,
     .op ⟨some 65, .mv (.t 15), none, []⟩,
     .op ⟨some 66, .nilc (.t 65), none, [1]⟩,
     .op ⟨some 67, .ld (.t 66) 2 true, none, [2]⟩,
     .op ⟨some 68, .mv (.t 3), none, []⟩,
     .op ⟨some 69, .mv (.t 13), none, []⟩,
     .op ⟨some 70, .call 45 [.t 68, .t 69], none, [4, 5]⟩,
     .op ⟨some 71, .mv (.t 3), none, []⟩,
     .op ⟨some 72, .mv (.t 13), none, []⟩,
     .op ⟨some 73, .bin .add (.t 72) (.c (.int .i64 1)), none, [8]⟩,
     .op ⟨some 74, .call 45 [.t 71, .t 73], none, [6, 7, 9]⟩,
     .op ⟨some 75, .call 46 [.t 67, .t 70, .t 74], none, [3, 6, 10]⟩,
     .op ⟨some 76, .nilc (.t 64), none, [0, 1, 2, 3, 4, 5, 6, 7, 8, 9, 10, 11]⟩] 0 1 [
     ⟨none, .st (.t 76) (.t 75) 2, none, [0, 1, 2, 3, 4, 5, 6, 7, 8, 9, 10, 11, 12]⟩])
     (.reg [
     ⟨some 77, .mv (.t 13), none, []⟩,
     ⟨some 78, .bin .add (.t 77) (.c (.int .i64 2)), none, []⟩,
     ⟨some 13, .mv (.t 78), none, []⟩]))))
    (.reg [
    ⟨some 79, .bin .add (.t 60) (.c (.int .i64 1)), none, []⟩,
    ⟨some 60, .mv (.t 79), none, []⟩])))))))
  (.seq (.reg [
  ⟨some 81, .ld (.t 4) 17 true, none, []⟩,
  ⟨some 82, .ld (.t 5) 7 true, none, []⟩,
  ⟨some 83, .call 16 [.t 81, .t 82], none, []⟩,
  ⟨some 80, .mv (.t 83), none, []⟩,
  ⟨some 84, .ext (.t 80) 0, none, []⟩,
  ⟨some 85, .ext (.t 80) 1, none, []⟩,
  ⟨some 16, .alloc [.int .i64 0, .int .i64 0] 23, none, []⟩,
  ⟨none, .st (.t 16) (.t 84) 2, none, []⟩,
  ⟨some 17, .mv (.t 85), none, []⟩])
  (.seq (.reg [
  ⟨some 87, .ld (.t 10) 17 true, none, []⟩,
  ⟨some 88, .ld (.t 11) 7 true, none, []⟩,
  ⟨some 89, .call 16 [.t 87, .t 88], none, []⟩,
  ⟨some 86, .mv (.t 89), none, []⟩,
  ⟨some 90, .ext (.t 86) 0, none, []⟩,
  ⟨some 91, .ext (.t 86) 1, none, []⟩,
  ⟨some 18, .alloc [.int .i64 0, .int .i64 0] 23, none, []⟩,
  ⟨none, .st (.t 18) (.t 90) 2, none, []⟩,
  ⟨some 19, .mv (.t 91), none, []⟩])
  (.seq (.reg [
  ⟨some 93, .ld (.t 4) 17 true, none, []⟩,
  ⟨some 94, .addo (.t 5) 6, none, []⟩,
  ⟨some 95, .ld (.t 94) 1 false, none, []⟩,
  ⟨some 96, .ld (.t 6) 8 true, none, []⟩,
  ⟨some 97, .call 18 [.t 93, .t 95, .t 96], none, []⟩,
  ⟨some 92, .mv (.t 97), none, []⟩,
  ⟨some 98, .ext (.t 92) 0, none, []⟩,
  ⟨some 99, .ext (.t 92) 1, none, []⟩,
  ⟨some 100, .ext (.t 92) 2, none, []⟩,
  ⟨some 20, .alloc [.int .i64 0, .int .i64 0] 23, none, []⟩,
  ⟨some 21, .alloc [.int .i64 0, .int .i64 0] 23, none, []⟩,
  ⟨none, .st (.t 20) (.t 98) 2, none, []⟩,
  ⟨none, .st (.t 21) (.t 99) 2, none, []⟩,
  ⟨some 22, .mv (.t 100), none, []⟩])
  (.seq (.reg [
  ⟨some 102, .ld (.t 10) 17 true, none, []⟩,
  ⟨some 103, .addo (.t 11) 6, none, []⟩,
  ⟨some 104, .ld (.t 103) 1 false, none, []⟩,
  ⟨some 105, .ld (.t 12) 8 true, none, []⟩,
  ⟨some 106, .call 18 [.t 102, .t 104, .t 105], none, []⟩,
  ⟨some 101, .mv (.t 106), none, []⟩,
  ⟨some 107, .ext (.t 101) 0, none, []⟩,
  ⟨some 108, .ext (.t 101) 1, none, []⟩,
  ⟨some 109, .ext (.t 101) 2, none, []⟩,
  ⟨some 23, .alloc [.int .i64 0, .int .i64 0] 23, none, []⟩,
  ⟨some 24, .alloc [.int .i64 0, .int .i64 0] 23, none, []⟩,
  ⟨none, .st (.t 23) (.t 107) 2, none, []⟩,
  ⟨none, .st (.t 24) (.t 108) 2, none, []⟩,
  ⟨some 25, .mv (.t 109), none, []⟩])
  (.seq (.seq (.reg [
  ⟨some 110, .mv (.t 17), none, []⟩,
  ⟨some 111, .bin .neq (.t 110) (.c (.int .i64 0)), none, []⟩,
  ⟨some 112, .mv (.t 111), none, []⟩,
  ⟨some 113, .mv (.t 19), some (112, false), []⟩,
  ⟨some 114, .bin .neq (.t 113) (.c (.int .i64 0)), some (112, false), []⟩,
  ⟨some 115, .pick (.t 112) (.c (.bool true)) (.t 114), none, []⟩,
  ⟨some 116, .mv (.t 115), none, []⟩,
  ⟨some 117, .mv (.t 22), some (116, false), []⟩,
  ⟨some 118, .bin .neq (.t 117) (.c (.int .i64 0)), some (116, false), []⟩,
  ⟨some 119, .pick (.t 116) (.c (.bool true)) (.t 118), none, []⟩,
  ⟨some 120, .mv (.t 119), none, []⟩,
  ⟨some 121, .mv (.t 25), some (120, false), []⟩,
  ⟨some 122, .bin .neq (.t 121) (.c (.int .i64 0)), some (120, false), []⟩,
  ⟨some 123, .pick (.t 120) (.c (.bool true)) (.t 122), none, []⟩,
  ⟨some 124, .mv (.t 123), none, []⟩,
  ⟨some 125, .ld (.t 18) 2 true, some (124, false), []⟩,
  ⟨some 126, .ld (.t 16) 2 true, some (124, false), []⟩,
  ⟨some 127, .call 47 [.t 125, .t 126], some (124, false), []⟩,
  ⟨some 128, .un .not (.t 127), some (124, false), []⟩,
  ⟨some 129, .pick (.t 124) (.c (.bool true)) (.t 128), none, []⟩,
  ⟨some 130, .mv (.t 129), none, []⟩,
  ⟨some 131, .ld (.t 23) 2 true, some (130, false), []⟩,
  ⟨some 132, .ld (.t 20) 2 true, some (130, false), []⟩,
  ⟨some 133, .call 47 [.t 131, .t 132], some (130, false), []⟩,
  ⟨some 134, .un .not (.t 133), some (130, false), []⟩,
  ⟨some 135, .pick (.t 130) (.c (.bool true)) (.t 134), none, []⟩,
  ⟨some 136, .mv (.t 135), none, []⟩,
  ⟨some 137, .ld (.t 24) 2 true, some (136, false), []⟩,
  ⟨some 138, .ld (.t 21) 2 true, some (136, false), []⟩,
  ⟨some 139, .call 47 [.t 137, .t 138], some (136, false), []⟩,
  ⟨some 140, .un .not (.t 139), some (136, false), []⟩,
  ⟨some 141, .pick (.t 136) (.c (.bool true)) (.t 140), none, []⟩])
  (.cond (.t 141)
  (.seq (.reg [
   ⟨some 8, .mv (.c (.bool false)), none, []⟩])
   .ret)
  .skip))
  (.seq (.reg [
  ⟨some 143, .ld (.t 4) 17 true, none, []⟩,
  ⟨some 144, .ld (.t 5) 7 true, none, []⟩,
  ⟨some 145, .ld (.t 6) 8 true, none, []⟩,
  ⟨some 146, .call 29 [.t 143, .t 144, .t 145], none, []⟩,
  ⟨some 142, .mv (.t 146), none, []⟩,
  ⟨some 147, .ext (.t 142) 0, none, []⟩,
  ⟨some 148, .ext (.t 142) 1, none, []⟩,
  ⟨some 149, .ext (.t 142) 2, none, []⟩,
  ⟨some 26, .alloc [.int .i64 0, .int .i64 0, .int .i64 0, .int .i64 0, .int .i64 0, .int .i64 0, .bool false] 27, none, []⟩,
  ⟨none, .st (.t 26) (.t 147) 7, none, []⟩,
  ⟨some 27, .mv (.t 148), none, []⟩,
  ⟨some 28, .mv (.t 149), none, []⟩])
  (.seq (.reg [
  ⟨some 151, .ld (.t 10) 17 true, none, []⟩,
  ⟨some 152, .ld (.t 11) 7 true, none, []⟩,
  ⟨some 153, .ld (.t 12) 8 true, none, []⟩,
  ⟨some 154, .call 29 [.t 151, .t 152, .t 153], none, []⟩,
  ⟨some 150, .mv (.t 154), none, []⟩,
  ⟨some 155, .ext (.t 150) 0, none, []⟩,
  ⟨some 156, .ext (.t 150) 1, none, []⟩,
  ⟨some 157, .ext (.t 150) 2, none, []⟩,
  ⟨some 29, .alloc [.int .i64 0, .int .i64 0, .int .i64 0, .int .i64 0, .int .i64 0, .int .i64 0, .bool false] 27, none, []⟩,
  ⟨none, .st (.t 29) (.t 155) 7, none, []⟩,
  ⟨some 30, .mv (.t 156), none, []⟩,
  ⟨some 31, .mv (.t 157), none, []⟩])
  (.seq (.seq (.reg [
  ⟨some 158, .mv (.t 28), none, []⟩,
  ⟨some 159, .bin .neq (.t 158) (.c (.int .i64 0)), none, []⟩])
  (.cond (.t 159)
  (.seq (.reg [
   ⟨some 160, .mv (.t 9), none, []⟩,
   ⟨some 161, .mv (.t 160), none, []⟩,
   ⟨some 162, .mv (.t 28), some (161, true), []⟩,
   ⟨some 163, .bin .eql (.t 162) (.c (.int .i64 13)), some (161, true), []⟩,
   ⟨some 164, .pick (.t 161) (.t 163) (.c (.bool false)), none, []⟩,
   ⟨some 165, .mv (.t 164), none, []⟩,
   ⟨some 166, .mv (.t 31), some (165, true), []⟩,
   ⟨some 167, .bin .eql (.t 166) (.c (.int .i64 13)), some (165, true), []⟩,
   ⟨some 168, .pick (.t 165) (.t 167) (.c (.bool false)), none, []⟩,
   ⟨some 8, .mv (.t 168), none, []⟩])
   .ret)
  .skip))
  (.seq (.seq (.reg [
  ⟨some 169, .mv (.t 31), none, []⟩,
  ⟨some 170, .bin .neq (.t 169) (.c (.int .i64 0)), none, []⟩])
  (.cond (.t 170)
  (.seq (.reg [
   ⟨some 171, .mv (.t 9), none, []⟩,
   ⟨some 172, .mv (.t 171), none, []⟩,
   ⟨some 173, .mv (.t 31), some (172, true), []⟩,
   ⟨some 174, .bin .eql (.t 173) (.c (.int .i64 13)), some (172, true), []⟩,
   ⟨some 175, .pick (.t 172) (.t 174) (.c (.bool false)), none, []⟩,
   ⟨some 176, .mv (.t 175), none, []⟩,
   ⟨some 177, .mv (.t 27), some (176, true), []⟩,
   ⟨some 178, .bin .eql (.t 177) (.c (.int .u8 1)), some (176, true), []⟩,
   ⟨some 179, .pick (.t 176) (.t 178) (.c (.bool false)), none, []⟩,
   ⟨some 8, .mv (.t 179), none, []⟩])
   .ret)
  .skip))
  (.seq (.reg [
  ⟨some 180, .mv (.t 9), none, []⟩,
  ⟨some 181, .mv (.t 180), none, []⟩,
  ⟨some 182, .addo (.t 29) 0, some (181, true), []⟩,
  ⟨some 183, .ld (.t 182) 2 true, some (181, true), []⟩,
  ⟨some 184, .addo (.t 26) 0, some (181, true), []⟩,
  ⟨some 185, .ld (.t 184) 2 true, some (181, true), []⟩,
  ⟨some 186, .call 47 [.t 183, .t 185], some (181, true), []⟩,
  ⟨some 187, .pick (.t 181) (.t 186) (.c (.bool false)), none, []⟩,
  ⟨some 188, .mv (.t 187), none, []⟩,
  ⟨some 189, .addo (.t 29) 2, some (188, true), []⟩,
  ⟨some 190, .ld (.t 189) 2 true, some (188, true), []⟩,
  ⟨some 191, .addo (.t 26) 2, some (188, true), []⟩,
  ⟨some 192, .ld (.t 191) 2 true, some (188, true), []⟩,
  ⟨some 193, .call 47 [.t 190, .t 192], some (188, true), []⟩,
  ⟨some 194, .pick (.t 188) (.t 193) (.c (.bool false)), none, []⟩,
  ⟨some 195, .mv (.t 194), none, []⟩,
  ⟨some 196, .addo (.t 29) 4, some (195, true), []⟩,
  ⟨some 197, .ld (.t 196) 2 true, some (195, true), []⟩,
  ⟨some 198, .addo (.t 26) 4, some (195, true), []⟩,
  ⟨some 199, .ld (.t 198) 2 true, some (195, true), []⟩,
  ⟨some 200, .call 47 [.t 197, .t 199], some (195, true), []⟩,
  ⟨some 201, .pick (.t 195) (.t 200) (.c (.bool false)), none, []⟩,
  ⟨some 202, .mv (.t 201), none, []⟩,
  ⟨some 203, .mv (.t 27), some (202, true), []⟩,
  ⟨some 204, .bin .neq (.t 203) (.c (.int .u8 0)), some (202, true), []⟩,
  ⟨some 205, .mv (.t 204), some (202, true), []⟩,
  ⟨some 206, .mv (.t 30), some (205, false), []⟩,
  ⟨some 207, .bin .eql (.t 206) (.c (.int .u8 0)), some (205, false), []⟩,
  ⟨some 208, .pick (.t 205) (.c (.bool true)) (.t 207), some (202, true), []⟩,
  ⟨some 209, .pick (.t 202) (.t 208) (.c (.bool false)), none, []⟩,
  ⟨some 8, .mv (.t 209), none, []⟩])
  .ret)))))))))))))))))
end Go.Proofs.Ytnlfjchbhgikaaa
set_option maxRecDepth 100000
set_option maxHeartbeats 4000000
namespace Go.Proofs.Ytnlfjchbhgikaaa
open Go Go.Sx Go.Azalai
end Go.Proofs.Ytnlfjchbhgikaaa
namespace Go.Azalai
/-- no worse, as far as it lives and bears for sure -/
structure better (a c : Camel) : Prop where
  water : c.water.lo ≤ a.water.lo
  fat : c.fat.lo ≤ a.fat.lo
  sore : a.sore.hi ≤ c.sore.hi
  milks : a.milks = c.milks
theorem better_refl (c : Camel) : better c c := ⟨Int.le_refl _, Int.le_refl _, Int.le_refl _, rfl⟩
theorem better_car {b : Breed} {a c : Camel} (hb : okBreed b = true) (hc : okCamel b c = true) (h : better a c) : (carF b c).lo ≤ (carF b a).lo := by
  have hbb := Go.Proofs.Ytnlfjchbhgikaaa.breed_bd hb
  simp only [okCamel, okSp, Bool.and_eq_true, decide_eq_true_eq] at hc
  obtain ⟨h1, h2, h3, h4⟩ := h
  have w1 := tdiv_mono (a := 2000 * c.water.lo) (b := 2000 * a.water.lo) (d := b.full) (by omega) (by omega) (by omega)
  have f1 := tdiv_mono (a := 2000 * c.fat.lo) (b := 2000 * a.fat.lo) (d := b.fed) (by omega) (by omega) (by omega)
  have z1 := Int.tdiv_nonneg (a := 2000 * c.water.lo) (b := b.full) (by omega) (by omega)
  have z2 := Int.tdiv_nonneg (a := 2000 * c.fat.lo) (b := b.fed) (by omega) (by omega)
  have q : 0 ≤ (fitF b c).lo ∧ (fitF b c).lo ≤ (fitF b a).lo := by simp only [fitF]; omega
  have p1 := mulm (x := b.strong.lo) (y := b.strong.lo) (by omega) (Int.le_refl _) q.1 q.2
  simp only [carF]
  exact tdiv_mono p1.1 p1.2 (by decide)
theorem better_after {b : Breed} {a c : Camel} {m : March} {x y : Int} (hb : okBreed b = true) (hc : okCamel b c = true) (ha : okCamel b a = true) (hm : okMarch m = true) (h : better a c) (h0 : 0 ≤ y) (hyx : y ≤ x) (hx : x ≤ 1000000) (hs : (afterF b c { m with load := x }).2 = 0) :
    (afterF b a { m with load := y }).2 = 0 ∧ better (afterF b a { m with load := y }).1 (afterF b c { m with load := x }).1 := by
  have hbb := Go.Proofs.Ytnlfjchbhgikaaa.breed_bd hb
  have hmm := Go.Proofs.Ytnlfjchbhgikaaa.march_bd hm
  have hm1 : okMarch { m with load := x } = true := by simp only [okMarch, inR, okSp, Bool.and_eq_true, decide_eq_true_eq] at hm ⊢; omega
  have hm2 : okMarch { m with load := y } = true := by simp only [okMarch, inR, okSp, Bool.and_eq_true, decide_eq_true_eq] at hm ⊢; omega
  simp only [okCamel, okSp, Bool.and_eq_true, decide_eq_true_eq] at hc ha
  have l1 := cost_lohi c.milks hb hm1
  have l2 := cost_lohi c.milks hb hm2
  have hw := workF_le (m := { m with load := x }) (n := { m with load := y }) (Int.le_refl _) (by simp only; omega) hyx h0
  have hl : 0 ≤ m.hours * y ∧ m.hours * y ≤ m.hours * x := ⟨Int.mul_nonneg (by omega) h0, Int.mul_le_mul_of_nonneg_left hyx (by omega)⟩
  have t2 := mulw (x := b.toil.hi) (by omega) hw
  have u2 := mulw (x := b.burn.hi) (by omega) hw
  have r2 := mulw (x := b.rub.hi) (by omega) hl
  have T2 := upF_mono t2.1 t2.2 (d := 100000) (by decide)
  have U2 := upF_mono u2.1 u2.2 (d := 100000) (by decide)
  have R2 := upF_mono r2.1 r2.2 (d := 1000000) (by decide)
  obtain ⟨h1, h2, h3, h4⟩ := h
  have cw : (costW b c.milks { m with load := y }).hi ≤ (costW b c.milks { m with load := x }).hi := by simp only [costW]; omega
  have cf : (costF b { m with load := y }).hi ≤ (costF b { m with load := x }).hi := by simp only [costF]; omega
  have cs : (soreF b a.sore { m with load := y }).hi ≤ (soreF b c.sore { m with load := x }).hi := by
    unfold soreF
    simp only
    split <;> (simp only; omega)
  unfold afterF at hs ⊢
  simp only [h4] at hs ⊢
  generalize costW b c.milks { m with load := y } = wn at *
  generalize costW b c.milks { m with load := x } = wm at *
  generalize costF b { m with load := y } = fn at *
  generalize costF b { m with load := x } = fm at *
  by_cases hdm : c.water.hi < wm.lo ∨ c.fat.hi < fm.lo
  · rw [if_pos hdm] at hs; cases hs
  rw [if_neg hdm] at hs ⊢
  simp only at hs
  by_cases hq : c.water.lo ≥ wm.hi ∧ c.fat.lo ≥ fm.hi
  · rw [if_neg (by omega)]
    simp only
    rw [if_pos (by omega)]
    refine ⟨rfl, ⟨?_, ?_, cs, rfl⟩⟩ <;> (simp only [lostF]; omega)
  · rw [if_neg hq] at hs; cases hs
theorem bears_mono {b : Breed} {x y : Int} (hb : okBreed b = true) (h0 : 0 ≤ y) (hyx : y ≤ x) (hx : x ≤ 1000000) : ∀ (l : List March) (a c : Camel), l.all okMarch = true → okCamel b c = true → okCamel b a = true → better a c → bearsL b x c l = true → bearsL b y a l = true
  | [], a, c, _, _, _, _, _ => rfl
  | m :: l, a, c, hl, hc, ha, hbt, h => by
    simp only [List.all_cons, Bool.and_eq_true] at hl
    have hm1 : okMarch { m with load := x } = true := by have := hl.1; simp only [okMarch, inR, okSp, Bool.and_eq_true, decide_eq_true_eq] at this ⊢; omega
    have hm2 : okMarch { m with load := y } = true := by have := hl.1; simp only [okMarch, inR, okSp, Bool.and_eq_true, decide_eq_true_eq] at this ⊢; omega
    unfold bearsL at h ⊢
    by_cases hcar : m.hours > 0 ∧ x > (carF b c).lo
    · rw [if_pos hcar] at h; cases h
    rw [if_neg hcar] at h
    have hk := better_car hb hc hbt
    rw [if_neg (by omega)]
    by_cases hf : (afterF b c { m with load := x }).2 = 0
    · rw [if_neg (by simpa using hf)] at h
      obtain ⟨g1, g2⟩ := better_after hb hc ha hl.1 hbt h0 hyx hx hf
      rw [if_neg (by simpa using g1)]
      exact bears_mono hb h0 hyx hx l _ _ hl.2 (after_ok hb hc hm1 (by rw [hf]; decide)) (after_ok hb ha hm2 (by rw [g1]; decide)) g2 h
    · rw [if_pos hf] at h; cases h
/-- the search ends where it turns -/
theorem seek_law {g : Int → Bool} {L H : Int} (hg0 : g L = true) : ∀ (n : Nat) (lo hi : Int), 0 ≤ lo → lo ≤ hi → hi - lo ≤ n → L ≤ lo → hi ≤ H → g lo = true → (hi = H ∨ ∀ x, hi < x → x ≤ H → g x = false) →
    (∀ x y, L ≤ y → y ≤ x → x ≤ H → g x = true → g y = true) → (lo ≤ seekN g n lo hi ∧ seekN g n lo hi ≤ hi) ∧ g (seekN g n lo hi) = true ∧ ∀ x, seekN g n lo hi < x → x ≤ H → g x = false
  | 0, lo, hi, h0, h1, h2, h3, h4, h5, h6, hm => by
    have e : lo = hi := by omega
    simp only [seekN]
    refine ⟨by omega, h5, fun x q1 q2 => ?_⟩
    rcases h6 with h6 | h6
    · omega
    · exact h6 x (by omega) q2
  | n + 1, lo, hi, h0, h1, h2, h3, h4, h5, h6, hm => by
    simp only [seekN]
    by_cases hlt : lo < hi
    · rw [if_pos hlt]
      have e : (lo + hi + 1).tdiv 2 = (lo + hi + 1) / 2 := Int.tdiv_eq_ediv_of_nonneg (by omega)
      rw [e]
      by_cases hq : g ((lo + hi + 1) / 2) = true
      · rw [if_pos hq]
        have := seek_law hg0 n _ hi (by omega) (by omega) (by omega) (by omega) h4 hq h6 hm
        exact ⟨by omega, this.2⟩
      · rw [if_neg hq]
        have := seek_law hg0 n lo ((lo + hi + 1) / 2 - 1) h0 (by omega) (by omega) h3 (by omega) h5 (.inr fun x q1 q2 => by
          cases hx : g x with
          | false => rfl
          | true => exact absurd (hm x _ (by omega) (by omega) q2 hx) hq) hm
        exact ⟨by omega, this.2⟩
    · rw [if_neg hlt]
      refine ⟨by omega, h5, fun x q1 q2 => ?_⟩
      rcases h6 with h6 | h6
      · omega
      · exact h6 x (by omega) q2
end Go.Azalai
set_option maxRecDepth 100000
namespace Go.Proofs.Ytnlfjchbhgikaaa
open Go Go.Sx
def c12 : SC := (.seq (.reg [
  ⟨some 4, .box (.t 0) 0 25, none, []⟩,
  ⟨some 5, .box (.t 1) 0 27, none, []⟩,
  ⟨some 6, .box (.t 2) 0 44, none, []⟩,
  ⟨some 8, .mv (.c (.bool false)), none, []⟩])
  (.seq (.reg [
  ⟨some 13, .call 38 [], none, []⟩,
  ⟨some 9, .mv (.t 13), none, []⟩])
  (.seq (.seq (.reg [
  ⟨some 14, .mv (.t 9), none, []⟩,
  ⟨some 15, .un .not (.t 14), none, []⟩])
  (.cond (.t 15)
  (.seq (.reg [
   ⟨some 8, .mv (.c (.bool false)), none, []⟩])
   .ret)
  .skip))
  (.seq (.seq (.reg [
  ⟨some 16, .ld (.t 4) 17 true, none, []⟩,
  ⟨some 17, .ld (.t 5) 7 true, none, []⟩,
  ⟨some 18, .ld (.t 6) 1 false, none, []⟩,
  ⟨some 19, .call 39 [.t 16, .t 17, .t 18], none, []⟩,
  ⟨some 20, .un .not (.t 19), none, []⟩])
  (.cond (.t 20)
  (.seq (.reg [
   ⟨some 21, .mv (.t 9), none, []⟩,
   ⟨some 8, .mv (.t 21), none, []⟩])
   .ret)
  .skip))
  (.seq (.reg [
  ⟨some 23, .ld (.t 4) 17 true, none, []⟩,
  ⟨some 24, .ld (.t 5) 7 true, none, []⟩,
  ⟨some 25, .ld (.t 6) 1 false, none, []⟩,
  ⟨some 26, .call 24 [.t 23, .t 24, .t 25], none, []⟩,
  ⟨some 22, .mv (.t 26), none, []⟩,
  ⟨some 27, .ext (.t 22) 0, none, []⟩,
  ⟨some 28, .ext (.t 22) 1, none, []⟩,
  ⟨some 10, .mv (.t 27), none, []⟩,
  ⟨some 11, .mv (.t 28), none, []⟩])
  (.seq (.reg [
  ⟨some 29, .mkf 50 [.t 5, .t 6, .t 4], none, []⟩,
  ⟨some 12, .mv (.t 29), none, []⟩])
  (.seq (.seq (.reg [
  ⟨some 30, .mv (.t 11), none, []⟩,
  ⟨some 31, .bin .neq (.t 30) (.c (.int .i64 0)), none, []⟩])
  (.cond (.t 31)
  (.seq (.reg [
   ⟨some 32, .mv (.t 9), none, []⟩,
   ⟨some 33, .mv (.t 32), none, []⟩,
   ⟨some 34, .mv (.t 11), some (33, true), []⟩,
   ⟨some 35, .bin .eql (.t 34) (.c (.int .i64 13)), some (33, true), []⟩,
   ⟨some 36, .pick (.t 33) (.t 35) (.c (.bool false)), none, []⟩,
   ⟨some 37, .mv (.t 36), none, []⟩,
   ⟨some 38, .mv (.t 12), some (37, true), []⟩,
   ⟨some 39, .calv (.t 38) [.c (.int .i64 0)], some (37, true), []⟩,
   ⟨some 40, .un .not (.t 39), some (37, true), []⟩,
   ⟨some 41, .pick (.t 37) (.t 40) (.c (.bool false)), none, []⟩,
   ⟨some 42, .mv (.t 41), none, []⟩,
   ⟨some 43, .mv (.t 10), some (42, true), []⟩,
   ⟨some 44, .bin .eql (.t 43) (.c (.int .i64 0)), some (42, true), []⟩,
   ⟨some 45, .pick (.t 42) (.t 44) (.c (.bool false)), none, []⟩,
   ⟨some 8, .mv (.t 45), none, []⟩])
   .ret)
  .skip))
  (.seq (.seq (.reg [
  ⟨some 46, .mv (.t 10), none, []⟩,
  ⟨some 47, .bin .lss (.t 46) (.c (.int .i64 0)), none, []⟩,
  ⟨some 48, .mv (.t 47), none, []⟩,
  ⟨some 49, .mv (.t 10), some (48, false), []⟩,
  ⟨some 50, .bin .gtr (.t 49) (.c (.int .i64 1000000)), some (48, false), []⟩,
  ⟨some 51, .pick (.t 48) (.c (.bool true)) (.t 50), none, []⟩,
  ⟨some 52, .mv (.t 51), none, []⟩,
  ⟨some 53, .mv (.t 12), some (52, false), []⟩,
  ⟨some 54, .mv (.t 10), some (52, false), []⟩,
  ⟨some 55, .calv (.t 53) [.t 54], some (52, false), []⟩,
  ⟨some 56, .un .not (.t 55), some (52, false), []⟩,
  ⟨some 57, .pick (.t 52) (.c (.bool true)) (.t 56), none, []⟩])
  (.cond (.t 57)
  (.seq (.reg [
   ⟨some 8, .mv (.c (.bool false)), none, []⟩])
   .ret)
  .skip))
  (.seq (.seq (.reg [
  ⟨some 58, .mv (.t 10), none, []⟩,
  ⟨some 59, .bin .eql (.t 58) (.c (.int .i64 1000000)), none, []⟩])
  (.cond (.t 59)
  (.seq (.reg [
   ⟨some 60, .mv (.t 9), none, []⟩,
   ⟨some 8, .mv (.t 60), none, []⟩])
   .ret)
  .skip))
  (.seq (.reg [
  ⟨some 61, .mv (.t 9), none, []⟩,
  ⟨some 62, .mv (.t 61), none, []⟩,
  ⟨some 63, .mv (.t 12), some (62, true), []⟩,
  ⟨some 64, .mv (.t 10), some (62, true), []⟩,
  ⟨some 65, .bin .add (.t 64) (.c (.int .i64 1)), some (62, true), []⟩,
  ⟨some 66, .calv (.t 63) [.t 65], some (62, true), []⟩,
  ⟨some 67, .un .not (.t 66), some (62, true), []⟩,
  ⟨some 68, .pick (.t 62) (.t 67) (.c (.bool false)), none, []⟩,
  ⟨some 69, .mv (.t 68), none, []⟩,
  ⟨some 70, .mv (.t 12), some (69, true), []⟩,
  ⟨some 71, .mv (.t 10), some (69, true), []⟩,
  ⟨some 72, .bin .add (.t 71) (.c (.int .i64 1)), some (69, true), []⟩,
  ⟨some 73, .mv (.t 3), some (69, true), []⟩,
  ⟨some 74, .conv .i64 (.t 73), some (69, true), []⟩,
  ⟨some 75, .mv (.t 10), some (69, true), []⟩,
  ⟨some 76, .bin .sub (.c (.int .i64 1000000)) (.t 75), some (69, true), []⟩,
  ⟨some 77, .div .rem (.t 74) (.t 76), some (69, true), []⟩,
  ⟨some 78, .bin .add (.t 72) (.t 77), some (69, true), []⟩,
  ⟨some 79, .calv (.t 70) [.t 78], some (69, true), []⟩,
  ⟨some 80, .un .not (.t 79), some (69, true), []⟩,
  ⟨some 81, .pick (.t 69) (.t 80) (.c (.bool false)), none, []⟩,
  ⟨some 8, .mv (.t 81), none, []⟩])
  .ret))))))))))
def r12 : List RV := [.tmp 8]
theorem n12 : Try.f12.ntmps = 82 := by kernel_rfl
theorem b12 : bodyB Try.prog 12 = true := by kernel_rfl
theorem c12_ok : cmpC Try.prog c12 ((Try.f12.body).getD .skip) = true := by kernel_rfl
theorem r12_ok : cmpR Try.prog r12 Try.f12.results.toList = true := by kernel_rfl
theorem t12 {args : List SV} {res : SV} (ka : KFL args) (kr : KF res) (h : sx Try.prog Y0 0 c12 (st0 args 82) (retK r12 res)) (hA : Nat.ble args.length 82 = true := by rfl) : Ct Try.prog 12 args res := ct_intro Try.func12 rfl b12 c12_ok r12_ok n12 (Nat.le_of_ble_eq_true hA) ka kr h
end Go.Proofs.Ytnlfjchbhgikaaa
set_option maxRecDepth 100000
set_option maxHeartbeats 4000000
namespace Go.Proofs.Ytnlfjchbhgikaaa
open Go Go.Sx Go.Azalai
theorem bearsH_ok (b : Breed) (c : Camel) (l : List March) (load : Int) (hb : okBreed b = true) (hc : okCamel b c = true) (hl : l.all okMarch = true) (h60 : l.length ≤ 60) (h0 : inR 0 1000000 load = true) (k : Bool) :
    Ct Try.prog 50 [I load, .ps (camelL c) 0, .ps [.sl k 8 (l.map marchL)] 0, .ps (breedL b) 0] (B (bearsL b load c l)) := by
  have hbd := breed_bd hb
  have hlo := h0
  simp only [inR, decide_eq_true_eq] at hlo
  have hall := List.all_eq_true.1 hl
  refine t50 (by simp [breedL, camelL, marchL, KFR_iff, KFL, KF]) (by simp [KFL, KF]) ?_
  dsimp only [c50, r50, breedL, camelL, go_sem, Nat.reduceAdd, Nat.reduceMul, Nat.reduceSub]
  simp only [List.length_map]
  refine loopO (fun s : Nat × Camel => [(17, I s.1)]) (fun s => [(0, .cells (camelL s.2) 27)]) (fun s => s.1 ≤ l.length ∧ okCamel b s.2 = true ∧ bearsL b load s.2 (l.drop s.1) = bearsL b load c l) (fun s => l.length - s.1) (0, c) ⟨Nat.zero_le _, hc, rfl⟩ ?_ ?_
  · (refine ent_id ?_ ?_ ?_ rfl rfl <;> dsimp only [breedL, camelL, marchL, id, go_sem, Nat.reduceAdd, Nat.reduceMul, Nat.reduceSub] <;> simp [breedL, camelL, marchL, KFR_iff, KFR_app, KFR, KFL, KF, mtL_same, mtO, Nat.beq_refl])
  rintro ⟨j, c1⟩ ⟨hj, hc1, hi⟩
  simp only at hj hc1 hi
  dsimp only [camelL, go_sem, Nat.reduceAdd, Nat.reduceMul, Nat.reduceSub]
  by_cases hlt : j < l.length
  · refine br_t (by simpa using hlt) ?_
    dsimp only [go_sem, Nat.reduceAdd, Nat.reduceMul, Nat.reduceSub]
    rw [List.drop_eq_getElem_cons hlt, bearsL] at hi
    have hm := hall l[j] (List.getElem_mem _)
    have hm' : okMarch { l[j] with load := load } = true := by
      simp only [okMarch, Bool.and_eq_true] at hm ⊢
      exact ⟨⟨⟨⟨hm.1.1.1.1, h0⟩, hm.1.1.2⟩, hm.1.2⟩, hm.2⟩
    have e0 : errC b c1 = 0 := errC_0.2 ⟨hb, hc1⟩
    refine ixs_map j hlt rfl ?_
    dsimp only [marchL, go_sem, Nat.reduceAdd, Nat.reduceMul, Nat.reduceSub]
    refine call (carries_ok b c1) ?_
    rw [show sres b c1 (carF b c1) = .tup [.agg (spanL (carF b c1)), I 0] from by simp [sres, e0]]
    dsimp only [spanL, go_sem, Nat.reduceAdd, Nat.reduceMul, Nat.reduceSub]
    refine call (after1_ok b c1 { l[j] with load := load }) ?_
    by_cases hf2 : (afterF b c1 { l[j] with load := load }).2 = 2
    · rw [show afterE b c1 { l[j] with load := load } = (zeroC, 0, 13) from by simp [afterE, e0, hm', hf2]]
      dsimp only [camelL, U8, go_sem, Nat.reduceAdd, Nat.reduceMul, Nat.reduceSub]
      repeat (refine gb ?_; dsimp only [go_sem, Nat.reduceAdd, Nat.reduceMul, Nat.reduceSub])
      refine br_t (by simp) ?_
      dsimp only [go_sem, Nat.reduceAdd, Nat.reduceMul, Nat.reduceSub]
      have : bearsL b load c l = false := by
        rw [← hi]; split
        · rfl
        · rw [if_pos (by rw [hf2]; decide)]
      rw [this]
    rw [show afterE b c1 { l[j] with load := load } = ((afterF b c1 { l[j] with load := load }).1, (afterF b c1 { l[j] with load := load }).2, 0) from by simp [afterE, e0, hm', hf2]]
    dsimp only [camelL, U8, go_sem, Nat.reduceAdd, Nat.reduceMul, Nat.reduceSub]
    repeat (refine gb ?_; dsimp only [go_sem, Nat.reduceAdd, Nat.reduceMul, Nat.reduceSub])
    by_cases hcar : l[j].hours > 0 ∧ load > (carF b c1).lo
    case pos =>
      refine br_t (by simp [hcar.1, hcar.2]) ?_
      dsimp only [go_sem, Nat.reduceAdd, Nat.reduceMul, Nat.reduceSub]
      rw [if_pos hcar] at hi
      rw [← hi]
    rw [if_neg hcar] at hi
    by_cases hf0 : (afterF b c1 { l[j] with load := load }).2 = 0
    case neg =>
      refine br_t (by simp [hf0]) ?_
      dsimp only [go_sem, Nat.reduceAdd, Nat.reduceMul, Nat.reduceSub]
      rw [if_pos hf0] at hi
      rw [← hi]
    refine br_f (by simp [hf0]; omega) ?_
    dsimp only [go_sem, Nat.reduceAdd, Nat.reduceMul, Nat.reduceSub]
    rw [if_neg (by simpa using hf0)] at hi
    rw [w64_in (n := (j : Int) + 1) (by omega) (by omega)]
    refine ⟨(j + 1, (afterF b c1 { l[j] with load := load }).1), ⟨hlt, after_ok hb hc1 hm' hf2, hi⟩, by simp only; omega, ?_⟩
    (refine ent_id ?_ ?_ ?_ rfl rfl <;> dsimp only [breedL, camelL, marchL, id, go_sem, Nat.reduceAdd, Nat.reduceMul, Nat.reduceSub] <;> simp [breedL, camelL, marchL, KFR_iff, KFR_app, KFR, KFL, KF, mtL_same, mtO, Nat.beq_refl])
  refine br_f (by simp; omega) ?_
  dsimp only [go_sem, Nat.reduceAdd, Nat.reduceMul, Nat.reduceSub]
  have hje : j = l.length := by omega
  subst hje
  rw [List.drop_length, bearsL] at hi
  rw [← hi]
theorem heavyLaw_ok (b : Breed) (c : Camel) (l : List March) (mv : Int) (hmv : 0 ≤ mv ∧ mv < 4294967296) (hl0 : l.length ≤ 9223372036854775807) : Ct Try.prog 12 [.agg (breedL b), .agg (camelL c), .sl false 8 (l.map marchL), U32 mv] (B true) := by
  refine t12 (by simp [breedL, camelL, marchL, KFR_iff, U32, KFL, KF]) (by simp [KFL, KF]) ?_
  dsimp only [c12, r12, breedL, camelL, U32, go_sem, Nat.reduceAdd, Nat.reduceMul, Nat.reduceSub]
  refine call alive_ok ?_
  dsimp only [go_sem, Nat.reduceAdd, Nat.reduceMul, Nat.reduceSub]
  refine br_f rfl ?_
  dsimp only [go_sem, Nat.reduceAdd, Nat.reduceMul, Nat.reduceSub]
  refine call (ready_ok b c l hl0 false) ?_
  dsimp only [go_sem, Nat.reduceAdd, Nat.reduceMul, Nat.reduceSub]
  by_cases hr : readyF b c l = true
  case neg =>
    refine br_t (by simp [hr]) ?_
    dsimp only [go_sem, Nat.reduceAdd, Nat.reduceMul, Nat.reduceSub]
  refine br_f (by simp [hr]) ?_
  dsimp only [go_sem, Nat.reduceAdd, Nat.reduceMul, Nat.reduceSub]
  obtain ⟨hb, hc, h60, hm⟩ := readyF_iff.1 hr
  refine call (heavy_ok b c l false (by omega)) ?_
  have hE : errL b c l = 0 := by
    unfold errL
    rw [if_neg (by simp [errC_0.2 ⟨hb, hc⟩]), if_neg (by omega), if_neg (by simp [hm])]
  have hH : heavyF b c l = if bearsL b 0 c l = false then (0, 13) else (seekN (fun n => bearsL b n c l) 2000000 0 1000000, 0) := by
    unfold heavyF; rw [if_neg (by simp [hE])]
  have hbe := fun (n : Int) (hn : inR 0 1000000 n = true) => bearsH_ok b c l n hb hc hm h60 hn false
  have hmo := fun (x y : Int) (h1 : 0 ≤ y) (h2 : y ≤ x) (h3 : x ≤ 1000000) => bears_mono (x := x) (y := y) hb h1 h2 h3 l c c hm hc hc (better_refl c)
  by_cases h0 : bearsL b 0 c l = false
  · rw [hH, if_pos h0]
    dsimp only [go_sem, Nat.reduceAdd, Nat.reduceMul, Nat.reduceSub]
    refine br_t (by decide) ?_
    dsimp only [go_sem, Nat.reduceAdd, Nat.reduceMul, Nat.reduceSub]
    repeat (refine .inl ⟨rfl, ?_⟩; dsimp only [go_sem, Nat.reduceAdd, Nat.reduceMul, Nat.reduceSub])
    refine callv (by simp [FLT]) (res := B (bearsL b 0 c l)) ?_ ?_
    · dsimp only [go_sem, Nat.reduceAdd, Nat.reduceMul, Nat.reduceSub]
      exact hbe 0 (by decide)
    rw [h0]
    dsimp only [go_sem, Nat.reduceAdd, Nat.reduceMul, Nat.reduceSub]
    repeat (refine .inl ⟨rfl, ?_⟩; dsimp only [go_sem, Nat.reduceAdd, Nat.reduceMul, Nat.reduceSub])
    rfl
  rw [hH, if_neg h0]
  have hg0 : bearsL b 0 c l = true := by simpa using h0
  obtain ⟨⟨s1, s2⟩, s3, s4⟩ := seek_law (g := fun n => bearsL b n c l) (L := 0) (H := 1000000) hg0 2000000 0 1000000 (Int.le_refl _) (by decide) (by decide) (Int.le_refl _) (Int.le_refl _) hg0 (.inl rfl) (fun x y q1 q2 q3 q4 => hmo x y q1 q2 q3 q4)
  generalize seekN (fun n => bearsL b n c l) 2000000 0 1000000 = n at s1 s2 s3 s4
  dsimp only [go_sem, Nat.reduceAdd, Nat.reduceMul, Nat.reduceSub]
  refine br_f (by decide) ?_
  dsimp only [go_sem, Nat.reduceAdd, Nat.reduceMul, Nat.reduceSub]
  rw [show decide (n < 0) = false from by simp; omega]
  repeat (refine .inl ⟨rfl, ?_⟩; dsimp only [go_sem, Nat.reduceAdd, Nat.reduceMul, Nat.reduceSub])
  rw [show decide (n > 1000000) = false from by simp; omega]
  repeat (refine .inl ⟨rfl, ?_⟩; dsimp only [go_sem, Nat.reduceAdd, Nat.reduceMul, Nat.reduceSub])
  refine callv (by simp [FLT]) (res := B (bearsL b n c l)) ?_ ?_
  · dsimp only [go_sem, Nat.reduceAdd, Nat.reduceMul, Nat.reduceSub]
    exact hbe n (by simp [inR]; omega)
  rw [s3]
  dsimp only [go_sem, Nat.reduceAdd, Nat.reduceMul, Nat.reduceSub]
  repeat (refine .inl ⟨rfl, ?_⟩; dsimp only [go_sem, Nat.reduceAdd, Nat.reduceMul, Nat.reduceSub])
  refine br_f rfl ?_
  dsimp only [go_sem, Nat.reduceAdd, Nat.reduceMul, Nat.reduceSub]
  by_cases hn : n = 1000000
  · refine br_t (by simp [hn]) ?_
    dsimp only [go_sem, Nat.reduceAdd, Nat.reduceMul, Nat.reduceSub]
  refine br_f (by simp [hn]) ?_
  dsimp only [go_sem, Nat.reduceAdd, Nat.reduceMul, Nat.reduceSub]
  have hr : 0 ≤ mv.tmod (1000000 - n) ∧ mv.tmod (1000000 - n) < 1000000 - n := ⟨Int.tmod_nonneg _ (by omega), Int.tmod_lt_of_pos _ (by omega)⟩
  repeat (refine .inl ⟨rfl, ?_⟩; dsimp only [go_sem, Nat.reduceAdd, Nat.reduceMul, Nat.reduceSub])
  rw [w64_in (n := n + 1) (by omega) (by omega)]
  refine callv (by simp [FLT]) (res := B (bearsL b (n + 1) c l)) ?_ ?_
  · dsimp only [go_sem, Nat.reduceAdd, Nat.reduceMul, Nat.reduceSub]
    exact hbe (n + 1) (by simp [inR]; omega)
  rw [s4 (n + 1) (by omega) (by omega)]
  dsimp only [go_sem, Nat.reduceAdd, Nat.reduceMul, Nat.reduceSub]
  repeat (refine .inl ⟨rfl, ?_⟩; dsimp only [go_sem, Nat.reduceAdd, Nat.reduceMul, Nat.reduceSub])
  rw [w64_in (n := mv) (by omega) (by omega), w64_in (n := 1000000 - n) (by omega) (by omega)]
  refine div0 (by omega) ?_
  ((try dsimp only [go_sem, Nat.reduceAdd, Nat.reduceMul, Nat.reduceSub]); repeat (simp only [Nat.beq_refl]; try dsimp only [go_sem, Nat.reduceAdd, Nat.reduceMul, Nat.reduceSub]))
  simp only [divr]
  repeat (refine .inl ⟨rfl, ?_⟩; dsimp only [go_sem, Nat.reduceAdd, Nat.reduceMul, Nat.reduceSub])
  rw [w64_in (n := n + 1) (by omega) (by omega), w64_in (n := n + 1 + mv.tmod (1000000 - n)) (by omega) (by omega)]
  refine callv (by simp [FLT]) (res := B (bearsL b (n + 1 + mv.tmod (1000000 - n)) c l)) ?_ ?_
  · dsimp only [go_sem, Nat.reduceAdd, Nat.reduceMul, Nat.reduceSub]
    exact hbe _ (by simp [inR]; omega)
  rw [s4 (n + 1 + mv.tmod (1000000 - n)) (by omega) (by omega)]
  dsimp only [go_sem, Nat.reduceAdd, Nat.reduceMul, Nat.reduceSub]
  repeat (refine .inl ⟨rfl, ?_⟩; dsimp only [go_sem, Nat.reduceAdd, Nat.reduceMul, Nat.reduceSub])
  rfl
end Go.Proofs.Ytnlfjchbhgikaaa
