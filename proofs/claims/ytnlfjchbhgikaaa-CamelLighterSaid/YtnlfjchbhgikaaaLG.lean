/- Walks and plain laws that lead to the given statement, part 7 of 8. -/
import Derived.Test.YtnlfjchbhgikaaaLF
import Derived.Laws.BytesString
set_option maxRecDepth 100000
set_option maxHeartbeats 4000000
namespace Go.Azalai
theorem pairwise_of_srt {l : List Meet} (h : Srt Meet.day 0 l.length l) : l.Pairwise (fun x y => x.day ≤ y.day) := by
  rw [List.pairwise_iff_getElem]
  intro i j hi hj hij
  have := h i j (Nat.zero_le _) hij hj
  rwa [ky_eq Meet.day hi, ky_eq Meet.day hj] at this
/-- what the code knows is what is known -/
theorem mange_eq {n : Nat} {first : List Int} {meets l : List Meet} {wait : Span} {day : Int} (hw : 1 ≤ wait.lo ∧ wait.lo ≤ wait.hi) (hd : 0 ≤ day ∧ day ≤ 100000) (hf : ∀ i ∈ first, 0 ≤ i ∧ i < (n : Int)) (hm : ∀ m ∈ meets, okM n m)
    (hp : l.Perm meets) (hs : l.Pairwise (fun x y => x.day ≤ y.day)) (hl : ∃ s, Least n first (act false meets) wait.lo s) (hl2 : ∃ s, Least n first (act true meets) wait.hi s) {i : Nat} (hi : i < n) :
    (if gI (spreadF wait.hi day (l.filter (·.close)) (baseF first (List.replicate n 100061))) i ≤ day then 2 else if gI (spreadF wait.lo day l (baseF first (List.replicate n 100061))) i ≤ day then 1 else 0) = knF day (gI (sickF n first (act false meets) wait.lo) i) (gI (sickF n first (act true meets) wait.hi) i) := by
  obtain ⟨s1, h1⟩ := hl
  obtain ⟨s2, h2⟩ := hl2
  rw [h1.sickF, h2.sickF]
  have hml : ∀ m ∈ l, okM n m := fun m h => hm m (hp.mem_iff.1 h)
  have e1 := spread_sick (n := n) (first := first) (l := l) (w := wait.lo) (day := day) hw.1 hd.2 hf hml hs (i := (i : Int)) (by omega) (by omega)
  have e2 := spread_sick (n := n) (first := first) (l := l.filter (·.close)) (w := wait.hi) (day := day) (by omega) hd.2 hf (fun m h => hml m (List.mem_filter.1 h).1) (hs.filter _) (i := (i : Int)) (by omega) (by omega)
  have g1 := h1.sick (day := day) hd.2 (i := (i : Int)) (by omega) (by omega)
  have g2 := h2.sick (day := day) hd.2 (i := (i : Int)) (by omega) (by omega)
  have c1 : Sick first (· ∈ l) wait.lo i day ↔ Sick first (act false meets) wait.lo i day :=
    ⟨fun ⟨t, ht, h⟩ => ⟨t, ht, h.mono fun m hm => ⟨hp.mem_iff.1 hm, fun h => by cases h⟩⟩, fun ⟨t, ht, h⟩ => ⟨t, ht, h.mono fun m hm => hp.mem_iff.2 hm.1⟩⟩
  have c2 : Sick first (· ∈ l.filter (·.close)) wait.hi i day ↔ Sick first (act true meets) wait.hi i day :=
    ⟨fun ⟨t, ht, h⟩ => ⟨t, ht, h.mono fun m hm => ⟨hp.mem_iff.1 (List.mem_filter.1 hm).1, fun _ => (List.mem_filter.1 hm).2⟩⟩, fun ⟨t, ht, h⟩ => ⟨t, ht, h.mono fun m hm => List.mem_filter.2 ⟨hp.mem_iff.2 hm.1, hm.2 rfl⟩⟩⟩
  have c3 : Sick first (act true meets) wait.hi i day → Sick first (act false meets) wait.lo i day := fun ⟨t, ht, h⟩ => by
    obtain ⟨t', q1, q2⟩ := h.earlier (M' := act false meets) (w' := wait.lo) (fun m hm => ⟨hm.1, fun h => by cases h⟩) hw.2
    exact ⟨t', by omega, q2⟩
  rw [c1, ← g1] at e1
  rw [c2, ← g2] at e2
  rw [← g1, ← g2] at c3
  unfold knF
  by_cases q2 : gI s2 (i : Int) ≤ day
  · have := c3 q2
    rw [if_pos (e2.2 q2), if_neg (by omega), if_pos q2]
  · rw [if_neg (fun h => q2 (e2.1 h))]
    by_cases q1 : gI s1 (i : Int) ≤ day
    · rw [if_pos (e1.2 q1), if_neg (by omega), if_neg q2]
    · rw [if_neg (fun h => q1 (e1.1 h)), if_pos (by omega)]
end Go.Azalai
namespace Go.Proofs.Ytnlfjchbhgikaaa
open Go Go.Sx Go.Azalai
theorem mange_ok (n : Int) (first : List Int) (meets : List Meet) (wait : Span) (day : Int) (c1 c2 : Bool) (hl1 : first.length ≤ 1000) (hl2 : meets.length ≤ 1000) :
    Ct Try.prog 35 [I n, .sl c1 1 (first.map intL), .sl c2 4 (meets.map meetL), .agg (spanL wait), I day] (.tup [rowsK (meetsE n first meets wait day) (mangeK n first meets wait day), I (meetsE n first meets wait day)]) := by
  have hkr : KF (rowsK (meetsE n first meets wait day) (mangeK n first meets wait day)) := by
    unfold rowsK; split <;> simp [KF, KFR_iff, KFL, u8L, U8]
  refine t35 (by simp [meetL, KFR_iff, intL, spanL, KFL, KF]) (by simp [KF, KFL, hkr]) ?_
  dsimp only [c35, r35, spanL, go_sem, Nat.reduceAdd, Nat.reduceMul, Nat.reduceSub]
  refine call (from1 1 30 n true) ?_
  dsimp only [go_sem, Nat.reduceAdd, Nat.reduceMul, Nat.reduceSub]
  repeat (first | (refine gb ?_; dsimp only [go_sem, Nat.reduceAdd, Nat.reduceMul, Nat.reduceSub]) | (refine call (ordered1 1 60 wait true) ?_; dsimp only [go_sem, Nat.reduceAdd, Nat.reduceMul, Nat.reduceSub]) | (refine call (from1 0 100000 day true) ?_; dsimp only [go_sem, Nat.reduceAdd, Nat.reduceMul, Nat.reduceSub]))
  by_cases h1 : (inR 1 30 n && okSp 1 60 wait && inR 0 100000 day) = true
  case neg =>
    refine br_t (by revert h1; cases inR 1 30 n <;> cases okSp 1 60 wait <;> cases inR 0 100000 day <;> simp) ?_
    dsimp only [go_sem, Nat.reduceAdd, Nat.reduceMul, Nat.reduceSub]
    have hE : meetsE n first meets wait day = 2 := by
      unfold meetsE
      rw [if_pos (by revert h1; cases inR 1 30 n <;> cases okSp 1 60 wait <;> cases inR 0 100000 day <;> simp)]
    simp [rowsK, hE]
  refine br_f (by revert h1; cases inR 1 30 n <;> cases okSp 1 60 wait <;> cases inR 0 100000 day <;> simp) ?_
  dsimp only [go_sem, Nat.reduceAdd, Nat.reduceMul, Nat.reduceSub]
  repeat (refine gb ?_; dsimp only [go_sem, Nat.reduceAdd, Nat.reduceMul, Nat.reduceSub])
  simp only [List.length_map]
  by_cases h2 : first.length > 30 ∨ meets.length > 200
  · refine br_t (by simp; omega) ?_
    dsimp only [go_sem, Nat.reduceAdd, Nat.reduceMul, Nat.reduceSub]
    have hE : meetsE n first meets wait day = 4 := by
      unfold meetsE
      rw [if_neg (by simp [h1]), if_pos h2]
    simp [rowsK, hE]
  refine br_f (by simp; omega) ?_
  dsimp only [go_sem, Nat.reduceAdd, Nat.reduceMul, Nat.reduceSub]
  have hn : 1 ≤ n ∧ n ≤ 30 := by simp only [Bool.and_eq_true, inR, decide_eq_true_eq] at h1; exact h1.1.1
  have hE0 : meetsE n first meets wait day = if !(first.all (inR 0 (n - 1))) || meets.any (oddM n) then 14 else 0 := by
    unfold meetsE
    rw [if_neg (by simp [h1]), if_neg h2]
  rw [w64_in (n := n - 1) (by omega) (by omega)]
  refine call (from_any 0 (n - 1) first (by omega) c1) ?_
  dsimp only [go_sem, Nat.reduceAdd, Nat.reduceMul, Nat.reduceSub]
  repeat (refine gb ?_; dsimp only [go_sem, Nat.reduceAdd, Nat.reduceMul, Nat.reduceSub])
  refine callv (by simp [FLT]) (res := B (meets.any (oddM n))) ?_ ?_
  · dsimp only [go_sem, Nat.reduceAdd, Nat.reduceMul, Nat.reduceSub]
    exact con78 77 [.ps [I n] 0] (by simp [KFL, KF]) (oddM n) meets (fun x _ => odd_ok n hn.1 hn.2 x) (by omega)
  dsimp only [go_sem, Nat.reduceAdd, Nat.reduceMul, Nat.reduceSub]
  repeat (refine gb ?_; dsimp only [go_sem, Nat.reduceAdd, Nat.reduceMul, Nat.reduceSub])
  by_cases h3 : (!(first.all (inR 0 (n - 1))) || meets.any (oddM n)) = true
  · refine br_t (by revert h3; cases first.all (inR 0 (n - 1)) <;> cases meets.any (oddM n) <;> simp) ?_
    dsimp only [go_sem, Nat.reduceAdd, Nat.reduceMul, Nat.reduceSub]
    rw [if_pos h3] at hE0
    simp [rowsK, hE0]
  refine br_f (by revert h3; cases first.all (inR 0 (n - 1)) <;> cases meets.any (oddM n) <;> simp) ?_
  dsimp only [go_sem, Nat.reduceAdd, Nat.reduceMul, Nat.reduceSub]
  rw [if_neg h3] at hE0
  obtain ⟨_, hw, hd, hf1, hm1, hf, hm⟩ := meetsE_0 hE0
  clear h1 h2 h3
  refine callmP [] (clone_ok meets (by omega) c2) rfl rfl rfl ?_ ?_ ?_
  · ((try dsimp only [go_sem, Nat.reduceAdd, Nat.reduceMul, Nat.reduceSub]); repeat (simp only [Nat.beq_refl]; try dsimp only [go_sem, Nat.reduceAdd, Nat.reduceMul, Nat.reduceSub]))
    simp [mtL, mtB, mtS, KFR_iff, KFR, KFL, KF, meetL]
  · ((try dsimp only [go_sem, Nat.reduceAdd, Nat.reduceMul, Nat.reduceSub]); repeat (simp only [Nat.beq_refl]; try dsimp only [go_sem, Nat.reduceAdd, Nat.reduceMul, Nat.reduceSub]))
  rintro _ rfl
  ((try dsimp only [go_sem, Nat.reduceAdd, Nat.reduceMul, Nat.reduceSub]); repeat (simp only [Nat.beq_refl]; try dsimp only [go_sem, Nat.reduceAdd, Nat.reduceMul, Nat.reduceSub]))
  refine gh ent_refl ?_
  ((try dsimp only [go_sem, Nat.reduceAdd, Nat.reduceMul, Nat.reduceSub]); repeat (simp only [Nat.beq_refl]; try dsimp only [go_sem, Nat.reduceAdd, Nat.reduceMul, Nat.reduceSub]))
  refine callmP [2] (sort_ok 0 meets (by omega)) rfl rfl rfl ?_ ?_ ?_
  · ((try dsimp only [go_sem, Nat.reduceAdd, Nat.reduceMul, Nat.reduceSub]); repeat (simp only [Nat.beq_refl]; try dsimp only [go_sem, Nat.reduceAdd, Nat.reduceMul, Nat.reduceSub]))
    simp [mtL, mtB, mtS]
  · ((try dsimp only [go_sem, Nat.reduceAdd, Nat.reduceMul, Nat.reduceSub]); repeat (simp only [Nat.beq_refl]; try dsimp only [go_sem, Nat.reduceAdd, Nat.reduceMul, Nat.reduceSub]))
    simp [KFR_iff, meetL, KFL, KF]
  rintro _ ⟨l, hpl, hsl, rfl⟩
  ((try dsimp only [rowO, go_sem, Nat.reduceAdd, Nat.reduceMul, Nat.reduceSub]); repeat (simp only [Nat.beq_refl]; try dsimp only [go_sem, Nat.reduceAdd, Nat.reduceMul, Nat.reduceSub]))
  refine gh (ent_frz 13 2 0 rfl rfl rfl rfl) ?_
  obtain ⟨k, rfl⟩ : ∃ k : Nat, n = k := ⟨n.toNat, by omega⟩
  have hll := hpl.len
  have hso := pairwise_of_srt (by rw [hll]; exact hsl)
  have hml : ∀ m ∈ l, okM k m := fun m h => hm m (hpl.perm.mem_iff.1 h)
  ((try dsimp only [go_sem, Nat.reduceAdd, Nat.reduceMul, Nat.reduceSub]); repeat (simp only [Nat.beq_refl]; try dsimp only [go_sem, Nat.reduceAdd, Nat.reduceMul, Nat.reduceSub]))
  refine call (spread_ok k first l wait.lo day c1 false (by omega) (by omega) hf hml (by omega) hl1 (by omega)) ?_
  ((try dsimp only [go_sem, Nat.reduceAdd, Nat.reduceMul, Nat.reduceSub]); repeat (simp only [Nat.beq_refl]; try dsimp only [go_sem, Nat.reduceAdd, Nat.reduceMul, Nat.reduceSub]))
  refine callmP [] (clone_ok l (by omega) false) rfl rfl rfl ?_ ?_ ?_
  · ((try dsimp only [go_sem, Nat.reduceAdd, Nat.reduceMul, Nat.reduceSub]); repeat (simp only [Nat.beq_refl]; try dsimp only [go_sem, Nat.reduceAdd, Nat.reduceMul, Nat.reduceSub]))
    simp [mtL, mtB, mtS, KFR_iff, KFR, KFL, KF, meetL]
  · ((try dsimp only [go_sem, Nat.reduceAdd, Nat.reduceMul, Nat.reduceSub]); repeat (simp only [Nat.beq_refl]; try dsimp only [go_sem, Nat.reduceAdd, Nat.reduceMul, Nat.reduceSub]))
  rintro _ rfl
  ((try dsimp only [go_sem, Nat.reduceAdd, Nat.reduceMul, Nat.reduceSub]); repeat (simp only [Nat.beq_refl]; try dsimp only [go_sem, Nat.reduceAdd, Nat.reduceMul, Nat.reduceSub]))
  refine callmP [3] (delete_ok 0 l (by omega)) rfl rfl rfl ?_ ?_ ?_
  · ((try dsimp only [go_sem, Nat.reduceAdd, Nat.reduceMul, Nat.reduceSub]); repeat (simp only [Nat.beq_refl]; try dsimp only [go_sem, Nat.reduceAdd, Nat.reduceMul, Nat.reduceSub]))
    simp [mtL, mtB, mtS]
  · ((try dsimp only [go_sem, Nat.reduceAdd, Nat.reduceMul, Nat.reduceSub]); repeat (simp only [Nat.beq_refl]; try dsimp only [go_sem, Nat.reduceAdd, Nat.reduceMul, Nat.reduceSub]))
    simp [KFR_iff, meetL, KFL, KF]
  rintro _ (⟨hfl, rfl⟩ | ⟨l', hl', hle, htk, rfl⟩)
  · ((try dsimp only [go_sem, Nat.reduceAdd, Nat.reduceMul, Nat.reduceSub]); repeat (simp only [Nat.beq_refl]; try dsimp only [go_sem, Nat.reduceAdd, Nat.reduceMul, Nat.reduceSub]))
    refine gh (ent_frz 15 3 0 rfl rfl rfl rfl) ?_
    rw [show l.map meetL = (l.filter (·.close)).map meetL from by rw [hfl]]
    clear hfl
    generalize hfl0 : l.filter (·.close) = fl at *
    ((try dsimp only [go_sem, Nat.reduceAdd, Nat.reduceMul, Nat.reduceSub]); repeat (simp only [Nat.beq_refl]; try dsimp only [go_sem, Nat.reduceAdd, Nat.reduceMul, Nat.reduceSub]))
    refine call (spread_ok k first fl wait.hi day c1 false (by omega) (by omega) hf (fun m h => hml m (by rw [← hfl0] at h; exact (List.mem_filter.1 h).1)) (by omega) hl1 (by rw [← hfl0]; exact Nat.le_trans (List.length_filter_le _ _) (by omega))) ?_
    ((try dsimp only [go_sem, Nat.reduceAdd, Nat.reduceMul, Nat.reduceSub]); repeat (simp only [Nat.beq_refl]; try dsimp only [go_sem, Nat.reduceAdd, Nat.reduceMul, Nat.reduceSub]))
    have hlenE : (spreadF wait.lo day l (baseF first (List.replicate k 100061))).length = k := by rw [spreadF_len, baseF_len]; simp
    have hlenL : (spreadF wait.hi day fl (baseF first (List.replicate k 100061))).length = k := by rw [spreadF_len, baseF_len]; simp
    have heq : ∀ i : Nat, i < k → (if gI (spreadF wait.hi day fl (baseF first (List.replicate k 100061))) (i : Int) ≤ day then 2 else if gI (spreadF wait.lo day l (baseF first (List.replicate k 100061))) (i : Int) ≤ day then 1 else 0) = knF day (gI (sickF k first (act false meets) wait.lo) i) (gI (sickF k first (act true meets) wait.hi) i) := fun i hi => by
      have := mange_eq (meets := meets) (l := l) ⟨hw.1, hw.2.1⟩ hd hf hm hpl.perm hso (least_ex hf (fun m h => hm m h.1) (by omega)) (least_ex hf (fun m h => hm m h.1) (by omega)) hi
      rw [hfl0] at this
      exact this
    generalize spreadF wait.lo day l (baseF first (List.replicate k 100061)) = E at hlenE heq
    generalize spreadF wait.hi day fl (baseF first (List.replicate k 100061)) = L at hlenL heq
    refine ⟨k, rfl, by omega, ?_⟩
    ((try dsimp only [go_sem, Nat.reduceAdd, Nat.reduceMul, Nat.reduceSub]); repeat (simp only [Nat.beq_refl]; try dsimp only [go_sem, Nat.reduceAdd, Nat.reduceMul, Nat.reduceSub]))
    rw [show List.replicate k [SV.v (Value.int IntKind.u8 0)] = (List.replicate k (0 : Int)).map u8L from by simp [u8L, U8]]
    simp only [List.length_map, List.length_replicate]
    have hs0 : (List.replicate k (0 : Int)).length = k ∧ ∀ i, i < k → (List.replicate k (0 : Int))[i]? = some 0 := ⟨by simp, fun i hi => by rw [List.getElem?_replicate, if_pos hi]⟩
    generalize List.replicate k (0 : Int) = ks0 at hs0
    refine loopO (fun z : Nat × List Int => [(79, I z.1)]) (fun z => [(4, .row 0 1 (z.2.map u8L) 5)]) (fun z => z.1 ≤ k ∧ z.2.length = k ∧ ∀ i, i < k → z.2[i]? = some (if i < z.1 then (if gI L (i : Int) ≤ day then 2 else if gI E (i : Int) ≤ day then 1 else 0) else 0)) (fun z => k - z.1) (0, ks0) ⟨Nat.zero_le _, hs0.1, fun i hi => by rw [hs0.2 i hi, if_neg (Nat.not_lt_zero _)]⟩ ?_ ?_
    · (refine ent_id ?_ ?_ ?_ rfl rfl <;> dsimp only [meetL, intL, u8L, U8, id, go_sem, Nat.reduceAdd, Nat.reduceMul, Nat.reduceSub] <;> simp [meetL, intL, u8L, U8, KFR_iff, KFR_app, KFR, KFL, KF, mtL_same, mtO, Nat.beq_refl])
    rintro ⟨j, ks⟩ ⟨hj, hkl, hki⟩
    simp only at hj hkl hki
    ((try dsimp only [go_sem, Nat.reduceAdd, Nat.reduceMul, Nat.reduceSub]); repeat (simp only [Nat.beq_refl]; try dsimp only [go_sem, Nat.reduceAdd, Nat.reduceMul, Nat.reduceSub]))
    by_cases hlt : j < k
    · refine br_t (by simpa using hlt) ?_
      ((try dsimp only [go_sem, Nat.reduceAdd, Nat.reduceMul, Nat.reduceSub]); repeat (simp only [Nat.beq_refl]; try dsimp only [go_sem, Nat.reduceAdd, Nat.reduceMul, Nat.reduceSub]))
      have gL : gI L (j : Int) = L[j] := gI_eq rfl (by omega)
      have gE : gI E (j : Int) = E[j] := gI_eq rfl (by omega)
      refine ixs_map j (by omega) rfl ?_
      ((try dsimp only [intL, go_sem, Nat.reduceAdd, Nat.reduceMul, Nat.reduceSub]); repeat (simp only [Nat.beq_refl]; try dsimp only [go_sem, Nat.reduceAdd, Nat.reduceMul, Nat.reduceSub]))
      by_cases q2 : L[j] ≤ day
      · refine br_t (by simpa using q2) ?_
        have hx : (if gI L (j : Int) ≤ day then (2 : Int) else if gI E (j : Int) ≤ day then 1 else 0) = 2 := by rw [gL, if_pos q2]
        ((try dsimp only [go_sem, Nat.reduceAdd, Nat.reduceMul, Nat.reduceSub]); repeat (simp only [Nat.beq_refl]; try dsimp only [go_sem, Nat.reduceAdd, Nat.reduceMul, Nat.reduceSub]))
        refine ixrm j rfl (by first | omega | (simp; omega)) ?_
        ((try dsimp only [go_sem, Nat.reduceAdd, Nat.reduceMul, Nat.reduceSub]); repeat (simp only [Nat.beq_refl]; try dsimp only [go_sem, Nat.reduceAdd, Nat.reduceMul, Nat.reduceSub]))
        refine strm (2 : Int) (by first | omega | (simp; omega)) (by simp [u8L, U8]) (by simp [u8L, U8, splice]) ?_
        ((try dsimp only [go_sem, Nat.reduceAdd, Nat.reduceMul, Nat.reduceSub]); repeat (simp only [Nat.beq_refl]; try dsimp only [go_sem, Nat.reduceAdd, Nat.reduceMul, Nat.reduceSub]))
        rw [w64_in (n := (j : Int) + 1) (by omega) (by omega)]
        refine ⟨(j + 1, ks.set j 2), ⟨hlt, by simp [hkl], fun i hi => ?_⟩, by simp only; omega, ?_⟩
        · dsimp only
          have := hki i hi
          by_cases hij : i = j
          · subst hij; rw [List.getElem?_set_self (by omega), if_pos (Nat.lt_succ_self i), hx]
          · rw [List.getElem?_set_ne (by omega), this]
            by_cases hij2 : i < j
            · rw [if_pos hij2, if_pos (c := i < j + 1) (by omega)]
            · rw [if_neg hij2, if_neg (c := i < j + 1) (by omega)]
        generalize ks.set j 2 = ks2
        (refine ent_id ?_ ?_ ?_ rfl rfl <;> dsimp only [meetL, intL, u8L, U8, id, go_sem, Nat.reduceAdd, Nat.reduceMul, Nat.reduceSub] <;> simp [meetL, intL, u8L, U8, KFR_iff, KFR_app, KFR, KFL, KF, mtL_same, mtO, Nat.beq_refl])
      refine br_f (by simpa using q2) ?_
      ((try dsimp only [go_sem, Nat.reduceAdd, Nat.reduceMul, Nat.reduceSub]); repeat (simp only [Nat.beq_refl]; try dsimp only [go_sem, Nat.reduceAdd, Nat.reduceMul, Nat.reduceSub]))
      refine ixs_map j (by omega) rfl ?_
      ((try dsimp only [intL, go_sem, Nat.reduceAdd, Nat.reduceMul, Nat.reduceSub]); repeat (simp only [Nat.beq_refl]; try dsimp only [go_sem, Nat.reduceAdd, Nat.reduceMul, Nat.reduceSub]))
      by_cases q1 : E[j] ≤ day
      · refine br_t (by simpa using q1) ?_
        have hx : (if gI L (j : Int) ≤ day then (2 : Int) else if gI E (j : Int) ≤ day then 1 else 0) = 1 := by rw [gL, gE, if_neg q2, if_pos q1]
        ((try dsimp only [go_sem, Nat.reduceAdd, Nat.reduceMul, Nat.reduceSub]); repeat (simp only [Nat.beq_refl]; try dsimp only [go_sem, Nat.reduceAdd, Nat.reduceMul, Nat.reduceSub]))
        refine ixrm j rfl (by first | omega | (simp; omega)) ?_
        ((try dsimp only [go_sem, Nat.reduceAdd, Nat.reduceMul, Nat.reduceSub]); repeat (simp only [Nat.beq_refl]; try dsimp only [go_sem, Nat.reduceAdd, Nat.reduceMul, Nat.reduceSub]))
        refine strm (1 : Int) (by first | omega | (simp; omega)) (by simp [u8L, U8]) (by simp [u8L, U8, splice]) ?_
        ((try dsimp only [go_sem, Nat.reduceAdd, Nat.reduceMul, Nat.reduceSub]); repeat (simp only [Nat.beq_refl]; try dsimp only [go_sem, Nat.reduceAdd, Nat.reduceMul, Nat.reduceSub]))
        rw [w64_in (n := (j : Int) + 1) (by omega) (by omega)]
        refine ⟨(j + 1, ks.set j 1), ⟨hlt, by simp [hkl], fun i hi => ?_⟩, by simp only; omega, ?_⟩
        · dsimp only
          have := hki i hi
          by_cases hij : i = j
          · subst hij; rw [List.getElem?_set_self (by omega), if_pos (Nat.lt_succ_self i), hx]
          · rw [List.getElem?_set_ne (by omega), this]
            by_cases hij2 : i < j
            · rw [if_pos hij2, if_pos (c := i < j + 1) (by omega)]
            · rw [if_neg hij2, if_neg (c := i < j + 1) (by omega)]
        generalize ks.set j 1 = ks2
        (refine ent_id ?_ ?_ ?_ rfl rfl <;> dsimp only [meetL, intL, u8L, U8, id, go_sem, Nat.reduceAdd, Nat.reduceMul, Nat.reduceSub] <;> simp [meetL, intL, u8L, U8, KFR_iff, KFR_app, KFR, KFL, KF, mtL_same, mtO, Nat.beq_refl])
      refine br_f (by simpa using q1) ?_
      have hx : (if gI L (j : Int) ≤ day then (2 : Int) else if gI E (j : Int) ≤ day then 1 else 0) = 0 := by rw [gL, gE, if_neg q2, if_neg q1]
      ((try dsimp only [go_sem, Nat.reduceAdd, Nat.reduceMul, Nat.reduceSub]); repeat (simp only [Nat.beq_refl]; try dsimp only [go_sem, Nat.reduceAdd, Nat.reduceMul, Nat.reduceSub]))
      rw [w64_in (n := (j : Int) + 1) (by omega) (by omega)]
      refine ⟨(j + 1, ks), ⟨hlt, hkl, fun i hi => ?_⟩, by simp only; omega, ?_⟩
      · dsimp only
        have := hki i hi
        by_cases hij : i = j
        · subst hij; rw [this, if_neg (Nat.lt_irrefl i), if_pos (Nat.lt_succ_self i), hx]
        · rw [this]
          by_cases hij2 : i < j
          · rw [if_pos hij2, if_pos (c := i < j + 1) (by omega)]
          · rw [if_neg hij2, if_neg (c := i < j + 1) (by omega)]
      (refine ent_id ?_ ?_ ?_ rfl rfl <;> dsimp only [meetL, intL, u8L, U8, id, go_sem, Nat.reduceAdd, Nat.reduceMul, Nat.reduceSub] <;> simp [meetL, intL, u8L, U8, KFR_iff, KFR_app, KFR, KFL, KF, mtL_same, mtO, Nat.beq_refl])
    refine br_f (by simp; omega) ?_
    ((try dsimp only [go_sem, Nat.reduceAdd, Nat.reduceMul, Nat.reduceSub]); repeat (simp only [Nat.beq_refl]; try dsimp only [go_sem, Nat.reduceAdd, Nat.reduceMul, Nat.reduceSub]))
    have hjk : j = k := by omega
    subst hjk
    have hks : ks = mangeK j first meets wait day := by
      apply List.ext_getElem? 
      intro i
      unfold mangeK
      rw [Int.toNat_natCast, List.getElem?_map]
      by_cases hi : i < j
      · rw [hki i hi, if_pos hi, heq i hi, List.getElem?_range hi]; rfl
      · rw [List.getElem?_eq_none (by omega), List.getElem?_eq_none (by simp; omega)]; rfl
    rw [hks]
    simp [rowsK, hE0]
  · ((try dsimp only [go_sem, Nat.reduceAdd, Nat.reduceMul, Nat.reduceSub]); repeat (simp only [Nat.beq_refl]; try dsimp only [go_sem, Nat.reduceAdd, Nat.reduceMul, Nat.reduceSub]))
    refine gh (ent_frzp 15 3 0 _ rfl rfl rfl rfl (by simpa using hle)) ?_
    rw [← List.map_take, htk]
    clear htk hle
    generalize hfl0 : l.filter (·.close) = fl at *
    ((try dsimp only [go_sem, Nat.reduceAdd, Nat.reduceMul, Nat.reduceSub]); repeat (simp only [Nat.beq_refl]; try dsimp only [go_sem, Nat.reduceAdd, Nat.reduceMul, Nat.reduceSub]))
    refine call (spread_ok k first fl wait.hi day c1 false (by omega) (by omega) hf (fun m h => hml m (by rw [← hfl0] at h; exact (List.mem_filter.1 h).1)) (by omega) hl1 (by rw [← hfl0]; exact Nat.le_trans (List.length_filter_le _ _) (by omega))) ?_
    ((try dsimp only [go_sem, Nat.reduceAdd, Nat.reduceMul, Nat.reduceSub]); repeat (simp only [Nat.beq_refl]; try dsimp only [go_sem, Nat.reduceAdd, Nat.reduceMul, Nat.reduceSub]))
    have hlenE : (spreadF wait.lo day l (baseF first (List.replicate k 100061))).length = k := by rw [spreadF_len, baseF_len]; simp
    have hlenL : (spreadF wait.hi day fl (baseF first (List.replicate k 100061))).length = k := by rw [spreadF_len, baseF_len]; simp
    have heq : ∀ i : Nat, i < k → (if gI (spreadF wait.hi day fl (baseF first (List.replicate k 100061))) (i : Int) ≤ day then 2 else if gI (spreadF wait.lo day l (baseF first (List.replicate k 100061))) (i : Int) ≤ day then 1 else 0) = knF day (gI (sickF k first (act false meets) wait.lo) i) (gI (sickF k first (act true meets) wait.hi) i) := fun i hi => by
      have := mange_eq (meets := meets) (l := l) ⟨hw.1, hw.2.1⟩ hd hf hm hpl.perm hso (least_ex hf (fun m h => hm m h.1) (by omega)) (least_ex hf (fun m h => hm m h.1) (by omega)) hi
      rw [hfl0] at this
      exact this
    generalize spreadF wait.lo day l (baseF first (List.replicate k 100061)) = E at hlenE heq
    generalize spreadF wait.hi day fl (baseF first (List.replicate k 100061)) = L at hlenL heq
    refine ⟨k, rfl, by omega, ?_⟩
    ((try dsimp only [go_sem, Nat.reduceAdd, Nat.reduceMul, Nat.reduceSub]); repeat (simp only [Nat.beq_refl]; try dsimp only [go_sem, Nat.reduceAdd, Nat.reduceMul, Nat.reduceSub]))
    rw [show List.replicate k [SV.v (Value.int IntKind.u8 0)] = (List.replicate k (0 : Int)).map u8L from by simp [u8L, U8]]
    simp only [List.length_map, List.length_replicate]
    have hs0 : (List.replicate k (0 : Int)).length = k ∧ ∀ i, i < k → (List.replicate k (0 : Int))[i]? = some 0 := ⟨by simp, fun i hi => by rw [List.getElem?_replicate, if_pos hi]⟩
    generalize List.replicate k (0 : Int) = ks0 at hs0
    refine loopO (fun z : Nat × List Int => [(79, I z.1)]) (fun z => [(4, .row 0 1 (z.2.map u8L) 5)]) (fun z => z.1 ≤ k ∧ z.2.length = k ∧ ∀ i, i < k → z.2[i]? = some (if i < z.1 then (if gI L (i : Int) ≤ day then 2 else if gI E (i : Int) ≤ day then 1 else 0) else 0)) (fun z => k - z.1) (0, ks0) ⟨Nat.zero_le _, hs0.1, fun i hi => by rw [hs0.2 i hi, if_neg (Nat.not_lt_zero _)]⟩ ?_ ?_
    · (refine ent_id ?_ ?_ ?_ rfl rfl <;> dsimp only [meetL, intL, u8L, U8, id, go_sem, Nat.reduceAdd, Nat.reduceMul, Nat.reduceSub] <;> simp [meetL, intL, u8L, U8, KFR_iff, KFR_app, KFR, KFL, KF, mtL_same, mtO, Nat.beq_refl])
    rintro ⟨j, ks⟩ ⟨hj, hkl, hki⟩
    simp only at hj hkl hki
    ((try dsimp only [go_sem, Nat.reduceAdd, Nat.reduceMul, Nat.reduceSub]); repeat (simp only [Nat.beq_refl]; try dsimp only [go_sem, Nat.reduceAdd, Nat.reduceMul, Nat.reduceSub]))
    by_cases hlt : j < k
    · refine br_t (by simpa using hlt) ?_
      ((try dsimp only [go_sem, Nat.reduceAdd, Nat.reduceMul, Nat.reduceSub]); repeat (simp only [Nat.beq_refl]; try dsimp only [go_sem, Nat.reduceAdd, Nat.reduceMul, Nat.reduceSub]))
      have gL : gI L (j : Int) = L[j] := gI_eq rfl (by omega)
      have gE : gI E (j : Int) = E[j] := gI_eq rfl (by omega)
      refine ixs_map j (by omega) rfl ?_
      ((try dsimp only [intL, go_sem, Nat.reduceAdd, Nat.reduceMul, Nat.reduceSub]); repeat (simp only [Nat.beq_refl]; try dsimp only [go_sem, Nat.reduceAdd, Nat.reduceMul, Nat.reduceSub]))
      by_cases q2 : L[j] ≤ day
      · refine br_t (by simpa using q2) ?_
        have hx : (if gI L (j : Int) ≤ day then (2 : Int) else if gI E (j : Int) ≤ day then 1 else 0) = 2 := by rw [gL, if_pos q2]
        ((try dsimp only [go_sem, Nat.reduceAdd, Nat.reduceMul, Nat.reduceSub]); repeat (simp only [Nat.beq_refl]; try dsimp only [go_sem, Nat.reduceAdd, Nat.reduceMul, Nat.reduceSub]))
        refine ixrm j rfl (by first | omega | (simp; omega)) ?_
        ((try dsimp only [go_sem, Nat.reduceAdd, Nat.reduceMul, Nat.reduceSub]); repeat (simp only [Nat.beq_refl]; try dsimp only [go_sem, Nat.reduceAdd, Nat.reduceMul, Nat.reduceSub]))
        refine strm (2 : Int) (by first | omega | (simp; omega)) (by simp [u8L, U8]) (by simp [u8L, U8, splice]) ?_
        ((try dsimp only [go_sem, Nat.reduceAdd, Nat.reduceMul, Nat.reduceSub]); repeat (simp only [Nat.beq_refl]; try dsimp only [go_sem, Nat.reduceAdd, Nat.reduceMul, Nat.reduceSub]))
        rw [w64_in (n := (j : Int) + 1) (by omega) (by omega)]
        refine ⟨(j + 1, ks.set j 2), ⟨hlt, by simp [hkl], fun i hi => ?_⟩, by simp only; omega, ?_⟩
        · dsimp only
          have := hki i hi
          by_cases hij : i = j
          · subst hij; rw [List.getElem?_set_self (by omega), if_pos (Nat.lt_succ_self i), hx]
          · rw [List.getElem?_set_ne (by omega), this]
            by_cases hij2 : i < j
            · rw [if_pos hij2, if_pos (c := i < j + 1) (by omega)]
            · rw [if_neg hij2, if_neg (c := i < j + 1) (by omega)]
        generalize ks.set j 2 = ks2
        (refine ent_id ?_ ?_ ?_ rfl rfl <;> dsimp only [meetL, intL, u8L, U8, id, go_sem, Nat.reduceAdd, Nat.reduceMul, Nat.reduceSub] <;> simp [meetL, intL, u8L, U8, KFR_iff, KFR_app, KFR, KFL, KF, mtL_same, mtO, Nat.beq_refl])
      refine br_f (by simpa using q2) ?_
      ((try dsimp only [go_sem, Nat.reduceAdd, Nat.reduceMul, Nat.reduceSub]); repeat (simp only [Nat.beq_refl]; try dsimp only [go_sem, Nat.reduceAdd, Nat.reduceMul, Nat.reduceSub]))
      refine ixs_map j (by omega) rfl ?_
      ((try dsimp only [intL, go_sem, Nat.reduceAdd, Nat.reduceMul, Nat.reduceSub]); repeat (simp only [Nat.beq_refl]; try dsimp only [go_sem, Nat.reduceAdd, Nat.reduceMul, Nat.reduceSub]))
      by_cases q1 : E[j] ≤ day
      · refine br_t (by simpa using q1) ?_
        have hx : (if gI L (j : Int) ≤ day then (2 : Int) else if gI E (j : Int) ≤ day then 1 else 0) = 1 := by rw [gL, gE, if_neg q2, if_pos q1]
        ((try dsimp only [go_sem, Nat.reduceAdd, Nat.reduceMul, Nat.reduceSub]); repeat (simp only [Nat.beq_refl]; try dsimp only [go_sem, Nat.reduceAdd, Nat.reduceMul, Nat.reduceSub]))
        refine ixrm j rfl (by first | omega | (simp; omega)) ?_
        ((try dsimp only [go_sem, Nat.reduceAdd, Nat.reduceMul, Nat.reduceSub]); repeat (simp only [Nat.beq_refl]; try dsimp only [go_sem, Nat.reduceAdd, Nat.reduceMul, Nat.reduceSub]))
        refine strm (1 : Int) (by first | omega | (simp; omega)) (by simp [u8L, U8]) (by simp [u8L, U8, splice]) ?_
        ((try dsimp only [go_sem, Nat.reduceAdd, Nat.reduceMul, Nat.reduceSub]); repeat (simp only [Nat.beq_refl]; try dsimp only [go_sem, Nat.reduceAdd, Nat.reduceMul, Nat.reduceSub]))
        rw [w64_in (n := (j : Int) + 1) (by omega) (by omega)]
        refine ⟨(j + 1, ks.set j 1), ⟨hlt, by simp [hkl], fun i hi => ?_⟩, by simp only; omega, ?_⟩
        · dsimp only
          have := hki i hi
          by_cases hij : i = j
          · subst hij; rw [List.getElem?_set_self (by omega), if_pos (Nat.lt_succ_self i), hx]
          · rw [List.getElem?_set_ne (by omega), this]
            by_cases hij2 : i < j
            · rw [if_pos hij2, if_pos (c := i < j + 1) (by omega)]
            · rw [if_neg hij2, if_neg (c := i < j + 1) (by omega)]
        generalize ks.set j 1 = ks2
        (refine ent_id ?_ ?_ ?_ rfl rfl <;> dsimp only [meetL, intL, u8L, U8, id, go_sem, Nat.reduceAdd, Nat.reduceMul, Nat.reduceSub] <;> simp [meetL, intL, u8L, U8, KFR_iff, KFR_app, KFR, KFL, KF, mtL_same, mtO, Nat.beq_refl])
      refine br_f (by simpa using q1) ?_
      have hx : (if gI L (j : Int) ≤ day then (2 : Int) else if gI E (j : Int) ≤ day then 1 else 0) = 0 := by rw [gL, gE, if_neg q2, if_neg q1]
      ((try dsimp only [go_sem, Nat.reduceAdd, Nat.reduceMul, Nat.reduceSub]); repeat (simp only [Nat.beq_refl]; try dsimp only [go_sem, Nat.reduceAdd, Nat.reduceMul, Nat.reduceSub]))
      rw [w64_in (n := (j : Int) + 1) (by omega) (by omega)]
      refine ⟨(j + 1, ks), ⟨hlt, hkl, fun i hi => ?_⟩, by simp only; omega, ?_⟩
      · dsimp only
        have := hki i hi
        by_cases hij : i = j
        · subst hij; rw [this, if_neg (Nat.lt_irrefl i), if_pos (Nat.lt_succ_self i), hx]
        · rw [this]
          by_cases hij2 : i < j
          · rw [if_pos hij2, if_pos (c := i < j + 1) (by omega)]
          · rw [if_neg hij2, if_neg (c := i < j + 1) (by omega)]
      (refine ent_id ?_ ?_ ?_ rfl rfl <;> dsimp only [meetL, intL, u8L, U8, id, go_sem, Nat.reduceAdd, Nat.reduceMul, Nat.reduceSub] <;> simp [meetL, intL, u8L, U8, KFR_iff, KFR_app, KFR, KFL, KF, mtL_same, mtO, Nat.beq_refl])
    refine br_f (by simp; omega) ?_
    ((try dsimp only [go_sem, Nat.reduceAdd, Nat.reduceMul, Nat.reduceSub]); repeat (simp only [Nat.beq_refl]; try dsimp only [go_sem, Nat.reduceAdd, Nat.reduceMul, Nat.reduceSub]))
    have hjk : j = k := by omega
    subst hjk
    have hks : ks = mangeK j first meets wait day := by
      apply List.ext_getElem? 
      intro i
      unfold mangeK
      rw [Int.toNat_natCast, List.getElem?_map]
      by_cases hi : i < j
      · rw [hki i hi, if_pos hi, heq i hi, List.getElem?_range hi]; rfl
      · rw [List.getElem?_eq_none (by omega), List.getElem?_eq_none (by simp; omega)]; rfl
    rw [hks]
    simp [rowsK, hE0]
end Go.Proofs.Ytnlfjchbhgikaaa
namespace Go.Sx
open Go
def byS (ns : List Int) : ByteArray := ns.foldl (fun r n => r.push (UInt8.ofNat n.toNat)) ByteArray.empty
theorem RL_vals {w : World} {E : Env} {n ok : Nat → Prop} : ∀ {l ys : List Value}, RL w E n ok (l.map SV.v) ys → ys = l
  | [], ys, h => by simpa [RL] using h
  | x :: l, ys, h => by
    simp only [List.map_cons, RL] at h
    obtain ⟨y, r, rfl, h1, h2⟩ := h
    simp only [R] at h1
    rw [h1, RL_vals h2]
theorem flat1 {α β : Type} (f : α → β) : ∀ l : List α, (l.map fun n => [f n]).flatten = l.map f
  | [] => rfl
  | x :: l => by simp only [List.map_cons, List.flatten_cons, flat1 f l]; rfl
/-- a row of bytes as a string -/
theorem raw_str {P : Program} {d : Option Nat} {u src dst ty e : Nat} {ns : List Int} {s : SV} {σ : St} {r : KT} {K : RK} (hl : lk u σ.fr = s) (hng : ∀ j b u, s ≠ .gd j b u) (hs : sprV 1 s = some (ns.map fun n => [SV.v (.int .u8 n)]))
    (hsrc : P.underlying src = some (.slice e)) (hdst : P.underlying dst = some .string) (he : P.underlying e = some (.int .u8)) (hk : putK d (.v (.string (byS ns))) none σ r K) : RAW P d (.convert src dst (.tmp u)) ty σ r K := by
  intro o C E a w next Q h1 h2 h3 hS hn hq
  have hR := FR_R (hS.fr u) (fun j b u' e => hng j b u' (hl ▸ e))
  rw [hl] at hR
  obtain ⟨cs, ⟨ad, cap, y0, y1, y2, y3⟩, hcs, _⟩ := sprV_shows hR hs
  have hflat : (ns.map fun n => [SV.v (.int .u8 n)]).flatten = (ns.map (Value.int .u8)).map SV.v := by rw [flat1 (fun n => SV.v (.int .u8 n)), List.map_map]; rfl
  rw [hflat] at hcs
  have hcs := RL_vals hcs
  subst hcs
  have hrun : (convert src dst (a.tmps.getD u undef)).run P w = .ok (.string (byS ns)) w := by
    rw [y0, run_convert_bytes_string w src dst e ad _ cap hsrc he hdst]
    cases ad with
    | none =>
      have : ns = [] := by
        rcases y3 with h | ⟨b, off, h, _⟩
        · simpa using h
        · cases h
      subst this
      simp [Conv.bytesToString, Sem.run_pure, byS]
    | some ad =>
      refine run_bytesToString w ad _ cap ns ?_
      rcases y3 with h | ⟨b, off, h, hc⟩
      · have : ns = [] := by simpa using h
        subst this
        simp [loadCells, loadCellsFrom, Sem.run_pure]
      · cases h
        have hlen : (ns.map fun n => [SV.v (.int .u8 n)]).length = (ns.map (Value.int .u8)).length := by simp
        rw [hlen]
        exact run_loadCells_list w _ _ (fun j v hv => by rw [addr_add]; exact hc j v hv)
  have hx : (execOp a.eval o).run P w = .ok (.value (.string (byS ns))) w := by
    obtain ⟨dst', op', ty', pos, after, guard⟩ := o
    simp only at h2; subst h2
    simp only [Array.getD_eq_getD_getElem?] at hrun
    simp only [execOp, Act.eval]
    simp [Sem.run_bind, hrun]
  refine wpq_res hx (by simp) ?_
  show next (a.put o.dst _) w
  rcases putK_ex hk with ⟨g1, g2⟩ | ⟨t, g1, g2, g3, g4, g5⟩
  · rw [h1, g1]; exact hn _ E _ _ g2 hS
  · rw [h1, g1]
    exact hn _ E _ _ g5 (Sim_put hS (fun b hb _ => ⟨hb, rfl⟩) (fun _ _ => Ele.rfl) (Nat.le_refl _) hS.hs g2 g3 (fun j b u e => by rw [e] at g4; cases g4) (by simp only [R]))
/-- a string and a given one -/
theorem raw_seqc {P : Program} {d : Option Nat} {u t t' ty : Nat} {op : BinOp} {q : Bool} {x y : ByteArray} {σ : St} {r : KT} {K : RK} (hu : lk u σ.fr = .v (.string x)) (hq0 : (op = .eql ∧ q = (x.toList == y.toList)) ∨ (op = .neq ∧ q = !(x.toList == y.toList))) 
    (hk : putK d (.v (.bool q)) none σ r K) : RAW P d (.binOp op t (.tmp u) (.const (.string y)) t') ty σ r K := by
  intro o C E a w next Q h1 h2 h3 hS hn hq
  have hx : a.eval (.tmp u) = .string x := by
    have := hS.fr u
    rw [hu] at this
    simp only [FR, R] at this
    exact this
  have hrun : (execOp a.eval o).run P w =   .ok (.value (.bool q)) w := by
    obtain ⟨dst', op', ty', pos, after, guard⟩ := o
    simp only at h2; subst h2
    have hc : a.eval (.const (.string y)) = .string y := rfl
    simp only [execOp, hx, hc]
    rcases hq0 with ⟨rfl, rfl⟩ | ⟨rfl, rfl⟩ <;> simp [Sem.run_bind, eqGuard, binOp, Op.stringOp, Sem.run_pure]
  refine wpq_res hrun (by simp) ?_
  show next (a.put o.dst _) w
  rcases putK_ex hk with ⟨g1, g2⟩ | ⟨t, g1, g2, g3, g4, g5⟩
  · rw [h1, g1]; exact hn _ E _ _ g2 hS
  · rw [h1, g1]
    exact hn _ E _ _ g5 (Sim_put hS (fun b hb _ => ⟨hb, rfl⟩) (fun _ _ => Ele.rfl) (Nat.le_refl _) hS.hs g2 g3 (fun j b u e => by rw [e] at g4; cases g4) (by simp only [R]))
end Go.Sx
set_option maxRecDepth 100000
set_option maxHeartbeats 4000000
namespace Go.Proofs.Ytnlfjchbhgikaaa
open Go Go.Sx Go.Azalai
end Go.Proofs.Ytnlfjchbhgikaaa
set_option maxRecDepth 100000
set_option maxHeartbeats 4000000
namespace Go.Azalai
def herdE : List Meet := [⟨0, 1, 5, false⟩, ⟨1, 2, 9, true⟩]
theorem herd_early : Least 3 [0] (act false herdE) 3 [0, 8, 12] := by
  refine Sk.least ⟨rfl, fun i h0 h1 => ?_, fun i hi => ?_, fun i h0 h1 => ?_⟩ (fun m hm => ?_) (fun m hm => ?_)
  · have e1 : Inf [0] (act false herdE) 3 0 0 := .base (by simp)
    have e2 : Inf [0] (act false herdE) 3 1 (5 + 3) := .l (m := ⟨0, 1, 5, false⟩) ⟨by simp [herdE], fun h => by cases h⟩ e1 (by decide)
    have e3 : Inf [0] (act false herdE) 3 2 (9 + 3) := .l (m := ⟨1, 2, 9, true⟩) ⟨by simp [herdE], fun h => by cases h⟩ e2 (by decide)
    have : i = 0 ∨ i = 1 ∨ i = 2 := by omega
    rcases this with rfl | rfl | rfl
    · exact .inr e1
    · exact .inr e2
    · exact .inr e3
  · simp at hi; subst hi; decide
  · have : i = 0 ∨ i = 1 ∨ i = 2 := by omega
    rcases this with rfl | rfl | rfl <;> decide
  · have := hm.1; simp [herdE] at this; rcases this with rfl | rfl <;> (unfold okM; simp)
  · have := hm.1; simp [herdE] at this; rcases this with rfl | rfl <;> decide
theorem herd_late : Least 3 [0] (act true herdE) 5 [0, never, never] := by
  refine Sk.least ⟨rfl, fun i h0 h1 => ?_, fun i hi => ?_, fun i h0 h1 => ?_⟩ (fun m hm => ?_) (fun m hm => ?_)
  · have : i = 0 ∨ i = 1 ∨ i = 2 := by omega
    rcases this with rfl | rfl | rfl
    · exact .inr (.base (by simp))
    · exact .inl rfl
    · exact .inl rfl
  · simp at hi; subst hi; decide
  · have : i = 0 ∨ i = 1 ∨ i = 2 := by omega
    rcases this with rfl | rfl | rfl <;> decide
  · have := hm.1; simp [herdE] at this; rcases this with rfl | rfl <;> (unfold okM; simp)
  · obtain ⟨h1, h2⟩ := hm
    simp [herdE] at h1
    rcases h1 with rfl | rfl
    · exact absurd (h2 rfl) (by simp)
    · decide
theorem herdK (day : Int) : mangeK 3 [0] herdE ⟨3, 5⟩ day = [knF day 0 0, knF day 8 never, knF day 12 never] := by
  unfold mangeK
  rw [show (3 : Int).toNat = 3 from rfl, herd_early.sickF, herd_late.sickF]
  rfl
end Go.Azalai
namespace Go.Proofs.Ytnlfjchbhgikaaa
open Go Go.Sx Go.Azalai
theorem herd_ok : Ct Try.prog 51 [] (.sl true 4 (herdE.map meetL)) := by
  refine t51 (by simp [KFL, KF]) (by simp [herdE, meetL, KFR, KFL, KF]) ?_
  dsimp only [c51, r51, go_sem, Nat.reduceAdd, Nat.reduceMul, Nat.reduceSub]
  rfl
theorem eFit : sres breedE animalE (fitF breedE animalE) = .tup [.agg [I 800, I 1000], I 0] := by kernel_rfl
theorem eCar : sres breedE animalE (carF breedE animalE) = .tup [.agg [I 120000, I 200000], I 0] := by kernel_rfl
theorem eCost : cres breedE false dayE = .tup [.agg [I 7000, I 9500], .agg [I 800, I 1000], I 0] := by kernel_rfl
theorem eAft : afterE breedE animalE dayE = (⟨⟨50500, 63000⟩, ⟨19000, 29200⟩, ⟨100, 300⟩, false⟩, 0, 0) := by kernel_rfl
theorem eLast : tres (lastsF breedE animalE dayE) = .tup [.agg [I 6, I 10], I 0] := by kernel_rfl
theorem eMeet : meetsE 3 [0] herdE ⟨3, 5⟩ 8 = 0 := by kernel_rfl
theorem eKn : ([knF 8 0 0, knF 8 8 never, knF 8 12 never] : List Int) = [2, 1, 0] := by kernel_rfl
theorem eRow : rowsK 0 [2, 1, 0] = .sl false 1 ([2, 1, 0].map u8L) := rfl
end Go.Proofs.Ytnlfjchbhgikaaa
set_option maxRecDepth 100000
set_option maxHeartbeats 4000000
namespace Go.Proofs.Ytnlfjchbhgikaaa
open Go Go.Sx Go.Azalai
theorem alive_ok : Ct Try.prog 38 [] (B true) := by
  refine t38 (by simp [KFL, KF]) (by simp [KFL, KF]) ?_
  dsimp only [c38, r38, go_sem, Nat.reduceAdd, Nat.reduceMul, Nat.reduceSub]
  refine call breedE_ok ?_
  dsimp only [go_sem, Nat.reduceAdd, Nat.reduceMul, Nat.reduceSub]
  refine call animalE_ok ?_
  dsimp only [go_sem, Nat.reduceAdd, Nat.reduceMul, Nat.reduceSub]
  refine call (fitness_ok breedE animalE) ?_
  rw [eFit]
  dsimp only [go_sem, Nat.reduceAdd, Nat.reduceMul, Nat.reduceSub]
  refine call breedE_ok ?_
  dsimp only [go_sem, Nat.reduceAdd, Nat.reduceMul, Nat.reduceSub]
  refine call animalE_ok ?_
  dsimp only [go_sem, Nat.reduceAdd, Nat.reduceMul, Nat.reduceSub]
  refine call (carries_ok breedE animalE) ?_
  rw [eCar]
  dsimp only [go_sem, Nat.reduceAdd, Nat.reduceMul, Nat.reduceSub]
  refine call breedE_ok ?_
  dsimp only [go_sem, Nat.reduceAdd, Nat.reduceMul, Nat.reduceSub]
  refine call dayE_ok ?_
  dsimp only [go_sem, Nat.reduceAdd, Nat.reduceMul, Nat.reduceSub]
  refine call (Cost_ok breedE false dayE) ?_
  rw [eCost]
  dsimp only [go_sem, Nat.reduceAdd, Nat.reduceMul, Nat.reduceSub]
  refine call breedE_ok ?_
  dsimp only [go_sem, Nat.reduceAdd, Nat.reduceMul, Nat.reduceSub]
  refine call animalE_ok ?_
  dsimp only [go_sem, Nat.reduceAdd, Nat.reduceMul, Nat.reduceSub]
  refine call dayE_ok ?_
  dsimp only [go_sem, Nat.reduceAdd, Nat.reduceMul, Nat.reduceSub]
  refine call (after1_ok breedE animalE dayE) ?_
  rw [eAft]
  dsimp only [camelL, U8, go_sem, Nat.reduceAdd, Nat.reduceMul, Nat.reduceSub]
  refine call breedE_ok ?_
  dsimp only [go_sem, Nat.reduceAdd, Nat.reduceMul, Nat.reduceSub]
  refine call animalE_ok ?_
  dsimp only [go_sem, Nat.reduceAdd, Nat.reduceMul, Nat.reduceSub]
  refine call dayE_ok ?_
  dsimp only [go_sem, Nat.reduceAdd, Nat.reduceMul, Nat.reduceSub]
  refine call (lasts_ok breedE animalE dayE) ?_
  rw [eLast]
  dsimp only [go_sem, Nat.reduceAdd, Nat.reduceMul, Nat.reduceSub]
  refine call herd_ok ?_
  dsimp only [go_sem, Nat.reduceAdd, Nat.reduceMul, Nat.reduceSub]
  refine call (span_ok 3 5) ?_
  dsimp only [go_sem, Nat.reduceAdd, Nat.reduceMul, Nat.reduceSub]
  refine call (mange_ok 3 [0] herdE ⟨3, 5⟩ 8 true true (by decide) (by decide)) ?_
  rw [herdK, eMeet, eKn, eRow]
  dsimp only [go_sem, Nat.reduceAdd, Nat.reduceMul, Nat.reduceSub]
  repeat (first | (refine .inl ⟨rfl, ?_⟩; dsimp only [go_sem, Nat.reduceAdd, Nat.reduceMul, Nat.reduceSub]) | (refine call (span_ok _ _) ?_; dsimp only [go_sem, Nat.reduceAdd, Nat.reduceMul, Nat.reduceSub]))
  refine raw_str (e := 5) (ns := [2, 1, 0]) rfl (fun _ _ _ e => by cases e) rfl (by kernel_rfl) (by kernel_rfl) (by kernel_rfl) ?_
  dsimp only [go_sem, Nat.reduceAdd, Nat.reduceMul, Nat.reduceSub]
  refine .inl ⟨rfl, ?_⟩
  dsimp only [go_sem, Nat.reduceAdd, Nat.reduceMul, Nat.reduceSub]
  refine raw_seqc (q := true) rfl (.inl ⟨rfl, by decide +kernel⟩) ?_
  dsimp only [go_sem, Nat.reduceAdd, Nat.reduceMul, Nat.reduceSub]
  simp
end Go.Proofs.Ytnlfjchbhgikaaa
namespace Go.Azalai
theorem tdiv_mono {a b d : Int} (h0 : 0 ≤ a) (h : a ≤ b) (hd : 0 < d) : a.tdiv d ≤ b.tdiv d := by
  rw [Int.tdiv_eq_ediv_of_nonneg h0, Int.tdiv_eq_ediv_of_nonneg (Int.le_trans h0 h)]
  exact Int.ediv_le_ediv hd h
theorem upF_mono {a b d : Int} (h0 : 0 ≤ a) (h : a ≤ b) (hd : 0 < d) : upF a d ≤ upF b d := by
  unfold upF; exact tdiv_mono (by omega) (by omega) hd
theorem workF_le {m n : March} (h1 : n.hours ≤ m.hours) (h0 : 0 ≤ n.hours) (h2 : n.load ≤ m.load) (h3 : 0 ≤ n.load) : 0 ≤ workF n ∧ workF n ≤ workF m := by
  unfold workF
  exact ⟨Int.mul_nonneg h0 (by omega), Int.mul_le_mul h1 (by omega) (by omega) (by omega)⟩
theorem mulw {x a b : Int} (hx : 0 ≤ x) (h : 0 ≤ a ∧ a ≤ b) : 0 ≤ x * a ∧ x * a ≤ x * b := ⟨Int.mul_nonneg hx h.1, Int.mul_le_mul_of_nonneg_left h.2 hx⟩
theorem lighter_law {b : Breed} {c : Camel} {m n : March} (hb : okBreed b = true) (hm : okMarch m = true) (hn : okMarch n = true) (h1 : n.hours ≤ m.hours) (h1' : n.hours = 0 ↔ m.hours = 0) (h2 : n.load ≤ m.load) (hh : n.heat = m.heat)
    (h3 : m.drinks.lo ≤ n.drinks.lo ∧ m.drinks.hi ≤ n.drinks.hi) (h4 : m.grass.lo ≤ n.grass.lo ∧ m.grass.hi ≤ n.grass.hi) (hd : (afterF b c m).2 ≠ 2) :
    (afterF b c n).2 ≠ 2 ∧ ((afterF b c m).2 = 0 → (afterF b c n).2 = 0) ∧ (afterF b c m).1.water.lo ≤ (afterF b c n).1.water.lo ∧ (afterF b c m).1.water.hi ≤ (afterF b c n).1.water.hi ∧ (afterF b c m).1.fat.lo ≤ (afterF b c n).1.fat.lo ∧ (afterF b c m).1.fat.hi ≤ (afterF b c n).1.fat.hi ∧
      (afterF b c n).1.sore.lo ≤ (afterF b c m).1.sore.lo ∧ (afterF b c n).1.sore.hi ≤ (afterF b c m).1.sore.hi := by
  have hbb := Go.Proofs.Ytnlfjchbhgikaaa.breed_bd hb
  have hmm := Go.Proofs.Ytnlfjchbhgikaaa.march_bd hm
  have hnn := Go.Proofs.Ytnlfjchbhgikaaa.march_bd hn
  have hw := workF_le h1 (by omega) h2 (by omega)
  have hl : 0 ≤ n.hours * n.load ∧ n.hours * n.load ≤ m.hours * m.load := ⟨Int.mul_nonneg (by omega) (by omega), Int.mul_le_mul h1 h2 (by omega) (by omega)⟩
  have t1 := mulw (x := b.toil.lo) (by omega) hw
  have t2 := mulw (x := b.toil.hi) (by omega) hw
  have u1 := mulw (x := b.burn.lo) (by omega) hw
  have u2 := mulw (x := b.burn.hi) (by omega) hw
  have r1 := mulw (x := b.rub.lo) (by omega) hl
  have r2 := mulw (x := b.rub.hi) (by omega) hl
  have T1 := tdiv_mono t1.1 t1.2 (d := 100000) (by decide)
  have T2 := upF_mono t2.1 t2.2 (d := 100000) (by decide)
  have U1 := tdiv_mono u1.1 u1.2 (d := 100000) (by decide)
  have U2 := upF_mono u2.1 u2.2 (d := 100000) (by decide)
  have R1 := tdiv_mono r1.1 r1.2 (d := 1000000) (by decide)
  have R2 := upF_mono r2.1 r2.2 (d := 1000000) (by decide)
  have cw : (costW b c.milks n).lo ≤ (costW b c.milks m).lo ∧ (costW b c.milks n).hi ≤ (costW b c.milks m).hi := by
    simp only [costW, hh]; omega
  have cf : (costF b n).lo ≤ (costF b m).lo ∧ (costF b n).hi ≤ (costF b m).hi := by
    simp only [costF]; omega
  have cs : (soreF b c.sore n).lo ≤ (soreF b c.sore m).lo ∧ (soreF b c.sore n).hi ≤ (soreF b c.sore m).hi := by
    unfold soreF
    by_cases h : m.hours = 0
    · rw [if_pos h, if_pos (h1'.2 h)]; exact ⟨Int.le_refl _, Int.le_refl _⟩
    · rw [if_neg h, if_neg (fun e => h (h1'.1 e))]; simp only; omega
  unfold afterF at hd ⊢
  simp only at hd ⊢
  generalize costW b c.milks n = wn at *
  generalize costW b c.milks m = wm at *
  generalize costF b n = fn at *
  generalize costF b m = fm at *
  by_cases hdm : c.water.hi < wm.lo ∨ c.fat.hi < fm.lo
  · rw [if_pos hdm] at hd; simp at hd
  rw [if_neg hdm] at hd ⊢
  rw [if_neg (by omega)]
  simp only [lostF]
  refine ⟨by split <;> simp, fun h => ?_, by omega, by omega, by omega, by omega, cs.1, cs.2⟩
  by_cases hq : c.water.lo ≥ wm.hi ∧ c.fat.lo ≥ fm.hi
  · rw [if_pos (by omega)]
  · rw [if_neg hq] at h; simp at h
end Go.Azalai
set_option maxRecDepth 100000
set_option maxHeartbeats 4000000
namespace Go.Proofs.Ytnlfjchbhgikaaa
open Go Go.Sx Go.Azalai
theorem readyF_iff {b : Breed} {c : Camel} {l : List March} : readyF b c l = true ↔ okBreed b = true ∧ okCamel b c = true ∧ l.length ≤ 60 ∧ l.all okMarch = true := by
  unfold readyF
  rw [Bool.and_eq_true, Bool.and_eq_true, decide_eq_true_eq, decide_eq_true_eq, errC_0]
  exact ⟨fun ⟨⟨⟨h1, h2⟩, h3⟩, h4⟩ => ⟨h1, h2, h3, h4⟩, fun ⟨h1, h2, h3, h4⟩ => ⟨⟨⟨h1, h2⟩, h3⟩, h4⟩⟩
theorem lighter_ok (b : Breed) (c : Camel) (m : March) (ns : List W32) (hns : ns.length ≤ 9223372036854775807) : Ct Try.prog 9 [.agg (breedL b), .agg (camelL c), .agg (marchL m), .sl false 1 (ns.map w32L)] (B true) := by
  refine t9 (by simp [breedL, camelL, marchL, KFR_iff, w32L, U32, KFL, KF]) (by simp [KFL, KF]) ?_
  dsimp only [c9, r9, breedL, camelL, marchL, go_sem, Nat.reduceAdd, Nat.reduceMul, Nat.reduceSub]
  refine call alive_ok ?_
  ((try dsimp only [go_sem, Nat.reduceAdd, Nat.reduceMul, Nat.reduceSub]); repeat (simp only [Nat.beq_refl]; try dsimp only [go_sem, Nat.reduceAdd, Nat.reduceMul, Nat.reduceSub]))
  refine br_f rfl ?_
  ((try dsimp only [go_sem, Nat.reduceAdd, Nat.reduceMul, Nat.reduceSub]); repeat (simp only [Nat.beq_refl]; try dsimp only [go_sem, Nat.reduceAdd, Nat.reduceMul, Nat.reduceSub]))
  refine call (ready_ok b c [m] (by simp) true) ?_
  ((try dsimp only [go_sem, Nat.reduceAdd, Nat.reduceMul, Nat.reduceSub]); repeat (simp only [Nat.beq_refl]; try dsimp only [go_sem, Nat.reduceAdd, Nat.reduceMul, Nat.reduceSub]))
  by_cases hr : readyF b c [m] = true
  case neg =>
    refine br_t (by simp [hr]) ?_
    ((try dsimp only [go_sem, Nat.reduceAdd, Nat.reduceMul, Nat.reduceSub]); repeat (simp only [Nat.beq_refl]; try dsimp only [go_sem, Nat.reduceAdd, Nat.reduceMul, Nat.reduceSub]))
  refine br_f (by simp [hr]) ?_
  ((try dsimp only [go_sem, Nat.reduceAdd, Nat.reduceMul, Nat.reduceSub]); repeat (simp only [Nat.beq_refl]; try dsimp only [go_sem, Nat.reduceAdd, Nat.reduceMul, Nat.reduceSub]))
  obtain ⟨hb, hc, _, hm⟩ := readyF_iff.1 hr
  have hm : okMarch m = true := by simpa using hm
  have hmm := march_bd hm
  refine call (at_ok ns 0 hns (by omega) false) ?_
  dsimp only [U32, go_sem, Nat.reduceAdd, Nat.reduceMul, Nat.reduceSub]
  have n0 := atF_bd ns 0
  have n1 := atF_bd ns 1
  have n2 := atF_bd ns 2
  have n3 := atF_bd ns 3
  rw [w64_in (n := m.load + 1) (by omega) (by omega)]
  rw [w64_in (n := atF ns 0) (by omega) (by omega)]
  refine div0 (by omega) ?_
  ((try dsimp only [go_sem, Nat.reduceAdd, Nat.reduceMul, Nat.reduceSub]); repeat (simp only [Nat.beq_refl]; try dsimp only [go_sem, Nat.reduceAdd, Nat.reduceMul, Nat.reduceSub]))
  simp only [divr]
  have r0b : 0 ≤ (atF ns 0).tmod (m.load + 1) ∧ (atF ns 0).tmod (m.load + 1) < m.load + 1 := ⟨Int.tmod_nonneg _ (by omega), Int.tmod_lt_of_pos _ (by omega)⟩
  generalize (atF ns 0).tmod (m.load + 1) = r0 at r0b
  ((try dsimp only [go_sem, Nat.reduceAdd, Nat.reduceMul, Nat.reduceSub]); repeat (simp only [Nat.beq_refl]; try dsimp only [go_sem, Nat.reduceAdd, Nat.reduceMul, Nat.reduceSub]))
  rw [w64_in (n := m.load - r0) (by omega) (by omega)]
  by_cases hh : m.hours > 0
  · refine br_t (by simpa using hh) ?_
    ((try dsimp only [go_sem, Nat.reduceAdd, Nat.reduceMul, Nat.reduceSub]); repeat (simp only [Nat.beq_refl]; try dsimp only [go_sem, Nat.reduceAdd, Nat.reduceMul, Nat.reduceSub]))
    refine call (at_ok ns 1 hns (by omega) false) ?_
    dsimp only [U32, go_sem, Nat.reduceAdd, Nat.reduceMul, Nat.reduceSub]
    rw [w64_in (n := atF ns 1) (by omega) (by omega)]
    refine div0 (by omega) ?_
    ((try dsimp only [go_sem, Nat.reduceAdd, Nat.reduceMul, Nat.reduceSub]); repeat (simp only [Nat.beq_refl]; try dsimp only [go_sem, Nat.reduceAdd, Nat.reduceMul, Nat.reduceSub]))
    simp only [divr]
    have r1b : 0 ≤ (atF ns 1).tmod (m.hours) ∧ (atF ns 1).tmod (m.hours) < m.hours := ⟨Int.tmod_nonneg _ (by omega), Int.tmod_lt_of_pos _ (by omega)⟩
    generalize (atF ns 1).tmod (m.hours) = r1 at r1b
    ((try dsimp only [go_sem, Nat.reduceAdd, Nat.reduceMul, Nat.reduceSub]); repeat (simp only [Nat.beq_refl]; try dsimp only [go_sem, Nat.reduceAdd, Nat.reduceMul, Nat.reduceSub]))
    rw [w64_in (n := m.hours - r1) (by omega) (by omega)]
    refine call (at_ok ns 2 hns (by omega) false) ?_
    dsimp only [U32, go_sem, Nat.reduceAdd, Nat.reduceMul, Nat.reduceSub]
    rw [w64_in (n := 1000000 - m.drinks.hi) (by omega) (by omega), w64_in (n := 1000000 - m.drinks.hi + 1) (by omega) (by omega)]
    rw [w64_in (n := atF ns 2) (by omega) (by omega)]
    refine div0 (by omega) ?_
    ((try dsimp only [go_sem, Nat.reduceAdd, Nat.reduceMul, Nat.reduceSub]); repeat (simp only [Nat.beq_refl]; try dsimp only [go_sem, Nat.reduceAdd, Nat.reduceMul, Nat.reduceSub]))
    simp only [divr]
    have r2b : 0 ≤ (atF ns 2).tmod (1000000 - m.drinks.hi + 1) ∧ (atF ns 2).tmod (1000000 - m.drinks.hi + 1) < 1000000 - m.drinks.hi + 1 := ⟨Int.tmod_nonneg _ (by omega), Int.tmod_lt_of_pos _ (by omega)⟩
    generalize (atF ns 2).tmod (1000000 - m.drinks.hi + 1) = r2 at r2b
    ((try dsimp only [go_sem, Nat.reduceAdd, Nat.reduceMul, Nat.reduceSub]); repeat (simp only [Nat.beq_refl]; try dsimp only [go_sem, Nat.reduceAdd, Nat.reduceMul, Nat.reduceSub]))
    rw [w64_in (n := m.drinks.lo + r2) (by omega) (by omega), w64_in (n := m.drinks.hi + r2) (by omega) (by omega)]
    refine call (span_ok _ _) ?_
    ((try dsimp only [go_sem, Nat.reduceAdd, Nat.reduceMul, Nat.reduceSub]); repeat (simp only [Nat.beq_refl]; try dsimp only [go_sem, Nat.reduceAdd, Nat.reduceMul, Nat.reduceSub]))
    refine call (at_ok ns 3 hns (by omega) false) ?_
    dsimp only [U32, go_sem, Nat.reduceAdd, Nat.reduceMul, Nat.reduceSub]
    rw [w64_in (n := 1000000 - m.grass.hi) (by omega) (by omega), w64_in (n := 1000000 - m.grass.hi + 1) (by omega) (by omega)]
    rw [w64_in (n := atF ns 3) (by omega) (by omega)]
    refine div0 (by omega) ?_
    ((try dsimp only [go_sem, Nat.reduceAdd, Nat.reduceMul, Nat.reduceSub]); repeat (simp only [Nat.beq_refl]; try dsimp only [go_sem, Nat.reduceAdd, Nat.reduceMul, Nat.reduceSub]))
    simp only [divr]
    have r3b : 0 ≤ (atF ns 3).tmod (1000000 - m.grass.hi + 1) ∧ (atF ns 3).tmod (1000000 - m.grass.hi + 1) < 1000000 - m.grass.hi + 1 := ⟨Int.tmod_nonneg _ (by omega), Int.tmod_lt_of_pos _ (by omega)⟩
    generalize (atF ns 3).tmod (1000000 - m.grass.hi + 1) = r3 at r3b
    ((try dsimp only [go_sem, Nat.reduceAdd, Nat.reduceMul, Nat.reduceSub]); repeat (simp only [Nat.beq_refl]; try dsimp only [go_sem, Nat.reduceAdd, Nat.reduceMul, Nat.reduceSub]))
    rw [w64_in (n := m.grass.lo + r3) (by omega) (by omega), w64_in (n := m.grass.hi + r3) (by omega) (by omega)]
    refine call (span_ok _ _) ?_
    ((try dsimp only [go_sem, Nat.reduceAdd, Nat.reduceMul, Nat.reduceSub]); repeat (simp only [Nat.beq_refl]; try dsimp only [go_sem, Nat.reduceAdd, Nat.reduceMul, Nat.reduceSub]))
    refine call (after1_ok b c m) ?_
    dsimp only [camelL, U8, go_sem, Nat.reduceAdd, Nat.reduceMul, Nat.reduceSub]
    refine call (after1_ok b c ⟨m.hours - r1, m.load - r0, m.heat, ⟨m.grass.lo + r3, m.grass.hi + r3⟩, ⟨m.drinks.lo + r2, m.drinks.hi + r2⟩⟩) ?_
    dsimp only [camelL, U8, go_sem, Nat.reduceAdd, Nat.reduceMul, Nat.reduceSub]
    have hn : okMarch ⟨m.hours - r1, m.load - r0, m.heat, ⟨m.grass.lo + r3, m.grass.hi + r3⟩, ⟨m.drinks.lo + r2, m.drinks.hi + r2⟩⟩ = true := by
      simp only [okMarch, inR, okSp, Bool.and_eq_true, decide_eq_true_eq]; omega
    have hlaw := lighter_law (c := c) hb hm hn (by simp only <;> omega) (by simp only <;> omega) (by simp only; omega) rfl (by simp only; omega) (by simp only; omega)
    generalize (⟨m.hours - r1, m.load - r0, m.heat, ⟨m.grass.lo + r3, m.grass.hi + r3⟩, ⟨m.drinks.lo + r2, m.drinks.hi + r2⟩⟩ : March) = n at hn hlaw
    have e0 : errC b c = 0 := errC_0.2 ⟨hb, hc⟩
    have fm := afterF_fate b c m
    have fn := afterF_fate b c n
    by_cases hd : (afterF b c m).2 = 2
    · have eA : afterE b c m = (zeroC, 0, 13) := by simp [afterE, e0, hm, hd]
      rw [eA]
      refine br_t (by decide) ?_
      ((try dsimp only [go_sem, Nat.reduceAdd, Nat.reduceMul, Nat.reduceSub]); repeat (simp only [Nat.beq_refl]; try dsimp only [go_sem, Nat.reduceAdd, Nat.reduceMul, Nat.reduceSub]))
      by_cases hd2 : (afterF b c n).2 = 2
      · have eB : afterE b c n = (zeroC, 0, 13) := by simp [afterE, e0, hn, hd2]
        rw [eB]
        repeat (refine gb ?_; ((try dsimp only [go_sem, Nat.reduceAdd, Nat.reduceMul, Nat.reduceSub]); repeat (simp only [Nat.beq_refl]; try dsimp only [go_sem, Nat.reduceAdd, Nat.reduceMul, Nat.reduceSub])))
        simp
      · have eB : afterE b c n = ((afterF b c n).1, (afterF b c n).2, 0) := by simp [afterE, e0, hn, hd2]
        rw [eB]
        repeat (refine gb ?_; ((try dsimp only [go_sem, Nat.reduceAdd, Nat.reduceMul, Nat.reduceSub]); repeat (simp only [Nat.beq_refl]; try dsimp only [go_sem, Nat.reduceAdd, Nat.reduceMul, Nat.reduceSub])))
        simp
    have eA : afterE b c m = ((afterF b c m).1, (afterF b c m).2, 0) := by simp [afterE, e0, hm, hd]
    obtain ⟨hd2, hfl, hq⟩ := hlaw hd
    have eB : afterE b c n = ((afterF b c n).1, (afterF b c n).2, 0) := by simp [afterE, e0, hn, hd2]
    rw [eA, eB]
    generalize afterF b c m = p at *
    generalize afterF b c n = q at *
    refine br_f (by simp) ?_
    ((try dsimp only [go_sem, Nat.reduceAdd, Nat.reduceMul, Nat.reduceSub]); repeat (simp only [Nat.beq_refl]; try dsimp only [go_sem, Nat.reduceAdd, Nat.reduceMul, Nat.reduceSub]))
    repeat (refine gb ?_; ((try dsimp only [go_sem, Nat.reduceAdd, Nat.reduceMul, Nat.reduceSub]); repeat (simp only [Nat.beq_refl]; try dsimp only [go_sem, Nat.reduceAdd, Nat.reduceMul, Nat.reduceSub])))
    refine br_f (by
      by_cases h0 : p.2 = 0
      · have := hfl h0; simp [h0, this]
      · simp [h0]) ?_
    ((try dsimp only [go_sem, Nat.reduceAdd, Nat.reduceMul, Nat.reduceSub]); repeat (simp only [Nat.beq_refl]; try dsimp only [go_sem, Nat.reduceAdd, Nat.reduceMul, Nat.reduceSub]))
    repeat (refine gb ?_; ((try dsimp only [go_sem, Nat.reduceAdd, Nat.reduceMul, Nat.reduceSub]); repeat (simp only [Nat.beq_refl]; try dsimp only [go_sem, Nat.reduceAdd, Nat.reduceMul, Nat.reduceSub])))
    simp; omega
  · refine br_f (by simpa using hh) ?_
    ((try dsimp only [go_sem, Nat.reduceAdd, Nat.reduceMul, Nat.reduceSub]); repeat (simp only [Nat.beq_refl]; try dsimp only [go_sem, Nat.reduceAdd, Nat.reduceMul, Nat.reduceSub]))
    refine call (at_ok ns 2 hns (by omega) false) ?_
    dsimp only [U32, go_sem, Nat.reduceAdd, Nat.reduceMul, Nat.reduceSub]
    rw [w64_in (n := 1000000 - m.drinks.hi) (by omega) (by omega), w64_in (n := 1000000 - m.drinks.hi + 1) (by omega) (by omega)]
    rw [w64_in (n := atF ns 2) (by omega) (by omega)]
    refine div0 (by omega) ?_
    ((try dsimp only [go_sem, Nat.reduceAdd, Nat.reduceMul, Nat.reduceSub]); repeat (simp only [Nat.beq_refl]; try dsimp only [go_sem, Nat.reduceAdd, Nat.reduceMul, Nat.reduceSub]))
    simp only [divr]
    have r2b : 0 ≤ (atF ns 2).tmod (1000000 - m.drinks.hi + 1) ∧ (atF ns 2).tmod (1000000 - m.drinks.hi + 1) < 1000000 - m.drinks.hi + 1 := ⟨Int.tmod_nonneg _ (by omega), Int.tmod_lt_of_pos _ (by omega)⟩
    generalize (atF ns 2).tmod (1000000 - m.drinks.hi + 1) = r2 at r2b
    ((try dsimp only [go_sem, Nat.reduceAdd, Nat.reduceMul, Nat.reduceSub]); repeat (simp only [Nat.beq_refl]; try dsimp only [go_sem, Nat.reduceAdd, Nat.reduceMul, Nat.reduceSub]))
    rw [w64_in (n := m.drinks.lo + r2) (by omega) (by omega), w64_in (n := m.drinks.hi + r2) (by omega) (by omega)]
    refine call (span_ok _ _) ?_
    ((try dsimp only [go_sem, Nat.reduceAdd, Nat.reduceMul, Nat.reduceSub]); repeat (simp only [Nat.beq_refl]; try dsimp only [go_sem, Nat.reduceAdd, Nat.reduceMul, Nat.reduceSub]))
    refine call (at_ok ns 3 hns (by omega) false) ?_
    dsimp only [U32, go_sem, Nat.reduceAdd, Nat.reduceMul, Nat.reduceSub]
    rw [w64_in (n := 1000000 - m.grass.hi) (by omega) (by omega), w64_in (n := 1000000 - m.grass.hi + 1) (by omega) (by omega)]
    rw [w64_in (n := atF ns 3) (by omega) (by omega)]
    refine div0 (by omega) ?_
    ((try dsimp only [go_sem, Nat.reduceAdd, Nat.reduceMul, Nat.reduceSub]); repeat (simp only [Nat.beq_refl]; try dsimp only [go_sem, Nat.reduceAdd, Nat.reduceMul, Nat.reduceSub]))
    simp only [divr]
    have r3b : 0 ≤ (atF ns 3).tmod (1000000 - m.grass.hi + 1) ∧ (atF ns 3).tmod (1000000 - m.grass.hi + 1) < 1000000 - m.grass.hi + 1 := ⟨Int.tmod_nonneg _ (by omega), Int.tmod_lt_of_pos _ (by omega)⟩
    generalize (atF ns 3).tmod (1000000 - m.grass.hi + 1) = r3 at r3b
    ((try dsimp only [go_sem, Nat.reduceAdd, Nat.reduceMul, Nat.reduceSub]); repeat (simp only [Nat.beq_refl]; try dsimp only [go_sem, Nat.reduceAdd, Nat.reduceMul, Nat.reduceSub]))
    rw [w64_in (n := m.grass.lo + r3) (by omega) (by omega), w64_in (n := m.grass.hi + r3) (by omega) (by omega)]
    refine call (span_ok _ _) ?_
    ((try dsimp only [go_sem, Nat.reduceAdd, Nat.reduceMul, Nat.reduceSub]); repeat (simp only [Nat.beq_refl]; try dsimp only [go_sem, Nat.reduceAdd, Nat.reduceMul, Nat.reduceSub]))
    refine call (after1_ok b c m) ?_
    dsimp only [camelL, U8, go_sem, Nat.reduceAdd, Nat.reduceMul, Nat.reduceSub]
    refine call (after1_ok b c ⟨m.hours, m.load - r0, m.heat, ⟨m.grass.lo + r3, m.grass.hi + r3⟩, ⟨m.drinks.lo + r2, m.drinks.hi + r2⟩⟩) ?_
    dsimp only [camelL, U8, go_sem, Nat.reduceAdd, Nat.reduceMul, Nat.reduceSub]
    have hn : okMarch ⟨m.hours, m.load - r0, m.heat, ⟨m.grass.lo + r3, m.grass.hi + r3⟩, ⟨m.drinks.lo + r2, m.drinks.hi + r2⟩⟩ = true := by
      simp only [okMarch, inR, okSp, Bool.and_eq_true, decide_eq_true_eq]; omega
    have hlaw := lighter_law (c := c) hb hm hn (by simp only <;> omega) (by simp only <;> omega) (by simp only; omega) rfl (by simp only; omega) (by simp only; omega)
    generalize (⟨m.hours, m.load - r0, m.heat, ⟨m.grass.lo + r3, m.grass.hi + r3⟩, ⟨m.drinks.lo + r2, m.drinks.hi + r2⟩⟩ : March) = n at hn hlaw
    have e0 : errC b c = 0 := errC_0.2 ⟨hb, hc⟩
    have fm := afterF_fate b c m
    have fn := afterF_fate b c n
    by_cases hd : (afterF b c m).2 = 2
    · have eA : afterE b c m = (zeroC, 0, 13) := by simp [afterE, e0, hm, hd]
      rw [eA]
      refine br_t (by decide) ?_
      ((try dsimp only [go_sem, Nat.reduceAdd, Nat.reduceMul, Nat.reduceSub]); repeat (simp only [Nat.beq_refl]; try dsimp only [go_sem, Nat.reduceAdd, Nat.reduceMul, Nat.reduceSub]))
      by_cases hd2 : (afterF b c n).2 = 2
      · have eB : afterE b c n = (zeroC, 0, 13) := by simp [afterE, e0, hn, hd2]
        rw [eB]
        repeat (refine gb ?_; ((try dsimp only [go_sem, Nat.reduceAdd, Nat.reduceMul, Nat.reduceSub]); repeat (simp only [Nat.beq_refl]; try dsimp only [go_sem, Nat.reduceAdd, Nat.reduceMul, Nat.reduceSub])))
        simp
      · have eB : afterE b c n = ((afterF b c n).1, (afterF b c n).2, 0) := by simp [afterE, e0, hn, hd2]
        rw [eB]
        repeat (refine gb ?_; ((try dsimp only [go_sem, Nat.reduceAdd, Nat.reduceMul, Nat.reduceSub]); repeat (simp only [Nat.beq_refl]; try dsimp only [go_sem, Nat.reduceAdd, Nat.reduceMul, Nat.reduceSub])))
        simp
    have eA : afterE b c m = ((afterF b c m).1, (afterF b c m).2, 0) := by simp [afterE, e0, hm, hd]
    obtain ⟨hd2, hfl, hq⟩ := hlaw hd
    have eB : afterE b c n = ((afterF b c n).1, (afterF b c n).2, 0) := by simp [afterE, e0, hn, hd2]
    rw [eA, eB]
    generalize afterF b c m = p at *
    generalize afterF b c n = q at *
    refine br_f (by simp) ?_
    ((try dsimp only [go_sem, Nat.reduceAdd, Nat.reduceMul, Nat.reduceSub]); repeat (simp only [Nat.beq_refl]; try dsimp only [go_sem, Nat.reduceAdd, Nat.reduceMul, Nat.reduceSub]))
    repeat (refine gb ?_; ((try dsimp only [go_sem, Nat.reduceAdd, Nat.reduceMul, Nat.reduceSub]); repeat (simp only [Nat.beq_refl]; try dsimp only [go_sem, Nat.reduceAdd, Nat.reduceMul, Nat.reduceSub])))
    refine br_f (by
      by_cases h0 : p.2 = 0
      · have := hfl h0; simp [h0, this]
      · simp [h0]) ?_
    ((try dsimp only [go_sem, Nat.reduceAdd, Nat.reduceMul, Nat.reduceSub]); repeat (simp only [Nat.beq_refl]; try dsimp only [go_sem, Nat.reduceAdd, Nat.reduceMul, Nat.reduceSub]))
    repeat (refine gb ?_; ((try dsimp only [go_sem, Nat.reduceAdd, Nat.reduceMul, Nat.reduceSub]); repeat (simp only [Nat.beq_refl]; try dsimp only [go_sem, Nat.reduceAdd, Nat.reduceMul, Nat.reduceSub])))
    simp; omega
end Go.Proofs.Ytnlfjchbhgikaaa
