/- Walks and plain laws that lead to the given statement, part 7 of 8. -/
import Derived.Test.YtnlfjchbhgikaaaTF
import Derived.Laws.BytesString
import Derived.Test.YtnlfjchbhgikaaaProg
set_option maxRecDepth 100000
set_option maxHeartbeats 4000000
namespace Go.Azalai
theorem pairwise_of_srt {l : List Meet} (h : Srt Meet.day 0 l.length l) : l.Pairwise (fun x y => x.day ≤ y.day) := by
  rw [List.pairwise_iff_getElem]
  intro i j hi hj hij
  have := h i j (Nat.zero_le _) hij hj
  rwa [ky_eq Meet.day hi, ky_eq Meet.day hj] at this
/-- what the code knows is what is known -/
theorem mange_eq {n : Nat} {first : List Int} {meets l : List Meet} {wait : Span} {day : Int} (hw : 1 ≤ wait.lo ∧ wait.lo ≤ wait.hi) (hd : 0 ≤ day ∧ day ≤ 100000) (hf : ∀ i ∈ first, 0 ≤ i ∧ i < (n : Int)) (hm : ∀ m ∈ meets, okM n m)
    (hp : l.Perm meets) (hs : l.Pairwise (fun x y => x.day ≤ y.day)) (hl : ∃ s, Least n first (act false meets) wait.lo s) (hl2 : ∃ s, Least n first (act true meets) wait.hi s) {i : Nat} (hi : i < n) :
    (if gI (spreadF wait.hi day (l.filter (·.close)) (baseF first (List.replicate n 100061))) i ≤ day then 2 else if gI (spreadF wait.lo day l (baseF first (List.replicate n 100061))) i ≤ day then 1 else 0) = knF day (gI (sickF n first (act false meets) wait.lo) i) (gI (sickF n first (act true meets) wait.hi) i) := by
  obtain ⟨s1, h1⟩ := hl
  obtain ⟨s2, h2⟩ := hl2
  rw [h1.sickF, h2.sickF]
  have hml : ∀ m ∈ l, okM n m := fun m h => hm m (hp.mem_iff.1 h)
  have e1 := spread_sick (n := n) (first := first) (l := l) (w := wait.lo) (day := day) hw.1 hd.2 hf hml hs (i := (i : Int)) (by omega) (by omega)
  have e2 := spread_sick (n := n) (first := first) (l := l.filter (·.close)) (w := wait.hi) (day := day) (by omega) hd.2 hf (fun m h => hml m (List.mem_filter.1 h).1) (hs.filter _) (i := (i : Int)) (by omega) (by omega)
  have g1 := h1.sick (day := day) hd.2 (i := (i : Int)) (by omega) (by omega)
  have g2 := h2.sick (day := day) hd.2 (i := (i : Int)) (by omega) (by omega)
  have c1 : Sick first (· ∈ l) wait.lo i day ↔ Sick first (act false meets) wait.lo i day :=
    ⟨fun ⟨t, ht, h⟩ => ⟨t, ht, h.mono fun m hm => ⟨hp.mem_iff.1 hm, fun h => by cases h⟩⟩, fun ⟨t, ht, h⟩ => ⟨t, ht, h.mono fun m hm => hp.mem_iff.2 hm.1⟩⟩
  have c2 : Sick first (· ∈ l.filter (·.close)) wait.hi i day ↔ Sick first (act true meets) wait.hi i day :=
    ⟨fun ⟨t, ht, h⟩ => ⟨t, ht, h.mono fun m hm => ⟨hp.mem_iff.1 (List.mem_filter.1 hm).1, fun _ => (List.mem_filter.1 hm).2⟩⟩, fun ⟨t, ht, h⟩ => ⟨t, ht, h.mono fun m hm => List.mem_filter.2 ⟨hp.mem_iff.2 hm.1, hm.2 rfl⟩⟩⟩
  have c3 : Sick first (act true meets) wait.hi i day → Sick first (act false meets) wait.lo i day := fun ⟨t, ht, h⟩ => by
    obtain ⟨t', q1, q2⟩ := h.earlier (M' := act false meets) (w' := wait.lo) (fun m hm => ⟨hm.1, fun h => by cases h⟩) hw.2
    exact ⟨t', by omega, q2⟩
  rw [c1, ← g1] at e1
  rw [c2, ← g2] at e2
  rw [← g1, ← g2] at c3
  unfold knF
  by_cases q2 : gI s2 (i : Int) ≤ day
  · have := c3 q2
    rw [if_pos (e2.2 q2), if_neg (by omega), if_pos q2]
  · rw [if_neg (fun h => q2 (e2.1 h))]
    by_cases q1 : gI s1 (i : Int) ≤ day
    · rw [if_pos (e1.2 q1), if_neg (by omega), if_neg q2]
    · rw [if_neg (fun h => q1 (e1.1 h)), if_pos (by omega)]
end Go.Azalai
namespace Go.Proofs.Ytnlfjchbhgikaaa
open Go Go.Sx Go.Azalai
theorem mange_ok (n : Int) (first : List Int) (meets : List Meet) (wait : Span) (day : Int) (c1 c2 : Bool) (hl1 : first.length ≤ 1000) (hl2 : meets.length ≤ 1000) :
    Ct Try.prog 35 [I n, .sl c1 1 (first.map intL), .sl c2 4 (meets.map meetL), .agg (spanL wait), I day] (.tup [rowsK (meetsE n first meets wait day) (mangeK n first meets wait day), I (meetsE n first meets wait day)]) := by
  have hkr : KF (rowsK (meetsE n first meets wait day) (mangeK n first meets wait day)) := by
    unfold rowsK; split <;> simp [KF, KFR_iff, KFL, u8L, U8]
  refine t35 (by simp [meetL, KFR_iff, intL, spanL, KFL, KF]) (by simp [KF, KFL, hkr]) ?_
  dsimp only [c35, r35, spanL, go_sem, Nat.reduceAdd, Nat.reduceMul, Nat.reduceSub]
  refine call (from1 1 30 n true) ?_
  dsimp only [go_sem, Nat.reduceAdd, Nat.reduceMul, Nat.reduceSub]
  repeat (first | (refine gb ?_; dsimp only [go_sem, Nat.reduceAdd, Nat.reduceMul, Nat.reduceSub]) | (refine call (ordered1 1 60 wait true) ?_; dsimp only [go_sem, Nat.reduceAdd, Nat.reduceMul, Nat.reduceSub]) | (refine call (from1 0 100000 day true) ?_; dsimp only [go_sem, Nat.reduceAdd, Nat.reduceMul, Nat.reduceSub]))
  by_cases h1 : (inR 1 30 n && okSp 1 60 wait && inR 0 100000 day) = true
  case neg =>
    refine br_t (by revert h1; cases inR 1 30 n <;> cases okSp 1 60 wait <;> cases inR 0 100000 day <;> simp) ?_
    dsimp only [go_sem, Nat.reduceAdd, Nat.reduceMul, Nat.reduceSub]
    have hE : meetsE n first meets wait day = 2 := by
      unfold meetsE
      rw [if_pos (by revert h1; cases inR 1 30 n <;> cases okSp 1 60 wait <;> cases inR 0 100000 day <;> simp)]
    simp [rowsK, hE]
  refine br_f (by revert h1; cases inR 1 30 n <;> cases okSp 1 60 wait <;> cases inR 0 100000 day <;> simp) ?_
  dsimp only [go_sem, Nat.reduceAdd, Nat.reduceMul, Nat.reduceSub]
  repeat (refine gb ?_; dsimp only [go_sem, Nat.reduceAdd, Nat.reduceMul, Nat.reduceSub])
  simp only [List.length_map]
  by_cases h2 : first.length > 30 ∨ meets.length > 200
  · refine br_t (by simp; omega) ?_
    dsimp only [go_sem, Nat.reduceAdd, Nat.reduceMul, Nat.reduceSub]
    have hE : meetsE n first meets wait day = 4 := by
      unfold meetsE
      rw [if_neg (by simp [h1]), if_pos h2]
    simp [rowsK, hE]
  refine br_f (by simp; omega) ?_
  dsimp only [go_sem, Nat.reduceAdd, Nat.reduceMul, Nat.reduceSub]
  have hn : 1 ≤ n ∧ n ≤ 30 := by simp only [Bool.and_eq_true, inR, decide_eq_true_eq] at h1; exact h1.1.1
  have hE0 : meetsE n first meets wait day = if !(first.all (inR 0 (n - 1))) || meets.any (oddM n) then 14 else 0 := by
    unfold meetsE
    rw [if_neg (by simp [h1]), if_neg h2]
  rw [w64_in (n := n - 1) (by omega) (by omega)]
  refine call (from_any 0 (n - 1) first (by omega) c1) ?_
  dsimp only [go_sem, Nat.reduceAdd, Nat.reduceMul, Nat.reduceSub]
  repeat (refine gb ?_; dsimp only [go_sem, Nat.reduceAdd, Nat.reduceMul, Nat.reduceSub])
  refine callv (by simp [FLT]) (res := B (meets.any (oddM n))) ?_ ?_
  · dsimp only [go_sem, Nat.reduceAdd, Nat.reduceMul, Nat.reduceSub]
    exact con78 77 [.ps [I n] 0] (by simp [KFL, KF]) (oddM n) meets (fun x _ => odd_ok n hn.1 hn.2 x) (by omega)
  dsimp only [go_sem, Nat.reduceAdd, Nat.reduceMul, Nat.reduceSub]
  repeat (refine gb ?_; dsimp only [go_sem, Nat.reduceAdd, Nat.reduceMul, Nat.reduceSub])
  by_cases h3 : (!(first.all (inR 0 (n - 1))) || meets.any (oddM n)) = true
  · refine br_t (by revert h3; cases first.all (inR 0 (n - 1)) <;> cases meets.any (oddM n) <;> simp) ?_
    dsimp only [go_sem, Nat.reduceAdd, Nat.reduceMul, Nat.reduceSub]
    rw [if_pos h3] at hE0
    simp [rowsK, hE0]
  refine br_f (by revert h3; cases first.all (inR 0 (n - 1)) <;> cases meets.any (oddM n) <;> simp) ?_
  dsimp only [go_sem, Nat.reduceAdd, Nat.reduceMul, Nat.reduceSub]
  rw [if_neg h3] at hE0
  obtain ⟨_, hw, hd, hf1, hm1, hf, hm⟩ := meetsE_0 hE0
  clear h1 h2 h3
  refine callmP [] (clone_ok meets (by omega) c2) rfl rfl rfl ?_ ?_ ?_
  · ((try dsimp only [go_sem, Nat.reduceAdd, Nat.reduceMul, Nat.reduceSub]); repeat (simp only [Nat.beq_refl]; try dsimp only [go_sem, Nat.reduceAdd, Nat.reduceMul, Nat.reduceSub]))
    simp [mtL, mtB, mtS, KFR_iff, KFR, KFL, KF, meetL]
  · ((try dsimp only [go_sem, Nat.reduceAdd, Nat.reduceMul, Nat.reduceSub]); repeat (simp only [Nat.beq_refl]; try dsimp only [go_sem, Nat.reduceAdd, Nat.reduceMul, Nat.reduceSub]))
  rintro _ rfl
  ((try dsimp only [go_sem, Nat.reduceAdd, Nat.reduceMul, Nat.reduceSub]); repeat (simp only [Nat.beq_refl]; try dsimp only [go_sem, Nat.reduceAdd, Nat.reduceMul, Nat.reduceSub]))
  refine gh ent_refl ?_
  ((try dsimp only [go_sem, Nat.reduceAdd, Nat.reduceMul, Nat.reduceSub]); repeat (simp only [Nat.beq_refl]; try dsimp only [go_sem, Nat.reduceAdd, Nat.reduceMul, Nat.reduceSub]))
  refine callmP [2] (sort_ok 0 meets (by omega)) rfl rfl rfl ?_ ?_ ?_
  · ((try dsimp only [go_sem, Nat.reduceAdd, Nat.reduceMul, Nat.reduceSub]); repeat (simp only [Nat.beq_refl]; try dsimp only [go_sem, Nat.reduceAdd, Nat.reduceMul, Nat.reduceSub]))
    simp [mtL, mtB, mtS]
  · ((try dsimp only [go_sem, Nat.reduceAdd, Nat.reduceMul, Nat.reduceSub]); repeat (simp only [Nat.beq_refl]; try dsimp only [go_sem, Nat.reduceAdd, Nat.reduceMul, Nat.reduceSub]))
    simp [KFR_iff, meetL, KFL, KF]
  rintro _ ⟨l, hpl, hsl, rfl⟩
  ((try dsimp only [rowO, go_sem, Nat.reduceAdd, Nat.reduceMul, Nat.reduceSub]); repeat (simp only [Nat.beq_refl]; try dsimp only [go_sem, Nat.reduceAdd, Nat.reduceMul, Nat.reduceSub]))
  refine gh (ent_frz 13 2 0 rfl rfl rfl rfl) ?_
  obtain ⟨k, rfl⟩ : ∃ k : Nat, n = k := ⟨n.toNat, by omega⟩
  have hll := hpl.len
  have hso := pairwise_of_srt (by rw [hll]; exact hsl)
  have hml : ∀ m ∈ l, okM k m := fun m h => hm m (hpl.perm.mem_iff.1 h)
  ((try dsimp only [go_sem, Nat.reduceAdd, Nat.reduceMul, Nat.reduceSub]); repeat (simp only [Nat.beq_refl]; try dsimp only [go_sem, Nat.reduceAdd, Nat.reduceMul, Nat.reduceSub]))
  refine call (spread_ok k first l wait.lo day c1 false (by omega) (by omega) hf hml (by omega) hl1 (by omega)) ?_
  ((try dsimp only [go_sem, Nat.reduceAdd, Nat.reduceMul, Nat.reduceSub]); repeat (simp only [Nat.beq_refl]; try dsimp only [go_sem, Nat.reduceAdd, Nat.reduceMul, Nat.reduceSub]))
  refine callmP [] (clone_ok l (by omega) false) rfl rfl rfl ?_ ?_ ?_
  · ((try dsimp only [go_sem, Nat.reduceAdd, Nat.reduceMul, Nat.reduceSub]); repeat (simp only [Nat.beq_refl]; try dsimp only [go_sem, Nat.reduceAdd, Nat.reduceMul, Nat.reduceSub]))
    simp [mtL, mtB, mtS, KFR_iff, KFR, KFL, KF, meetL]
  · ((try dsimp only [go_sem, Nat.reduceAdd, Nat.reduceMul, Nat.reduceSub]); repeat (simp only [Nat.beq_refl]; try dsimp only [go_sem, Nat.reduceAdd, Nat.reduceMul, Nat.reduceSub]))
  rintro _ rfl
  ((try dsimp only [go_sem, Nat.reduceAdd, Nat.reduceMul, Nat.reduceSub]); repeat (simp only [Nat.beq_refl]; try dsimp only [go_sem, Nat.reduceAdd, Nat.reduceMul, Nat.reduceSub]))
  refine callmP [3] (delete_ok 0 l (by omega)) rfl rfl rfl ?_ ?_ ?_
  · ((try dsimp only [go_sem, Nat.reduceAdd, Nat.reduceMul, Nat.reduceSub]); repeat (simp only [Nat.beq_refl]; try dsimp only [go_sem, Nat.reduceAdd, Nat.reduceMul, Nat.reduceSub]))
    simp [mtL, mtB, mtS]
  · ((try dsimp only [go_sem, Nat.reduceAdd, Nat.reduceMul, Nat.reduceSub]); repeat (simp only [Nat.beq_refl]; try dsimp only [go_sem, Nat.reduceAdd, Nat.reduceMul, Nat.reduceSub]))
    simp [KFR_iff, meetL, KFL, KF]
  rintro _ (⟨hfl, rfl⟩ | ⟨l', hl', hle, htk, rfl⟩)
  · ((try dsimp only [go_sem, Nat.reduceAdd, Nat.reduceMul, Nat.reduceSub]); repeat (simp only [Nat.beq_refl]; try dsimp only [go_sem, Nat.reduceAdd, Nat.reduceMul, Nat.reduceSub]))
    refine gh (ent_frz 15 3 0 rfl rfl rfl rfl) ?_
    rw [show l.map meetL = (l.filter (·.close)).map meetL from by rw [hfl]]
    clear hfl
    generalize hfl0 : l.filter (·.close) = fl at *
    ((try dsimp only [go_sem, Nat.reduceAdd, Nat.reduceMul, Nat.reduceSub]); repeat (simp only [Nat.beq_refl]; try dsimp only [go_sem, Nat.reduceAdd, Nat.reduceMul, Nat.reduceSub]))
    refine call (spread_ok k first fl wait.hi day c1 false (by omega) (by omega) hf (fun m h => hml m (by rw [← hfl0] at h; exact (List.mem_filter.1 h).1)) (by omega) hl1 (by rw [← hfl0]; exact Nat.le_trans (List.length_filter_le _ _) (by omega))) ?_
    ((try dsimp only [go_sem, Nat.reduceAdd, Nat.reduceMul, Nat.reduceSub]); repeat (simp only [Nat.beq_refl]; try dsimp only [go_sem, Nat.reduceAdd, Nat.reduceMul, Nat.reduceSub]))
    have hlenE : (spreadF wait.lo day l (baseF first (List.replicate k 100061))).length = k := by rw [spreadF_len, baseF_len]; simp
    have hlenL : (spreadF wait.hi day fl (baseF first (List.replicate k 100061))).length = k := by rw [spreadF_len, baseF_len]; simp
    have heq : ∀ i : Nat, i < k → (if gI (spreadF wait.hi day fl (baseF first (List.replicate k 100061))) (i : Int) ≤ day then 2 else if gI (spreadF wait.lo day l (baseF first (List.replicate k 100061))) (i : Int) ≤ day then 1 else 0) = knF day (gI (sickF k first (act false meets) wait.lo) i) (gI (sickF k first (act true meets) wait.hi) i) := fun i hi => by
      have := mange_eq (meets := meets) (l := l) ⟨hw.1, hw.2.1⟩ hd hf hm hpl.perm hso (least_ex hf (fun m h => hm m h.1) (by omega)) (least_ex hf (fun m h => hm m h.1) (by omega)) hi
      rw [hfl0] at this
      exact this
    generalize spreadF wait.lo day l (baseF first (List.replicate k 100061)) = E at hlenE heq
    generalize spreadF wait.hi day fl (baseF first (List.replicate k 100061)) = L at hlenL heq
    refine ⟨k, rfl, by omega, ?_⟩
    ((try dsimp only [go_sem, Nat.reduceAdd, Nat.reduceMul, Nat.reduceSub]); repeat (simp only [Nat.beq_refl]; try dsimp only [go_sem, Nat.reduceAdd, Nat.reduceMul, Nat.reduceSub]))
    rw [show List.replicate k [SV.v (Value.int IntKind.u8 0)] = (List.replicate k (0 : Int)).map u8L from by simp [u8L, U8]]
    simp only [List.length_map, List.length_replicate]
    have hs0 : (List.replicate k (0 : Int)).length = k ∧ ∀ i, i < k → (List.replicate k (0 : Int))[i]? = some 0 := ⟨by simp, fun i hi => by rw [List.getElem?_replicate, if_pos hi]⟩
    generalize List.replicate k (0 : Int) = ks0 at hs0
    refine loopO (fun z : Nat × List Int => [(79, I z.1)]) (fun z => [(4, .row 0 1 (z.2.map u8L) 5)]) (fun z => z.1 ≤ k ∧ z.2.length = k ∧ ∀ i, i < k → z.2[i]? = some (if i < z.1 then (if gI L (i : Int) ≤ day then 2 else if gI E (i : Int) ≤ day then 1 else 0) else 0)) (fun z => k - z.1) (0, ks0) ⟨Nat.zero_le _, hs0.1, fun i hi => by rw [hs0.2 i hi, if_neg (Nat.not_lt_zero _)]⟩ ?_ ?_
    · (refine ent_id ?_ ?_ ?_ rfl rfl <;> dsimp only [meetL, intL, u8L, U8, id, go_sem, Nat.reduceAdd, Nat.reduceMul, Nat.reduceSub] <;> simp [meetL, intL, u8L, U8, KFR_iff, KFR_app, KFR, KFL, KF, mtL_same, mtO, Nat.beq_refl])
    rintro ⟨j, ks⟩ ⟨hj, hkl, hki⟩
    simp only at hj hkl hki
    ((try dsimp only [go_sem, Nat.reduceAdd, Nat.reduceMul, Nat.reduceSub]); repeat (simp only [Nat.beq_refl]; try dsimp only [go_sem, Nat.reduceAdd, Nat.reduceMul, Nat.reduceSub]))
    by_cases hlt : j < k
    · refine br_t (by simpa using hlt) ?_
      ((try dsimp only [go_sem, Nat.reduceAdd, Nat.reduceMul, Nat.reduceSub]); repeat (simp only [Nat.beq_refl]; try dsimp only [go_sem, Nat.reduceAdd, Nat.reduceMul, Nat.reduceSub]))
      have gL : gI L (j : Int) = L[j] := gI_eq rfl (by omega)
      have gE : gI E (j : Int) = E[j] := gI_eq rfl (by omega)
      refine ixs_map j (by omega) rfl ?_
      ((try dsimp only [intL, go_sem, Nat.reduceAdd, Nat.reduceMul, Nat.reduceSub]); repeat (simp only [Nat.beq_refl]; try dsimp only [go_sem, Nat.reduceAdd, Nat.reduceMul, Nat.reduceSub]))
      by_cases q2 : L[j] ≤ day
      · refine br_t (by simpa using q2) ?_
        have hx : (if gI L (j : Int) ≤ day then (2 : Int) else if gI E (j : Int) ≤ day then 1 else 0) = 2 := by rw [gL, if_pos q2]
        ((try dsimp only [go_sem, Nat.reduceAdd, Nat.reduceMul, Nat.reduceSub]); repeat (simp only [Nat.beq_refl]; try dsimp only [go_sem, Nat.reduceAdd, Nat.reduceMul, Nat.reduceSub]))
        refine ixrm j rfl (by first | omega | (simp; omega)) ?_
        ((try dsimp only [go_sem, Nat.reduceAdd, Nat.reduceMul, Nat.reduceSub]); repeat (simp only [Nat.beq_refl]; try dsimp only [go_sem, Nat.reduceAdd, Nat.reduceMul, Nat.reduceSub]))
        refine strm (2 : Int) (by first | omega | (simp; omega)) (by simp [u8L, U8]) (by simp [u8L, U8, splice]) ?_
        ((try dsimp only [go_sem, Nat.reduceAdd, Nat.reduceMul, Nat.reduceSub]); repeat (simp only [Nat.beq_refl]; try dsimp only [go_sem, Nat.reduceAdd, Nat.reduceMul, Nat.reduceSub]))
        rw [w64_in (n := (j : Int) + 1) (by omega) (by omega)]
        refine ⟨(j + 1, ks.set j 2), ⟨hlt, by simp [hkl], fun i hi => ?_⟩, by simp only; omega, ?_⟩
        · dsimp only
          have := hki i hi
          by_cases hij : i = j
          · subst hij; rw [List.getElem?_set_self (by omega), if_pos (Nat.lt_succ_self i), hx]
          · rw [List.getElem?_set_ne (by omega), this]
            by_cases hij2 : i < j
            · rw [if_pos hij2, if_pos (c := i < j + 1) (by omega)]
            · rw [if_neg hij2, if_neg (c := i < j + 1) (by omega)]
        generalize ks.set j 2 = ks2
        (refine ent_id ?_ ?_ ?_ rfl rfl <;> dsimp only [meetL, intL, u8L, U8, id, go_sem, Nat.reduceAdd, Nat.reduceMul, Nat.reduceSub] <;> simp [meetL, intL, u8L, U8, KFR_iff, KFR_app, KFR, KFL, KF, mtL_same, mtO, Nat.beq_refl])
      refine br_f (by simpa using q2) ?_
      ((try dsimp only [go_sem, Nat.reduceAdd, Nat.reduceMul, Nat.reduceSub]); repeat (simp only [Nat.beq_refl]; try dsimp only [go_sem, Nat.reduceAdd, Nat.reduceMul, Nat.reduceSub]))
      refine ixs_map j (by omega) rfl ?_
      ((try dsimp only [intL, go_sem, Nat.reduceAdd, Nat.reduceMul, Nat.reduceSub]); repeat (simp only [Nat.beq_refl]; try dsimp only [go_sem, Nat.reduceAdd, Nat.reduceMul, Nat.reduceSub]))
      by_cases q1 : E[j] ≤ day
      · refine br_t (by simpa using q1) ?_
        have hx : (if gI L (j : Int) ≤ day then (2 : Int) else if gI E (j : Int) ≤ day then 1 else 0) = 1 := by rw [gL, gE, if_neg q2, if_pos q1]
        ((try dsimp only [go_sem, Nat.reduceAdd, Nat.reduceMul, Nat.reduceSub]); repeat (simp only [Nat.beq_refl]; try dsimp only [go_sem, Nat.reduceAdd, Nat.reduceMul, Nat.reduceSub]))
        refine ixrm j rfl (by first | omega | (simp; omega)) ?_
        ((try dsimp only [go_sem, Nat.reduceAdd, Nat.reduceMul, Nat.reduceSub]); repeat (simp only [Nat.beq_refl]; try dsimp only [go_sem, Nat.reduceAdd, Nat.reduceMul, Nat.reduceSub]))
        refine strm (1 : Int) (by first | omega | (simp; omega)) (by simp [u8L, U8]) (by simp [u8L, U8, splice]) ?_
        ((try dsimp only [go_sem, Nat.reduceAdd, Nat.reduceMul, Nat.reduceSub]); repeat (simp only [Nat.beq_refl]; try dsimp only [go_sem, Nat.reduceAdd, Nat.reduceMul, Nat.reduceSub]))
        rw [w64_in (n := (j : Int) + 1) (by omega) (by omega)]
        refine ⟨(j + 1, ks.set j 1), ⟨hlt, by simp [hkl], fun i hi => ?_⟩, by simp only; omega, ?_⟩
        · dsimp only
          have := hki i hi
          by_cases hij : i = j
          · subst hij; rw [List.getElem?_set_self (by omega), if_pos (Nat.lt_succ_self i), hx]
          · rw [List.getElem?_set_ne (by omega), this]
            by_cases hij2 : i < j
            · rw [if_pos hij2, if_pos (c := i < j + 1) (by omega)]
            · rw [if_neg hij2, if_neg (c := i < j + 1) (by omega)]
        generalize ks.set j 1 = ks2
        (refine ent_id ?_ ?_ ?_ rfl rfl <;> dsimp only [meetL, intL, u8L, U8, id, go_sem, Nat.reduceAdd, Nat.reduceMul, Nat.reduceSub] <;> simp [meetL, intL, u8L, U8, KFR_iff, KFR_app, KFR, KFL, KF, mtL_same, mtO, Nat.beq_refl])
      refine br_f (by simpa using q1) ?_
      have hx : (if gI L (j : Int) ≤ day then (2 : Int) else if gI E (j : Int) ≤ day then 1 else 0) = 0 := by rw [gL, gE, if_neg q2, if_neg q1]
      ((try dsimp only [go_sem, Nat.reduceAdd, Nat.reduceMul, Nat.reduceSub]); repeat (simp only [Nat.beq_refl]; try dsimp only [go_sem, Nat.reduceAdd, Nat.reduceMul, Nat.reduceSub]))
      rw [w64_in (n := (j : Int) + 1) (by omega) (by omega)]
      refine ⟨(j + 1, ks), ⟨hlt, hkl, fun i hi => ?_⟩, by simp only; omega, ?_⟩
      · dsimp only
        have := hki i hi
        by_cases hij : i = j
        · subst hij; rw [this, if_neg (Nat.lt_irrefl i), if_pos (Nat.lt_succ_self i), hx]
        · rw [this]
          by_cases hij2 : i < j
          · rw [if_pos hij2, if_pos (c := i < j + 1) (by omega)]
          · rw [if_neg hij2, if_neg (c := i < j + 1) (by omega)]
      (refine ent_id ?_ ?_ ?_ rfl rfl <;> dsimp only [meetL, intL, u8L, U8, id, go_sem, Nat.reduceAdd, Nat.reduceMul, Nat.reduceSub] <;> simp [meetL, intL, u8L, U8, KFR_iff, KFR_app, KFR, KFL, KF, mtL_same, mtO, Nat.beq_refl])
    refine br_f (by simp; omega) ?_
    ((try dsimp only [go_sem, Nat.reduceAdd, Nat.reduceMul, Nat.reduceSub]); repeat (simp only [Nat.beq_refl]; try dsimp only [go_sem, Nat.reduceAdd, Nat.reduceMul, Nat.reduceSub]))
    have hjk : j = k := by omega
    subst hjk
    have hks : ks = mangeK j first meets wait day := by
      apply List.ext_getElem? 
      intro i
      unfold mangeK
      rw [Int.toNat_natCast, List.getElem?_map]
      by_cases hi : i < j
      · rw [hki i hi, if_pos hi, heq i hi, List.getElem?_range hi]; rfl
      · rw [List.getElem?_eq_none (by omega), List.getElem?_eq_none (by simp; omega)]; rfl
    rw [hks]
    simp [rowsK, hE0]
  · ((try dsimp only [go_sem, Nat.reduceAdd, Nat.reduceMul, Nat.reduceSub]); repeat (simp only [Nat.beq_refl]; try dsimp only [go_sem, Nat.reduceAdd, Nat.reduceMul, Nat.reduceSub]))
    refine gh (ent_frzp 15 3 0 _ rfl rfl rfl rfl (by simpa using hle)) ?_
    rw [← List.map_take, htk]
    clear htk hle
    generalize hfl0 : l.filter (·.close) = fl at *
    ((try dsimp only [go_sem, Nat.reduceAdd, Nat.reduceMul, Nat.reduceSub]); repeat (simp only [Nat.beq_refl]; try dsimp only [go_sem, Nat.reduceAdd, Nat.reduceMul, Nat.reduceSub]))
    refine call (spread_ok k first fl wait.hi day c1 false (by omega) (by omega) hf (fun m h => hml m (by rw [← hfl0] at h; exact (List.mem_filter.1 h).1)) (by omega) hl1 (by rw [← hfl0]; exact Nat.le_trans (List.length_filter_le _ _) (by omega))) ?_
    ((try dsimp only [go_sem, Nat.reduceAdd, Nat.reduceMul, Nat.reduceSub]); repeat (simp only [Nat.beq_refl]; try dsimp only [go_sem, Nat.reduceAdd, Nat.reduceMul, Nat.reduceSub]))
    have hlenE : (spreadF wait.lo day l (baseF first (List.replicate k 100061))).length = k := by rw [spreadF_len, baseF_len]; simp
    have hlenL : (spreadF wait.hi day fl (baseF first (List.replicate k 100061))).length = k := by rw [spreadF_len, baseF_len]; simp
    have heq : ∀ i : Nat, i < k → (if gI (spreadF wait.hi day fl (baseF first (List.replicate k 100061))) (i : Int) ≤ day then 2 else if gI (spreadF wait.lo day l (baseF first (List.replicate k 100061))) (i : Int) ≤ day then 1 else 0) = knF day (gI (sickF k first (act false meets) wait.lo) i) (gI (sickF k first (act true meets) wait.hi) i) := fun i hi => by
      have := mange_eq (meets := meets) (l := l) ⟨hw.1, hw.2.1⟩ hd hf hm hpl.perm hso (least_ex hf (fun m h => hm m h.1) (by omega)) (least_ex hf (fun m h => hm m h.1) (by omega)) hi
      rw [hfl0] at this
      exact this
    generalize spreadF wait.lo day l (baseF first (List.replicate k 100061)) = E at hlenE heq
    generalize spreadF wait.hi day fl (baseF first (List.replicate k 100061)) = L at hlenL heq
    refine ⟨k, rfl, by omega, ?_⟩
    ((try dsimp only [go_sem, Nat.reduceAdd, Nat.reduceMul, Nat.reduceSub]); repeat (simp only [Nat.beq_refl]; try dsimp only [go_sem, Nat.reduceAdd, Nat.reduceMul, Nat.reduceSub]))
    rw [show List.replicate k [SV.v (Value.int IntKind.u8 0)] = (List.replicate k (0 : Int)).map u8L from by simp [u8L, U8]]
    simp only [List.length_map, List.length_replicate]
    have hs0 : (List.replicate k (0 : Int)).length = k ∧ ∀ i, i < k → (List.replicate k (0 : Int))[i]? = some 0 := ⟨by simp, fun i hi => by rw [List.getElem?_replicate, if_pos hi]⟩
    generalize List.replicate k (0 : Int) = ks0 at hs0
    refine loopO (fun z : Nat × List Int => [(79, I z.1)]) (fun z => [(4, .row 0 1 (z.2.map u8L) 5)]) (fun z => z.1 ≤ k ∧ z.2.length = k ∧ ∀ i, i < k → z.2[i]? = some (if i < z.1 then (if gI L (i : Int) ≤ day then 2 else if gI E (i : Int) ≤ day then 1 else 0) else 0)) (fun z => k - z.1) (0, ks0) ⟨Nat.zero_le _, hs0.1, fun i hi => by rw [hs0.2 i hi, if_neg (Nat.not_lt_zero _)]⟩ ?_ ?_
    · (refine ent_id ?_ ?_ ?_ rfl rfl <;> dsimp only [meetL, intL, u8L, U8, id, go_sem, Nat.reduceAdd, Nat.reduceMul, Nat.reduceSub] <;> simp [meetL, intL, u8L, U8, KFR_iff, KFR_app, KFR, KFL, KF, mtL_same, mtO, Nat.beq_refl])
    rintro ⟨j, ks⟩ ⟨hj, hkl, hki⟩
    simp only at hj hkl hki
    ((try dsimp only [go_sem, Nat.reduceAdd, Nat.reduceMul, Nat.reduceSub]); repeat (simp only [Nat.beq_refl]; try dsimp only [go_sem, Nat.reduceAdd, Nat.reduceMul, Nat.reduceSub]))
    by_cases hlt : j < k
    · refine br_t (by simpa using hlt) ?_
      ((try dsimp only [go_sem, Nat.reduceAdd, Nat.reduceMul, Nat.reduceSub]); repeat (simp only [Nat.beq_refl]; try dsimp only [go_sem, Nat.reduceAdd, Nat.reduceMul, Nat.reduceSub]))
      have gL : gI L (j : Int) = L[j] := gI_eq rfl (by omega)
      have gE : gI E (j : Int) = E[j] := gI_eq rfl (by omega)
      refine ixs_map j (by omega) rfl ?_
      ((try dsimp only [intL, go_sem, Nat.reduceAdd, Nat.reduceMul, Nat.reduceSub]); repeat (simp only [Nat.beq_refl]; try dsimp only [go_sem, Nat.reduceAdd, Nat.reduceMul, Nat.reduceSub]))
      by_cases q2 : L[j] ≤ day
      · refine br_t (by simpa using q2) ?_
        have hx : (if gI L (j : Int) ≤ day then (2 : Int) else if gI E (j : Int) ≤ day then 1 else 0) = 2 := by rw [gL, if_pos q2]
        ((try dsimp only [go_sem, Nat.reduceAdd, Nat.reduceMul, Nat.reduceSub]); repeat (simp only [Nat.beq_refl]; try dsimp only [go_sem, Nat.reduceAdd, Nat.reduceMul, Nat.reduceSub]))
        refine ixrm j rfl (by first | omega | (simp; omega)) ?_
        ((try dsimp only [go_sem, Nat.reduceAdd, Nat.reduceMul, Nat.reduceSub]); repeat (simp only [Nat.beq_refl]; try dsimp only [go_sem, Nat.reduceAdd, Nat.reduceMul, Nat.reduceSub]))
        refine strm (2 : Int) (by first | omega | (simp; omega)) (by simp [u8L, U8]) (by simp [u8L, U8, splice]) ?_
        ((try dsimp only [go_sem, Nat.reduceAdd, Nat.reduceMul, Nat.reduceSub]); repeat (simp only [Nat.beq_refl]; try dsimp only [go_sem, Nat.reduceAdd, Nat.reduceMul, Nat.reduceSub]))
        rw [w64_in (n := (j : Int) + 1) (by omega) (by omega)]
        refine ⟨(j + 1, ks.set j 2), ⟨hlt, by simp [hkl], fun i hi => ?_⟩, by simp only; omega, ?_⟩
        · dsimp only
          have := hki i hi
          by_cases hij : i = j
          · subst hij; rw [List.getElem?_set_self (by omega), if_pos (Nat.lt_succ_self i), hx]
          · rw [List.getElem?_set_ne (by omega), this]
            by_cases hij2 : i < j
            · rw [if_pos hij2, if_pos (c := i < j + 1) (by omega)]
            · rw [if_neg hij2, if_neg (c := i < j + 1) (by omega)]
        generalize ks.set j 2 = ks2
        (refine ent_id ?_ ?_ ?_ rfl rfl <;> dsimp only [meetL, intL, u8L, U8, id, go_sem, Nat.reduceAdd, Nat.reduceMul, Nat.reduceSub] <;> simp [meetL, intL, u8L, U8, KFR_iff, KFR_app, KFR, KFL, KF, mtL_same, mtO, Nat.beq_refl])
      refine br_f (by simpa using q2) ?_
      ((try dsimp only [go_sem, Nat.reduceAdd, Nat.reduceMul, Nat.reduceSub]); repeat (simp only [Nat.beq_refl]; try dsimp only [go_sem, Nat.reduceAdd, Nat.reduceMul, Nat.reduceSub]))
      refine ixs_map j (by omega) rfl ?_
      ((try dsimp only [intL, go_sem, Nat.reduceAdd, Nat.reduceMul, Nat.reduceSub]); repeat (simp only [Nat.beq_refl]; try dsimp only [go_sem, Nat.reduceAdd, Nat.reduceMul, Nat.reduceSub]))
      by_cases q1 : E[j] ≤ day
      · refine br_t (by simpa using q1) ?_
        have hx : (if gI L (j : Int) ≤ day then (2 : Int) else if gI E (j : Int) ≤ day then 1 else 0) = 1 := by rw [gL, gE, if_neg q2, if_pos q1]
        ((try dsimp only [go_sem, Nat.reduceAdd, Nat.reduceMul, Nat.reduceSub]); repeat (simp only [Nat.beq_refl]; try dsimp only [go_sem, Nat.reduceAdd, Nat.reduceMul, Nat.reduceSub]))
        refine ixrm j rfl (by first | omega | (simp; omega)) ?_
        ((try dsimp only [go_sem, Nat.reduceAdd, Nat.reduceMul, Nat.reduceSub]); repeat (simp only [Nat.beq_refl]; try dsimp only [go_sem, Nat.reduceAdd, Nat.reduceMul, Nat.reduceSub]))
        refine strm (1 : Int) (by first | omega | (simp; omega)) (by simp [u8L, U8]) (by simp [u8L, U8, splice]) ?_
        ((try dsimp only [go_sem, Nat.reduceAdd, Nat.reduceMul, Nat.reduceSub]); repeat (simp only [Nat.beq_refl]; try dsimp only [go_sem, Nat.reduceAdd, Nat.reduceMul, Nat.reduceSub]))
        rw [w64_in (n := (j : Int) + 1) (by omega) (by omega)]
        refine ⟨(j + 1, ks.set j 1), ⟨hlt, by simp [hkl], fun i hi => ?_⟩, by simp only; omega, ?_⟩
        · dsimp only
          have := hki i hi
          by_cases hij : i = j
          · subst hij; rw [List.getElem?_set_self (by omega), if_pos (Nat.lt_succ_self i), hx]
          · rw [List.getElem?_set_ne (by omega), this]
            by_cases hij2 : i < j
            · rw [if_pos hij2, if_pos (c := i < j + 1) (by omega)]
            · rw [if_neg hij2, if_neg (c := i < j + 1) (by omega)]
        generalize ks.set j 1 = ks2
        (refine ent_id ?_ ?_ ?_ rfl rfl <;> dsimp only [meetL, intL, u8L, U8, id, go_sem, Nat.reduceAdd, Nat.reduceMul, Nat.reduceSub] <;> simp [meetL, intL, u8L, U8, KFR_iff, KFR_app, KFR, KFL, KF, mtL_same, mtO, Nat.beq_refl])
      refine br_f (by simpa using q1) ?_
      have hx : (if gI L (j : Int) ≤ day then (2 : Int) else if gI E (j : Int) ≤ day then 1 else 0) = 0 := by rw [gL, gE, if_neg q2, if_neg q1]
      ((try dsimp only [go_sem, Nat.reduceAdd, Nat.reduceMul, Nat.reduceSub]); repeat (simp only [Nat.beq_refl]; try dsimp only [go_sem, Nat.reduceAdd, Nat.reduceMul, Nat.reduceSub]))
      rw [w64_in (n := (j : Int) + 1) (by omega) (by omega)]
      refine ⟨(j + 1, ks), ⟨hlt, hkl, fun i hi => ?_⟩, by simp only; omega, ?_⟩
      · dsimp only
        have := hki i hi
        by_cases hij : i = j
        · subst hij; rw [this, if_neg (Nat.lt_irrefl i), if_pos (Nat.lt_succ_self i), hx]
        · rw [this]
          by_cases hij2 : i < j
          · rw [if_pos hij2, if_pos (c := i < j + 1) (by omega)]
          · rw [if_neg hij2, if_neg (c := i < j + 1) (by omega)]
      (refine ent_id ?_ ?_ ?_ rfl rfl <;> dsimp only [meetL, intL, u8L, U8, id, go_sem, Nat.reduceAdd, Nat.reduceMul, Nat.reduceSub] <;> simp [meetL, intL, u8L, U8, KFR_iff, KFR_app, KFR, KFL, KF, mtL_same, mtO, Nat.beq_refl])
    refine br_f (by simp; omega) ?_
    ((try dsimp only [go_sem, Nat.reduceAdd, Nat.reduceMul, Nat.reduceSub]); repeat (simp only [Nat.beq_refl]; try dsimp only [go_sem, Nat.reduceAdd, Nat.reduceMul, Nat.reduceSub]))
    have hjk : j = k := by omega
    subst hjk
    have hks : ks = mangeK j first meets wait day := by
      apply List.ext_getElem? 
      intro i
      unfold mangeK
      rw [Int.toNat_natCast, List.getElem?_map]
      by_cases hi : i < j
      · rw [hki i hi, if_pos hi, heq i hi, List.getElem?_range hi]; rfl
      · rw [List.getElem?_eq_none (by omega), List.getElem?_eq_none (by simp; omega)]; rfl
    rw [hks]
    simp [rowsK, hE0]
end Go.Proofs.Ytnlfjchbhgikaaa
namespace Go.Sx
open Go
def byS (ns : List Int) : ByteArray := ns.foldl (fun r n => r.push (UInt8.ofNat n.toNat)) ByteArray.empty
theorem RL_vals {w : World} {E : Env} {n ok : Nat → Prop} : ∀ {l ys : List Value}, RL w E n ok (l.map SV.v) ys → ys = l
  | [], ys, h => by simpa [RL] using h
  | x :: l, ys, h => by
    simp only [List.map_cons, RL] at h
    obtain ⟨y, r, rfl, h1, h2⟩ := h
    simp only [R] at h1
    rw [h1, RL_vals h2]
theorem flat1 {α β : Type} (f : α → β) : ∀ l : List α, (l.map fun n => [f n]).flatten = l.map f
  | [] => rfl
  | x :: l => by simp only [List.map_cons, List.flatten_cons, flat1 f l]; rfl
/-- a row of bytes as a string -/
theorem raw_str {P : Program} {d : Option Nat} {u src dst ty e : Nat} {ns : List Int} {s : SV} {σ : St} {r : KT} {K : RK} (hl : lk u σ.fr = s) (hng : ∀ j b u, s ≠ .gd j b u) (hs : sprV 1 s = some (ns.map fun n => [SV.v (.int .u8 n)]))
    (hsrc : P.underlying src = some (.slice e)) (hdst : P.underlying dst = some .string) (he : P.underlying e = some (.int .u8)) (hk : putK d (.v (.string (byS ns))) none σ r K) : RAW P d (.convert src dst (.tmp u)) ty σ r K := by
  intro o C E a w next Q h1 h2 h3 hS hn hq
  have hR := FR_R (hS.fr u) (fun j b u' e => hng j b u' (hl ▸ e))
  rw [hl] at hR
  obtain ⟨cs, ⟨ad, cap, y0, y1, y2, y3⟩, hcs, _⟩ := sprV_shows hR hs
  have hflat : (ns.map fun n => [SV.v (.int .u8 n)]).flatten = (ns.map (Value.int .u8)).map SV.v := by rw [flat1 (fun n => SV.v (.int .u8 n)), List.map_map]; rfl
  rw [hflat] at hcs
  have hcs := RL_vals hcs
  subst hcs
  have hrun : (convert src dst (a.tmps.getD u undef)).run P w = .ok (.string (byS ns)) w := by
    rw [y0, run_convert_bytes_string w src dst e ad _ cap hsrc he hdst]
    cases ad with
    | none =>
      have : ns = [] := by
        rcases y3 with h | ⟨b, off, h, _⟩
        · simpa using h
        · cases h
      subst this
      simp [Conv.bytesToString, Sem.run_pure, byS]
    | some ad =>
      refine run_bytesToString w ad _ cap ns ?_
      rcases y3 with h | ⟨b, off, h, hc⟩
      · have : ns = [] := by simpa using h
        subst this
        simp [loadCells, loadCellsFrom, Sem.run_pure]
      · cases h
        have hlen : (ns.map fun n => [SV.v (.int .u8 n)]).length = (ns.map (Value.int .u8)).length := by simp
        rw [hlen]
        exact run_loadCells_list w _ _ (fun j v hv => by rw [addr_add]; exact hc j v hv)
  have hx : (execOp a.eval o).run P w = .ok (.value (.string (byS ns))) w := by
    obtain ⟨dst', op', ty', pos, after, guard⟩ := o
    simp only at h2; subst h2
    simp only [Array.getD_eq_getD_getElem?] at hrun
    simp only [execOp, Act.eval]
    simp [Sem.run_bind, hrun]
  refine wpq_res hx (by simp) ?_
  show next (a.put o.dst _) w
  rcases putK_ex hk with ⟨g1, g2⟩ | ⟨t, g1, g2, g3, g4, g5⟩
  · rw [h1, g1]; exact hn _ E _ _ g2 hS
  · rw [h1, g1]
    exact hn _ E _ _ g5 (Sim_put hS (fun b hb _ => ⟨hb, rfl⟩) (fun _ _ => Ele.rfl) (Nat.le_refl _) hS.hs g2 g3 (fun j b u e => by rw [e] at g4; cases g4) (by simp only [R]))
/-- a string and a given one -/
theorem raw_seqc {P : Program} {d : Option Nat} {u t t' ty : Nat} {op : BinOp} {q : Bool} {x y : ByteArray} {σ : St} {r : KT} {K : RK} (hu : lk u σ.fr = .v (.string x)) (hq0 : (op = .eql ∧ q = (x.toList == y.toList)) ∨ (op = .neq ∧ q = !(x.toList == y.toList))) 
    (hk : putK d (.v (.bool q)) none σ r K) : RAW P d (.binOp op t (.tmp u) (.const (.string y)) t') ty σ r K := by
  intro o C E a w next Q h1 h2 h3 hS hn hq
  have hx : a.eval (.tmp u) = .string x := by
    have := hS.fr u
    rw [hu] at this
    simp only [FR, R] at this
    exact this
  have hrun : (execOp a.eval o).run P w =   .ok (.value (.bool q)) w := by
    obtain ⟨dst', op', ty', pos, after, guard⟩ := o
    simp only at h2; subst h2
    have hc : a.eval (.const (.string y)) = .string y := rfl
    simp only [execOp, hx, hc]
    rcases hq0 with ⟨rfl, rfl⟩ | ⟨rfl, rfl⟩ <;> simp [Sem.run_bind, eqGuard, binOp, Op.stringOp, Sem.run_pure]
  refine wpq_res hrun (by simp) ?_
  show next (a.put o.dst _) w
  rcases putK_ex hk with ⟨g1, g2⟩ | ⟨t, g1, g2, g3, g4, g5⟩
  · rw [h1, g1]; exact hn _ E _ _ g2 hS
  · rw [h1, g1]
    exact hn _ E _ _ g5 (Sim_put hS (fun b hb _ => ⟨hb, rfl⟩) (fun _ _ => Ele.rfl) (Nat.le_refl _) hS.hs g2 g3 (fun j b u e => by rw [e] at g4; cases g4) (by simp only [R]))
end Go.Sx
set_option maxRecDepth 100000
set_option maxHeartbeats 4000000
namespace Go.Proofs.Ytnlfjchbhgikaaa
open Go Go.Sx Go.Azalai
end Go.Proofs.Ytnlfjchbhgikaaa
set_option maxRecDepth 100000
set_option maxHeartbeats 4000000
namespace Go.Azalai
def herdE : List Meet := [⟨0, 1, 5, false⟩, ⟨1, 2, 9, true⟩]
theorem herd_early : Least 3 [0] (act false herdE) 3 [0, 8, 12] := by
  refine Sk.least ⟨rfl, fun i h0 h1 => ?_, fun i hi => ?_, fun i h0 h1 => ?_⟩ (fun m hm => ?_) (fun m hm => ?_)
  · have e1 : Inf [0] (act false herdE) 3 0 0 := .base (by simp)
    have e2 : Inf [0] (act false herdE) 3 1 (5 + 3) := .l (m := ⟨0, 1, 5, false⟩) ⟨by simp [herdE], fun h => by cases h⟩ e1 (by decide)
    have e3 : Inf [0] (act false herdE) 3 2 (9 + 3) := .l (m := ⟨1, 2, 9, true⟩) ⟨by simp [herdE], fun h => by cases h⟩ e2 (by decide)
    have : i = 0 ∨ i = 1 ∨ i = 2 := by omega
    rcases this with rfl | rfl | rfl
    · exact .inr e1
    · exact .inr e2
    · exact .inr e3
  · simp at hi; subst hi; decide
  · have : i = 0 ∨ i = 1 ∨ i = 2 := by omega
    rcases this with rfl | rfl | rfl <;> decide
  · have := hm.1; simp [herdE] at this; rcases this with rfl | rfl <;> (unfold okM; simp)
  · have := hm.1; simp [herdE] at this; rcases this with rfl | rfl <;> decide
theorem herd_late : Least 3 [0] (act true herdE) 5 [0, never, never] := by
  refine Sk.least ⟨rfl, fun i h0 h1 => ?_, fun i hi => ?_, fun i h0 h1 => ?_⟩ (fun m hm => ?_) (fun m hm => ?_)
  · have : i = 0 ∨ i = 1 ∨ i = 2 := by omega
    rcases this with rfl | rfl | rfl
    · exact .inr (.base (by simp))
    · exact .inl rfl
    · exact .inl rfl
  · simp at hi; subst hi; decide
  · have : i = 0 ∨ i = 1 ∨ i = 2 := by omega
    rcases this with rfl | rfl | rfl <;> decide
  · have := hm.1; simp [herdE] at this; rcases this with rfl | rfl <;> (unfold okM; simp)
  · obtain ⟨h1, h2⟩ := hm
    simp [herdE] at h1
    rcases h1 with rfl | rfl
    · exact absurd (h2 rfl) (by simp)
    · decide
theorem herdK (day : Int) : mangeK 3 [0] herdE ⟨3, 5⟩ day = [knF day 0 0, knF day 8 never, knF day 12 never] := by
  unfold mangeK
  rw [show (3 : Int).toNat = 3 from rfl, herd_early.sickF, herd_late.sickF]
  rfl
end Go.Azalai
namespace Go.Proofs.Ytnlfjchbhgikaaa
open Go Go.Sx Go.Azalai
theorem herd_ok : Ct Try.prog 51 [] (.sl true 4 (herdE.map meetL)) := by
  refine t51 (by simp [KFL, KF]) (by simp [herdE, meetL, KFR, KFL, KF]) ?_
  dsimp only [c51, r51, go_sem, Nat.reduceAdd, Nat.reduceMul, Nat.reduceSub]
  rfl
theorem eFit : sres breedE animalE (fitF breedE animalE) = .tup [.agg [I 800, I 1000], I 0] := by kernel_rfl
theorem eCar : sres breedE animalE (carF breedE animalE) = .tup [.agg [I 120000, I 200000], I 0] := by kernel_rfl
theorem eCost : cres breedE false dayE = .tup [.agg [I 7000, I 9500], .agg [I 800, I 1000], I 0] := by kernel_rfl
theorem eAft : afterE breedE animalE dayE = (⟨⟨50500, 63000⟩, ⟨19000, 29200⟩, ⟨100, 300⟩, false⟩, 0, 0) := by kernel_rfl
theorem eLast : tres (lastsF breedE animalE dayE) = .tup [.agg [I 6, I 10], I 0] := by kernel_rfl
theorem eMeet : meetsE 3 [0] herdE ⟨3, 5⟩ 8 = 0 := by kernel_rfl
theorem eKn : ([knF 8 0 0, knF 8 8 never, knF 8 12 never] : List Int) = [2, 1, 0] := by kernel_rfl
theorem eRow : rowsK 0 [2, 1, 0] = .sl false 1 ([2, 1, 0].map u8L) := rfl
end Go.Proofs.Ytnlfjchbhgikaaa
set_option maxRecDepth 100000
set_option maxHeartbeats 4000000
namespace Go.Proofs.Ytnlfjchbhgikaaa
open Go Go.Sx Go.Azalai
theorem alive_ok : Ct Try.prog 38 [] (B true) := by
  refine t38 (by simp [KFL, KF]) (by simp [KFL, KF]) ?_
  dsimp only [c38, r38, go_sem, Nat.reduceAdd, Nat.reduceMul, Nat.reduceSub]
  refine call breedE_ok ?_
  dsimp only [go_sem, Nat.reduceAdd, Nat.reduceMul, Nat.reduceSub]
  refine call animalE_ok ?_
  dsimp only [go_sem, Nat.reduceAdd, Nat.reduceMul, Nat.reduceSub]
  refine call (fitness_ok breedE animalE) ?_
  rw [eFit]
  dsimp only [go_sem, Nat.reduceAdd, Nat.reduceMul, Nat.reduceSub]
  refine call breedE_ok ?_
  dsimp only [go_sem, Nat.reduceAdd, Nat.reduceMul, Nat.reduceSub]
  refine call animalE_ok ?_
  dsimp only [go_sem, Nat.reduceAdd, Nat.reduceMul, Nat.reduceSub]
  refine call (carries_ok breedE animalE) ?_
  rw [eCar]
  dsimp only [go_sem, Nat.reduceAdd, Nat.reduceMul, Nat.reduceSub]
  refine call breedE_ok ?_
  dsimp only [go_sem, Nat.reduceAdd, Nat.reduceMul, Nat.reduceSub]
  refine call dayE_ok ?_
  dsimp only [go_sem, Nat.reduceAdd, Nat.reduceMul, Nat.reduceSub]
  refine call (Cost_ok breedE false dayE) ?_
  rw [eCost]
  dsimp only [go_sem, Nat.reduceAdd, Nat.reduceMul, Nat.reduceSub]
  refine call breedE_ok ?_
  dsimp only [go_sem, Nat.reduceAdd, Nat.reduceMul, Nat.reduceSub]
  refine call animalE_ok ?_
  dsimp only [go_sem, Nat.reduceAdd, Nat.reduceMul, Nat.reduceSub]
  refine call dayE_ok ?_
  dsimp only [go_sem, Nat.reduceAdd, Nat.reduceMul, Nat.reduceSub]
  refine call (after1_ok breedE animalE dayE) ?_
  rw [eAft]
  dsimp only [camelL, U8, go_sem, Nat.reduceAdd, Nat.reduceMul, Nat.reduceSub]
  refine call breedE_ok ?_
  dsimp only [go_sem, Nat.reduceAdd, Nat.reduceMul, Nat.reduceSub]
  refine call animalE_ok ?_
  dsimp only [go_sem, Nat.reduceAdd, Nat.reduceMul, Nat.reduceSub]
  refine call dayE_ok ?_
  dsimp only [go_sem, Nat.reduceAdd, Nat.reduceMul, Nat.reduceSub]
  refine call (lasts_ok breedE animalE dayE) ?_
  rw [eLast]
  dsimp only [go_sem, Nat.reduceAdd, Nat.reduceMul, Nat.reduceSub]
  refine call herd_ok ?_
  dsimp only [go_sem, Nat.reduceAdd, Nat.reduceMul, Nat.reduceSub]
  refine call (span_ok 3 5) ?_
  dsimp only [go_sem, Nat.reduceAdd, Nat.reduceMul, Nat.reduceSub]
  refine call (mange_ok 3 [0] herdE ⟨3, 5⟩ 8 true true (by decide) (by decide)) ?_
  rw [herdK, eMeet, eKn, eRow]
  dsimp only [go_sem, Nat.reduceAdd, Nat.reduceMul, Nat.reduceSub]
  repeat (first | (refine .inl ⟨rfl, ?_⟩; dsimp only [go_sem, Nat.reduceAdd, Nat.reduceMul, Nat.reduceSub]) | (refine call (span_ok _ _) ?_; dsimp only [go_sem, Nat.reduceAdd, Nat.reduceMul, Nat.reduceSub]))
  refine raw_str (e := 5) (ns := [2, 1, 0]) rfl (fun _ _ _ e => by cases e) rfl (by kernel_rfl) (by kernel_rfl) (by kernel_rfl) ?_
  dsimp only [go_sem, Nat.reduceAdd, Nat.reduceMul, Nat.reduceSub]
  refine .inl ⟨rfl, ?_⟩
  dsimp only [go_sem, Nat.reduceAdd, Nat.reduceMul, Nat.reduceSub]
  refine raw_seqc (q := true) rfl (.inl ⟨rfl, by decide +kernel⟩) ?_
  dsimp only [go_sem, Nat.reduceAdd, Nat.reduceMul, Nat.reduceSub]
  simp
end Go.Proofs.Ytnlfjchbhgikaaa
set_option maxRecDepth 100000
set_option maxHeartbeats 4000000
namespace Go.Proofs.Ytnlfjchbhgikaaa
open Go Go.Sx Go.Azalai
theorem readyF_iff {b : Breed} {c : Camel} {l : List March} : readyF b c l = true ↔ okBreed b = true ∧ okCamel b c = true ∧ l.length ≤ 60 ∧ l.all okMarch = true := by
  unfold readyF
  rw [Bool.and_eq_true, Bool.and_eq_true, decide_eq_true_eq, decide_eq_true_eq, errC_0]
  exact ⟨fun ⟨⟨⟨h1, h2⟩, h3⟩, h4⟩ => ⟨h1, h2, h3, h4⟩, fun ⟨h1, h2, h3, h4⟩ => ⟨⟨⟨h1, h2⟩, h3⟩, h4⟩⟩
end Go.Proofs.Ytnlfjchbhgikaaa
namespace Go.Azalai
/-- a span in another one -/
def inn (s t : Span) : Prop := t.lo ≤ s.lo ∧ s.lo ≤ s.hi ∧ s.hi ≤ t.hi
def partF (s : Span) (a b : Int) : Span := ⟨s.lo + a.tmod (s.hi - s.lo + 1), s.lo + a.tmod (s.hi - s.lo + 1) + b.tmod (s.hi - (s.lo + a.tmod (s.hi - s.lo + 1)) + 1)⟩
structure innB (d b : Breed) : Prop where
  full : d.full = b.full
  fed : d.fed = b.fed
  heal : d.heal = b.heal
  rest : inn d.rest b.rest
  heat : inn d.heat b.heat
  toil : inn d.toil b.toil
  burn : inn d.burn b.burn
  rub : inn d.rub b.rub
  milk : inn d.milk b.milk
  strong : inn d.strong b.strong
structure innC (a c : Camel) : Prop where
  water : inn a.water c.water
  fat : inn a.fat c.fat
  sore : inn a.sore c.sore
  milks : a.milks = c.milks
structure innM (n m : March) : Prop where
  hours : n.hours = m.hours
  load : n.load = m.load
  heat : inn n.heat m.heat
  grass : inn n.grass m.grass
  drinks : inn n.drinks m.drinks
theorem mulm {x y a b : Int} (hx : 0 ≤ x) (hxy : x ≤ y) (ha : 0 ≤ a) (hab : a ≤ b) : 0 ≤ x * a ∧ x * a ≤ y * b := ⟨Int.mul_nonneg hx ha, Int.mul_le_mul hxy hab ha (by omega)⟩
theorem innB.ok {d b : Breed} (h : innB d b) (hb : okBreed b = true) : okBreed d = true := by
  obtain ⟨h1, h2, h3, r1, r2, r3, r4, r5, r6, r7⟩ := h
  simp only [okBreed, inR, okSp, Bool.and_eq_true, decide_eq_true_eq] at hb ⊢
  unfold inn at *
  omega
theorem innC.ok {d b : Breed} {a c : Camel} (hd : innB d b) (h : innC a c) (hc : okCamel b c = true) : okCamel d a = true := by
  obtain ⟨r1, r2, r3, r4⟩ := h
  simp only [okCamel, okSp, Bool.and_eq_true, decide_eq_true_eq] at hc ⊢
  rw [hd.full, hd.fed]
  unfold inn at *
  omega
theorem innM.ok {n m : March} (h : innM n m) (hm : okMarch m = true) : okMarch n = true := by
  obtain ⟨r1, r2, r3, r4, r5⟩ := h
  simp only [okMarch, inR, okSp, Bool.and_eq_true, decide_eq_true_eq] at hm ⊢
  unfold inn at *
  omega
end Go.Azalai
set_option maxRecDepth 100000
namespace Go.Proofs.Ytnlfjchbhgikaaa
open Go Go.Sx
def c8 : SC := (.seq (.reg [
  ⟨some 4, .box (.t 0) 0 25, none, []⟩,
  ⟨some 5, .box (.t 1) 0 27, none, []⟩,
  ⟨some 6, .box (.t 2) 0 29, none, []⟩,
  ⟨some 8, .mv (.c (.bool false)), none, []⟩])
  (.seq (.reg [
  ⟨some 32, .call 38 [], none, []⟩,
  ⟨some 9, .mv (.t 32), none, []⟩])
  (.seq (.seq (.reg [
  ⟨some 33, .mv (.t 9), none, []⟩,
  ⟨some 34, .un .not (.t 33), none, []⟩])
  (.cond (.t 34)
  (.seq (.reg [
   ⟨some 8, .mv (.c (.bool false)), none, []⟩])
   .ret)
  .skip))
  (.seq (.seq (.reg [
  ⟨some 35, .ld (.t 4) 17 true, none, []⟩,
  ⟨some 36, .ld (.t 5) 7 true, none, []⟩,
  ⟨some 37, .ld (.t 6) 8 true, none, []⟩,
  ⟨some 38, .bsl 8 29 [.t 37], none, []⟩,
  ⟨some 39, .call 39 [.t 35, .t 36, .t 38], none, []⟩,
  ⟨some 40, .un .not (.t 39), none, []⟩])
  (.cond (.t 40)
  (.seq (.reg [
   ⟨some 41, .mv (.t 9), none, []⟩,
   ⟨some 8, .mv (.t 41), none, []⟩])
   .ret)
  .skip))
  (.seq (.regd [0, 1, 2, 3, 4, 5, 6, 7, 8] [
  .op ⟨some 42, .ld (.t 4) 17 true, none, []⟩,
  .op ⟨some 43, .ld (.t 5) 7 true, none, []⟩,
  .op ⟨some 44, .ld (.t 6) 8 true, none, []⟩] 3 3 [
  ⟨some 10, .alloc [.int .i64 0, .int .i64 0, .int .i64 0, .int .i64 0, .int .i64 0, .int .i64 0, .int .i64 0, .int .i64 0, .int .i64 0, .int .i64 0, .int .i64 0, .int .i64 0, .int .i64 0, .int .i64 0, .int .i64 0, .int .i64 0, .int .i64 0] 25, none, []⟩,
  ⟨some 11, .alloc [.int .i64 0, .int .i64 0, .int .i64 0, .int .i64 0, .int .i64 0, .int .i64 0, .bool false] 27, none, []⟩,
  ⟨some 12, .alloc [.int .i64 0, .int .i64 0, .int .i64 0, .int .i64 0, .int .i64 0, .int .i64 0, .int .i64 0, .int .i64 0] 29, none, []⟩,
  ⟨none, .st (.t 10) (.t 42) 17, none, [0, 3, 4, 5]⟩,
  ⟨none, .st (.t 11) (.t 43) 7, none, [0, 1, 3, 4, 5, 6]⟩,
  ⟨none, .st (.t 12) (.t 44) 8, none, [0, 1, 2, 3, 4, 5, 6, 7]⟩])
  (.seq (.reg [
  ⟨some 13, .mv (.c (.int .i64 0)), none, []⟩])
  (.seq (.seq (.reg [
  ⟨some 45, .addo (.t 10) 2, none, []⟩,
  ⟨some 46, .addo (.t 10) 4, none, []⟩,
  ⟨some 47, .addo (.t 10) 6, none, []⟩,
  ⟨some 48, .addo (.t 10) 8, none, []⟩,
  ⟨some 49, .addo (.t 10) 10, none, []⟩,
  ⟨some 50, .addo (.t 10) 12, none, []⟩,
  ⟨some 51, .addo (.t 10) 15, none, []⟩,
  ⟨some 52, .addo (.t 11) 0, none, []⟩,
  ⟨some 53, .addo (.t 11) 2, none, []⟩,
  ⟨some 54, .addo (.t 11) 4, none, []⟩,
  ⟨some 55, .addo (.t 12) 2, none, []⟩,
  ⟨some 56, .addo (.t 12) 4, none, []⟩,
  ⟨some 57, .addo (.t 12) 6, none, []⟩,
  ⟨some 58, .bsl 1 89 [.t 45, .t 46, .t 47, .t 48, .t 49, .t 50, .t 51, .t 52, .t 53, .t 54, .t 55, .t 56, .t 57], none, []⟩,
  ⟨some 59, .len (.t 58), none, []⟩,
  ⟨some 60, .mv (.c (.int .i64 0)), none, []⟩])
  (.block 0 (.loop (.seq (.reg [
    ⟨some 61, .bin .lss (.t 60) (.t 59), none, []⟩])
    (.seq (.cond (.t 61)
    .skip
    (.exit 0))
    (.seq (.block 1 (.seq (.reg [
     ⟨some 62, .ixs (.t 58) (.t 60) 1, none, []⟩,
     ⟨some 63, .ld (.t 62) 1 false, none, []⟩,
     ⟨some 15, .mv (.t 63), none, []⟩])
     (.seq (.regd [0, 1, 2, 3, 4, 5, 6, 7, 8, 9, 10, 11, 12, 13] [
     .op ⟨some 64, .mv (.t 15), none, []⟩,
     .op ⟨some 65, .mv (.t 15), none, []⟩,
     .op ⟨some 66, .nilc (.t 65), none, [1]⟩,
     .op ⟨some 67, .ld (.t 66) 2 true, none, [2]⟩,
     .op ⟨some 68, .mv (.t 3), none, []⟩,
     .op ⟨some 69, .mv (.t 13), none, []⟩,
     .op ⟨some 70, .call 45 [.t 68, .t 69], none, [4, 5]⟩,
     .op ⟨some 71, .mv (.t 3), none, []⟩,
     .op ⟨some 72, .mv (.t 13), none, []⟩,
     .op ⟨some 73, .bin .add (.t 72) (.c (.int .i64 1)), none, [8]⟩,
     .op ⟨some 74, .call 45 [.t 71, .t 73], none, [6, 7, 9]⟩,
     .op ⟨some 75, .call 46 [.t 67, .t 70, .t 74], none, [3, 6, 10]⟩,
     .op ⟨some 76, .nilc (.t 64), none, [0, 1, 2, 3, 4, 5, 6, 7, 8, 9, 10, 11]⟩] 0 1 [
     ⟨none, .st (.t 76) (.t 75) 2, none, [0, 1, 2, 3, 4, 5, 6, 7, 8, 9, 10, 11, 12]⟩])
     (.reg [
     ⟨some 77, .mv (.t 13), none, []⟩,
     ⟨some 78, .bin .add (.t 77) (.c (.int .i64 2)), none, []⟩,
     ⟨some 13, .mv (.t 78), none, []⟩]))))
    (.reg [
    ⟨some 79, .bin .add (.t 60) (.c (.int .i64 1)), none, []⟩,
    ⟨some 60, .mv (.t 79), none, []⟩])))))))
  (.seq (.reg [
  ⟨some 81, .ld (.t 4) 17 true, none, []⟩,
  ⟨some 82, .ld (.t 5) 7 true, none, []⟩,
  ⟨some 83, .call 16 [.t 81, .t 82], none, []⟩,
  ⟨some 80, .mv (.t 83), none, []⟩,
  ⟨some 84, .ext (.t 80) 0, none, []⟩,
  ⟨some 85, .ext (.t 80) 1, none, []⟩,
  ⟨some 16, .alloc [.int .i64 0, .int .i64 0] 23, none, []⟩,
  ⟨none, .st (.t 16) (.t 84) 2, none, []⟩,
  ⟨some 17, .mv (.t 85), none, []⟩])
  (.seq (.reg [
  ⟨some 87, .ld (.t 10) 17 true, none, []⟩,
  ⟨some 88, .ld (.t 11) 7 true, none, []⟩,
  ⟨some 89, .call 16 [.t 87, .t 88], none, []⟩,
  ⟨some 86, .mv (.t 89), none, []⟩,
  ⟨some 90, .ext (.t 86) 0, none, []⟩,
  ⟨some 91, .ext (.t 86) 1, none, []⟩,
  ⟨some 18, .alloc [.int .i64 0, .int .i64 0] 23, none, []⟩,
  ⟨none, .st (.t 18) (.t 90) 2, none, []⟩,
  ⟨some 19, .mv (.t 91), none, []⟩])
  (.seq (.reg [
  ⟨some 93, .ld (.t 4) 17 true, none, []⟩,
  ⟨some 94, .addo (.t 5) 6, none, []⟩,
  ⟨some 95, .ld (.t 94) 1 false, none, []⟩,
  ⟨some 96, .ld (.t 6) 8 true, none, []⟩,
  ⟨some 97, .call 18 [.t 93, .t 95, .t 96], none, []⟩,
  ⟨some 92, .mv (.t 97), none, []⟩,
  ⟨some 98, .ext (.t 92) 0, none, []⟩,
  ⟨some 99, .ext (.t 92) 1, none, []⟩,
  ⟨some 100, .ext (.t 92) 2, none, []⟩,
  ⟨some 20, .alloc [.int .i64 0, .int .i64 0] 23, none, []⟩,
  ⟨some 21, .alloc [.int .i64 0, .int .i64 0] 23, none, []⟩,
  ⟨none, .st (.t 20) (.t 98) 2, none, []⟩,
  ⟨none, .st (.t 21) (.t 99) 2, none, []⟩,
  ⟨some 22, .mv (.t 100), none, []⟩])
  (.seq (.reg [
  ⟨some 102, .ld (.t 10) 17 true, none, []⟩,
  ⟨some 103, .addo (.t 11) 6, none, []⟩,
  ⟨some 104, .ld (.t 103) 1 false, none, []⟩,
  ⟨some 105, .ld (.t 12) 8 true, none, []⟩,
  ⟨some 106, .call 18 [.t 102, .t 104, .t 105], none, []⟩,
  ⟨some 101, .mv (.t 106), none, []⟩,
  ⟨some 107, .ext (.t 101) 0, none, []⟩,
  ⟨some 108, .ext (.t 101) 1, none, []⟩,
  ⟨some 109, .ext (.t 101) 2, none, []⟩,
  ⟨some 23, .alloc [.int .i64 0, .int .i64 0] 23, none, []⟩,
  ⟨some 24, .alloc [.int .i64 0, .int .i64 0] 23, none, []⟩,
  ⟨none, .st (.t 23) (.t 107) 2, none, []⟩,
  ⟨none, .st (.t 24) (.t 108) 2, none, []⟩,
  ⟨some 25, .mv (.t 109), none, []⟩])
  (.seq (.seq (.reg [
  ⟨some 110, .mv (.t 17), none, []⟩,
  ⟨some 111, .bin .neq (.t 110) (.c (.int .i64 0)), none, []⟩,
  ⟨some 112, .mv (.t 111), none, []⟩,
  ⟨some 113, .mv (.t 19), some (112, false), []⟩,
  ⟨some 114, .bin .neq (.t 113) (.c (.int .i64 0)), some (112, false), []⟩,
  ⟨some 115, .pick (.t 112) (.c (.bool true)) (.t 114), none, []⟩,
  ⟨some 116, .mv (.t 115), none, []⟩,
  ⟨some 117, .mv (.t 22), some (116, false), []⟩,
  ⟨some 118, .bin .neq (.t 117) (.c (.int .i64 0)), some (116, false), []⟩,
  ⟨some 119, .pick (.t 116) (.c (.bool true)) (.t 118), none, []⟩,
  ⟨some 120, .mv (.t 119), none, []⟩,
  ⟨some 121, .mv (.t 25), some (120, false), []⟩,
  ⟨some 122, .bin .neq (.t 121) (.c (.int .i64 0)), some (120, false), []⟩,
  ⟨some 123, .pick (.t 120) (.c (.bool true)) (.t 122), none, []⟩,
  ⟨some 124, .mv (.t 123), none, []⟩,
  ⟨some 125, .ld (.t 18) 2 true, some (124, false), []⟩,
  ⟨some 126, .ld (.t 16) 2 true, some (124, false), []⟩,
  ⟨some 127, .call 47 [.t 125, .t 126], some (124, false), []⟩,
  ⟨some 128, .un .not (.t 127), some (124, false), []⟩,
  ⟨some 129, .pick (.t 124) (.c (.bool true)) (.t 128), none, []⟩,
  ⟨some 130, .mv (.t 129), none, []⟩,
  ⟨some 131, .ld (.t 23) 2 true, some (130, false), []⟩,
  ⟨some 132, .ld (.t 20) 2 true, some (130, false), []⟩,
  ⟨some 133, .call 47 [.t 131, .t 132], some (130, false), []⟩,
  ⟨some 134, .un .not (.t 133), some (130, false), []⟩,
  ⟨some 135, .pick (.t 130) (.c (.bool true)) (.t 134), none, []⟩,
  ⟨some 136, .mv (.t 135), none, []⟩,
  ⟨some 137, .ld (.t 24) 2 true, some (136, false), []⟩,
  ⟨some 138, .ld (.t 21) 2 true, some (136, false), []⟩,
  ⟨some 139, .call 47 [.t 137, .t 138], some (136, false), []⟩,
  ⟨some 140, .un .not (.t 139), some (136, false), []⟩,
  ⟨some 141, .pick (.t 136) (.c (.bool true)) (.t 140), none, []⟩])
  (.cond (.t 141)
  (.seq (.reg [
   ⟨some 8, .mv (.c (.bool false)), none, []⟩])
   .ret)
  .skip))
  (.seq (.reg [
  ⟨some 143, .ld (.t 4) 17 true, none, []⟩,
  ⟨some 144, .ld (.t 5) 7 true, none, []⟩,
  ⟨some 145, .ld (.t 6) 8 true, none, []⟩,
  ⟨some 146, .call 29 [.t 143, .t 144, .t 145], none, []⟩,
  ⟨some 142, .mv (.t 146), none, []⟩,
  ⟨some 147, .ext (.t 142) 0, none, []⟩,
  ⟨some 148, .ext (.t 142) 1, none, []⟩,
  ⟨some 149, .ext (.t 142) 2, none, []⟩,
  ⟨some 26, .alloc [.int .i64 0, .int .i64 0, .int .i64 0, .int .i64 0, .int .i64 0, .int .i64 0, .bool false] 27, none, []⟩,
  ⟨none, .st (.t 26) (.t 147) 7, none, []⟩,
  ⟨some 27, .mv (.t 148), none, []⟩,
  ⟨some 28, .mv (.t 149), none, []⟩])
  (.seq (.reg [
  ⟨some 151, .ld (.t 10) 17 true, none, []⟩,
  ⟨some 152, .ld (.t 11) 7 true, none, []⟩,
  ⟨some 153, .ld (.t 12) 8 true, none, []⟩,
  ⟨some 154, .call 29 [.t 151, .t 152, .t 153], none, []⟩,
  ⟨some 150, .mv (.t 154), none, []⟩,
  ⟨some 155, .ext (.t 150) 0, none, []⟩,
  ⟨some 156, .ext (.t 150) 1, none, []⟩,
  ⟨some 157, .ext (.t 150) 2, none, []⟩,
  ⟨some 29, .alloc [.int .i64 0, .int .i64 0, .int .i64 0, .int .i64 0, .int .i64 0, .int .i64 0, .bool false] 27, none, []⟩,
  ⟨none, .st (.t 29) (.t 155) 7, none, []⟩,
  ⟨some 30, .mv (.t 156), none, []⟩,
  ⟨some 31, .mv (.t 157), none, []⟩])
  (.seq (.seq (.reg [
  ⟨some 158, .mv (.t 28), none, []⟩,
  ⟨some 159, .bin .neq (.t 158) (.c (.int .i64 0)), none, []⟩])
  (.cond (.t 159)
  (.seq (.reg [
   ⟨some 160, .mv (.t 9), none, []⟩,
   ⟨some 161, .mv (.t 160), none, []⟩,
   ⟨some 162, .mv (.t 28), some (161, true), []⟩,
   ⟨some 163, .bin .eql (.t 162) (.c (.int .i64 13)), some (161, true), []⟩,
   ⟨some 164, .pick (.t 161) (.t 163) (.c (.bool false)), none, []⟩,
   ⟨some 165, .mv (.t 164), none, []⟩,
   ⟨some 166, .mv (.t 31), some (165, true), []⟩,
   ⟨some 167, .bin .eql (.t 166) (.c (.int .i64 13)), some (165, true), []⟩,
   ⟨some 168, .pick (.t 165) (.t 167) (.c (.bool false)), none, []⟩,
   ⟨some 8, .mv (.t 168), none, []⟩])
   .ret)
  .skip))
  (.seq (.seq (.reg [
  ⟨some 169, .mv (.t 31), none, []⟩,
  ⟨some 170, .bin .neq (.t 169) (.c (.int .i64 0)), none, []⟩])
  (.cond (.t 170)
  (.seq (.reg [
   ⟨some 171, .mv (.t 9), none, []⟩,
   ⟨some 172, .mv (.t 171), none, []⟩,
   ⟨some 173, .mv (.t 31), some (172, true), []⟩,
   ⟨some 174, .bin .eql (.t 173) (.c (.int .i64 13)), some (172, true), []⟩,
   ⟨some 175, .pick (.t 172) (.t 174) (.c (.bool false)), none, []⟩,
   ⟨some 176, .mv (.t 175), none, []⟩,
   ⟨some 177, .mv (.t 27), some (176, true), []⟩,
   ⟨some 178, .bin .eql (.t 177) (.c (.int .u8 1)), some (176, true), []⟩,
   ⟨some 179, .pick (.t 176) (.t 178) (.c (.bool false)), none, []⟩,
   ⟨some 8, .mv (.t 179), none, []⟩])
   .ret)
  .skip))
  (.seq (.reg [
  ⟨some 180, .mv (.t 9), none, []⟩,
  ⟨some 181, .mv (.t 180), none, []⟩,
  ⟨some 182, .addo (.t 29) 0, some (181, true), []⟩,
  ⟨some 183, .ld (.t 182) 2 true, some (181, true), []⟩,
  ⟨some 184, .addo (.t 26) 0, some (181, true), []⟩,
  ⟨some 185, .ld (.t 184) 2 true, some (181, true), []⟩,
  ⟨some 186, .call 47 [.t 183, .t 185], some (181, true), []⟩,
  ⟨some 187, .pick (.t 181) (.t 186) (.c (.bool false)), none, []⟩,
  ⟨some 188, .mv (.t 187), none, []⟩,
  ⟨some 189, .addo (.t 29) 2, some (188, true), []⟩,
  ⟨some 190, .ld (.t 189) 2 true, some (188, true), []⟩,
  ⟨some 191, .addo (.t 26) 2, some (188, true), []⟩,
  ⟨some 192, .ld (.t 191) 2 true, some (188, true), []⟩,
  ⟨some 193, .call 47 [.t 190, .t 192], some (188, true), []⟩,
  ⟨some 194, .pick (.t 188) (.t 193) (.c (.bool false)), none, []⟩,
  ⟨some 195, .mv (.t 194), none, []⟩,
  ⟨some 196, .addo (.t 29) 4, some (195, true), []⟩,
  ⟨some 197, .ld (.t 196) 2 true, some (195, true), []⟩,
  ⟨some 198, .addo (.t 26) 4, some (195, true), []⟩,
  ⟨some 199, .ld (.t 198) 2 true, some (195, true), []⟩,
  ⟨some 200, .call 47 [.t 197, .t 199], some (195, true), []⟩,
  ⟨some 201, .pick (.t 195) (.t 200) (.c (.bool false)), none, []⟩,
  ⟨some 202, .mv (.t 201), none, []⟩,
  ⟨some 203, .mv (.t 27), some (202, true), []⟩,
  ⟨some 204, .bin .neq (.t 203) (.c (.int .u8 0)), some (202, true), []⟩,
  ⟨some 205, .mv (.t 204), some (202, true), []⟩,
  ⟨some 206, .mv (.t 30), some (205, false), []⟩,
  ⟨some 207, .bin .eql (.t 206) (.c (.int .u8 0)), some (205, false), []⟩,
  ⟨some 208, .pick (.t 205) (.c (.bool true)) (.t 207), some (202, true), []⟩,
  ⟨some 209, .pick (.t 202) (.t 208) (.c (.bool false)), none, []⟩,
  ⟨some 8, .mv (.t 209), none, []⟩])
  .ret)))))))))))))))))
def r8 : List RV := [.tmp 8]
end Go.Proofs.Ytnlfjchbhgikaaa
set_option maxRecDepth 100000
set_option maxHeartbeats 4000000
namespace Go.Proofs.Ytnlfjchbhgikaaa
open Go Go.Sx Go.Azalai
theorem pick_ok (s : Span) (n : Int) (h1 : 0 ≤ s.lo) (h2 : s.lo ≤ s.hi) (h3 : s.hi ≤ 1000000000) (hn : 0 ≤ n ∧ n < 4294967296) : Ct Try.prog 44 [.agg (spanL s), U32 n] (I (s.lo + n.tmod (s.hi - s.lo + 1))) := by
  refine t44 (by simp [spanL, U32, KFL, KF]) (by simp [KFL, KF]) ?_
  dsimp only [c44, r44, spanL, U32, go_sem, Nat.reduceAdd, Nat.reduceMul, Nat.reduceSub]
  rw [w64_in (n := n) (by omega) (by omega), w64_in (n := s.hi - s.lo) (by omega) (by omega), w64_in (n := s.hi - s.lo + 1) (by omega) (by omega)]
  refine div0 (by omega) ?_
  dsimp only [go_sem, Nat.reduceAdd, Nat.reduceMul, Nat.reduceSub]
  simp only [divr]
  have hr : 0 ≤ n.tmod (s.hi - s.lo + 1) ∧ n.tmod (s.hi - s.lo + 1) < s.hi - s.lo + 1 := ⟨Int.tmod_nonneg _ (by omega), Int.tmod_lt_of_pos _ (by omega)⟩
  generalize n.tmod (s.hi - s.lo + 1) = r at *
  rw [w64_in (n := s.lo + r) (by omega) (by omega)]
theorem at_okI (l : List W32) (i : Int) (k : Nat) (h : i = k) (hl : l.length ≤ 9223372036854775807) (hi : k ≤ 1000000) (c : Bool) : Ct Try.prog 45 [.sl c 1 (l.map w32L), I i] (U32 (atF l k)) := by
  rw [h]; exact at_ok l k hl hi c
end Go.Proofs.Ytnlfjchbhgikaaa
namespace Go.Azalai
structure Truth where
  water : Int
  fat : Int
  sore : Int
def pickF (s : Span) (n : Int) : Int := s.lo + n.tmod (s.hi - s.lo + 1)
theorem pick_bd {s : Span} {n : Int} (h : s.lo ≤ s.hi) (hn : 0 ≤ n) : s.lo ≤ pickF s n ∧ pickF s n ≤ s.hi := by
  have h1 : 0 ≤ n.tmod (s.hi - s.lo + 1) ∧ n.tmod (s.hi - s.lo + 1) < s.hi - s.lo + 1 := ⟨Int.tmod_nonneg _ hn, Int.tmod_lt_of_pos _ (by omega)⟩
  unfold pickF; omega
/-- what is so on one day, by numbers that lie in what is known -/
structure Pk where
  rest : Int
  heat : Int
  mheat : Int
  toil : Int
  milk : Int
  burn : Int
  drinks : Int
  grass : Int
  rub : Int
def inS (x : Int) (s : Span) : Prop := s.lo ≤ x ∧ x ≤ s.hi
structure Pin (p : Pk) (b : Breed) (m : March) : Prop where
  rest : inS p.rest b.rest
  heat : inS p.heat b.heat
  mheat : inS p.mheat m.heat
  toil : inS p.toil b.toil
  milk : inS p.milk b.milk
  burn : inS p.burn b.burn
  drinks : inS p.drinks m.drinks
  grass : inS p.grass m.grass
  rub : inS p.rub b.rub
def lostW (p : Pk) (k : Bool) (m : March) (t : Truth) : Int := if k then t.water - (100000 * (p.rest + p.heat * max 0 (p.mheat - 20)) + p.toil * workF m) - 100000 * p.milk else t.water - (100000 * (p.rest + p.heat * max 0 (p.mheat - 20)) + p.toil * workF m)
def burnF (p : Pk) (m : March) (t : Truth) : Int := t.fat - p.burn * workF m
def soreT (p : Pk) (b : Breed) (m : March) (t : Truth) : Int := if m.hours = 0 then max 0 (min 1000000000 (t.sore + p.rub * m.hours * m.load) - 1000000 * b.heal) else min 1000000000 (t.sore + p.rub * m.hours * m.load)
def nextT (p : Pk) (b : Breed) (k : Bool) (m : March) (t : Truth) : Truth := ⟨min (100000 * b.full) (lostW p k m t + 100000 * p.drinks), min (100000 * b.fed) (burnF p m t + 100000 * p.grass), soreT p b m t⟩
def livesT (p : Pk) (k : Bool) (m : March) (t : Truth) : Bool := decide (0 ≤ lostW p k m t) && decide (0 ≤ burnF p m t)
structure Tin (t : Truth) (c : Camel) : Prop where
  water : 100000 * c.water.lo ≤ t.water ∧ t.water ≤ 100000 * c.water.hi
  fat : 100000 * c.fat.lo ≤ t.fat ∧ t.fat ≤ 100000 * c.fat.hi
  sore : 1000000 * c.sore.lo ≤ t.sore ∧ t.sore ≤ 1000000 * c.sore.hi
theorem tdiv_le {a d : Int} (h0 : 0 ≤ a) (hd : 0 < d) : d * a.tdiv d ≤ a := by
  rw [Int.tdiv_eq_ediv_of_nonneg h0]; exact Int.mul_ediv_self_le (by omega)
theorem le_upF {a d : Int} (h0 : 0 ≤ a) (hd : 0 < d) : a ≤ d * upF a d := by
  unfold upF
  rw [Int.tdiv_eq_ediv_of_nonneg (by omega)]
  have h1 := Int.emod_add_mul_ediv (a + d - 1) d
  have h2 := Int.emod_lt_of_pos (a + d - 1) hd
  omega
theorem cost_true {b : Breed} {m : March} {p : Pk} (k : Bool) (hb : okBreed b = true) (hm : okMarch m = true) (hp : Pin p b m) (t : Truth) :
    (100000 * (costW b k m).lo ≤ t.water - lostW p k m t ∧ t.water - lostW p k m t ≤ 100000 * (costW b k m).hi) ∧ 100000 * (costF b m).lo ≤ t.fat - burnF p m t ∧ t.fat - burnF p m t ≤ 100000 * (costF b m).hi := by
  have hbb := Go.Proofs.Ytnlfjchbhgikaaa.breed_bd hb
  have hmm := Go.Proofs.Ytnlfjchbhgikaaa.march_bd hm
  have hw : 0 ≤ workF m := by unfold workF; exact Int.mul_nonneg (by omega) (by omega)
  obtain ⟨r1, r2, r3, r4, r5, r6, r7, r8, r9⟩ := hp
  unfold inS at *
  have a1 := mulm (x := b.heat.lo) (y := p.heat) (a := max 0 (m.heat.lo - 20)) (b := max 0 (p.mheat - 20)) (by omega) (by omega) (by omega) (by omega)
  have a2 := mulm (x := p.heat) (y := b.heat.hi) (a := max 0 (p.mheat - 20)) (b := max 0 (m.heat.hi - 20)) (by omega) (by omega) (by omega) (by omega)
  have t1 := mulm (x := b.toil.lo) (y := p.toil) (a := workF m) (b := workF m) (by omega) (by omega) hw (Int.le_refl _)
  have t2 := mulm (x := p.toil) (y := b.toil.hi) (a := workF m) (b := workF m) (by omega) (by omega) hw (Int.le_refl _)
  have u1 := mulm (x := b.burn.lo) (y := p.burn) (a := workF m) (b := workF m) (by omega) (by omega) hw (Int.le_refl _)
  have u2 := mulm (x := p.burn) (y := b.burn.hi) (a := workF m) (b := workF m) (by omega) (by omega) hw (Int.le_refl _)
  have T1 := tdiv_le t1.1 (d := 100000) (by decide)
  have T2 := le_upF (a := b.toil.hi * workF m) (d := 100000) (by omega) (by decide)
  have U1 := tdiv_le u1.1 (d := 100000) (by decide)
  have U2 := le_upF (a := b.burn.hi * workF m) (d := 100000) (by omega) (by decide)
  simp only [costW, costF, lostW, burnF]
  cases k <;> simp <;> omega
theorem sore_true {b : Breed} {m : March} {p : Pk} {t : Truth} {c : Camel} (hb : okBreed b = true) (hm : okMarch m = true) (hp : Pin p b m) (ht : Tin t c) (h0 : 0 ≤ c.sore.lo ∧ c.sore.lo ≤ 1000) :
    1000000 * (soreF b c.sore m).lo ≤ soreT p b m t ∧ soreT p b m t ≤ 1000000 * (soreF b c.sore m).hi := by
  have hbb := Go.Proofs.Ytnlfjchbhgikaaa.breed_bd hb
  have hmm := Go.Proofs.Ytnlfjchbhgikaaa.march_bd hm
  obtain ⟨r1, r2, r3, r4, r5, r6, r7, r8, r9⟩ := hp
  unfold inS at *
  have hl : 0 ≤ m.hours * m.load := Int.mul_nonneg (by omega) (by omega)
  have t1 := mulm (x := b.rub.lo) (y := p.rub) (a := m.hours * m.load) (b := m.hours * m.load) (by omega) (by omega) hl (Int.le_refl _)
  have t2 := mulm (x := p.rub) (y := b.rub.hi) (a := m.hours * m.load) (b := m.hours * m.load) (by omega) (by omega) hl (Int.le_refl _)
  have T1 := tdiv_le t1.1 (d := 1000000) (by decide)
  have T2 := le_upF (a := b.rub.hi * (m.hours * m.load)) (d := 1000000) (by omega) (by decide)
  obtain ⟨q1, q2, q3⟩ := ht
  unfold soreT soreF
  rw [Int.mul_assoc]
  by_cases h : m.hours = 0
  · rw [if_pos h, if_pos h]
    have : m.hours * m.load = 0 := by rw [h, Int.zero_mul]
    rw [this, Int.mul_zero]
    simp only; omega
  · rw [if_neg h, if_neg h]; simp only; omega
theorem true_law {b : Breed} {c : Camel} {m : March} {p : Pk} {t : Truth} (hb : okBreed b = true) (hc : okCamel b c = true) (hm : okMarch m = true) (hp : Pin p b m) (ht : Tin t c) :
    ((afterF b c m).2 = 0 → livesT p c.milks m t = true) ∧ (livesT p c.milks m t = true → (afterF b c m).2 ≠ 2 ∧ Tin (nextT p b c.milks m t) (afterF b c m).1) := by
  have hbb := Go.Proofs.Ytnlfjchbhgikaaa.breed_bd hb
  simp only [okCamel, okSp, Bool.and_eq_true, decide_eq_true_eq] at hc
  obtain ⟨⟨w1, w2⟩, w3, w4⟩ := cost_true c.milks hb hm hp t
  have s := sore_true hb hm hp ht ⟨hc.2.1, by omega⟩
  obtain ⟨q1, q2, q3⟩ := ht
  obtain ⟨r1, r2, r3, r4, r5, r6, r7, r8, r9⟩ := hp
  unfold inS at *
  unfold livesT afterF
  simp only [Bool.and_eq_true, decide_eq_true_eq]
  generalize hx : costW b c.milks m = x at *
  generalize hy : costF b m = y at *
  generalize hlw : lostW p c.milks m t = lw at *
  generalize hlb : burnF p m t = lb at *
  refine ⟨fun h => ?_, fun h => ?_⟩
  · by_cases hd : c.water.hi < x.lo ∨ c.fat.hi < y.lo
    · rw [if_pos hd] at h; cases h
    rw [if_neg hd] at h
    by_cases hq : c.water.lo ≥ x.hi ∧ c.fat.lo ≥ y.hi
    · omega
    · simp only at h; rw [if_neg hq] at h; cases h
  · rw [if_neg (by omega)]
    refine ⟨by simp only; split <;> decide, ⟨?_, ?_, s⟩⟩ <;> (simp only [nextT, lostF, hlw, hlb]; omega)
/-- how fit it is lies in what is told, times what is divided by -/
theorem fit_true {b : Breed} {c : Camel} {t : Truth} (hb : okBreed b = true) (hc : okCamel b c = true) (ht : Tin t c) :
    (fitF b c).lo ≤ 1000 ∧ (fitF b c).lo * 100000 * b.full ≤ 2000 * t.water ∧ (fitF b c).lo * 100000 * b.fed ≤ 2000 * t.fat ∧ 1000000 * (fitF b c).lo ≤ 1000000000 - t.sore ∧
      ((fitF b c).hi < 1000 → 2000 * t.water ≤ (fitF b c).hi * 100000 * b.full ∨ 2000 * t.fat ≤ (fitF b c).hi * 100000 * b.fed ∨ 1000000000 - t.sore ≤ 1000000 * (fitF b c).hi) := by
  have hbb := Go.Proofs.Ytnlfjchbhgikaaa.breed_bd hb
  simp only [okCamel, okSp, Bool.and_eq_true, decide_eq_true_eq] at hc
  obtain ⟨q1, q2, q3⟩ := ht
  have e1 := tdiv_le (a := 2000 * c.water.lo) (d := b.full) (by omega) (by omega)
  have e2 := tdiv_le (a := 2000 * c.fat.lo) (d := b.fed) (by omega) (by omega)
  have e3 := le_upF (a := 2000 * c.water.hi) (d := b.full) (by omega) (by omega)
  have e4 := le_upF (a := 2000 * c.fat.hi) (d := b.fed) (by omega) (by omega)
  have l1 : (fitF b c).lo ≤ (2000 * c.water.lo).tdiv b.full := by simp only [fitF]; omega
  have l2 : (fitF b c).lo ≤ (2000 * c.fat.lo).tdiv b.fed := by simp only [fitF]; omega
  have l3 : (fitF b c).lo ≤ 1000 - c.sore.hi ∧ (fitF b c).lo ≤ 1000 := by simp only [fitF]; omega
  have l4 : (fitF b c).hi < 1000 → (fitF b c).hi = upF (2000 * c.water.hi) b.full ∨ (fitF b c).hi = upF (2000 * c.fat.hi) b.fed ∨ (fitF b c).hi = 1000 - c.sore.lo := by simp only [fitF]; omega
  have m1 := Int.mul_le_mul_of_nonneg_left l1 (show 0 ≤ b.full by omega)
  have m2 := Int.mul_le_mul_of_nonneg_left l2 (show 0 ≤ b.fed by omega)
  have r1 : ∀ x y : Int, x * 100000 * y = 100000 * (y * x) := fun x y => by rw [Int.mul_comm y x, Int.mul_comm x 100000, Int.mul_assoc]
  rw [r1, r1, r1, r1]
  refine ⟨l3.2, by omega, by omega, by omega, fun h => ?_⟩
  rcases l4 h with h | h | h
  · left; rw [h]; omega
  · right; left; rw [h]; omega
  · right; right; rw [h]; omega
theorem car_true {b : Breed} {c : Camel} {x : Int} (hb : okBreed b = true) (hc : okCamel b c = true) (hx : inS x b.strong) : (carF b c).lo * 1000 ≤ x * (fitF b c).lo ∧ x * (fitF b c).hi ≤ (carF b c).hi * 1000 := by
  have hbb := Go.Proofs.Ytnlfjchbhgikaaa.breed_bd hb
  simp only [okCamel, okSp, Bool.and_eq_true, decide_eq_true_eq] at hc
  unfold inS at hx
  have z1 := Int.tdiv_nonneg (a := 2000 * c.water.lo) (b := b.full) (by omega) (by omega)
  have z2 := Int.tdiv_nonneg (a := 2000 * c.fat.lo) (b := b.fed) (by omega) (by omega)
  have z3 := (up_bd (a := 2000 * c.water.hi) (d := b.full) (by omega) (Int.le_refl _) (by omega)).1
  have z4 := (up_bd (a := 2000 * c.fat.hi) (d := b.fed) (by omega) (Int.le_refl _) (by omega)).1
  have f0 : 0 ≤ (fitF b c).lo ∧ 0 ≤ (fitF b c).hi := by simp only [fitF]; omega
  have p1 := mulm (x := b.strong.lo) (y := x) (by omega) hx.1 f0.1 (Int.le_refl _)
  have p2 := mulm (x := x) (y := b.strong.hi) (by omega) hx.2 f0.2 (Int.le_refl _)
  have T1 := tdiv_le p1.1 (d := 1000) (by decide)
  have T2 := le_upF (a := b.strong.hi * (fitF b c).hi) (d := 1000) (by omega) (by decide)
  simp only [carF]
  omega
end Go.Azalai
set_option maxRecDepth 100000
set_option maxHeartbeats 4000000
namespace Go.Azalai
def beginT (c : Camel) (ns : List W32) : Truth := ⟨100000 * pickF c.water (atF ns 0), 100000 * pickF c.fat (atF ns 1), 1000000 * pickF c.sore (atF ns 2)⟩
def pkF (b : Breed) (m : March) (ns : List W32) (i : Nat) : Pk := ⟨pickF b.rest (atF ns (7 * i)), pickF b.heat (atF ns (7 * i + 1)), pickF m.heat (atF ns (7 * i + 2)), pickF b.toil (atF ns (7 * i + 3)), pickF b.milk (atF ns (7 * i + 4)), pickF b.burn (atF ns (7 * i + 5)), pickF m.drinks (atF ns (7 * i + 6)), pickF m.grass (atF ns (7 * i + 1)), pickF b.rub (atF ns (7 * i + 2))⟩
structure Tbd (t : Truth) : Prop where
  water : 0 ≤ t.water ∧ t.water ≤ 100000000000
  fat : 0 ≤ t.fat ∧ t.fat ≤ 100000000000
  sore : 0 ≤ t.sore ∧ t.sore ≤ 1000000000
end Go.Azalai
namespace Go.Proofs.Ytnlfjchbhgikaaa
open Go Go.Sx Go.Azalai
def truthL (t : Truth) : List SV := [I t.water, I t.fat, I t.sore]
theorem pick_ok' (s : Span) (n : Int) (h1 : 0 ≤ s.lo) (h2 : s.lo ≤ s.hi) (h3 : s.hi ≤ 1000000000) (hn : 0 ≤ n ∧ n < 4294967296) : Ct Try.prog 44 [.agg [I s.lo, I s.hi], U32 n] (I (pickF s n)) := pick_ok s n h1 h2 h3 hn
theorem begin_ok (b : Breed) (c : Camel) (ns : List W32) (hns : ns.length ≤ 9223372036854775807) (hb : okBreed b = true) (hc : okCamel b c = true) (k : Bool) : Ct Try.prog 40 [.agg (camelL c), .sl k 1 (ns.map w32L)] (.agg (truthL (beginT c ns))) := by
  have hbb := breed_bd hb
  have hcc := hc
  simp only [okCamel, okSp, Bool.and_eq_true, decide_eq_true_eq] at hcc
  have n0 := atF_bd ns 0
  have n1 := atF_bd ns 1
  have n2 := atF_bd ns 2
  have p0 := pick_bd (s := c.water) (n := atF ns 0) (by omega) (by omega)
  have p1 := pick_bd (s := c.fat) (n := atF ns 1) (by omega) (by omega)
  have p2 := pick_bd (s := c.sore) (n := atF ns 2) (by omega) (by omega)
  refine t40 (by simp [camelL, KFR_iff, w32L, U32, KFL, KF]) (by simp [truthL, KFL, KF]) ?_
  dsimp only [c40, r40, camelL, go_sem, Nat.reduceAdd, Nat.reduceMul, Nat.reduceSub]
  refine call (at_okI ns _ 0 rfl hns (by omega) k) ?_
  dsimp only [U32, go_sem, Nat.reduceAdd, Nat.reduceMul, Nat.reduceSub]
  refine call (pick_ok' c.water _ (by omega) (by omega) (by omega) n0) ?_
  dsimp only [go_sem, Nat.reduceAdd, Nat.reduceMul, Nat.reduceSub]
  refine call (at_okI ns _ 1 rfl hns (by omega) k) ?_
  dsimp only [U32, go_sem, Nat.reduceAdd, Nat.reduceMul, Nat.reduceSub]
  refine call (pick_ok' c.fat _ (by omega) (by omega) (by omega) n1) ?_
  dsimp only [go_sem, Nat.reduceAdd, Nat.reduceMul, Nat.reduceSub]
  refine call (at_okI ns _ 2 rfl hns (by omega) k) ?_
  dsimp only [U32, go_sem, Nat.reduceAdd, Nat.reduceMul, Nat.reduceSub]
  refine call (pick_ok' c.sore _ (by omega) (by omega) (by omega) n2) ?_
  dsimp only [go_sem, Nat.reduceAdd, Nat.reduceMul, Nat.reduceSub]
  simp (disch := omega) only [w64_in]
  rfl
def tinB (t : Truth) (c : Camel) : Bool := decide (100000 * c.water.lo ≤ t.water) && decide (t.water ≤ 100000 * c.water.hi) && decide (100000 * c.fat.lo ≤ t.fat) && decide (t.fat ≤ 100000 * c.fat.hi) && decide (1000000 * c.sore.lo ≤ t.sore) && decide (t.sore ≤ 1000000 * c.sore.hi)
theorem in_ok (b : Breed) (c : Camel) (t : Truth) (hb : okBreed b = true) (hc : okCamel b c = true) : Ct Try.prog 43 [.ps (truthL t) 0, .agg (camelL c)] (B (tinB t c)) := by
  have hbb := breed_bd hb
  have hcc := hc
  simp only [okCamel, okSp, Bool.and_eq_true, decide_eq_true_eq] at hcc
  refine t43 (by simp [camelL, truthL, KFL, KF]) (by simp [KFL, KF]) ?_
  dsimp only [c43, r43, camelL, truthL, go_sem, Nat.reduceAdd, Nat.reduceMul, Nat.reduceSub]
  simp (disch := omega) only [w64_in]
  repeat (refine gb ?_; dsimp only [go_sem, Nat.reduceAdd, Nat.reduceMul, Nat.reduceSub])
  simp (disch := omega) only [w64_in]
  rfl
theorem lives_ok (b : Breed) (m : March) (t : Truth) (ns : List W32) (i : Nat) (kk : Bool) (hns : ns.length ≤ 9223372036854775807) (hi : i ≤ 100) (hb : okBreed b = true) (hm : okMarch m = true) (ht : Tbd t) (k : Bool) :
    CtM Try.prog 41 [(0, .cells (truthL t) 80)] 1 [.p 0 0, .agg (breedL b), B kk, .agg (marchL m), .sl k 1 (ns.map w32L), I i] (fun o => ∃ u : Truth, (livesT (pkF b m ns i) kk m t = true → u = nextT (pkF b m ns i) b kk m t) ∧ o = ⟨false, B (livesT (pkF b m ns i) kk m t), [(0, .cells (truthL u) 80)], 1⟩) := by
  refine m41 (by simp [hpb]) (fun o ho => by obtain ⟨u, _, rfl⟩ := ho; simp [KX, KXL, KXP, KXH, KFR_iff, KFL, KF, truthL]) ?_
  have hbb := breed_bd hb
  have hmm := march_bd hm
  obtain ⟨hw0, hw1⟩ := work_bd hm
  obtain ⟨p, hpe⟩ : ∃ p, p = pkF b m ns i := ⟨_, rfl⟩
  rw [← hpe]
  have v_rest := atF_bd ns (7 * i)
  have b_rest : b.rest.lo ≤ p.rest ∧ p.rest ≤ b.rest.hi := by rw [hpe]; exact pick_bd (by omega) v_rest.1
  have c_rest : Ct Try.prog 44 [.agg [I b.rest.lo, I b.rest.hi], U32 (atF ns (7 * i))] (I p.rest) := by rw [hpe]; exact pick_ok' b.rest _ (by omega) (by omega) (by omega) v_rest
  have v_heat := atF_bd ns (7 * i + 1)
  have b_heat : b.heat.lo ≤ p.heat ∧ p.heat ≤ b.heat.hi := by rw [hpe]; exact pick_bd (by omega) v_heat.1
  have c_heat : Ct Try.prog 44 [.agg [I b.heat.lo, I b.heat.hi], U32 (atF ns (7 * i + 1))] (I p.heat) := by rw [hpe]; exact pick_ok' b.heat _ (by omega) (by omega) (by omega) v_heat
  have v_mheat := atF_bd ns (7 * i + 2)
  have b_mheat : m.heat.lo ≤ p.mheat ∧ p.mheat ≤ m.heat.hi := by rw [hpe]; exact pick_bd (by omega) v_mheat.1
  have c_mheat : Ct Try.prog 44 [.agg [I m.heat.lo, I m.heat.hi], U32 (atF ns (7 * i + 2))] (I p.mheat) := by rw [hpe]; exact pick_ok' m.heat _ (by omega) (by omega) (by omega) v_mheat
  have v_toil := atF_bd ns (7 * i + 3)
  have b_toil : b.toil.lo ≤ p.toil ∧ p.toil ≤ b.toil.hi := by rw [hpe]; exact pick_bd (by omega) v_toil.1
  have c_toil : Ct Try.prog 44 [.agg [I b.toil.lo, I b.toil.hi], U32 (atF ns (7 * i + 3))] (I p.toil) := by rw [hpe]; exact pick_ok' b.toil _ (by omega) (by omega) (by omega) v_toil
  have v_milk := atF_bd ns (7 * i + 4)
  have b_milk : b.milk.lo ≤ p.milk ∧ p.milk ≤ b.milk.hi := by rw [hpe]; exact pick_bd (by omega) v_milk.1
  have c_milk : Ct Try.prog 44 [.agg [I b.milk.lo, I b.milk.hi], U32 (atF ns (7 * i + 4))] (I p.milk) := by rw [hpe]; exact pick_ok' b.milk _ (by omega) (by omega) (by omega) v_milk
  have v_burn := atF_bd ns (7 * i + 5)
  have b_burn : b.burn.lo ≤ p.burn ∧ p.burn ≤ b.burn.hi := by rw [hpe]; exact pick_bd (by omega) v_burn.1
  have c_burn : Ct Try.prog 44 [.agg [I b.burn.lo, I b.burn.hi], U32 (atF ns (7 * i + 5))] (I p.burn) := by rw [hpe]; exact pick_ok' b.burn _ (by omega) (by omega) (by omega) v_burn
  have v_drinks := atF_bd ns (7 * i + 6)
  have b_drinks : m.drinks.lo ≤ p.drinks ∧ p.drinks ≤ m.drinks.hi := by rw [hpe]; exact pick_bd (by omega) v_drinks.1
  have c_drinks : Ct Try.prog 44 [.agg [I m.drinks.lo, I m.drinks.hi], U32 (atF ns (7 * i + 6))] (I p.drinks) := by rw [hpe]; exact pick_ok' m.drinks _ (by omega) (by omega) (by omega) v_drinks
  have v_grass := atF_bd ns (7 * i + 1)
  have b_grass : m.grass.lo ≤ p.grass ∧ p.grass ≤ m.grass.hi := by rw [hpe]; exact pick_bd (by omega) v_grass.1
  have c_grass : Ct Try.prog 44 [.agg [I m.grass.lo, I m.grass.hi], U32 (atF ns (7 * i + 1))] (I p.grass) := by rw [hpe]; exact pick_ok' m.grass _ (by omega) (by omega) (by omega) v_grass
  have v_rub := atF_bd ns (7 * i + 2)
  have b_rub : b.rub.lo ≤ p.rub ∧ p.rub ≤ b.rub.hi := by rw [hpe]; exact pick_bd (by omega) v_rub.1
  have c_rub : Ct Try.prog 44 [.agg [I b.rub.lo, I b.rub.hi], U32 (atF ns (7 * i + 2))] (I p.rub) := by rw [hpe]; exact pick_ok' b.rub _ (by omega) (by omega) (by omega) v_rub
  obtain ⟨t1, t2, t3⟩ := ht
  have q1 := mul_bd (a := p.heat) (b := max 0 (p.mheat - 20)) (A := 100000) (B := 40) (by omega) (by omega) (by omega) (by omega)
  have q2 := mul_bd (a := p.toil) (b := workF m) (A := 100000) (B := 26400000) (by omega) (by omega) hw0 hw1
  have q3 := mul_bd (a := p.burn) (b := workF m) (A := 100000) (B := 26400000) (by omega) (by omega) hw0 hw1
  have q4 := mul_bd (a := p.rub) (b := m.hours) (A := 100000) (B := 24) (by omega) (by omega) (by omega) (by omega)
  have q5 := mul_bd (a := p.rub * m.hours) (b := m.load) (A := 2400000) (B := 1000000) (by omega) (by omega) (by omega) (by omega)
  dsimp only [c41, r41, breedL, marchL, truthL, go_sem, Nat.reduceAdd, Nat.reduceMul, Nat.reduceSub]
  rw [w64_in (n := 100000 + m.load) (by omega) (by omega), show m.hours * (100000 + m.load) = workF m from rfl, w64_in (n := workF m) (by omega) (by omega), w64_in (n := 7 * (i : Int)) (by omega) (by omega)]
  try simp (disch := omega) only [w64_in]
  refine call (at_okI ns _ (7 * i) (by omega) hns (by omega) k) ?_
  dsimp only [U32, go_sem, Nat.reduceAdd, Nat.reduceMul, Nat.reduceSub]
  refine call c_rest ?_
  dsimp only [go_sem, Nat.reduceAdd, Nat.reduceMul, Nat.reduceSub]
  simp (disch := omega) only [w64_in]
  try simp (disch := omega) only [w64_in]
  refine call (at_okI ns _ (7 * i + 1) (by omega) hns (by omega) k) ?_
  dsimp only [U32, go_sem, Nat.reduceAdd, Nat.reduceMul, Nat.reduceSub]
  refine call c_heat ?_
  dsimp only [go_sem, Nat.reduceAdd, Nat.reduceMul, Nat.reduceSub]
  simp (disch := omega) only [w64_in]
  try simp (disch := omega) only [w64_in]
  refine call (at_okI ns _ (7 * i + 2) (by omega) hns (by omega) k) ?_
  dsimp only [U32, go_sem, Nat.reduceAdd, Nat.reduceMul, Nat.reduceSub]
  refine call c_mheat ?_
  dsimp only [go_sem, Nat.reduceAdd, Nat.reduceMul, Nat.reduceSub]
  simp (disch := omega) only [w64_in]
  try simp (disch := omega) only [w64_in]
  refine call (at_okI ns _ (7 * i + 3) (by omega) hns (by omega) k) ?_
  dsimp only [U32, go_sem, Nat.reduceAdd, Nat.reduceMul, Nat.reduceSub]
  refine call c_toil ?_
  dsimp only [go_sem, Nat.reduceAdd, Nat.reduceMul, Nat.reduceSub]
  simp (disch := omega) only [w64_in]
  cases kk with
  | true =>
    refine br_t rfl ?_
    dsimp only [go_sem, Nat.reduceAdd, Nat.reduceMul, Nat.reduceSub]
    try simp (disch := omega) only [w64_in]
    refine call (at_okI ns _ (7 * i + 4) (by omega) hns (by omega) k) ?_
    dsimp only [U32, go_sem, Nat.reduceAdd, Nat.reduceMul, Nat.reduceSub]
    refine call c_milk ?_
    dsimp only [go_sem, Nat.reduceAdd, Nat.reduceMul, Nat.reduceSub]
    simp (disch := omega) only [w64_in]
    rw [show t.water - (100000 * (p.rest + p.heat * max 0 (p.mheat - 20)) + p.toil * workF m) - 100000 * p.milk = lostW p true m t from rfl]
    have hlw : -10000000000000 ≤ lostW p true m t ∧ lostW p true m t ≤ 100000000000 := by simp [lostW]; omega
    try simp (disch := omega) only [w64_in]
    refine call (at_okI ns _ (7 * i + 5) (by omega) hns (by omega) k) ?_
    dsimp only [U32, go_sem, Nat.reduceAdd, Nat.reduceMul, Nat.reduceSub]
    refine call c_burn ?_
    dsimp only [go_sem, Nat.reduceAdd, Nat.reduceMul, Nat.reduceSub]
    simp (disch := omega) only [w64_in]
    rw [show t.fat - p.burn * workF m = burnF p m t from rfl]
    have hfw : -10000000000000 ≤ burnF p m t ∧ burnF p m t ≤ 100000000000 := by simp only [burnF]; omega
    repeat (refine gb ?_; dsimp only [go_sem, Nat.reduceAdd, Nat.reduceMul, Nat.reduceSub])
    by_cases hl : livesT p true m t = true
    case neg =>
      have hl' : livesT p true m t = false := by simpa using hl
      refine br_t (by simp only [livesT, Bool.and_eq_true, decide_eq_true_eq] at hl; simp; omega) ?_
      ((try dsimp only [go_sem, Nat.reduceAdd, Nat.reduceMul, Nat.reduceSub]); repeat (simp only [Nat.beq_refl]; try dsimp only [go_sem, Nat.reduceAdd, Nat.reduceMul, Nat.reduceSub]))
      refine ⟨_, ⟨⟨lostW p true m t, burnF p m t, t.sore⟩, fun h => absurd h hl, rfl⟩, ?_⟩
      rw [hl']
      (refine entO_id ?_ ?_ ?_ rfl <;> dsimp only [truthL, breedL, marchL, id, go_sem, Nat.reduceAdd, Nat.reduceMul, Nat.reduceSub] <;> simp [truthL, breedL, marchL, KFR_iff, KFR_app, KFR, KFL, KF, mtL_same, mtO, Nat.beq_refl])
    refine br_f (by have := hl; simp only [livesT, Bool.and_eq_true, decide_eq_true_eq] at this; simp; omega) ?_
    ((try dsimp only [go_sem, Nat.reduceAdd, Nat.reduceMul, Nat.reduceSub]); repeat (simp only [Nat.beq_refl]; try dsimp only [go_sem, Nat.reduceAdd, Nat.reduceMul, Nat.reduceSub]))
    have hl2 := hl
    simp only [livesT, Bool.and_eq_true, decide_eq_true_eq] at hl2
    try simp (disch := omega) only [w64_in]
    refine call (at_okI ns _ (7 * i + 6) (by omega) hns (by omega) k) ?_
    dsimp only [U32, go_sem, Nat.reduceAdd, Nat.reduceMul, Nat.reduceSub]
    refine call c_drinks ?_
    dsimp only [go_sem, Nat.reduceAdd, Nat.reduceMul, Nat.reduceSub]
    simp (disch := omega) only [w64_in]
    try simp (disch := omega) only [w64_in]
    refine call (at_okI ns _ (7 * i + 1) (by omega) hns (by omega) k) ?_
    dsimp only [U32, go_sem, Nat.reduceAdd, Nat.reduceMul, Nat.reduceSub]
    refine call c_grass ?_
    dsimp only [go_sem, Nat.reduceAdd, Nat.reduceMul, Nat.reduceSub]
    simp (disch := omega) only [w64_in]
    try simp (disch := omega) only [w64_in]
    refine call (at_okI ns _ (7 * i + 2) (by omega) hns (by omega) k) ?_
    dsimp only [U32, go_sem, Nat.reduceAdd, Nat.reduceMul, Nat.reduceSub]
    refine call c_rub ?_
    dsimp only [go_sem, Nat.reduceAdd, Nat.reduceMul, Nat.reduceSub]
    simp (disch := omega) only [w64_in]
    by_cases h0 : m.hours = 0
    · refine br_t (by simpa using h0) ?_
      ((try dsimp only [go_sem, Nat.reduceAdd, Nat.reduceMul, Nat.reduceSub]); repeat (simp only [Nat.beq_refl]; try dsimp only [go_sem, Nat.reduceAdd, Nat.reduceMul, Nat.reduceSub]))
      simp (disch := omega) only [w64_in]
      have hu : nextT p b true m t = ⟨min (100000 * b.full) (lostW p true m t + 100000 * p.drinks), min (100000 * b.fed) (burnF p m t + 100000 * p.grass), max 0 (min 1000000000 (t.sore + p.rub * m.hours * m.load) - 1000000 * b.heal)⟩ := by
        unfold nextT soreT; rw [if_pos h0]
      ((try dsimp only [go_sem, Nat.reduceAdd, Nat.reduceMul, Nat.reduceSub]); repeat (simp only [Nat.beq_refl]; try dsimp only [go_sem, Nat.reduceAdd, Nat.reduceMul, Nat.reduceSub]))
      refine ⟨_, ⟨nextT p b true m t, fun _ => rfl, rfl⟩, ?_⟩
      rw [hu, hl]
      (refine entO_id ?_ ?_ ?_ rfl <;> dsimp only [truthL, breedL, marchL, id, go_sem, Nat.reduceAdd, Nat.reduceMul, Nat.reduceSub] <;> simp [truthL, breedL, marchL, KFR_iff, KFR_app, KFR, KFL, KF, mtL_same, mtO, Nat.beq_refl])
    refine br_f (by simpa using h0) ?_
    have hu : nextT p b true m t = ⟨min (100000 * b.full) (lostW p true m t + 100000 * p.drinks), min (100000 * b.fed) (burnF p m t + 100000 * p.grass), min 1000000000 (t.sore + p.rub * m.hours * m.load)⟩ := by
      unfold nextT soreT; rw [if_neg h0]
    ((try dsimp only [go_sem, Nat.reduceAdd, Nat.reduceMul, Nat.reduceSub]); repeat (simp only [Nat.beq_refl]; try dsimp only [go_sem, Nat.reduceAdd, Nat.reduceMul, Nat.reduceSub]))
    refine ⟨_, ⟨nextT p b true m t, fun _ => rfl, rfl⟩, ?_⟩
    rw [hu, hl]
    (refine entO_id ?_ ?_ ?_ rfl <;> dsimp only [truthL, breedL, marchL, id, go_sem, Nat.reduceAdd, Nat.reduceMul, Nat.reduceSub] <;> simp [truthL, breedL, marchL, KFR_iff, KFR_app, KFR, KFL, KF, mtL_same, mtO, Nat.beq_refl])
  | false =>
    refine br_f rfl ?_
    dsimp only [go_sem, Nat.reduceAdd, Nat.reduceMul, Nat.reduceSub]
    rw [show t.water - (100000 * (p.rest + p.heat * max 0 (p.mheat - 20)) + p.toil * workF m) = lostW p false m t from rfl]
    have hlw : -10000000000000 ≤ lostW p false m t ∧ lostW p false m t ≤ 100000000000 := by simp [lostW]; omega
    try simp (disch := omega) only [w64_in]
    refine call (at_okI ns _ (7 * i + 5) (by omega) hns (by omega) k) ?_
    dsimp only [U32, go_sem, Nat.reduceAdd, Nat.reduceMul, Nat.reduceSub]
    refine call c_burn ?_
    dsimp only [go_sem, Nat.reduceAdd, Nat.reduceMul, Nat.reduceSub]
    simp (disch := omega) only [w64_in]
    rw [show t.fat - p.burn * workF m = burnF p m t from rfl]
    have hfw : -10000000000000 ≤ burnF p m t ∧ burnF p m t ≤ 100000000000 := by simp only [burnF]; omega
    repeat (refine gb ?_; dsimp only [go_sem, Nat.reduceAdd, Nat.reduceMul, Nat.reduceSub])
    by_cases hl : livesT p false m t = true
    case neg =>
      have hl' : livesT p false m t = false := by simpa using hl
      refine br_t (by simp only [livesT, Bool.and_eq_true, decide_eq_true_eq] at hl; simp; omega) ?_
      ((try dsimp only [go_sem, Nat.reduceAdd, Nat.reduceMul, Nat.reduceSub]); repeat (simp only [Nat.beq_refl]; try dsimp only [go_sem, Nat.reduceAdd, Nat.reduceMul, Nat.reduceSub]))
      refine ⟨_, ⟨⟨lostW p false m t, burnF p m t, t.sore⟩, fun h => absurd h hl, rfl⟩, ?_⟩
      rw [hl']
      (refine entO_id ?_ ?_ ?_ rfl <;> dsimp only [truthL, breedL, marchL, id, go_sem, Nat.reduceAdd, Nat.reduceMul, Nat.reduceSub] <;> simp [truthL, breedL, marchL, KFR_iff, KFR_app, KFR, KFL, KF, mtL_same, mtO, Nat.beq_refl])
    refine br_f (by have := hl; simp only [livesT, Bool.and_eq_true, decide_eq_true_eq] at this; simp; omega) ?_
    ((try dsimp only [go_sem, Nat.reduceAdd, Nat.reduceMul, Nat.reduceSub]); repeat (simp only [Nat.beq_refl]; try dsimp only [go_sem, Nat.reduceAdd, Nat.reduceMul, Nat.reduceSub]))
    have hl2 := hl
    simp only [livesT, Bool.and_eq_true, decide_eq_true_eq] at hl2
    try simp (disch := omega) only [w64_in]
    refine call (at_okI ns _ (7 * i + 6) (by omega) hns (by omega) k) ?_
    dsimp only [U32, go_sem, Nat.reduceAdd, Nat.reduceMul, Nat.reduceSub]
    refine call c_drinks ?_
    dsimp only [go_sem, Nat.reduceAdd, Nat.reduceMul, Nat.reduceSub]
    simp (disch := omega) only [w64_in]
    try simp (disch := omega) only [w64_in]
    refine call (at_okI ns _ (7 * i + 1) (by omega) hns (by omega) k) ?_
    dsimp only [U32, go_sem, Nat.reduceAdd, Nat.reduceMul, Nat.reduceSub]
    refine call c_grass ?_
    dsimp only [go_sem, Nat.reduceAdd, Nat.reduceMul, Nat.reduceSub]
    simp (disch := omega) only [w64_in]
    try simp (disch := omega) only [w64_in]
    refine call (at_okI ns _ (7 * i + 2) (by omega) hns (by omega) k) ?_
    dsimp only [U32, go_sem, Nat.reduceAdd, Nat.reduceMul, Nat.reduceSub]
    refine call c_rub ?_
    dsimp only [go_sem, Nat.reduceAdd, Nat.reduceMul, Nat.reduceSub]
    simp (disch := omega) only [w64_in]
    by_cases h0 : m.hours = 0
    · refine br_t (by simpa using h0) ?_
      ((try dsimp only [go_sem, Nat.reduceAdd, Nat.reduceMul, Nat.reduceSub]); repeat (simp only [Nat.beq_refl]; try dsimp only [go_sem, Nat.reduceAdd, Nat.reduceMul, Nat.reduceSub]))
      simp (disch := omega) only [w64_in]
      have hu : nextT p b false m t = ⟨min (100000 * b.full) (lostW p false m t + 100000 * p.drinks), min (100000 * b.fed) (burnF p m t + 100000 * p.grass), max 0 (min 1000000000 (t.sore + p.rub * m.hours * m.load) - 1000000 * b.heal)⟩ := by
        unfold nextT soreT; rw [if_pos h0]
      ((try dsimp only [go_sem, Nat.reduceAdd, Nat.reduceMul, Nat.reduceSub]); repeat (simp only [Nat.beq_refl]; try dsimp only [go_sem, Nat.reduceAdd, Nat.reduceMul, Nat.reduceSub]))
      refine ⟨_, ⟨nextT p b false m t, fun _ => rfl, rfl⟩, ?_⟩
      rw [hu, hl]
      (refine entO_id ?_ ?_ ?_ rfl <;> dsimp only [truthL, breedL, marchL, id, go_sem, Nat.reduceAdd, Nat.reduceMul, Nat.reduceSub] <;> simp [truthL, breedL, marchL, KFR_iff, KFR_app, KFR, KFL, KF, mtL_same, mtO, Nat.beq_refl])
    refine br_f (by simpa using h0) ?_
    have hu : nextT p b false m t = ⟨min (100000 * b.full) (lostW p false m t + 100000 * p.drinks), min (100000 * b.fed) (burnF p m t + 100000 * p.grass), min 1000000000 (t.sore + p.rub * m.hours * m.load)⟩ := by
      unfold nextT soreT; rw [if_neg h0]
    ((try dsimp only [go_sem, Nat.reduceAdd, Nat.reduceMul, Nat.reduceSub]); repeat (simp only [Nat.beq_refl]; try dsimp only [go_sem, Nat.reduceAdd, Nat.reduceMul, Nat.reduceSub]))
    refine ⟨_, ⟨nextT p b false m t, fun _ => rfl, rfl⟩, ?_⟩
    rw [hu, hl]
    (refine entO_id ?_ ?_ ?_ rfl <;> dsimp only [truthL, breedL, marchL, id, go_sem, Nat.reduceAdd, Nat.reduceMul, Nat.reduceSub] <;> simp [truthL, breedL, marchL, KFR_iff, KFR_app, KFR, KFL, KF, mtL_same, mtO, Nat.beq_refl])
end Go.Proofs.Ytnlfjchbhgikaaa
set_option maxRecDepth 100000
namespace Go.Proofs.Ytnlfjchbhgikaaa
open Go Go.Sx
def c7 : SC := (.seq (.reg [
  ⟨some 4, .box (.t 0) 0 25, none, []⟩,
  ⟨some 5, .box (.t 1) 0 27, none, []⟩,
  ⟨some 8, .mv (.c (.bool false)), none, []⟩])
  (.seq (.reg [
  ⟨some 24, .call 38 [], none, []⟩,
  ⟨some 9, .mv (.t 24), none, []⟩])
  (.seq (.seq (.reg [
  ⟨some 25, .mv (.t 9), none, []⟩,
  ⟨some 26, .un .not (.t 25), none, []⟩])
  (.cond (.t 26)
  (.seq (.reg [
   ⟨some 8, .mv (.c (.bool false)), none, []⟩])
   .ret)
  .skip))
  (.seq (.seq (.reg [
  ⟨some 27, .ld (.t 4) 17 true, none, []⟩,
  ⟨some 28, .ld (.t 5) 7 true, none, []⟩,
  ⟨some 29, .mv (.t 2), none, []⟩,
  ⟨some 30, .call 39 [.t 27, .t 28, .t 29], none, []⟩,
  ⟨some 31, .un .not (.t 30), none, []⟩])
  (.cond (.t 31)
  (.seq (.reg [
   ⟨some 32, .mv (.t 9), none, []⟩,
   ⟨some 8, .mv (.t 32), none, []⟩])
   .ret)
  .skip))
  (.seq (.reg [
  ⟨some 33, .ld (.t 5) 7 true, none, []⟩,
  ⟨some 34, .mv (.t 3), none, []⟩,
  ⟨some 35, .call 40 [.t 33, .t 34], none, []⟩,
  ⟨some 10, .alloc [.int .i64 0, .int .i64 0, .int .i64 0] 80, none, []⟩,
  ⟨none, .st (.t 10) (.t 35) 3, none, []⟩])
  (.seq (.seq (.reg [
  ⟨some 36, .mv (.t 2), none, []⟩,
  ⟨some 37, .len (.t 36), none, []⟩,
  ⟨some 38, .mv (.c (.int .i64 0)), none, []⟩])
  (.block 0 (.loop (.seq (.reg [
    ⟨some 39, .bin .lss (.t 38) (.t 37), none, []⟩])
    (.seq (.cond (.t 39)
    .skip
    (.exit 0))
    (.seq (.block 1 (.seq (.reg [
     ⟨some 40, .mv (.t 38), none, []⟩,
     ⟨some 41, .ixs (.t 36) (.t 38) 8, none, []⟩,
     ⟨some 42, .ld (.t 41) 8 true, none, []⟩,
     ⟨some 12, .alloc [.int .i64 0, .int .i64 0, .int .i64 0, .int .i64 0, .int .i64 0, .int .i64 0, .int .i64 0, .int .i64 0] 29, none, []⟩,
     ⟨some 11, .mv (.t 40), none, []⟩,
     ⟨none, .st (.t 12) (.t 42) 8, none, []⟩])
     (.seq (.reg [
     ⟨some 44, .ld (.t 4) 17 true, none, []⟩,
     ⟨some 45, .ld (.t 5) 7 true, none, []⟩,
     ⟨some 46, .ld (.t 12) 8 true, none, []⟩,
     ⟨some 47, .call 29 [.t 44, .t 45, .t 46], none, []⟩,
     ⟨some 43, .mv (.t 47), none, []⟩,
     ⟨some 48, .ext (.t 43) 0, none, []⟩,
     ⟨some 49, .ext (.t 43) 1, none, []⟩,
     ⟨some 50, .ext (.t 43) 2, none, []⟩,
     ⟨some 13, .alloc [.int .i64 0, .int .i64 0, .int .i64 0, .int .i64 0, .int .i64 0, .int .i64 0, .bool false] 27, none, []⟩,
     ⟨none, .st (.t 13) (.t 48) 7, none, []⟩,
     ⟨some 14, .mv (.t 49), none, []⟩,
     ⟨some 15, .mv (.t 50), none, []⟩])
     (.seq (.reg [
     ⟨some 51, .ld (.t 4) 17 true, none, []⟩,
     ⟨some 52, .addo (.t 5) 6, none, []⟩,
     ⟨some 53, .ld (.t 52) 1 false, none, []⟩,
     ⟨some 54, .ld (.t 12) 8 true, none, []⟩,
     ⟨some 55, .mv (.t 3), none, []⟩,
     ⟨some 56, .mv (.t 11), none, []⟩,
     ⟨some 57, .callm 41 [.t 10, .t 51, .t 53, .t 54, .t 55, .t 56], none, []⟩,
     ⟨some 16, .mv (.t 57), none, []⟩])
     (.seq (.seq (.reg [
     ⟨some 58, .mv (.t 15), none, []⟩,
     ⟨some 59, .bin .neq (.t 58) (.c (.int .i64 0)), none, []⟩])
     (.cond (.t 59)
     (.seq (.reg [
      ⟨some 60, .mv (.t 9), none, []⟩,
      ⟨some 61, .mv (.t 60), none, []⟩,
      ⟨some 62, .mv (.t 15), some (61, true), []⟩,
      ⟨some 63, .bin .eql (.t 62) (.c (.int .i64 13)), some (61, true), []⟩,
      ⟨some 64, .pick (.t 61) (.t 63) (.c (.bool false)), none, []⟩,
      ⟨some 65, .mv (.t 64), none, []⟩,
      ⟨some 66, .mv (.t 16), some (65, true), []⟩,
      ⟨some 67, .un .not (.t 66), some (65, true), []⟩,
      ⟨some 68, .pick (.t 65) (.t 67) (.c (.bool false)), none, []⟩,
      ⟨some 8, .mv (.t 68), none, []⟩])
      .ret)
     .skip))
     (.seq (.seq (.reg [
     ⟨some 69, .mv (.t 14), none, []⟩,
     ⟨some 70, .bin .gtr (.t 69) (.c (.int .u8 1)), none, []⟩,
     ⟨some 71, .mv (.t 70), none, []⟩,
     ⟨some 72, .mv (.t 14), some (71, false), []⟩,
     ⟨some 73, .bin .eql (.t 72) (.c (.int .u8 0)), some (71, false), []⟩,
     ⟨some 74, .mv (.t 73), some (71, false), []⟩,
     ⟨some 75, .mv (.t 16), some (74, true), []⟩,
     ⟨some 76, .un .not (.t 75), some (74, true), []⟩,
     ⟨some 77, .pick (.t 74) (.t 76) (.c (.bool false)), some (71, false), []⟩,
     ⟨some 78, .pick (.t 71) (.c (.bool true)) (.t 77), none, []⟩])
     (.cond (.t 78)
     (.seq (.reg [
      ⟨some 8, .mv (.c (.bool false)), none, []⟩])
      .ret)
     .skip))
     (.seq (.seq (.reg [
     ⟨some 79, .mv (.t 16), none, []⟩,
     ⟨some 80, .un .not (.t 79), none, []⟩])
     (.cond (.t 80)
     (.seq (.reg [
      ⟨some 81, .mv (.t 9), none, []⟩,
      ⟨some 8, .mv (.t 81), none, []⟩])
      .ret)
     .skip))
     (.seq (.seq (.reg [
     ⟨some 82, .addo (.t 13) 6, none, []⟩,
     ⟨some 83, .ld (.t 82) 1 false, none, []⟩,
     ⟨some 84, .addo (.t 5) 6, none, []⟩,
     ⟨some 85, .ld (.t 84) 1 false, none, []⟩,
     ⟨some 86, .eqs true false [0] (.t 83) (.t 85), none, []⟩,
     ⟨some 87, .mv (.t 86), none, []⟩,
     ⟨some 88, .ld (.t 4) 17 true, some (87, false), []⟩,
     ⟨some 89, .ld (.t 13) 7 true, some (87, false), []⟩,
     ⟨some 90, .call 42 [.t 88, .t 89], some (87, false), []⟩,
     ⟨some 91, .un .not (.t 90), some (87, false), []⟩,
     ⟨some 92, .pick (.t 87) (.c (.bool true)) (.t 91), none, []⟩,
     ⟨some 93, .mv (.t 92), none, []⟩,
     ⟨some 94, .ld (.t 13) 7 true, some (93, false), []⟩,
     ⟨some 95, .call 43 [.t 10, .t 94], some (93, false), []⟩,
     ⟨some 96, .un .not (.t 95), some (93, false), []⟩,
     ⟨some 97, .pick (.t 93) (.c (.bool true)) (.t 96), none, []⟩])
     (.cond (.t 97)
     (.seq (.reg [
      ⟨some 8, .mv (.c (.bool false)), none, []⟩])
      .ret)
     .skip))
     (.seq (.reg [
     ⟨some 99, .ld (.t 4) 17 true, none, []⟩,
     ⟨some 100, .ld (.t 13) 7 true, none, []⟩,
     ⟨some 101, .call 14 [.t 99, .t 100], none, []⟩,
     ⟨some 98, .mv (.t 101), none, []⟩,
     ⟨some 102, .ext (.t 98) 0, none, []⟩,
     ⟨some 103, .ext (.t 98) 1, none, []⟩,
     ⟨some 17, .alloc [.int .i64 0, .int .i64 0] 23, none, []⟩,
     ⟨none, .st (.t 17) (.t 102) 2, none, []⟩,
     ⟨some 18, .mv (.t 103), none, []⟩])
     (.seq (.reg [
     ⟨some 105, .ld (.t 4) 17 true, none, []⟩,
     ⟨some 106, .ld (.t 13) 7 true, none, []⟩,
     ⟨some 107, .call 16 [.t 105, .t 106], none, []⟩,
     ⟨some 104, .mv (.t 107), none, []⟩,
     ⟨some 108, .ext (.t 104) 0, none, []⟩,
     ⟨some 109, .ext (.t 104) 1, none, []⟩,
     ⟨some 19, .alloc [.int .i64 0, .int .i64 0] 23, none, []⟩,
     ⟨none, .st (.t 19) (.t 108) 2, none, []⟩,
     ⟨some 20, .mv (.t 109), none, []⟩])
     (.seq (.seq (.reg [
     ⟨some 110, .mv (.t 18), none, []⟩,
     ⟨some 111, .bin .neq (.t 110) (.c (.int .i64 0)), none, []⟩,
     ⟨some 112, .mv (.t 111), none, []⟩,
     ⟨some 113, .mv (.t 20), some (112, false), []⟩,
     ⟨some 114, .bin .neq (.t 113) (.c (.int .i64 0)), some (112, false), []⟩,
     ⟨some 115, .pick (.t 112) (.c (.bool true)) (.t 114), none, []⟩])
     (.cond (.t 115)
     (.seq (.reg [
      ⟨some 8, .mv (.c (.bool false)), none, []⟩])
      .ret)
     .skip))
     (.seq (.regd [0, 1, 2, 3, 4, 5, 6, 7] [
     .op ⟨some 116, .addo (.t 10) 0, none, []⟩,
     .op ⟨some 117, .ld (.t 116) 1 false, none, [0]⟩,
     .op ⟨some 118, .bin .mul (.c (.int .i64 2000)) (.t 117), none, [1]⟩,
     .op ⟨some 119, .addo (.t 10) 1, none, []⟩,
     .op ⟨some 120, .ld (.t 119) 1 false, none, [3]⟩,
     .op ⟨some 121, .bin .mul (.c (.int .i64 2000)) (.t 120), none, [4]⟩,
     .op ⟨some 21, .mv (.t 118), none, [0, 1, 2]⟩,
     .op ⟨some 22, .mv (.t 121), none, [0, 1, 2, 3, 4, 5, 6]⟩] 0 0 [
])
     (.seq (.seq (.reg [
     ⟨some 122, .addo (.t 17) 0, none, []⟩,
     ⟨some 123, .ld (.t 122) 1 false, none, []⟩,
     ⟨some 124, .bin .gtr (.t 123) (.c (.int .i64 1000)), none, []⟩,
     ⟨some 125, .mv (.t 124), none, []⟩,
     ⟨some 126, .mv (.t 21), some (125, false), []⟩,
     ⟨some 127, .addo (.t 17) 0, some (125, false), []⟩,
     ⟨some 128, .ld (.t 127) 1 false, some (125, false), []⟩,
     ⟨some 129, .bin .mul (.t 128) (.c (.int .i64 100000)), some (125, false), []⟩,
     ⟨some 130, .addo (.t 4) 0, some (125, false), []⟩,
     ⟨some 131, .ld (.t 130) 1 false, some (125, false), []⟩,
     ⟨some 132, .bin .mul (.t 129) (.t 131), some (125, false), []⟩,
     ⟨some 133, .bin .lss (.t 126) (.t 132), some (125, false), []⟩,
     ⟨some 134, .pick (.t 125) (.c (.bool true)) (.t 133), none, []⟩,
     ⟨some 135, .mv (.t 134), none, []⟩,
     ⟨some 136, .mv (.t 22), some (135, false), []⟩,
     ⟨some 137, .addo (.t 17) 0, some (135, false), []⟩,
     ⟨some 138, .ld (.t 137) 1 false, some (135, false), []⟩,
     ⟨some 139, .bin .mul (.t 138) (.c (.int .i64 100000)), some (135, false), []⟩,
     ⟨some 140, .addo (.t 4) 1, some (135, false), []⟩,
     ⟨some 141, .ld (.t 140) 1 false, some (135, false), []⟩,
     ⟨some 142, .bin .mul (.t 139) (.t 141), some (135, false), []⟩,
     ⟨some 143, .bin .lss (.t 136) (.t 142), some (135, false), []⟩,
     ⟨some 144, .pick (.t 135) (.c (.bool true)) (.t 143), none, []⟩,
     ⟨some 145, .mv (.t 144), none, []⟩,
     ⟨some 146, .addo (.t 10) 2, some (145, false), []⟩,
     ⟨some 147, .ld (.t 146) 1 false, some (145, false), []⟩,
     ⟨some 148, .bin .sub (.c (.int .i64 1000000000)) (.t 147), some (145, false), []⟩,
     ⟨some 149, .addo (.t 17) 0, some (145, false), []⟩,
     ⟨some 150, .ld (.t 149) 1 false, some (145, false), []⟩,
     ⟨some 151, .bin .mul (.c (.int .i64 1000000)) (.t 150), some (145, false), []⟩,
     ⟨some 152, .bin .lss (.t 148) (.t 151), some (145, false), []⟩,
     ⟨some 153, .pick (.t 145) (.c (.bool true)) (.t 152), none, []⟩])
     (.cond (.t 153)
     (.seq (.reg [
      ⟨some 8, .mv (.c (.bool false)), none, []⟩])
      .ret)
     .skip))
     (.seq (.seq (.reg [
     ⟨some 154, .addo (.t 17) 1, none, []⟩,
     ⟨some 155, .ld (.t 154) 1 false, none, []⟩,
     ⟨some 156, .bin .lss (.t 155) (.c (.int .i64 1000)), none, []⟩,
     ⟨some 157, .mv (.t 156), none, []⟩,
     ⟨some 158, .mv (.t 21), some (157, true), []⟩,
     ⟨some 159, .addo (.t 17) 1, some (157, true), []⟩,
     ⟨some 160, .ld (.t 159) 1 false, some (157, true), []⟩,
     ⟨some 161, .bin .mul (.t 160) (.c (.int .i64 100000)), some (157, true), []⟩,
     ⟨some 162, .addo (.t 4) 0, some (157, true), []⟩,
     ⟨some 163, .ld (.t 162) 1 false, some (157, true), []⟩,
     ⟨some 164, .bin .mul (.t 161) (.t 163), some (157, true), []⟩,
     ⟨some 165, .bin .gtr (.t 158) (.t 164), some (157, true), []⟩,
     ⟨some 166, .pick (.t 157) (.t 165) (.c (.bool false)), none, []⟩,
     ⟨some 167, .mv (.t 166), none, []⟩,
     ⟨some 168, .mv (.t 22), some (167, true), []⟩,
     ⟨some 169, .addo (.t 17) 1, some (167, true), []⟩,
     ⟨some 170, .ld (.t 169) 1 false, some (167, true), []⟩,
     ⟨some 171, .bin .mul (.t 170) (.c (.int .i64 100000)), some (167, true), []⟩,
     ⟨some 172, .addo (.t 4) 1, some (167, true), []⟩,
     ⟨some 173, .ld (.t 172) 1 false, some (167, true), []⟩,
     ⟨some 174, .bin .mul (.t 171) (.t 173), some (167, true), []⟩,
     ⟨some 175, .bin .gtr (.t 168) (.t 174), some (167, true), []⟩,
     ⟨some 176, .pick (.t 167) (.t 175) (.c (.bool false)), none, []⟩,
     ⟨some 177, .mv (.t 176), none, []⟩,
     ⟨some 178, .addo (.t 10) 2, some (177, true), []⟩,
     ⟨some 179, .ld (.t 178) 1 false, some (177, true), []⟩,
     ⟨some 180, .bin .sub (.c (.int .i64 1000000000)) (.t 179), some (177, true), []⟩,
     ⟨some 181, .addo (.t 17) 1, some (177, true), []⟩,
     ⟨some 182, .ld (.t 181) 1 false, some (177, true), []⟩,
     ⟨some 183, .bin .mul (.c (.int .i64 1000000)) (.t 182), some (177, true), []⟩,
     ⟨some 184, .bin .gtr (.t 180) (.t 183), some (177, true), []⟩,
     ⟨some 185, .pick (.t 177) (.t 184) (.c (.bool false)), none, []⟩])
     (.cond (.t 185)
     (.seq (.reg [
      ⟨some 8, .mv (.c (.bool false)), none, []⟩])
      .ret)
     .skip))
     (.seq (.regd [0, 1, 2, 3, 4, 5, 6] [
     .op ⟨some 186, .addo (.t 4) 15, none, []⟩,
     .op ⟨some 187, .ld (.t 186) 2 true, none, [0]⟩,
     .op ⟨some 188, .mv (.t 3), none, []⟩,
     .op ⟨some 189, .mv (.t 11), none, []⟩,
     .op ⟨some 190, .call 45 [.t 188, .t 189], none, [2, 3]⟩,
     .op ⟨some 191, .call 44 [.t 187, .t 190], none, [1, 4]⟩,
     .op ⟨some 23, .mv (.t 191), none, [0, 1, 2, 3, 4, 5]⟩] 0 0 [
])
     (.seq (.seq (.reg [
     ⟨some 192, .addo (.t 19) 0, none, []⟩,
     ⟨some 193, .ld (.t 192) 1 false, none, []⟩,
     ⟨some 194, .bin .mul (.t 193) (.c (.int .i64 1000)), none, []⟩,
     ⟨some 195, .mv (.t 23), none, []⟩,
     ⟨some 196, .addo (.t 17) 0, none, []⟩,
     ⟨some 197, .ld (.t 196) 1 false, none, []⟩,
     ⟨some 198, .bin .mul (.t 195) (.t 197), none, []⟩,
     ⟨some 199, .bin .gtr (.t 194) (.t 198), none, []⟩,
     ⟨some 200, .mv (.t 199), none, []⟩,
     ⟨some 201, .addo (.t 19) 1, some (200, false), []⟩,
     ⟨some 202, .ld (.t 201) 1 false, some (200, false), []⟩,
     ⟨some 203, .bin .mul (.t 202) (.c (.int .i64 1000)), some (200, false), []⟩,
     ⟨some 204, .mv (.t 23), some (200, false), []⟩,
     ⟨some 205, .addo (.t 17) 1, some (200, false), []⟩,
     ⟨some 206, .ld (.t 205) 1 false, some (200, false), []⟩,
     ⟨some 207, .bin .mul (.t 204) (.t 206), some (200, false), []⟩,
     ⟨some 208, .bin .lss (.t 203) (.t 207), some (200, false), []⟩,
     ⟨some 209, .mv (.t 208), some (200, false), []⟩,
     ⟨some 210, .addo (.t 19) 1, some (209, true), []⟩,
     ⟨some 211, .ld (.t 210) 1 false, some (209, true), []⟩,
     ⟨some 212, .bin .mul (.t 211) (.c (.int .i64 1000)), some (209, true), []⟩,
     ⟨some 213, .addo (.t 4) 15, some (209, true), []⟩,
     ⟨some 214, .addo (.t 213) 1, some (209, true), []⟩,
     ⟨some 215, .ld (.t 214) 1 false, some (209, true), []⟩,
     ⟨some 216, .addo (.t 17) 1, some (209, true), []⟩,
     ⟨some 217, .ld (.t 216) 1 false, some (209, true), []⟩,
     ⟨some 218, .bin .mul (.t 215) (.t 217), some (209, true), []⟩,
     ⟨some 219, .bin .lss (.t 212) (.t 218), some (209, true), []⟩,
     ⟨some 220, .pick (.t 209) (.t 219) (.c (.bool false)), some (200, false), []⟩,
     ⟨some 221, .pick (.t 200) (.c (.bool true)) (.t 220), none, []⟩])
     (.cond (.t 221)
     (.seq (.reg [
      ⟨some 8, .mv (.c (.bool false)), none, []⟩])
      .ret)
     .skip))
     (.reg [
     ⟨some 222, .ld (.t 13) 7 true, none, []⟩,
     ⟨none, .st (.t 5) (.t 222) 7, none, []⟩])))))))))))))))))
    (.reg [
    ⟨some 223, .bin .add (.t 38) (.c (.int .i64 1)), none, []⟩,
    ⟨some 38, .mv (.t 223), none, []⟩])))))))
  (.seq (.reg [
  ⟨some 224, .mv (.t 9), none, []⟩,
  ⟨some 8, .mv (.t 224), none, []⟩])
  .ret)))))))
def r7 : List RV := [.tmp 8]
theorem n7 : Try.f7.ntmps = 225 := by kernel_rfl
theorem b7 : bodyB Try.prog 7 = true := by kernel_rfl
theorem c7_ok : cmpC Try.prog c7 ((Try.f7.body).getD .skip) = true := by kernel_rfl
theorem r7_ok : cmpR Try.prog r7 Try.f7.results.toList = true := by kernel_rfl
theorem t7 {args : List SV} {res : SV} (ka : KFL args) (kr : KF res) (h : sx Try.prog Y0 0 c7 (st0 args 225) (retK r7 res)) (hA : Nat.ble args.length 225 = true := by rfl) : Ct Try.prog 7 args res := ct_intro Try.func7 rfl b7 c7_ok r7_ok n7 (Nat.le_of_ble_eq_true hA) ka kr h
end Go.Proofs.Ytnlfjchbhgikaaa
set_option maxRecDepth 100000
set_option maxHeartbeats 4000000
namespace Go.Azalai
theorem pin_pk {b : Breed} {m : March} (ns : List W32) (i : Nat) (hb : okBreed b = true) (hm : okMarch m = true) : Pin (pkF b m ns i) b m := by
  have hbb := Go.Proofs.Ytnlfjchbhgikaaa.breed_bd hb
  have hmm := Go.Proofs.Ytnlfjchbhgikaaa.march_bd hm
  refine ⟨?_, ?_, ?_, ?_, ?_, ?_, ?_, ?_, ?_⟩ <;> exact pick_bd (by omega) (atF_bd _ _).1
theorem tbd_of {b : Breed} {c : Camel} {t : Truth} (hb : okBreed b = true) (hc : okCamel b c = true) (h : Tin t c) : Tbd t := by
  have hbb := Go.Proofs.Ytnlfjchbhgikaaa.breed_bd hb
  simp only [okCamel, okSp, Bool.and_eq_true, decide_eq_true_eq] at hc
  obtain ⟨h1, h2, h3⟩ := h
  exact ⟨by omega, by omega, by omega⟩
theorem begin_in {b : Breed} {c : Camel} (ns : List W32) (hc : okCamel b c = true) : Tin (beginT c ns) c := by
  simp only [okCamel, okSp, Bool.and_eq_true, decide_eq_true_eq] at hc
  have p0 := pick_bd (s := c.water) (n := atF ns 0) (by omega) (atF_bd _ _).1
  have p1 := pick_bd (s := c.fat) (n := atF ns 1) (by omega) (atF_bd _ _).1
  have p2 := pick_bd (s := c.sore) (n := atF ns 2) (by omega) (atF_bd _ _).1
  exact ⟨by simp only [beginT]; omega, by simp only [beginT]; omega, by simp only [beginT]; omega⟩
theorem after_milks {b : Breed} {c : Camel} {m : March} (h : (afterF b c m).2 ≠ 2) : (afterF b c m).1.milks = c.milks := by
  unfold afterF at h ⊢
  simp only at h ⊢
  split at h
  · exact absurd rfl h
  · rename_i hn; rw [if_neg hn]
end Go.Azalai
namespace Go.Proofs.Ytnlfjchbhgikaaa
open Go Go.Sx Go.Azalai
theorem tin_B {t : Truth} {c : Camel} (h : Tin t c) : tinB t c = true := by
  obtain ⟨h1, h2, h3⟩ := h
  simp [tinB, h1, h2, h3]
theorem trueLaw_ok (b : Breed) (c : Camel) (l : List March) (ns : List W32) (hl0 : l.length ≤ 9223372036854775807) (hns : ns.length ≤ 9223372036854775807) : Ct Try.prog 7 [.agg (breedL b), .agg (camelL c), .sl false 8 (l.map marchL), .sl false 1 (ns.map w32L)] (B true) := by
  refine t7 (by simp [breedL, camelL, marchL, KFR_iff, w32L, U32, KFL, KF]) (by simp [KFL, KF]) ?_
  dsimp only [c7, r7, breedL, camelL, go_sem, Nat.reduceAdd, Nat.reduceMul, Nat.reduceSub]
  refine call alive_ok ?_
  dsimp only [go_sem, Nat.reduceAdd, Nat.reduceMul, Nat.reduceSub]
  refine br_f rfl ?_
  dsimp only [go_sem, Nat.reduceAdd, Nat.reduceMul, Nat.reduceSub]
  refine call (ready_ok b c l hl0 false) ?_
  dsimp only [go_sem, Nat.reduceAdd, Nat.reduceMul, Nat.reduceSub]
  by_cases hr : readyF b c l = true
  case neg =>
    refine br_t (by simp [hr]) ?_
    dsimp only [go_sem, Nat.reduceAdd, Nat.reduceMul, Nat.reduceSub]
  refine br_f (by simp [hr]) ?_
  dsimp only [go_sem, Nat.reduceAdd, Nat.reduceMul, Nat.reduceSub]
  obtain ⟨hb, hc, h60, hm⟩ := readyF_iff.1 hr
  have hbb := breed_bd hb
  have hall := List.all_eq_true.1 hm
  refine call (begin_ok b c ns hns hb hc false) ?_
  dsimp only [truthL, go_sem, Nat.reduceAdd, Nat.reduceMul, Nat.reduceSub]
  simp only [List.length_map]
  refine loopO (fun s : Nat × Camel × Truth => [(38, I s.1)]) (fun s => [(1, .cells (camelL s.2.1) 27), (2, .cells (truthL s.2.2) 80)]) (fun s => s.1 ≤ l.length ∧ okCamel b s.2.1 = true ∧ Tin s.2.2 s.2.1) (fun s => l.length - s.1) (0, c, beginT c ns) ⟨Nat.zero_le _, hc, begin_in ns hc⟩ ?_ ?_
  · (refine ent_id ?_ ?_ ?_ rfl rfl <;> dsimp only [breedL, camelL, marchL, truthL, w32L, U32, id, go_sem, Nat.reduceAdd, Nat.reduceMul, Nat.reduceSub] <;> simp [breedL, camelL, marchL, truthL, w32L, U32, KFR_iff, KFR_app, KFR, KFL, KF, mtL_same, mtO, Nat.beq_refl])
  rintro ⟨j, c1, t1⟩ ⟨hj, hc1, ht1⟩
  simp only at hj hc1 ht1
  dsimp only [camelL, truthL, go_sem, Nat.reduceAdd, Nat.reduceMul, Nat.reduceSub]
  by_cases hlt : j < l.length
  case neg =>
    refine br_f (by simp; omega) ?_
    dsimp only [go_sem, Nat.reduceAdd, Nat.reduceMul, Nat.reduceSub]
  refine br_t (by simpa using hlt) ?_
  dsimp only [go_sem, Nat.reduceAdd, Nat.reduceMul, Nat.reduceSub]
  refine ixs_map j hlt rfl ?_
  dsimp only [marchL, go_sem, Nat.reduceAdd, Nat.reduceMul, Nat.reduceSub]
  have hmj := hall l[j] (List.getElem_mem _)
  have hpin := pin_pk ns j hb hmj
  have htl := true_law hb hc1 hmj hpin ht1
  have e0 : errC b c1 = 0 := errC_0.2 ⟨hb, hc1⟩
  have hfate := afterF_fate b c1 l[j]
  have hlv := lives_ok b l[j] t1 ns j c1.milks hns (by omega) hb hmj (tbd_of hb hc1 ht1) false
  have hok := fun h : (afterF b c1 l[j]).2 ≠ 2 => after_ok hb hc1 hmj h
  have hmk := fun h : (afterF b c1 l[j]).2 ≠ 2 => after_milks h
  have eA : (afterF b c1 l[j]).2 ≠ 2 → afterE b c1 l[j] = ((afterF b c1 l[j]).1, (afterF b c1 l[j]).2, 0) := fun hd => by simp [afterE, e0, hmj, hd]
  have eA' : (afterF b c1 l[j]).2 = 2 → afterE b c1 l[j] = (zeroC, 0, 13) := fun hd => by simp [afterE, e0, hmj, hd]
  refine call (after1_ok b c1 l[j]) ?_
  dsimp only [camelL, U8, go_sem, Nat.reduceAdd, Nat.reduceMul, Nat.reduceSub]
  refine callmP [2] hlv rfl rfl rfl ?_ ?_ ?_
  · ((try dsimp only [truthL, go_sem, Nat.reduceAdd, Nat.reduceMul, Nat.reduceSub]); repeat (simp only [Nat.beq_refl]; try dsimp only [go_sem, Nat.reduceAdd, Nat.reduceMul, Nat.reduceSub]))
    simp [mtL, mtB, mtS, KFR_iff, KFL, KF, breedL, marchL, w32L, U32]
  · ((try dsimp only [truthL, go_sem, Nat.reduceAdd, Nat.reduceMul, Nat.reduceSub]); repeat (simp only [Nat.beq_refl]; try dsimp only [go_sem, Nat.reduceAdd, Nat.reduceMul, Nat.reduceSub]))
    simp
  rintro _ ⟨u, hu, rfl⟩
  ((try dsimp only [truthL, go_sem, Nat.reduceAdd, Nat.reduceMul, Nat.reduceSub]); repeat (simp only [Nat.beq_refl]; try dsimp only [go_sem, Nat.reduceAdd, Nat.reduceMul, Nat.reduceSub]))
  clear hlv
  generalize hPe : livesT (pkF b l[j] ns j) c1.milks l[j] t1 = L at *
  generalize nextT (pkF b l[j] ns j) b c1.milks l[j] t1 = T at *
  generalize afterE b c1 l[j] = E at *
  generalize afterF b c1 l[j] = A at *
  obtain ⟨⟨nw, nf, nsr, nm⟩, fa⟩ := A
  simp only at *
  by_cases hd : fa = 2
  · rw [eA' hd]
    refine br_t (by decide) ?_
    ((try dsimp only [go_sem, Nat.reduceAdd, Nat.reduceMul, Nat.reduceSub]); repeat (simp only [Nat.beq_refl]; try dsimp only [go_sem, Nat.reduceAdd, Nat.reduceMul, Nat.reduceSub]))
    have hL : L = false := by
      cases L with
      | false => rfl
      | true => exact absurd hd (htl.2 rfl).1
    repeat (refine gb ?_; ((try dsimp only [go_sem, Nat.reduceAdd, Nat.reduceMul, Nat.reduceSub]); repeat (simp only [Nat.beq_refl]; try dsimp only [go_sem, Nat.reduceAdd, Nat.reduceMul, Nat.reduceSub])))
    simp [hL]
  rw [eA hd]
  refine br_f (by simp) ?_
  ((try dsimp only [go_sem, Nat.reduceAdd, Nat.reduceMul, Nat.reduceSub]); repeat (simp only [Nat.beq_refl]; try dsimp only [go_sem, Nat.reduceAdd, Nat.reduceMul, Nat.reduceSub]))
  repeat (refine gb ?_; ((try dsimp only [go_sem, Nat.reduceAdd, Nat.reduceMul, Nat.reduceSub]); repeat (simp only [Nat.beq_refl]; try dsimp only [go_sem, Nat.reduceAdd, Nat.reduceMul, Nat.reduceSub])))
  cases L with
  | false =>
    have h0 : fa ≠ 0 := fun h => by have := htl.1 h; cases this
    refine br_f (by simp [h0]; omega) ?_
    ((try dsimp only [go_sem, Nat.reduceAdd, Nat.reduceMul, Nat.reduceSub]); repeat (simp only [Nat.beq_refl]; try dsimp only [go_sem, Nat.reduceAdd, Nat.reduceMul, Nat.reduceSub]))
    refine br_t rfl ?_
    ((try dsimp only [go_sem, Nat.reduceAdd, Nat.reduceMul, Nat.reduceSub]); repeat (simp only [Nat.beq_refl]; try dsimp only [go_sem, Nat.reduceAdd, Nat.reduceMul, Nat.reduceSub]))
  | true =>
    refine br_f (by simp; omega) ?_
    ((try dsimp only [go_sem, Nat.reduceAdd, Nat.reduceMul, Nat.reduceSub]); repeat (simp only [Nat.beq_refl]; try dsimp only [go_sem, Nat.reduceAdd, Nat.reduceMul, Nat.reduceSub]))
    refine br_f rfl ?_
    ((try dsimp only [go_sem, Nat.reduceAdd, Nat.reduceMul, Nat.reduceSub]); repeat (simp only [Nat.beq_refl]; try dsimp only [go_sem, Nat.reduceAdd, Nat.reduceMul, Nat.reduceSub]))
    have hT := (htl.2 rfl).2
    have hu := hu rfl
    subst hu
    have hc2 := hok hd
    have hmk := hmk hd
    subst hmk
    have e2 : errC b ⟨nw, nf, nsr, c1.milks⟩ = 0 := errC_0.2 ⟨hb, hc2⟩
    repeat (first | (refine gb ?_; ((try dsimp only [go_sem, Nat.reduceAdd, Nat.reduceMul, Nat.reduceSub]); repeat (simp only [Nat.beq_refl]; try dsimp only [go_sem, Nat.reduceAdd, Nat.reduceMul, Nat.reduceSub]))) | (refine call (camelR_ok b ⟨nw, nf, nsr, c1.milks⟩) ?_; ((try dsimp only [go_sem, Nat.reduceAdd, Nat.reduceMul, Nat.reduceSub]); repeat (simp only [Nat.beq_refl]; try dsimp only [go_sem, Nat.reduceAdd, Nat.reduceMul, Nat.reduceSub]))))
    refine callv (by simp [FLT]) (res := B (tinB u ⟨nw, nf, nsr, c1.milks⟩)) ?_ ?_
    · ((try dsimp only [go_sem, Nat.reduceAdd, Nat.reduceMul, Nat.reduceSub]); repeat (simp only [Nat.beq_refl]; try dsimp only [go_sem, Nat.reduceAdd, Nat.reduceMul, Nat.reduceSub]))
      exact in_ok b ⟨nw, nf, nsr, c1.milks⟩ u hb hc2
    ((try dsimp only [go_sem, Nat.reduceAdd, Nat.reduceMul, Nat.reduceSub]); repeat (simp only [Nat.beq_refl]; try dsimp only [go_sem, Nat.reduceAdd, Nat.reduceMul, Nat.reduceSub]))
    repeat (refine gb ?_; ((try dsimp only [go_sem, Nat.reduceAdd, Nat.reduceMul, Nat.reduceSub]); repeat (simp only [Nat.beq_refl]; try dsimp only [go_sem, Nat.reduceAdd, Nat.reduceMul, Nat.reduceSub])))
    refine br_f (by simp [hc2, tin_B hT]) ?_
    ((try dsimp only [go_sem, Nat.reduceAdd, Nat.reduceMul, Nat.reduceSub]); repeat (simp only [Nat.beq_refl]; try dsimp only [go_sem, Nat.reduceAdd, Nat.reduceMul, Nat.reduceSub]))
    refine call (fitness_ok b ⟨nw, nf, nsr, c1.milks⟩) ?_
    rw [show sres b ⟨nw, nf, nsr, c1.milks⟩ (fitF b ⟨nw, nf, nsr, c1.milks⟩) = .tup [.agg (spanL (fitF b ⟨nw, nf, nsr, c1.milks⟩)), I 0] from by simp [sres, e2]]
    ((try dsimp only [spanL, go_sem, Nat.reduceAdd, Nat.reduceMul, Nat.reduceSub]); repeat (simp only [Nat.beq_refl]; try dsimp only [go_sem, Nat.reduceAdd, Nat.reduceMul, Nat.reduceSub]))
    refine call (carries_ok b ⟨nw, nf, nsr, c1.milks⟩) ?_
    rw [show sres b ⟨nw, nf, nsr, c1.milks⟩ (carF b ⟨nw, nf, nsr, c1.milks⟩) = .tup [.agg (spanL (carF b ⟨nw, nf, nsr, c1.milks⟩)), I 0] from by simp [sres, e2]]
    ((try dsimp only [spanL, go_sem, Nat.reduceAdd, Nat.reduceMul, Nat.reduceSub]); repeat (simp only [Nat.beq_refl]; try dsimp only [go_sem, Nat.reduceAdd, Nat.reduceMul, Nat.reduceSub]))
    repeat (refine gb ?_; ((try dsimp only [go_sem, Nat.reduceAdd, Nat.reduceMul, Nat.reduceSub]); repeat (simp only [Nat.beq_refl]; try dsimp only [go_sem, Nat.reduceAdd, Nat.reduceMul, Nat.reduceSub])))
    refine br_f (by first | rfl | simp) ?_
    ((try dsimp only [go_sem, Nat.reduceAdd, Nat.reduceMul, Nat.reduceSub]); repeat (simp only [Nat.beq_refl]; try dsimp only [go_sem, Nat.reduceAdd, Nat.reduceMul, Nat.reduceSub]))
    have hft := fit_true hb hc2 hT
    have hcb := fit_bd hb hc2
    have n1 := atF_bd ns j
    have hst := pick_bd (s := b.strong) (n := atF ns j) (by omega) n1.1
    have hcar := car_true (x := pickF b.strong (atF ns j)) hb hc2 hst
    have hcar2 := car_true (x := b.strong.hi) hb hc2 ⟨by omega, by omega⟩
    have hsd := tdiv_bd (mul_bd (a := b.strong.lo) (b := (fitF b ⟨nw, nf, nsr, c1.milks⟩).lo) (A := 1000000) (B := 1000) (by omega) (by omega) (by omega) (by omega)).1 (mul_bd (a := b.strong.lo) (b := (fitF b ⟨nw, nf, nsr, c1.milks⟩).lo) (A := 1000000) (B := 1000) (by omega) (by omega) (by omega) (by omega)).2 (d := 1000) (by omega)
    have hsu := up_bd (mul_bd (a := b.strong.hi) (b := (fitF b ⟨nw, nf, nsr, c1.milks⟩).hi) (A := 1000000) (B := 1000) (by omega) (by omega) (by omega) (by omega)).1 (mul_bd (a := b.strong.hi) (b := (fitF b ⟨nw, nf, nsr, c1.milks⟩).hi) (A := 1000000) (B := 1000) (by omega) (by omega) (by omega) (by omega)).2 (d := 1000) (by omega)
    have hcl : 0 ≤ (carF b ⟨nw, nf, nsr, c1.milks⟩).lo ∧ (carF b ⟨nw, nf, nsr, c1.milks⟩).lo ≤ 1000000000 ∧ 0 ≤ (carF b ⟨nw, nf, nsr, c1.milks⟩).hi ∧ (carF b ⟨nw, nf, nsr, c1.milks⟩).hi ≤ 1000001000 := by simp only [carF]; omega
    have tb := tbd_of hb hc2 hT
    obtain ⟨tb1, tb2, tb3⟩ := tb
    clear hsd hsu
    generalize fitF b ⟨nw, nf, nsr, c1.milks⟩ = F at *
    generalize carF b ⟨nw, nf, nsr, c1.milks⟩ = G at *
    have m1 := mul_bd (a := F.lo * 100000) (b := b.full) (A := 100000000) (B := 1000000) (by omega) (by omega) (by omega) (by omega)
    have m2 := mul_bd (a := F.lo * 100000) (b := b.fed) (A := 100000000) (B := 1000000) (by omega) (by omega) (by omega) (by omega)
    have m3 := mul_bd (a := F.hi * 100000) (b := b.full) (A := 100000000) (B := 1000000) (by omega) (by omega) (by omega) (by omega)
    have m4 := mul_bd (a := F.hi * 100000) (b := b.fed) (A := 100000000) (B := 1000000) (by omega) (by omega) (by omega) (by omega)
    have m5 := mul_bd (a := pickF b.strong (atF ns j)) (b := F.lo) (A := 1000000) (B := 1000) (by omega) (by omega) (by omega) (by omega)
    have m6 := mul_bd (a := pickF b.strong (atF ns j)) (b := F.hi) (A := 1000000) (B := 1000) (by omega) (by omega) (by omega) (by omega)
    have m7 := mul_bd (a := b.strong.hi) (b := F.hi) (A := 1000000) (B := 1000) (by omega) (by omega) (by omega) (by omega)
    simp (disch := omega) only [w64_in]
    repeat (refine gb ?_; ((try dsimp only [go_sem, Nat.reduceAdd, Nat.reduceMul, Nat.reduceSub]); repeat (simp only [Nat.beq_refl]; try dsimp only [go_sem, Nat.reduceAdd, Nat.reduceMul, Nat.reduceSub])))
    simp (disch := omega) only [w64_in]
    refine br_f (by simp; omega) ?_
    ((try dsimp only [go_sem, Nat.reduceAdd, Nat.reduceMul, Nat.reduceSub]); repeat (simp only [Nat.beq_refl]; try dsimp only [go_sem, Nat.reduceAdd, Nat.reduceMul, Nat.reduceSub]))
    repeat (refine gb ?_; ((try dsimp only [go_sem, Nat.reduceAdd, Nat.reduceMul, Nat.reduceSub]); repeat (simp only [Nat.beq_refl]; try dsimp only [go_sem, Nat.reduceAdd, Nat.reduceMul, Nat.reduceSub])))
    simp (disch := omega) only [w64_in]
    obtain ⟨f1, f2, f3, f4, f5⟩ := hft
    refine br_f (by simp only [Bool.and_eq_false_iff, decide_eq_false_iff_not]; omega) ?_
    ((try dsimp only [go_sem, Nat.reduceAdd, Nat.reduceMul, Nat.reduceSub]); repeat (simp only [Nat.beq_refl]; try dsimp only [go_sem, Nat.reduceAdd, Nat.reduceMul, Nat.reduceSub]))
    refine call (at_okI ns _ j rfl hns (by omega) false) ?_
    dsimp only [U32, go_sem, Nat.reduceAdd, Nat.reduceMul, Nat.reduceSub]
    refine call (pick_ok' b.strong _ (by omega) (by omega) (by omega) n1) ?_
    ((try dsimp only [go_sem, Nat.reduceAdd, Nat.reduceMul, Nat.reduceSub]); repeat (simp only [Nat.beq_refl]; try dsimp only [go_sem, Nat.reduceAdd, Nat.reduceMul, Nat.reduceSub]))
    simp (disch := omega) only [w64_in]
    repeat (refine gb ?_; ((try dsimp only [go_sem, Nat.reduceAdd, Nat.reduceMul, Nat.reduceSub]); repeat (simp only [Nat.beq_refl]; try dsimp only [go_sem, Nat.reduceAdd, Nat.reduceMul, Nat.reduceSub])))
    simp (disch := omega) only [w64_in]
    refine br_f (by simp only [Bool.or_eq_false_iff, Bool.and_eq_false_iff, decide_eq_false_iff_not]; omega) ?_
    ((try dsimp only [go_sem, Nat.reduceAdd, Nat.reduceMul, Nat.reduceSub]); repeat (simp only [Nat.beq_refl]; try dsimp only [go_sem, Nat.reduceAdd, Nat.reduceMul, Nat.reduceSub]))
    try rw [w64_in (n := (j : Int) + 1) (by omega) (by omega)]
    refine ⟨(j + 1, ⟨nw, nf, nsr, c1.milks⟩, u), ⟨hlt, hc2, hT⟩, by simp only; omega, ?_⟩
    (refine ent_id ?_ ?_ ?_ rfl rfl <;> dsimp only [breedL, camelL, marchL, truthL, w32L, U32, id, go_sem, Nat.reduceAdd, Nat.reduceMul, Nat.reduceSub] <;> simp [breedL, camelL, marchL, truthL, w32L, U32, KFR_iff, KFR_app, KFR, KFL, KF, mtL_same, mtO, Nat.beq_refl])
end Go.Proofs.Ytnlfjchbhgikaaa
