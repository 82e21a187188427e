/- Walks and plain laws that lead to the given statement, part 7 of 8. -/
import Derived.Test.YtnlfjchbhgikaaaPF
import Derived.Laws.BytesString
import Derived.Test.YtnlfjchbhgikaaaProg
set_option maxRecDepth 100000
set_option maxHeartbeats 4000000
namespace Go.Azalai
theorem pairwise_of_srt {l : List Meet} (h : Srt Meet.day 0 l.length l) : l.Pairwise (fun x y => x.day ≤ y.day) := by
  rw [List.pairwise_iff_getElem]
  intro i j hi hj hij
  have := h i j (Nat.zero_le _) hij hj
  rwa [ky_eq Meet.day hi, ky_eq Meet.day hj] at this
/-- what the code knows is what is known -/
theorem mange_eq {n : Nat} {first : List Int} {meets l : List Meet} {wait : Span} {day : Int} (hw : 1 ≤ wait.lo ∧ wait.lo ≤ wait.hi) (hd : 0 ≤ day ∧ day ≤ 100000) (hf : ∀ i ∈ first, 0 ≤ i ∧ i < (n : Int)) (hm : ∀ m ∈ meets, okM n m)
    (hp : l.Perm meets) (hs : l.Pairwise (fun x y => x.day ≤ y.day)) (hl : ∃ s, Least n first (act false meets) wait.lo s) (hl2 : ∃ s, Least n first (act true meets) wait.hi s) {i : Nat} (hi : i < n) :
    (if gI (spreadF wait.hi day (l.filter (·.close)) (baseF first (List.replicate n 100061))) i ≤ day then 2 else if gI (spreadF wait.lo day l (baseF first (List.replicate n 100061))) i ≤ day then 1 else 0) = knF day (gI (sickF n first (act false meets) wait.lo) i) (gI (sickF n first (act true meets) wait.hi) i) := by
  obtain ⟨s1, h1⟩ := hl
  obtain ⟨s2, h2⟩ := hl2
  rw [h1.sickF, h2.sickF]
  have hml : ∀ m ∈ l, okM n m := fun m h => hm m (hp.mem_iff.1 h)
  have e1 := spread_sick (n := n) (first := first) (l := l) (w := wait.lo) (day := day) hw.1 hd.2 hf hml hs (i := (i : Int)) (by omega) (by omega)
  have e2 := spread_sick (n := n) (first := first) (l := l.filter (·.close)) (w := wait.hi) (day := day) (by omega) hd.2 hf (fun m h => hml m (List.mem_filter.1 h).1) (hs.filter _) (i := (i : Int)) (by omega) (by omega)
  have g1 := h1.sick (day := day) hd.2 (i := (i : Int)) (by omega) (by omega)
  have g2 := h2.sick (day := day) hd.2 (i := (i : Int)) (by omega) (by omega)
  have c1 : Sick first (· ∈ l) wait.lo i day ↔ Sick first (act false meets) wait.lo i day :=
    ⟨fun ⟨t, ht, h⟩ => ⟨t, ht, h.mono fun m hm => ⟨hp.mem_iff.1 hm, fun h => by cases h⟩⟩, fun ⟨t, ht, h⟩ => ⟨t, ht, h.mono fun m hm => hp.mem_iff.2 hm.1⟩⟩
  have c2 : Sick first (· ∈ l.filter (·.close)) wait.hi i day ↔ Sick first (act true meets) wait.hi i day :=
    ⟨fun ⟨t, ht, h⟩ => ⟨t, ht, h.mono fun m hm => ⟨hp.mem_iff.1 (List.mem_filter.1 hm).1, fun _ => (List.mem_filter.1 hm).2⟩⟩, fun ⟨t, ht, h⟩ => ⟨t, ht, h.mono fun m hm => List.mem_filter.2 ⟨hp.mem_iff.2 hm.1, hm.2 rfl⟩⟩⟩
  have c3 : Sick first (act true meets) wait.hi i day → Sick first (act false meets) wait.lo i day := fun ⟨t, ht, h⟩ => by
    obtain ⟨t', q1, q2⟩ := h.earlier (M' := act false meets) (w' := wait.lo) (fun m hm => ⟨hm.1, fun h => by cases h⟩) hw.2
    exact ⟨t', by omega, q2⟩
  rw [c1, ← g1] at e1
  rw [c2, ← g2] at e2
  rw [← g1, ← g2] at c3
  unfold knF
  by_cases q2 : gI s2 (i : Int) ≤ day
  · have := c3 q2
    rw [if_pos (e2.2 q2), if_neg (by omega), if_pos q2]
  · rw [if_neg (fun h => q2 (e2.1 h))]
    by_cases q1 : gI s1 (i : Int) ≤ day
    · rw [if_pos (e1.2 q1), if_neg (by omega), if_neg q2]
    · rw [if_neg (fun h => q1 (e1.1 h)), if_pos (by omega)]
end Go.Azalai
namespace Go.Proofs.Ytnlfjchbhgikaaa
open Go Go.Sx Go.Azalai
theorem mange_ok (n : Int) (first : List Int) (meets : List Meet) (wait : Span) (day : Int) (c1 c2 : Bool) (hl1 : first.length ≤ 1000) (hl2 : meets.length ≤ 1000) :
    Ct Try.prog 35 [I n, .sl c1 1 (first.map intL), .sl c2 4 (meets.map meetL), .agg (spanL wait), I day] (.tup [rowsK (meetsE n first meets wait day) (mangeK n first meets wait day), I (meetsE n first meets wait day)]) := by
  have hkr : KF (rowsK (meetsE n first meets wait day) (mangeK n first meets wait day)) := by
    unfold rowsK; split <;> simp [KF, KFR_iff, KFL, u8L, U8]
  refine t35 (by simp [meetL, KFR_iff, intL, spanL, KFL, KF]) (by simp [KF, KFL, hkr]) ?_
  dsimp only [c35, r35, spanL, go_sem, Nat.reduceAdd, Nat.reduceMul, Nat.reduceSub]
  refine call (from1 1 30 n true) ?_
  dsimp only [go_sem, Nat.reduceAdd, Nat.reduceMul, Nat.reduceSub]
  repeat (first | (refine gb ?_; dsimp only [go_sem, Nat.reduceAdd, Nat.reduceMul, Nat.reduceSub]) | (refine call (ordered1 1 60 wait true) ?_; dsimp only [go_sem, Nat.reduceAdd, Nat.reduceMul, Nat.reduceSub]) | (refine call (from1 0 100000 day true) ?_; dsimp only [go_sem, Nat.reduceAdd, Nat.reduceMul, Nat.reduceSub]))
  by_cases h1 : (inR 1 30 n && okSp 1 60 wait && inR 0 100000 day) = true
  case neg =>
    refine br_t (by revert h1; cases inR 1 30 n <;> cases okSp 1 60 wait <;> cases inR 0 100000 day <;> simp) ?_
    dsimp only [go_sem, Nat.reduceAdd, Nat.reduceMul, Nat.reduceSub]
    have hE : meetsE n first meets wait day = 2 := by
      unfold meetsE
      rw [if_pos (by revert h1; cases inR 1 30 n <;> cases okSp 1 60 wait <;> cases inR 0 100000 day <;> simp)]
    simp [rowsK, hE]
  refine br_f (by revert h1; cases inR 1 30 n <;> cases okSp 1 60 wait <;> cases inR 0 100000 day <;> simp) ?_
  dsimp only [go_sem, Nat.reduceAdd, Nat.reduceMul, Nat.reduceSub]
  repeat (refine gb ?_; dsimp only [go_sem, Nat.reduceAdd, Nat.reduceMul, Nat.reduceSub])
  simp only [List.length_map]
  by_cases h2 : first.length > 30 ∨ meets.length > 200
  · refine br_t (by simp; omega) ?_
    dsimp only [go_sem, Nat.reduceAdd, Nat.reduceMul, Nat.reduceSub]
    have hE : meetsE n first meets wait day = 4 := by
      unfold meetsE
      rw [if_neg (by simp [h1]), if_pos h2]
    simp [rowsK, hE]
  refine br_f (by simp; omega) ?_
  dsimp only [go_sem, Nat.reduceAdd, Nat.reduceMul, Nat.reduceSub]
  have hn : 1 ≤ n ∧ n ≤ 30 := by simp only [Bool.and_eq_true, inR, decide_eq_true_eq] at h1; exact h1.1.1
  have hE0 : meetsE n first meets wait day = if !(first.all (inR 0 (n - 1))) || meets.any (oddM n) then 14 else 0 := by
    unfold meetsE
    rw [if_neg (by simp [h1]), if_neg h2]
  rw [w64_in (n := n - 1) (by omega) (by omega)]
  refine call (from_any 0 (n - 1) first (by omega) c1) ?_
  dsimp only [go_sem, Nat.reduceAdd, Nat.reduceMul, Nat.reduceSub]
  repeat (refine gb ?_; dsimp only [go_sem, Nat.reduceAdd, Nat.reduceMul, Nat.reduceSub])
  refine callv (by simp [FLT]) (res := B (meets.any (oddM n))) ?_ ?_
  · dsimp only [go_sem, Nat.reduceAdd, Nat.reduceMul, Nat.reduceSub]
    exact con78 77 [.ps [I n] 0] (by simp [KFL, KF]) (oddM n) meets (fun x _ => odd_ok n hn.1 hn.2 x) (by omega)
  dsimp only [go_sem, Nat.reduceAdd, Nat.reduceMul, Nat.reduceSub]
  repeat (refine gb ?_; dsimp only [go_sem, Nat.reduceAdd, Nat.reduceMul, Nat.reduceSub])
  by_cases h3 : (!(first.all (inR 0 (n - 1))) || meets.any (oddM n)) = true
  · refine br_t (by revert h3; cases first.all (inR 0 (n - 1)) <;> cases meets.any (oddM n) <;> simp) ?_
    dsimp only [go_sem, Nat.reduceAdd, Nat.reduceMul, Nat.reduceSub]
    rw [if_pos h3] at hE0
    simp [rowsK, hE0]
  refine br_f (by revert h3; cases first.all (inR 0 (n - 1)) <;> cases meets.any (oddM n) <;> simp) ?_
  dsimp only [go_sem, Nat.reduceAdd, Nat.reduceMul, Nat.reduceSub]
  rw [if_neg h3] at hE0
  obtain ⟨_, hw, hd, hf1, hm1, hf, hm⟩ := meetsE_0 hE0
  clear h1 h2 h3
  refine callmP [] (clone_ok meets (by omega) c2) rfl rfl rfl ?_ ?_ ?_
  · ((try dsimp only [go_sem, Nat.reduceAdd, Nat.reduceMul, Nat.reduceSub]); repeat (simp only [Nat.beq_refl]; try dsimp only [go_sem, Nat.reduceAdd, Nat.reduceMul, Nat.reduceSub]))
    simp [mtL, mtB, mtS, KFR_iff, KFR, KFL, KF, meetL]
  · ((try dsimp only [go_sem, Nat.reduceAdd, Nat.reduceMul, Nat.reduceSub]); repeat (simp only [Nat.beq_refl]; try dsimp only [go_sem, Nat.reduceAdd, Nat.reduceMul, Nat.reduceSub]))
  rintro _ rfl
  ((try dsimp only [go_sem, Nat.reduceAdd, Nat.reduceMul, Nat.reduceSub]); repeat (simp only [Nat.beq_refl]; try dsimp only [go_sem, Nat.reduceAdd, Nat.reduceMul, Nat.reduceSub]))
  refine gh ent_refl ?_
  ((try dsimp only [go_sem, Nat.reduceAdd, Nat.reduceMul, Nat.reduceSub]); repeat (simp only [Nat.beq_refl]; try dsimp only [go_sem, Nat.reduceAdd, Nat.reduceMul, Nat.reduceSub]))
  refine callmP [2] (sort_ok 0 meets (by omega)) rfl rfl rfl ?_ ?_ ?_
  · ((try dsimp only [go_sem, Nat.reduceAdd, Nat.reduceMul, Nat.reduceSub]); repeat (simp only [Nat.beq_refl]; try dsimp only [go_sem, Nat.reduceAdd, Nat.reduceMul, Nat.reduceSub]))
    simp [mtL, mtB, mtS]
  · ((try dsimp only [go_sem, Nat.reduceAdd, Nat.reduceMul, Nat.reduceSub]); repeat (simp only [Nat.beq_refl]; try dsimp only [go_sem, Nat.reduceAdd, Nat.reduceMul, Nat.reduceSub]))
    simp [KFR_iff, meetL, KFL, KF]
  rintro _ ⟨l, hpl, hsl, rfl⟩
  ((try dsimp only [rowO, go_sem, Nat.reduceAdd, Nat.reduceMul, Nat.reduceSub]); repeat (simp only [Nat.beq_refl]; try dsimp only [go_sem, Nat.reduceAdd, Nat.reduceMul, Nat.reduceSub]))
  refine gh (ent_frz 13 2 0 rfl rfl rfl rfl) ?_
  obtain ⟨k, rfl⟩ : ∃ k : Nat, n = k := ⟨n.toNat, by omega⟩
  have hll := hpl.len
  have hso := pairwise_of_srt (by rw [hll]; exact hsl)
  have hml : ∀ m ∈ l, okM k m := fun m h => hm m (hpl.perm.mem_iff.1 h)
  ((try dsimp only [go_sem, Nat.reduceAdd, Nat.reduceMul, Nat.reduceSub]); repeat (simp only [Nat.beq_refl]; try dsimp only [go_sem, Nat.reduceAdd, Nat.reduceMul, Nat.reduceSub]))
  refine call (spread_ok k first l wait.lo day c1 false (by omega) (by omega) hf hml (by omega) hl1 (by omega)) ?_
  ((try dsimp only [go_sem, Nat.reduceAdd, Nat.reduceMul, Nat.reduceSub]); repeat (simp only [Nat.beq_refl]; try dsimp only [go_sem, Nat.reduceAdd, Nat.reduceMul, Nat.reduceSub]))
  refine callmP [] (clone_ok l (by omega) false) rfl rfl rfl ?_ ?_ ?_
  · ((try dsimp only [go_sem, Nat.reduceAdd, Nat.reduceMul, Nat.reduceSub]); repeat (simp only [Nat.beq_refl]; try dsimp only [go_sem, Nat.reduceAdd, Nat.reduceMul, Nat.reduceSub]))
    simp [mtL, mtB, mtS, KFR_iff, KFR, KFL, KF, meetL]
  · ((try dsimp only [go_sem, Nat.reduceAdd, Nat.reduceMul, Nat.reduceSub]); repeat (simp only [Nat.beq_refl]; try dsimp only [go_sem, Nat.reduceAdd, Nat.reduceMul, Nat.reduceSub]))
  rintro _ rfl
  ((try dsimp only [go_sem, Nat.reduceAdd, Nat.reduceMul, Nat.reduceSub]); repeat (simp only [Nat.beq_refl]; try dsimp only [go_sem, Nat.reduceAdd, Nat.reduceMul, Nat.reduceSub]))
  refine callmP [3] (delete_ok 0 l (by omega)) rfl rfl rfl ?_ ?_ ?_
  · ((try dsimp only [go_sem, Nat.reduceAdd, Nat.reduceMul, Nat.reduceSub]); repeat (simp only [Nat.beq_refl]; try dsimp only [go_sem, Nat.reduceAdd, Nat.reduceMul, Nat.reduceSub]))
    simp [mtL, mtB, mtS]
  · ((try dsimp only [go_sem, Nat.reduceAdd, Nat.reduceMul, Nat.reduceSub]); repeat (simp only [Nat.beq_refl]; try dsimp only [go_sem, Nat.reduceAdd, Nat.reduceMul, Nat.reduceSub]))
    simp [KFR_iff, meetL, KFL, KF]
  rintro _ (⟨hfl, rfl⟩ | ⟨l', hl', hle, htk, rfl⟩)
  · ((try dsimp only [go_sem, Nat.reduceAdd, Nat.reduceMul, Nat.reduceSub]); repeat (simp only [Nat.beq_refl]; try dsimp only [go_sem, Nat.reduceAdd, Nat.reduceMul, Nat.reduceSub]))
    refine gh (ent_frz 15 3 0 rfl rfl rfl rfl) ?_
    rw [show l.map meetL = (l.filter (·.close)).map meetL from by rw [hfl]]
    clear hfl
    generalize hfl0 : l.filter (·.close) = fl at *
    ((try dsimp only [go_sem, Nat.reduceAdd, Nat.reduceMul, Nat.reduceSub]); repeat (simp only [Nat.beq_refl]; try dsimp only [go_sem, Nat.reduceAdd, Nat.reduceMul, Nat.reduceSub]))
    refine call (spread_ok k first fl wait.hi day c1 false (by omega) (by omega) hf (fun m h => hml m (by rw [← hfl0] at h; exact (List.mem_filter.1 h).1)) (by omega) hl1 (by rw [← hfl0]; exact Nat.le_trans (List.length_filter_le _ _) (by omega))) ?_
    ((try dsimp only [go_sem, Nat.reduceAdd, Nat.reduceMul, Nat.reduceSub]); repeat (simp only [Nat.beq_refl]; try dsimp only [go_sem, Nat.reduceAdd, Nat.reduceMul, Nat.reduceSub]))
    have hlenE : (spreadF wait.lo day l (baseF first (List.replicate k 100061))).length = k := by rw [spreadF_len, baseF_len]; simp
    have hlenL : (spreadF wait.hi day fl (baseF first (List.replicate k 100061))).length = k := by rw [spreadF_len, baseF_len]; simp
    have heq : ∀ i : Nat, i < k → (if gI (spreadF wait.hi day fl (baseF first (List.replicate k 100061))) (i : Int) ≤ day then 2 else if gI (spreadF wait.lo day l (baseF first (List.replicate k 100061))) (i : Int) ≤ day then 1 else 0) = knF day (gI (sickF k first (act false meets) wait.lo) i) (gI (sickF k first (act true meets) wait.hi) i) := fun i hi => by
      have := mange_eq (meets := meets) (l := l) ⟨hw.1, hw.2.1⟩ hd hf hm hpl.perm hso (least_ex hf (fun m h => hm m h.1) (by omega)) (least_ex hf (fun m h => hm m h.1) (by omega)) hi
      rw [hfl0] at this
      exact this
    generalize spreadF wait.lo day l (baseF first (List.replicate k 100061)) = E at hlenE heq
    generalize spreadF wait.hi day fl (baseF first (List.replicate k 100061)) = L at hlenL heq
    refine ⟨k, rfl, by omega, ?_⟩
    ((try dsimp only [go_sem, Nat.reduceAdd, Nat.reduceMul, Nat.reduceSub]); repeat (simp only [Nat.beq_refl]; try dsimp only [go_sem, Nat.reduceAdd, Nat.reduceMul, Nat.reduceSub]))
    rw [show List.replicate k [SV.v (Value.int IntKind.u8 0)] = (List.replicate k (0 : Int)).map u8L from by simp [u8L, U8]]
    simp only [List.length_map, List.length_replicate]
    have hs0 : (List.replicate k (0 : Int)).length = k ∧ ∀ i, i < k → (List.replicate k (0 : Int))[i]? = some 0 := ⟨by simp, fun i hi => by rw [List.getElem?_replicate, if_pos hi]⟩
    generalize List.replicate k (0 : Int) = ks0 at hs0
    refine loopO (fun z : Nat × List Int => [(79, I z.1)]) (fun z => [(4, .row 0 1 (z.2.map u8L) 5)]) (fun z => z.1 ≤ k ∧ z.2.length = k ∧ ∀ i, i < k → z.2[i]? = some (if i < z.1 then (if gI L (i : Int) ≤ day then 2 else if gI E (i : Int) ≤ day then 1 else 0) else 0)) (fun z => k - z.1) (0, ks0) ⟨Nat.zero_le _, hs0.1, fun i hi => by rw [hs0.2 i hi, if_neg (Nat.not_lt_zero _)]⟩ ?_ ?_
    · (refine ent_id ?_ ?_ ?_ rfl rfl <;> dsimp only [meetL, intL, u8L, U8, id, go_sem, Nat.reduceAdd, Nat.reduceMul, Nat.reduceSub] <;> simp [meetL, intL, u8L, U8, KFR_iff, KFR_app, KFR, KFL, KF, mtL_same, mtO, Nat.beq_refl])
    rintro ⟨j, ks⟩ ⟨hj, hkl, hki⟩
    simp only at hj hkl hki
    ((try dsimp only [go_sem, Nat.reduceAdd, Nat.reduceMul, Nat.reduceSub]); repeat (simp only [Nat.beq_refl]; try dsimp only [go_sem, Nat.reduceAdd, Nat.reduceMul, Nat.reduceSub]))
    by_cases hlt : j < k
    · refine br_t (by simpa using hlt) ?_
      ((try dsimp only [go_sem, Nat.reduceAdd, Nat.reduceMul, Nat.reduceSub]); repeat (simp only [Nat.beq_refl]; try dsimp only [go_sem, Nat.reduceAdd, Nat.reduceMul, Nat.reduceSub]))
      have gL : gI L (j : Int) = L[j] := gI_eq rfl (by omega)
      have gE : gI E (j : Int) = E[j] := gI_eq rfl (by omega)
      refine ixs_map j (by omega) rfl ?_
      ((try dsimp only [intL, go_sem, Nat.reduceAdd, Nat.reduceMul, Nat.reduceSub]); repeat (simp only [Nat.beq_refl]; try dsimp only [go_sem, Nat.reduceAdd, Nat.reduceMul, Nat.reduceSub]))
      by_cases q2 : L[j] ≤ day
      · refine br_t (by simpa using q2) ?_
        have hx : (if gI L (j : Int) ≤ day then (2 : Int) else if gI E (j : Int) ≤ day then 1 else 0) = 2 := by rw [gL, if_pos q2]
        ((try dsimp only [go_sem, Nat.reduceAdd, Nat.reduceMul, Nat.reduceSub]); repeat (simp only [Nat.beq_refl]; try dsimp only [go_sem, Nat.reduceAdd, Nat.reduceMul, Nat.reduceSub]))
        refine ixrm j rfl (by first | omega | (simp; omega)) ?_
        ((try dsimp only [go_sem, Nat.reduceAdd, Nat.reduceMul, Nat.reduceSub]); repeat (simp only [Nat.beq_refl]; try dsimp only [go_sem, Nat.reduceAdd, Nat.reduceMul, Nat.reduceSub]))
        refine strm (2 : Int) (by first | omega | (simp; omega)) (by simp [u8L, U8]) (by simp [u8L, U8, splice]) ?_
        ((try dsimp only [go_sem, Nat.reduceAdd, Nat.reduceMul, Nat.reduceSub]); repeat (simp only [Nat.beq_refl]; try dsimp only [go_sem, Nat.reduceAdd, Nat.reduceMul, Nat.reduceSub]))
        rw [w64_in (n := (j : Int) + 1) (by omega) (by omega)]
        refine ⟨(j + 1, ks.set j 2), ⟨hlt, by simp [hkl], fun i hi => ?_⟩, by simp only; omega, ?_⟩
        · dsimp only
          have := hki i hi
          by_cases hij : i = j
          · subst hij; rw [List.getElem?_set_self (by omega), if_pos (Nat.lt_succ_self i), hx]
          · rw [List.getElem?_set_ne (by omega), this]
            by_cases hij2 : i < j
            · rw [if_pos hij2, if_pos (c := i < j + 1) (by omega)]
            · rw [if_neg hij2, if_neg (c := i < j + 1) (by omega)]
        generalize ks.set j 2 = ks2
        (refine ent_id ?_ ?_ ?_ rfl rfl <;> dsimp only [meetL, intL, u8L, U8, id, go_sem, Nat.reduceAdd, Nat.reduceMul, Nat.reduceSub] <;> simp [meetL, intL, u8L, U8, KFR_iff, KFR_app, KFR, KFL, KF, mtL_same, mtO, Nat.beq_refl])
      refine br_f (by simpa using q2) ?_
      ((try dsimp only [go_sem, Nat.reduceAdd, Nat.reduceMul, Nat.reduceSub]); repeat (simp only [Nat.beq_refl]; try dsimp only [go_sem, Nat.reduceAdd, Nat.reduceMul, Nat.reduceSub]))
      refine ixs_map j (by omega) rfl ?_
      ((try dsimp only [intL, go_sem, Nat.reduceAdd, Nat.reduceMul, Nat.reduceSub]); repeat (simp only [Nat.beq_refl]; try dsimp only [go_sem, Nat.reduceAdd, Nat.reduceMul, Nat.reduceSub]))
      by_cases q1 : E[j] ≤ day
      · refine br_t (by simpa using q1) ?_
        have hx : (if gI L (j : Int) ≤ day then (2 : Int) else if gI E (j : Int) ≤ day then 1 else 0) = 1 := by rw [gL, gE, if_neg q2, if_pos q1]
        ((try dsimp only [go_sem, Nat.reduceAdd, Nat.reduceMul, Nat.reduceSub]); repeat (simp only [Nat.beq_refl]; try dsimp only [go_sem, Nat.reduceAdd, Nat.reduceMul, Nat.reduceSub]))
        refine ixrm j rfl (by first | omega | (simp; omega)) ?_
        ((try dsimp only [go_sem, Nat.reduceAdd, Nat.reduceMul, Nat.reduceSub]); repeat (simp only [Nat.beq_refl]; try dsimp only [go_sem, Nat.reduceAdd, Nat.reduceMul, Nat.reduceSub]))
        refine strm (1 : Int) (by first | omega | (simp; omega)) (by simp [u8L, U8]) (by simp [u8L, U8, splice]) ?_
        ((try dsimp only [go_sem, Nat.reduceAdd, Nat.reduceMul, Nat.reduceSub]); repeat (simp only [Nat.beq_refl]; try dsimp only [go_sem, Nat.reduceAdd, Nat.reduceMul, Nat.reduceSub]))
        rw [w64_in (n := (j : Int) + 1) (by omega) (by omega)]
        refine ⟨(j + 1, ks.set j 1), ⟨hlt, by simp [hkl], fun i hi => ?_⟩, by simp only; omega, ?_⟩
        · dsimp only
          have := hki i hi
          by_cases hij : i = j
          · subst hij; rw [List.getElem?_set_self (by omega), if_pos (Nat.lt_succ_self i), hx]
          · rw [List.getElem?_set_ne (by omega), this]
            by_cases hij2 : i < j
            · rw [if_pos hij2, if_pos (c := i < j + 1) (by omega)]
            · rw [if_neg hij2, if_neg (c := i < j + 1) (by omega)]
        generalize ks.set j 1 = ks2
        (refine ent_id ?_ ?_ ?_ rfl rfl <;> dsimp only [meetL, intL, u8L, U8, id, go_sem, Nat.reduceAdd, Nat.reduceMul, Nat.reduceSub] <;> simp [meetL, intL, u8L, U8, KFR_iff, KFR_app, KFR, KFL, KF, mtL_same, mtO, Nat.beq_refl])
      refine br_f (by simpa using q1) ?_
      have hx : (if gI L (j : Int) ≤ day then (2 : Int) else if gI E (j : Int) ≤ day then 1 else 0) = 0 := by rw [gL, gE, if_neg q2, if_neg q1]
      ((try dsimp only [go_sem, Nat.reduceAdd, Nat.reduceMul, Nat.reduceSub]); repeat (simp only [Nat.beq_refl]; try dsimp only [go_sem, Nat.reduceAdd, Nat.reduceMul, Nat.reduceSub]))
      rw [w64_in (n := (j : Int) + 1) (by omega) (by omega)]
      refine ⟨(j + 1, ks), ⟨hlt, hkl, fun i hi => ?_⟩, by simp only; omega, ?_⟩
      · dsimp only
        have := hki i hi
        by_cases hij : i = j
        · subst hij; rw [this, if_neg (Nat.lt_irrefl i), if_pos (Nat.lt_succ_self i), hx]
        · rw [this]
          by_cases hij2 : i < j
          · rw [if_pos hij2, if_pos (c := i < j + 1) (by omega)]
          · rw [if_neg hij2, if_neg (c := i < j + 1) (by omega)]
      (refine ent_id ?_ ?_ ?_ rfl rfl <;> dsimp only [meetL, intL, u8L, U8, id, go_sem, Nat.reduceAdd, Nat.reduceMul, Nat.reduceSub] <;> simp [meetL, intL, u8L, U8, KFR_iff, KFR_app, KFR, KFL, KF, mtL_same, mtO, Nat.beq_refl])
    refine br_f (by simp; omega) ?_
    ((try dsimp only [go_sem, Nat.reduceAdd, Nat.reduceMul, Nat.reduceSub]); repeat (simp only [Nat.beq_refl]; try dsimp only [go_sem, Nat.reduceAdd, Nat.reduceMul, Nat.reduceSub]))
    have hjk : j = k := by omega
    subst hjk
    have hks : ks = mangeK j first meets wait day := by
      apply List.ext_getElem? 
      intro i
      unfold mangeK
      rw [Int.toNat_natCast, List.getElem?_map]
      by_cases hi : i < j
      · rw [hki i hi, if_pos hi, heq i hi, List.getElem?_range hi]; rfl
      · rw [List.getElem?_eq_none (by omega), List.getElem?_eq_none (by simp; omega)]; rfl
    rw [hks]
    simp [rowsK, hE0]
  · ((try dsimp only [go_sem, Nat.reduceAdd, Nat.reduceMul, Nat.reduceSub]); repeat (simp only [Nat.beq_refl]; try dsimp only [go_sem, Nat.reduceAdd, Nat.reduceMul, Nat.reduceSub]))
    refine gh (ent_frzp 15 3 0 _ rfl rfl rfl rfl (by simpa using hle)) ?_
    rw [← List.map_take, htk]
    clear htk hle
    generalize hfl0 : l.filter (·.close) = fl at *
    ((try dsimp only [go_sem, Nat.reduceAdd, Nat.reduceMul, Nat.reduceSub]); repeat (simp only [Nat.beq_refl]; try dsimp only [go_sem, Nat.reduceAdd, Nat.reduceMul, Nat.reduceSub]))
    refine call (spread_ok k first fl wait.hi day c1 false (by omega) (by omega) hf (fun m h => hml m (by rw [← hfl0] at h; exact (List.mem_filter.1 h).1)) (by omega) hl1 (by rw [← hfl0]; exact Nat.le_trans (List.length_filter_le _ _) (by omega))) ?_
    ((try dsimp only [go_sem, Nat.reduceAdd, Nat.reduceMul, Nat.reduceSub]); repeat (simp only [Nat.beq_refl]; try dsimp only [go_sem, Nat.reduceAdd, Nat.reduceMul, Nat.reduceSub]))
    have hlenE : (spreadF wait.lo day l (baseF first (List.replicate k 100061))).length = k := by rw [spreadF_len, baseF_len]; simp
    have hlenL : (spreadF wait.hi day fl (baseF first (List.replicate k 100061))).length = k := by rw [spreadF_len, baseF_len]; simp
    have heq : ∀ i : Nat, i < k → (if gI (spreadF wait.hi day fl (baseF first (List.replicate k 100061))) (i : Int) ≤ day then 2 else if gI (spreadF wait.lo day l (baseF first (List.replicate k 100061))) (i : Int) ≤ day then 1 else 0) = knF day (gI (sickF k first (act false meets) wait.lo) i) (gI (sickF k first (act true meets) wait.hi) i) := fun i hi => by
      have := mange_eq (meets := meets) (l := l) ⟨hw.1, hw.2.1⟩ hd hf hm hpl.perm hso (least_ex hf (fun m h => hm m h.1) (by omega)) (least_ex hf (fun m h => hm m h.1) (by omega)) hi
      rw [hfl0] at this
      exact this
    generalize spreadF wait.lo day l (baseF first (List.replicate k 100061)) = E at hlenE heq
    generalize spreadF wait.hi day fl (baseF first (List.replicate k 100061)) = L at hlenL heq
    refine ⟨k, rfl, by omega, ?_⟩
    ((try dsimp only [go_sem, Nat.reduceAdd, Nat.reduceMul, Nat.reduceSub]); repeat (simp only [Nat.beq_refl]; try dsimp only [go_sem, Nat.reduceAdd, Nat.reduceMul, Nat.reduceSub]))
    rw [show List.replicate k [SV.v (Value.int IntKind.u8 0)] = (List.replicate k (0 : Int)).map u8L from by simp [u8L, U8]]
    simp only [List.length_map, List.length_replicate]
    have hs0 : (List.replicate k (0 : Int)).length = k ∧ ∀ i, i < k → (List.replicate k (0 : Int))[i]? = some 0 := ⟨by simp, fun i hi => by rw [List.getElem?_replicate, if_pos hi]⟩
    generalize List.replicate k (0 : Int) = ks0 at hs0
    refine loopO (fun z : Nat × List Int => [(79, I z.1)]) (fun z => [(4, .row 0 1 (z.2.map u8L) 5)]) (fun z => z.1 ≤ k ∧ z.2.length = k ∧ ∀ i, i < k → z.2[i]? = some (if i < z.1 then (if gI L (i : Int) ≤ day then 2 else if gI E (i : Int) ≤ day then 1 else 0) else 0)) (fun z => k - z.1) (0, ks0) ⟨Nat.zero_le _, hs0.1, fun i hi => by rw [hs0.2 i hi, if_neg (Nat.not_lt_zero _)]⟩ ?_ ?_
    · (refine ent_id ?_ ?_ ?_ rfl rfl <;> dsimp only [meetL, intL, u8L, U8, id, go_sem, Nat.reduceAdd, Nat.reduceMul, Nat.reduceSub] <;> simp [meetL, intL, u8L, U8, KFR_iff, KFR_app, KFR, KFL, KF, mtL_same, mtO, Nat.beq_refl])
    rintro ⟨j, ks⟩ ⟨hj, hkl, hki⟩
    simp only at hj hkl hki
    ((try dsimp only [go_sem, Nat.reduceAdd, Nat.reduceMul, Nat.reduceSub]); repeat (simp only [Nat.beq_refl]; try dsimp only [go_sem, Nat.reduceAdd, Nat.reduceMul, Nat.reduceSub]))
    by_cases hlt : j < k
    · refine br_t (by simpa using hlt) ?_
      ((try dsimp only [go_sem, Nat.reduceAdd, Nat.reduceMul, Nat.reduceSub]); repeat (simp only [Nat.beq_refl]; try dsimp only [go_sem, Nat.reduceAdd, Nat.reduceMul, Nat.reduceSub]))
      have gL : gI L (j : Int) = L[j] := gI_eq rfl (by omega)
      have gE : gI E (j : Int) = E[j] := gI_eq rfl (by omega)
      refine ixs_map j (by omega) rfl ?_
      ((try dsimp only [intL, go_sem, Nat.reduceAdd, Nat.reduceMul, Nat.reduceSub]); repeat (simp only [Nat.beq_refl]; try dsimp only [go_sem, Nat.reduceAdd, Nat.reduceMul, Nat.reduceSub]))
      by_cases q2 : L[j] ≤ day
      · refine br_t (by simpa using q2) ?_
        have hx : (if gI L (j : Int) ≤ day then (2 : Int) else if gI E (j : Int) ≤ day then 1 else 0) = 2 := by rw [gL, if_pos q2]
        ((try dsimp only [go_sem, Nat.reduceAdd, Nat.reduceMul, Nat.reduceSub]); repeat (simp only [Nat.beq_refl]; try dsimp only [go_sem, Nat.reduceAdd, Nat.reduceMul, Nat.reduceSub]))
        refine ixrm j rfl (by first | omega | (simp; omega)) ?_
        ((try dsimp only [go_sem, Nat.reduceAdd, Nat.reduceMul, Nat.reduceSub]); repeat (simp only [Nat.beq_refl]; try dsimp only [go_sem, Nat.reduceAdd, Nat.reduceMul, Nat.reduceSub]))
        refine strm (2 : Int) (by first | omega | (simp; omega)) (by simp [u8L, U8]) (by simp [u8L, U8, splice]) ?_
        ((try dsimp only [go_sem, Nat.reduceAdd, Nat.reduceMul, Nat.reduceSub]); repeat (simp only [Nat.beq_refl]; try dsimp only [go_sem, Nat.reduceAdd, Nat.reduceMul, Nat.reduceSub]))
        rw [w64_in (n := (j : Int) + 1) (by omega) (by omega)]
        refine ⟨(j + 1, ks.set j 2), ⟨hlt, by simp [hkl], fun i hi => ?_⟩, by simp only; omega, ?_⟩
        · dsimp only
          have := hki i hi
          by_cases hij : i = j
          · subst hij; rw [List.getElem?_set_self (by omega), if_pos (Nat.lt_succ_self i), hx]
          · rw [List.getElem?_set_ne (by omega), this]
            by_cases hij2 : i < j
            · rw [if_pos hij2, if_pos (c := i < j + 1) (by omega)]
            · rw [if_neg hij2, if_neg (c := i < j + 1) (by omega)]
        generalize ks.set j 2 = ks2
        (refine ent_id ?_ ?_ ?_ rfl rfl <;> dsimp only [meetL, intL, u8L, U8, id, go_sem, Nat.reduceAdd, Nat.reduceMul, Nat.reduceSub] <;> simp [meetL, intL, u8L, U8, KFR_iff, KFR_app, KFR, KFL, KF, mtL_same, mtO, Nat.beq_refl])
      refine br_f (by simpa using q2) ?_
      ((try dsimp only [go_sem, Nat.reduceAdd, Nat.reduceMul, Nat.reduceSub]); repeat (simp only [Nat.beq_refl]; try dsimp only [go_sem, Nat.reduceAdd, Nat.reduceMul, Nat.reduceSub]))
      refine ixs_map j (by omega) rfl ?_
      ((try dsimp only [intL, go_sem, Nat.reduceAdd, Nat.reduceMul, Nat.reduceSub]); repeat (simp only [Nat.beq_refl]; try dsimp only [go_sem, Nat.reduceAdd, Nat.reduceMul, Nat.reduceSub]))
      by_cases q1 : E[j] ≤ day
      · refine br_t (by simpa using q1) ?_
        have hx : (if gI L (j : Int) ≤ day then (2 : Int) else if gI E (j : Int) ≤ day then 1 else 0) = 1 := by rw [gL, gE, if_neg q2, if_pos q1]
        ((try dsimp only [go_sem, Nat.reduceAdd, Nat.reduceMul, Nat.reduceSub]); repeat (simp only [Nat.beq_refl]; try dsimp only [go_sem, Nat.reduceAdd, Nat.reduceMul, Nat.reduceSub]))
        refine ixrm j rfl (by first | omega | (simp; omega)) ?_
        ((try dsimp only [go_sem, Nat.reduceAdd, Nat.reduceMul, Nat.reduceSub]); repeat (simp only [Nat.beq_refl]; try dsimp only [go_sem, Nat.reduceAdd, Nat.reduceMul, Nat.reduceSub]))
        refine strm (1 : Int) (by first | omega | (simp; omega)) (by simp [u8L, U8]) (by simp [u8L, U8, splice]) ?_
        ((try dsimp only [go_sem, Nat.reduceAdd, Nat.reduceMul, Nat.reduceSub]); repeat (simp only [Nat.beq_refl]; try dsimp only [go_sem, Nat.reduceAdd, Nat.reduceMul, Nat.reduceSub]))
        rw [w64_in (n := (j : Int) + 1) (by omega) (by omega)]
        refine ⟨(j + 1, ks.set j 1), ⟨hlt, by simp [hkl], fun i hi => ?_⟩, by simp only; omega, ?_⟩
        · dsimp only
          have := hki i hi
          by_cases hij : i = j
          · subst hij; rw [List.getElem?_set_self (by omega), if_pos (Nat.lt_succ_self i), hx]
          · rw [List.getElem?_set_ne (by omega), this]
            by_cases hij2 : i < j
            · rw [if_pos hij2, if_pos (c := i < j + 1) (by omega)]
            · rw [if_neg hij2, if_neg (c := i < j + 1) (by omega)]
        generalize ks.set j 1 = ks2
        (refine ent_id ?_ ?_ ?_ rfl rfl <;> dsimp only [meetL, intL, u8L, U8, id, go_sem, Nat.reduceAdd, Nat.reduceMul, Nat.reduceSub] <;> simp [meetL, intL, u8L, U8, KFR_iff, KFR_app, KFR, KFL, KF, mtL_same, mtO, Nat.beq_refl])
      refine br_f (by simpa using q1) ?_
      have hx : (if gI L (j : Int) ≤ day then (2 : Int) else if gI E (j : Int) ≤ day then 1 else 0) = 0 := by rw [gL, gE, if_neg q2, if_neg q1]
      ((try dsimp only [go_sem, Nat.reduceAdd, Nat.reduceMul, Nat.reduceSub]); repeat (simp only [Nat.beq_refl]; try dsimp only [go_sem, Nat.reduceAdd, Nat.reduceMul, Nat.reduceSub]))
      rw [w64_in (n := (j : Int) + 1) (by omega) (by omega)]
      refine ⟨(j + 1, ks), ⟨hlt, hkl, fun i hi => ?_⟩, by simp only; omega, ?_⟩
      · dsimp only
        have := hki i hi
        by_cases hij : i = j
        · subst hij; rw [this, if_neg (Nat.lt_irrefl i), if_pos (Nat.lt_succ_self i), hx]
        · rw [this]
          by_cases hij2 : i < j
          · rw [if_pos hij2, if_pos (c := i < j + 1) (by omega)]
          · rw [if_neg hij2, if_neg (c := i < j + 1) (by omega)]
      (refine ent_id ?_ ?_ ?_ rfl rfl <;> dsimp only [meetL, intL, u8L, U8, id, go_sem, Nat.reduceAdd, Nat.reduceMul, Nat.reduceSub] <;> simp [meetL, intL, u8L, U8, KFR_iff, KFR_app, KFR, KFL, KF, mtL_same, mtO, Nat.beq_refl])
    refine br_f (by simp; omega) ?_
    ((try dsimp only [go_sem, Nat.reduceAdd, Nat.reduceMul, Nat.reduceSub]); repeat (simp only [Nat.beq_refl]; try dsimp only [go_sem, Nat.reduceAdd, Nat.reduceMul, Nat.reduceSub]))
    have hjk : j = k := by omega
    subst hjk
    have hks : ks = mangeK j first meets wait day := by
      apply List.ext_getElem? 
      intro i
      unfold mangeK
      rw [Int.toNat_natCast, List.getElem?_map]
      by_cases hi : i < j
      · rw [hki i hi, if_pos hi, heq i hi, List.getElem?_range hi]; rfl
      · rw [List.getElem?_eq_none (by omega), List.getElem?_eq_none (by simp; omega)]; rfl
    rw [hks]
    simp [rowsK, hE0]
end Go.Proofs.Ytnlfjchbhgikaaa
namespace Go.Sx
open Go
def byS (ns : List Int) : ByteArray := ns.foldl (fun r n => r.push (UInt8.ofNat n.toNat)) ByteArray.empty
theorem RL_vals {w : World} {E : Env} {n ok : Nat → Prop} : ∀ {l ys : List Value}, RL w E n ok (l.map SV.v) ys → ys = l
  | [], ys, h => by simpa [RL] using h
  | x :: l, ys, h => by
    simp only [List.map_cons, RL] at h
    obtain ⟨y, r, rfl, h1, h2⟩ := h
    simp only [R] at h1
    rw [h1, RL_vals h2]
theorem flat1 {α β : Type} (f : α → β) : ∀ l : List α, (l.map fun n => [f n]).flatten = l.map f
  | [] => rfl
  | x :: l => by simp only [List.map_cons, List.flatten_cons, flat1 f l]; rfl
/-- a row of bytes as a string -/
theorem raw_str {P : Program} {d : Option Nat} {u src dst ty e : Nat} {ns : List Int} {s : SV} {σ : St} {r : KT} {K : RK} (hl : lk u σ.fr = s) (hng : ∀ j b u, s ≠ .gd j b u) (hs : sprV 1 s = some (ns.map fun n => [SV.v (.int .u8 n)]))
    (hsrc : P.underlying src = some (.slice e)) (hdst : P.underlying dst = some .string) (he : P.underlying e = some (.int .u8)) (hk : putK d (.v (.string (byS ns))) none σ r K) : RAW P d (.convert src dst (.tmp u)) ty σ r K := by
  intro o C E a w next Q h1 h2 h3 hS hn hq
  have hR := FR_R (hS.fr u) (fun j b u' e => hng j b u' (hl ▸ e))
  rw [hl] at hR
  obtain ⟨cs, ⟨ad, cap, y0, y1, y2, y3⟩, hcs, _⟩ := sprV_shows hR hs
  have hflat : (ns.map fun n => [SV.v (.int .u8 n)]).flatten = (ns.map (Value.int .u8)).map SV.v := by rw [flat1 (fun n => SV.v (.int .u8 n)), List.map_map]; rfl
  rw [hflat] at hcs
  have hcs := RL_vals hcs
  subst hcs
  have hrun : (convert src dst (a.tmps.getD u undef)).run P w = .ok (.string (byS ns)) w := by
    rw [y0, run_convert_bytes_string w src dst e ad _ cap hsrc he hdst]
    cases ad with
    | none =>
      have : ns = [] := by
        rcases y3 with h | ⟨b, off, h, _⟩
        · simpa using h
        · cases h
      subst this
      simp [Conv.bytesToString, Sem.run_pure, byS]
    | some ad =>
      refine run_bytesToString w ad _ cap ns ?_
      rcases y3 with h | ⟨b, off, h, hc⟩
      · have : ns = [] := by simpa using h
        subst this
        simp [loadCells, loadCellsFrom, Sem.run_pure]
      · cases h
        have hlen : (ns.map fun n => [SV.v (.int .u8 n)]).length = (ns.map (Value.int .u8)).length := by simp
        rw [hlen]
        exact run_loadCells_list w _ _ (fun j v hv => by rw [addr_add]; exact hc j v hv)
  have hx : (execOp a.eval o).run P w = .ok (.value (.string (byS ns))) w := by
    obtain ⟨dst', op', ty', pos, after, guard⟩ := o
    simp only at h2; subst h2
    simp only [Array.getD_eq_getD_getElem?] at hrun
    simp only [execOp, Act.eval]
    simp [Sem.run_bind, hrun]
  refine wpq_res hx (by simp) ?_
  show next (a.put o.dst _) w
  rcases putK_ex hk with ⟨g1, g2⟩ | ⟨t, g1, g2, g3, g4, g5⟩
  · rw [h1, g1]; exact hn _ E _ _ g2 hS
  · rw [h1, g1]
    exact hn _ E _ _ g5 (Sim_put hS (fun b hb _ => ⟨hb, rfl⟩) (fun _ _ => Ele.rfl) (Nat.le_refl _) hS.hs g2 g3 (fun j b u e => by rw [e] at g4; cases g4) (by simp only [R]))
/-- a string and a given one -/
theorem raw_seqc {P : Program} {d : Option Nat} {u t t' ty : Nat} {op : BinOp} {q : Bool} {x y : ByteArray} {σ : St} {r : KT} {K : RK} (hu : lk u σ.fr = .v (.string x)) (hq0 : (op = .eql ∧ q = (x.toList == y.toList)) ∨ (op = .neq ∧ q = !(x.toList == y.toList))) 
    (hk : putK d (.v (.bool q)) none σ r K) : RAW P d (.binOp op t (.tmp u) (.const (.string y)) t') ty σ r K := by
  intro o C E a w next Q h1 h2 h3 hS hn hq
  have hx : a.eval (.tmp u) = .string x := by
    have := hS.fr u
    rw [hu] at this
    simp only [FR, R] at this
    exact this
  have hrun : (execOp a.eval o).run P w =   .ok (.value (.bool q)) w := by
    obtain ⟨dst', op', ty', pos, after, guard⟩ := o
    simp only at h2; subst h2
    have hc : a.eval (.const (.string y)) = .string y := rfl
    simp only [execOp, hx, hc]
    rcases hq0 with ⟨rfl, rfl⟩ | ⟨rfl, rfl⟩ <;> simp [Sem.run_bind, eqGuard, binOp, Op.stringOp, Sem.run_pure]
  refine wpq_res hrun (by simp) ?_
  show next (a.put o.dst _) w
  rcases putK_ex hk with ⟨g1, g2⟩ | ⟨t, g1, g2, g3, g4, g5⟩
  · rw [h1, g1]; exact hn _ E _ _ g2 hS
  · rw [h1, g1]
    exact hn _ E _ _ g5 (Sim_put hS (fun b hb _ => ⟨hb, rfl⟩) (fun _ _ => Ele.rfl) (Nat.le_refl _) hS.hs g2 g3 (fun j b u e => by rw [e] at g4; cases g4) (by simp only [R]))
end Go.Sx
set_option maxRecDepth 100000
set_option maxHeartbeats 4000000
namespace Go.Proofs.Ytnlfjchbhgikaaa
open Go Go.Sx Go.Azalai
end Go.Proofs.Ytnlfjchbhgikaaa
set_option maxRecDepth 100000
set_option maxHeartbeats 4000000
namespace Go.Azalai
def herdE : List Meet := [⟨0, 1, 5, false⟩, ⟨1, 2, 9, true⟩]
theorem herd_early : Least 3 [0] (act false herdE) 3 [0, 8, 12] := by
  refine Sk.least ⟨rfl, fun i h0 h1 => ?_, fun i hi => ?_, fun i h0 h1 => ?_⟩ (fun m hm => ?_) (fun m hm => ?_)
  · have e1 : Inf [0] (act false herdE) 3 0 0 := .base (by simp)
    have e2 : Inf [0] (act false herdE) 3 1 (5 + 3) := .l (m := ⟨0, 1, 5, false⟩) ⟨by simp [herdE], fun h => by cases h⟩ e1 (by decide)
    have e3 : Inf [0] (act false herdE) 3 2 (9 + 3) := .l (m := ⟨1, 2, 9, true⟩) ⟨by simp [herdE], fun h => by cases h⟩ e2 (by decide)
    have : i = 0 ∨ i = 1 ∨ i = 2 := by omega
    rcases this with rfl | rfl | rfl
    · exact .inr e1
    · exact .inr e2
    · exact .inr e3
  · simp at hi; subst hi; decide
  · have : i = 0 ∨ i = 1 ∨ i = 2 := by omega
    rcases this with rfl | rfl | rfl <;> decide
  · have := hm.1; simp [herdE] at this; rcases this with rfl | rfl <;> (unfold okM; simp)
  · have := hm.1; simp [herdE] at this; rcases this with rfl | rfl <;> decide
theorem herd_late : Least 3 [0] (act true herdE) 5 [0, never, never] := by
  refine Sk.least ⟨rfl, fun i h0 h1 => ?_, fun i hi => ?_, fun i h0 h1 => ?_⟩ (fun m hm => ?_) (fun m hm => ?_)
  · have : i = 0 ∨ i = 1 ∨ i = 2 := by omega
    rcases this with rfl | rfl | rfl
    · exact .inr (.base (by simp))
    · exact .inl rfl
    · exact .inl rfl
  · simp at hi; subst hi; decide
  · have : i = 0 ∨ i = 1 ∨ i = 2 := by omega
    rcases this with rfl | rfl | rfl <;> decide
  · have := hm.1; simp [herdE] at this; rcases this with rfl | rfl <;> (unfold okM; simp)
  · obtain ⟨h1, h2⟩ := hm
    simp [herdE] at h1
    rcases h1 with rfl | rfl
    · exact absurd (h2 rfl) (by simp)
    · decide
theorem herdK (day : Int) : mangeK 3 [0] herdE ⟨3, 5⟩ day = [knF day 0 0, knF day 8 never, knF day 12 never] := by
  unfold mangeK
  rw [show (3 : Int).toNat = 3 from rfl, herd_early.sickF, herd_late.sickF]
  rfl
end Go.Azalai
namespace Go.Proofs.Ytnlfjchbhgikaaa
open Go Go.Sx Go.Azalai
theorem herd_ok : Ct Try.prog 51 [] (.sl true 4 (herdE.map meetL)) := by
  refine t51 (by simp [KFL, KF]) (by simp [herdE, meetL, KFR, KFL, KF]) ?_
  dsimp only [c51, r51, go_sem, Nat.reduceAdd, Nat.reduceMul, Nat.reduceSub]
  rfl
theorem eFit : sres breedE animalE (fitF breedE animalE) = .tup [.agg [I 800, I 1000], I 0] := by kernel_rfl
theorem eCar : sres breedE animalE (carF breedE animalE) = .tup [.agg [I 120000, I 200000], I 0] := by kernel_rfl
theorem eCost : cres breedE false dayE = .tup [.agg [I 7000, I 9500], .agg [I 800, I 1000], I 0] := by kernel_rfl
theorem eAft : afterE breedE animalE dayE = (⟨⟨50500, 63000⟩, ⟨19000, 29200⟩, ⟨100, 300⟩, false⟩, 0, 0) := by kernel_rfl
theorem eLast : tres (lastsF breedE animalE dayE) = .tup [.agg [I 6, I 10], I 0] := by kernel_rfl
theorem eMeet : meetsE 3 [0] herdE ⟨3, 5⟩ 8 = 0 := by kernel_rfl
theorem eKn : ([knF 8 0 0, knF 8 8 never, knF 8 12 never] : List Int) = [2, 1, 0] := by kernel_rfl
theorem eRow : rowsK 0 [2, 1, 0] = .sl false 1 ([2, 1, 0].map u8L) := rfl
end Go.Proofs.Ytnlfjchbhgikaaa
set_option maxRecDepth 100000
set_option maxHeartbeats 4000000
namespace Go.Proofs.Ytnlfjchbhgikaaa
open Go Go.Sx Go.Azalai
theorem alive_ok : Ct Try.prog 38 [] (B true) := by
  refine t38 (by simp [KFL, KF]) (by simp [KFL, KF]) ?_
  dsimp only [c38, r38, go_sem, Nat.reduceAdd, Nat.reduceMul, Nat.reduceSub]
  refine call breedE_ok ?_
  dsimp only [go_sem, Nat.reduceAdd, Nat.reduceMul, Nat.reduceSub]
  refine call animalE_ok ?_
  dsimp only [go_sem, Nat.reduceAdd, Nat.reduceMul, Nat.reduceSub]
  refine call (fitness_ok breedE animalE) ?_
  rw [eFit]
  dsimp only [go_sem, Nat.reduceAdd, Nat.reduceMul, Nat.reduceSub]
  refine call breedE_ok ?_
  dsimp only [go_sem, Nat.reduceAdd, Nat.reduceMul, Nat.reduceSub]
  refine call animalE_ok ?_
  dsimp only [go_sem, Nat.reduceAdd, Nat.reduceMul, Nat.reduceSub]
  refine call (carries_ok breedE animalE) ?_
  rw [eCar]
  dsimp only [go_sem, Nat.reduceAdd, Nat.reduceMul, Nat.reduceSub]
  refine call breedE_ok ?_
  dsimp only [go_sem, Nat.reduceAdd, Nat.reduceMul, Nat.reduceSub]
  refine call dayE_ok ?_
  dsimp only [go_sem, Nat.reduceAdd, Nat.reduceMul, Nat.reduceSub]
  refine call (Cost_ok breedE false dayE) ?_
  rw [eCost]
  dsimp only [go_sem, Nat.reduceAdd, Nat.reduceMul, Nat.reduceSub]
  refine call breedE_ok ?_
  dsimp only [go_sem, Nat.reduceAdd, Nat.reduceMul, Nat.reduceSub]
  refine call animalE_ok ?_
  dsimp only [go_sem, Nat.reduceAdd, Nat.reduceMul, Nat.reduceSub]
  refine call dayE_ok ?_
  dsimp only [go_sem, Nat.reduceAdd, Nat.reduceMul, Nat.reduceSub]
  refine call (after1_ok breedE animalE dayE) ?_
  rw [eAft]
  dsimp only [camelL, U8, go_sem, Nat.reduceAdd, Nat.reduceMul, Nat.reduceSub]
  refine call breedE_ok ?_
  dsimp only [go_sem, Nat.reduceAdd, Nat.reduceMul, Nat.reduceSub]
  refine call animalE_ok ?_
  dsimp only [go_sem, Nat.reduceAdd, Nat.reduceMul, Nat.reduceSub]
  refine call dayE_ok ?_
  dsimp only [go_sem, Nat.reduceAdd, Nat.reduceMul, Nat.reduceSub]
  refine call (lasts_ok breedE animalE dayE) ?_
  rw [eLast]
  dsimp only [go_sem, Nat.reduceAdd, Nat.reduceMul, Nat.reduceSub]
  refine call herd_ok ?_
  dsimp only [go_sem, Nat.reduceAdd, Nat.reduceMul, Nat.reduceSub]
  refine call (span_ok 3 5) ?_
  dsimp only [go_sem, Nat.reduceAdd, Nat.reduceMul, Nat.reduceSub]
  refine call (mange_ok 3 [0] herdE ⟨3, 5⟩ 8 true true (by decide) (by decide)) ?_
  rw [herdK, eMeet, eKn, eRow]
  dsimp only [go_sem, Nat.reduceAdd, Nat.reduceMul, Nat.reduceSub]
  repeat (first | (refine .inl ⟨rfl, ?_⟩; dsimp only [go_sem, Nat.reduceAdd, Nat.reduceMul, Nat.reduceSub]) | (refine call (span_ok _ _) ?_; dsimp only [go_sem, Nat.reduceAdd, Nat.reduceMul, Nat.reduceSub]))
  refine raw_str (e := 5) (ns := [2, 1, 0]) rfl (fun _ _ _ e => by cases e) rfl (by kernel_rfl) (by kernel_rfl) (by kernel_rfl) ?_
  dsimp only [go_sem, Nat.reduceAdd, Nat.reduceMul, Nat.reduceSub]
  refine .inl ⟨rfl, ?_⟩
  dsimp only [go_sem, Nat.reduceAdd, Nat.reduceMul, Nat.reduceSub]
  refine raw_seqc (q := true) rfl (.inl ⟨rfl, by decide +kernel⟩) ?_
  dsimp only [go_sem, Nat.reduceAdd, Nat.reduceMul, Nat.reduceSub]
  simp
end Go.Proofs.Ytnlfjchbhgikaaa
set_option maxRecDepth 100000
namespace Go.Proofs.Ytnlfjchbhgikaaa
open Go Go.Sx
def c11 : SC := (.seq (.reg [
  ⟨some 8, .box (.t 3) 0 23, none, []⟩,
  ⟨some 10, .mv (.c (.bool false)), none, []⟩])
  (.seq (.reg [
  ⟨some 23, .call 38 [], none, []⟩,
  ⟨some 11, .mv (.t 23), none, []⟩])
  (.seq (.seq (.reg [
  ⟨some 24, .mv (.t 11), none, []⟩,
  ⟨some 25, .un .not (.t 24), none, []⟩])
  (.cond (.t 25)
  (.seq (.reg [
   ⟨some 10, .mv (.c (.bool false)), none, []⟩])
   .ret)
  .skip))
  (.seq (.seq (.reg [
  ⟨some 26, .mv (.t 0), none, []⟩,
  ⟨some 27, .mv (.t 1), none, []⟩,
  ⟨some 28, .mv (.t 2), none, []⟩,
  ⟨some 29, .ld (.t 8) 2 true, none, []⟩,
  ⟨some 30, .mv (.t 4), none, []⟩,
  ⟨some 31, .call 49 [.t 26, .t 27, .t 28, .t 29, .t 30], none, []⟩,
  ⟨some 32, .bin .neq (.t 31) (.c (.int .i64 0)), none, []⟩])
  (.cond (.t 32)
  (.seq (.reg [
   ⟨some 33, .mv (.t 11), none, []⟩,
   ⟨some 10, .mv (.t 33), none, []⟩])
   .ret)
  .skip))
  (.seq (.reg [
  ⟨some 12, .mv (.c (.slice none 0 0)), none, []⟩,
  ⟨some 13, .mv (.c (.slice none 0 0)), none, []⟩])
  (.seq (.seq (.reg [
  ⟨some 34, .mv (.t 2), none, []⟩,
  ⟨some 35, .len (.t 34), none, []⟩,
  ⟨some 36, .mv (.c (.int .i64 0)), none, []⟩])
  (.block 0 (.loop (.seq (.reg [
    ⟨some 37, .bin .lss (.t 36) (.t 35), none, []⟩])
    (.seq (.cond (.t 37)
    .skip
    (.exit 0))
    (.seq (.block 1 (.seq (.reg [
     ⟨some 38, .ixs (.t 34) (.t 36) 4, none, []⟩,
     ⟨some 39, .ld (.t 38) 4 true, none, []⟩,
     ⟨some 15, .alloc [.int .i64 0, .int .i64 0, .int .i64 0, .bool false] 73, none, []⟩,
     ⟨none, .st (.t 15) (.t 39) 4, none, []⟩])
     (.seq (.seq (.reg [
     ⟨some 40, .addo (.t 15) 3, none, []⟩,
     ⟨some 41, .ld (.t 40) 1 false, none, []⟩])
     (.cond (.t 41)
     (.reg [
      ⟨some 42, .mv (.t 13), none, []⟩,
      ⟨some 43, .ld (.t 15) 4 true, none, []⟩,
      ⟨some 44, .bsl 4 73 [.t 43], none, []⟩,
      ⟨some 45, .appm 4 32 73 (.t 42) (.t 44), none, []⟩,
      ⟨some 13, .mv (.t 45), none, []⟩])
     .skip))
     (.seq (.reg [
     ⟨some 46, .addo (.t 15) 3, none, []⟩,
     ⟨none, .st (.t 46) (.c (.bool true)) 1, none, []⟩])
     (.reg [
     ⟨some 47, .mv (.t 12), none, []⟩,
     ⟨some 48, .ld (.t 15) 4 true, none, []⟩,
     ⟨some 49, .bsl 4 73 [.t 48], none, []⟩,
     ⟨some 50, .appm 4 32 73 (.t 47) (.t 49), none, []⟩,
     ⟨some 12, .mv (.t 50), none, []⟩])))))
    (.reg [
    ⟨some 51, .bin .add (.t 36) (.c (.int .i64 1)), none, []⟩,
    ⟨some 36, .mv (.t 51), none, []⟩])))))))
  (.gh (.seq (.reg [
  ⟨some 53, .mv (.t 0), none, []⟩,
  ⟨some 54, .mv (.t 1), none, []⟩,
  ⟨some 55, .mv (.t 2), none, []⟩,
  ⟨some 56, .ld (.t 8) 2 true, none, []⟩,
  ⟨some 57, .mv (.t 4), none, []⟩,
  ⟨some 58, .call 35 [.t 53, .t 54, .t 55, .t 56, .t 57], none, []⟩,
  ⟨some 52, .mv (.t 58), none, []⟩,
  ⟨some 59, .ext (.t 52) 0, none, []⟩,
  ⟨some 60, .ext (.t 52) 1, none, []⟩,
  ⟨some 16, .mv (.t 59), none, []⟩,
  ⟨some 17, .mv (.t 60), none, []⟩])
  (.seq (.reg [
  ⟨some 62, .mv (.t 0), none, []⟩,
  ⟨some 63, .mv (.t 1), none, []⟩,
  ⟨some 64, .mv (.t 12), none, []⟩,
  ⟨some 65, .addo (.t 8) 0, none, []⟩,
  ⟨some 66, .ld (.t 65) 1 false, none, []⟩,
  ⟨some 67, .addo (.t 8) 0, none, []⟩,
  ⟨some 68, .ld (.t 67) 1 false, none, []⟩,
  ⟨some 69, .call 48 [.t 66, .t 68], none, []⟩,
  ⟨some 70, .mv (.t 4), none, []⟩,
  ⟨some 71, .call 35 [.t 62, .t 63, .t 64, .t 69, .t 70], none, []⟩,
  ⟨some 61, .mv (.t 71), none, []⟩,
  ⟨some 72, .ext (.t 61) 0, none, []⟩,
  ⟨some 73, .ext (.t 61) 1, none, []⟩,
  ⟨some 18, .mv (.t 72), none, []⟩,
  ⟨some 19, .mv (.t 73), none, []⟩])
  (.seq (.reg [
  ⟨some 75, .mv (.t 0), none, []⟩,
  ⟨some 76, .mv (.t 1), none, []⟩,
  ⟨some 77, .mv (.t 13), none, []⟩,
  ⟨some 78, .addo (.t 8) 1, none, []⟩,
  ⟨some 79, .ld (.t 78) 1 false, none, []⟩,
  ⟨some 80, .addo (.t 8) 1, none, []⟩,
  ⟨some 81, .ld (.t 80) 1 false, none, []⟩,
  ⟨some 82, .call 48 [.t 79, .t 81], none, []⟩,
  ⟨some 83, .mv (.t 4), none, []⟩,
  ⟨some 84, .call 35 [.t 75, .t 76, .t 77, .t 82, .t 83], none, []⟩,
  ⟨some 74, .mv (.t 84), none, []⟩,
  ⟨some 85, .ext (.t 74) 0, none, []⟩,
  ⟨some 86, .ext (.t 74) 1, none, []⟩,
  ⟨some 20, .mv (.t 85), none, []⟩,
  ⟨some 21, .mv (.t 86), none, []⟩])
  (.seq (.seq (.reg [
  ⟨some 87, .mv (.t 17), none, []⟩,
  ⟨some 88, .bin .neq (.t 87) (.c (.int .i64 0)), none, []⟩,
  ⟨some 89, .mv (.t 88), none, []⟩,
  ⟨some 90, .mv (.t 19), some (89, false), []⟩,
  ⟨some 91, .bin .neq (.t 90) (.c (.int .i64 0)), some (89, false), []⟩,
  ⟨some 92, .pick (.t 89) (.c (.bool true)) (.t 91), none, []⟩,
  ⟨some 93, .mv (.t 92), none, []⟩,
  ⟨some 94, .mv (.t 21), some (93, false), []⟩,
  ⟨some 95, .bin .neq (.t 94) (.c (.int .i64 0)), some (93, false), []⟩,
  ⟨some 96, .pick (.t 93) (.c (.bool true)) (.t 95), none, []⟩,
  ⟨some 97, .mv (.t 96), none, []⟩,
  ⟨some 98, .mv (.t 16), some (97, false), []⟩,
  ⟨some 99, .len (.t 98), some (97, false), []⟩,
  ⟨some 100, .mv (.t 0), some (97, false), []⟩,
  ⟨some 101, .bin .neq (.t 99) (.t 100), some (97, false), []⟩,
  ⟨some 102, .pick (.t 97) (.c (.bool true)) (.t 101), none, []⟩,
  ⟨some 103, .mv (.t 102), none, []⟩,
  ⟨some 104, .mv (.t 18), some (103, false), []⟩,
  ⟨some 105, .len (.t 104), some (103, false), []⟩,
  ⟨some 106, .mv (.t 0), some (103, false), []⟩,
  ⟨some 107, .bin .neq (.t 105) (.t 106), some (103, false), []⟩,
  ⟨some 108, .pick (.t 103) (.c (.bool true)) (.t 107), none, []⟩,
  ⟨some 109, .mv (.t 108), none, []⟩,
  ⟨some 110, .mv (.t 20), some (109, false), []⟩,
  ⟨some 111, .len (.t 110), some (109, false), []⟩,
  ⟨some 112, .mv (.t 0), some (109, false), []⟩,
  ⟨some 113, .bin .neq (.t 111) (.t 112), some (109, false), []⟩,
  ⟨some 114, .pick (.t 109) (.c (.bool true)) (.t 113), none, []⟩])
  (.cond (.t 114)
  (.seq (.reg [
   ⟨some 10, .mv (.c (.bool false)), none, []⟩])
   .ret)
  .skip))
  (.seq (.seq (.reg [
  ⟨some 115, .mv (.t 16), none, []⟩,
  ⟨some 116, .len (.t 115), none, []⟩,
  ⟨some 117, .mv (.c (.int .i64 0)), none, []⟩])
  (.block 2 (.loop (.seq (.reg [
    ⟨some 118, .bin .lss (.t 117) (.t 116), none, []⟩])
    (.seq (.cond (.t 118)
    .skip
    (.exit 2))
    (.seq (.block 3 (.seq (.reg [
     ⟨some 119, .mv (.t 117), none, []⟩,
     ⟨some 22, .mv (.t 119), none, []⟩])
     (.seq (.regd [0, 1, 2, 3, 4, 5, 6, 7, 8, 9, 10, 11, 12, 13, 14, 15, 16, 17, 18, 19, 20, 21, 22, 23, 24, 25, 26, 27, 28, 29, 30, 31, 32, 33, 34, 35, 36, 37] [
     .op ⟨some 120, .mv (.t 16), none, []⟩,
     .op ⟨some 121, .mv (.t 22), none, []⟩,
     .op ⟨some 122, .ixs (.t 120) (.t 121) 1, none, [0, 1]⟩,
     .op ⟨some 123, .ld (.t 122) 1 false, none, [2]⟩,
     .op ⟨some 124, .bin .neq (.t 123) (.c (.int .u8 0)), none, [3]⟩,
     .op ⟨some 125, .mv (.t 18), none, []⟩,
     .op ⟨some 126, .mv (.t 22), none, []⟩,
     .op ⟨some 127, .ixs (.t 125) (.t 126) 1, none, [5, 6]⟩,
     .op ⟨some 128, .ld (.t 127) 1 false, none, [7]⟩,
     .op ⟨some 129, .bin .eql (.t 128) (.c (.int .u8 2)), none, [8]⟩,
     .op ⟨some 130, .eqs true false [0] (.t 124) (.t 129), none, [4, 9]⟩,
     .op ⟨some 131, .mv (.t 130), none, [10]⟩,
     .op ⟨some 132, .mv (.t 16), some (131, false), [11]⟩,
     .op ⟨some 133, .mv (.t 22), some (131, false), [11]⟩,
     .op ⟨some 134, .ixs (.t 132) (.t 133) 1, some (131, false), [11, 12, 13]⟩,
     .op ⟨some 135, .ld (.t 134) 1 false, some (131, false), [11, 14]⟩,
     .op ⟨some 136, .bin .eql (.t 135) (.c (.int .u8 2)), some (131, false), [11, 15]⟩,
     .op ⟨some 137, .mv (.t 20), some (131, false), [11]⟩,
     .op ⟨some 138, .mv (.t 22), some (131, false), [11]⟩,
     .op ⟨some 139, .ixs (.t 137) (.t 138) 1, some (131, false), [11, 17, 18]⟩,
     .op ⟨some 140, .ld (.t 139) 1 false, some (131, false), [11, 19]⟩,
     .op ⟨some 141, .bin .eql (.t 140) (.c (.int .u8 2)), some (131, false), [11, 20]⟩,
     .op ⟨some 142, .eqs true false [0] (.t 136) (.t 141), some (131, false), [11, 16, 21]⟩,
     .op ⟨some 143, .pick (.t 131) (.c (.bool true)) (.t 142), none, [11, 22]⟩,
     .op ⟨some 144, .mv (.t 143), none, [11, 23]⟩,
     .op ⟨some 145, .mv (.t 18), some (144, false), [24]⟩,
     .op ⟨some 146, .mv (.t 22), some (144, false), [24]⟩,
     .op ⟨some 147, .ixs (.t 145) (.t 146) 1, some (144, false), [24, 25, 26]⟩,
     .op ⟨some 148, .ld (.t 147) 1 false, some (144, false), [24, 27]⟩,
     .op ⟨some 149, .bin .eql (.t 148) (.c (.int .u8 1)), some (144, false), [24, 28]⟩,
     .op ⟨some 150, .pick (.t 144) (.c (.bool true)) (.t 149), none, [24, 29]⟩,
     .op ⟨some 151, .mv (.t 150), none, [24, 30]⟩,
     .op ⟨some 152, .mv (.t 20), some (151, false), [31]⟩,
     .op ⟨some 153, .mv (.t 22), some (151, false), [31]⟩,
     .op ⟨some 154, .ixs (.t 152) (.t 153) 1, some (151, false), [31, 32, 33]⟩,
     .op ⟨some 155, .ld (.t 154) 1 false, some (151, false), [31, 34]⟩,
     .op ⟨some 156, .bin .eql (.t 155) (.c (.int .u8 1)), some (151, false), [31, 35]⟩,
     .op ⟨some 157, .pick (.t 151) (.c (.bool true)) (.t 156), none, [31, 36]⟩] 0 0 [
])
     (.cond (.t 157)
     (.seq (.reg [
      ⟨some 10, .mv (.c (.bool false)), none, []⟩])
      .ret)
     .skip))))
    (.reg [
    ⟨some 158, .bin .add (.t 117) (.c (.int .i64 1)), none, []⟩,
    ⟨some 117, .mv (.t 158), none, []⟩])))))))
  (.gh (.seq (.reg [
  ⟨some 159, .mv (.t 11), none, []⟩,
  ⟨some 10, .mv (.t 159), none, []⟩])
  .ret))))))))))))))
def r11 : List RV := [.tmp 10]
theorem n11 : Try.f11.ntmps = 160 := by kernel_rfl
theorem b11 : bodyB Try.prog 11 = true := by kernel_rfl
theorem c11_ok : cmpC Try.prog c11 ((Try.f11.body).getD .skip) = true := by kernel_rfl
theorem r11_ok : cmpR Try.prog r11 Try.f11.results.toList = true := by kernel_rfl
theorem t11 {args : List SV} {res : SV} (ka : KFL args) (kr : KF res) (h : sx Try.prog Y0 0 c11 (st0 args 160) (retK r11 res)) (hA : Nat.ble args.length 160 = true := by rfl) : Ct Try.prog 11 args res := ct_intro Try.func11 rfl b11 c11_ok r11_ok n11 (Nat.le_of_ble_eq_true hA) ka kr h
end Go.Proofs.Ytnlfjchbhgikaaa
set_option maxRecDepth 100000
set_option maxHeartbeats 4000000
namespace Go.Azalai
theorem kn_sick {n : Nat} {first : List Int} {meets : List Meet} {wait : Span} {day : Int} (h : meetsE n first meets wait day = 0) {i : Nat} (hi : i < n) :
    (mangeK n first meets wait day)[i]? = some (knF day (gI (sickF n first (act false meets) wait.lo) i) (gI (sickF n first (act true meets) wait.hi) i)) ∧
      (gI (sickF n first (act false meets) wait.lo) i ≤ day ↔ Sick first (act false meets) wait.lo i day) ∧ (gI (sickF n first (act true meets) wait.hi) i ≤ day ↔ Sick first (act true meets) wait.hi i day) := by
  obtain ⟨hn, hw, hd, hf1, hm1, hf, hm⟩ := meetsE_0 h
  obtain ⟨s1, hs1⟩ := least_ex (M := act false meets) (w := wait.lo) hf (fun m h => hm m h.1) (by omega)
  obtain ⟨s2, hs2⟩ := least_ex (M := act true meets) (w := wait.hi) hf (fun m h => hm m h.1) (by omega)
  refine ⟨?_, ?_, ?_⟩
  · unfold mangeK
    rw [Int.toNat_natCast, List.getElem?_map, List.getElem?_range hi]; rfl
  · rw [hs1.sickF]; exact hs1.sick hd.2 (by omega) (by omega)
  · rw [hs2.sickF]; exact hs2.sick hd.2 (by omega) (by omega)
theorem mangeK_len (n : Nat) (first : List Int) (meets : List Meet) (wait : Span) (day : Int) : (mangeK n first meets wait day).length = n := by unfold mangeK; simp
theorem Inf.congr {first : List Int} {M M' : Meet → Prop} {w i t : Int} (h : ∀ m, M m → ∃ m', M' m' ∧ m'.a = m.a ∧ m'.b = m.b ∧ m'.day = m.day) (hi : Inf first M w i t) : Inf first M' w i t := by
  induction hi with
  | base hb => exact .base hb
  | l hm _ ht ih =>
    obtain ⟨m', g1, g2, g3, g4⟩ := h _ hm
    rw [← g3, ← g4]; exact .l g1 (by rw [g2]; exact ih) (by rw [g4]; exact ht)
  | r hm _ ht ih =>
    obtain ⟨m', g1, g2, g3, g4⟩ := h _ hm
    rw [← g2, ← g4]; exact .r g1 (by rw [g3]; exact ih) (by rw [g4]; exact ht)
theorem sick_congr {first : List Int} {M M' : Meet → Prop} {w i day : Int} (h : ∀ m, M m → ∃ m', M' m' ∧ m'.a = m.a ∧ m'.b = m.b ∧ m'.day = m.day) (h' : ∀ m, M' m → ∃ m', M m' ∧ m'.a = m.a ∧ m'.b = m.b ∧ m'.day = m.day) : Sick first M w i day ↔ Sick first M' w i day :=
  ⟨fun ⟨t, ht, hi⟩ => ⟨t, ht, hi.congr h⟩, fun ⟨t, ht, hi⟩ => ⟨t, ht, hi.congr h'⟩⟩
def shut (m : Meet) : Meet := ⟨m.a, m.b, m.day, true⟩
/-- what is open has both ends -/
theorem open_law {n : Nat} {first : List Int} {meets : List Meet} {wait : Span} {day : Int} (h : meetsE n first meets wait day = 0) {i : Nat} (hi : i < n) :
    meetsE n first (meets.map shut) ⟨wait.lo, wait.lo⟩ day = 0 ∧ meetsE n first (meets.filter (·.close)) ⟨wait.hi, wait.hi⟩ day = 0 := by
  obtain ⟨hn, hw, hd, hf1, hm1, hf, hm⟩ := meetsE_0 h
  have key : ∀ (l : List Meet) (x : Int), (1 ≤ x ∧ x ≤ 60) → l.length ≤ 200 → (∀ m ∈ l, okM n m) → meetsE n first l ⟨x, x⟩ day = 0 := fun l x hx hl hml => by
    unfold meetsE
    rw [if_neg (by simp [inR, okSp]; omega), if_neg (by omega), if_neg]
    simp only [Bool.or_eq_true, Bool.not_eq_true', not_or, Bool.not_eq_false, Bool.not_eq_true]
    refine ⟨List.all_eq_true.2 fun i hi => ?_, List.any_eq_false.2 fun m hm' => ?_⟩
    · have := hf i hi; simp [inR]; omega
    · have := hml m hm'; unfold okM at this; simp [oddM, inR]; omega
  refine ⟨key _ _ (by omega) (by simpa using hm1) (fun m h => ?_), key _ _ (by omega) (Nat.le_trans (List.length_filter_le _ _) hm1) (fun m h => hm m (List.mem_filter.1 h).1)⟩
  obtain ⟨m', g1, rfl⟩ := List.mem_map.1 h
  exact hm m' g1
theorem open_sick {first : List Int} {meets : List Meet} {w i day : Int} :
    (Sick first (act false (meets.map shut)) w i day ↔ Sick first (act false meets) w i day) ∧ (Sick first (act true (meets.map shut)) w i day ↔ Sick first (act false meets) w i day) ∧
      (Sick first (act false (meets.filter (·.close))) w i day ↔ Sick first (act true meets) w i day) ∧ (Sick first (act true (meets.filter (·.close))) w i day ↔ Sick first (act true meets) w i day) := by
  refine ⟨sick_congr (fun m hm => ?_) (fun m hm => ?_), sick_congr (fun m hm => ?_) (fun m hm => ?_), sick_congr (fun m hm => ?_) (fun m hm => ?_), sick_congr (fun m hm => ?_) (fun m hm => ?_)⟩
  · obtain ⟨m', g1, rfl⟩ := List.mem_map.1 hm.1; exact ⟨m', ⟨g1, fun h => by cases h⟩, rfl, rfl, rfl⟩
  · exact ⟨shut m, ⟨List.mem_map.2 ⟨m, hm.1, rfl⟩, fun _ => rfl⟩, rfl, rfl, rfl⟩
  · obtain ⟨m', g1, rfl⟩ := List.mem_map.1 hm.1; exact ⟨m', ⟨g1, fun h => by cases h⟩, rfl, rfl, rfl⟩
  · exact ⟨shut m, ⟨List.mem_map.2 ⟨m, hm.1, rfl⟩, fun _ => rfl⟩, rfl, rfl, rfl⟩
  · exact ⟨m, ⟨(List.mem_filter.1 hm.1).1, fun _ => (List.mem_filter.1 hm.1).2⟩, rfl, rfl, rfl⟩
  · exact ⟨m, ⟨List.mem_filter.2 ⟨hm.1, hm.2 rfl⟩, fun h => by cases h⟩, rfl, rfl, rfl⟩
  · exact ⟨m, ⟨(List.mem_filter.1 hm.1).1, fun _ => (List.mem_filter.1 hm.1).2⟩, rfl, rfl, rfl⟩
  · exact ⟨m, ⟨List.mem_filter.2 ⟨hm.1, hm.2 rfl⟩, fun _ => hm.2 rfl⟩, rfl, rfl, rfl⟩
end Go.Azalai
namespace Go.Azalai
theorem open_final {x1 y1 x2 y2 x3 y3 day : Int} {p q : Prop} (a : x1 ≤ day ↔ p) (b : y1 ≤ day ↔ q) (c : x2 ≤ day ↔ p) (d : y2 ≤ day ↔ p) (e : x3 ≤ day ↔ q) (f : y3 ≤ day ↔ q) (g : q → p) :
    (knF day x1 y1 != 0) = (knF day x2 y2 == 2) ∧ (knF day x1 y1 == 2) = (knF day x3 y3 == 2) ∧ (knF day x2 y2 == 1) = false ∧ (knF day x3 y3 == 1) = false := by
  unfold knF
  rcases Classical.em q with hq | hq
  · have hp := g hq
    have := a.2 hp; have := b.2 hq; have := c.2 hp; have := d.2 hp; have := e.2 hq; have := f.2 hq
    rw [if_neg (by omega), if_pos (by omega), if_neg (by omega), if_pos (by omega), if_neg (by omega), if_pos (by omega)]
    decide
  · have n1 : ¬ y1 ≤ day := fun h => hq (b.1 h)
    have n2 : ¬ x3 ≤ day := fun h => hq (e.1 h)
    rcases Classical.em p with hp | hp
    · have := a.2 hp; have := c.2 hp; have := d.2 hp
      rw [if_neg (c := day < x1) (by omega), if_neg n1, if_neg (c := day < x2) (by omega), if_pos (c := y2 ≤ day) (by omega), if_pos (c := day < x3) (by omega)]
      decide
    · have n3 : ¬ x1 ≤ day := fun h => hp (a.1 h)
      have n4 : ¬ x2 ≤ day := fun h => hp (c.1 h)
      rw [if_pos (c := day < x1) (by omega), if_pos (c := day < x2) (by omega), if_pos (c := day < x3) (by omega)]
      decide
end Go.Azalai
namespace Go.Proofs.Ytnlfjchbhgikaaa
open Go Go.Sx Go.Azalai
theorem open_ok (n : Int) (first : List Int) (meets : List Meet) (wait : Span) (day : Int) (hl1 : first.length ≤ 9223372036854775807) (hl2 : meets.length ≤ 9223372036854775807) : Ct Try.prog 11 [I n, .sl false 1 (first.map intL), .sl false 4 (meets.map meetL), .agg (spanL wait), I day] (B true) := by
  refine t11 (by simp [meetL, KFR_iff, intL, spanL, KFL, KF]) (by simp [KFL, KF]) ?_
  dsimp only [c11, r11, spanL, go_sem, Nat.reduceAdd, Nat.reduceMul, Nat.reduceSub]
  refine call alive_ok ?_
  dsimp only [go_sem, Nat.reduceAdd, Nat.reduceMul, Nat.reduceSub]
  refine br_f rfl ?_
  dsimp only [go_sem, Nat.reduceAdd, Nat.reduceMul, Nat.reduceSub]
  refine call (meetsR_ok n first meets wait day false false) ?_
  dsimp only [go_sem, Nat.reduceAdd, Nat.reduceMul, Nat.reduceSub]
  by_cases hE : meetsE n first meets wait day = 0
  case neg =>
    refine br_t (by simpa using hE) ?_
    dsimp only [go_sem, Nat.reduceAdd, Nat.reduceMul, Nat.reduceSub]
  refine br_f (by simpa using hE) ?_
  dsimp only [go_sem, Nat.reduceAdd, Nat.reduceMul, Nat.reduceSub]
  obtain ⟨hn, hw, hd, hf1, hm1, hf, hm⟩ := meetsE_0 hE
  obtain ⟨k, rfl⟩ : ∃ k : Nat, n = k := ⟨n.toNat, by omega⟩
  simp only [List.length_map]
  refine loopG (ent_trans (ent_nilslot 12 4 73 rfl rfl) (ent_nilslot 13 4 73 rfl rfl)) (fun z : Nat × Nat × Nat => [(36, I z.1), (12, .mr 1 z.2.1), (13, .mr 2 z.2.2)]) (fun z => [(1, .row z.2.1 4 (((meets.take z.1).map shut).map meetL) 73), (2, .row z.2.2 4 (((meets.take z.1).filter (·.close)).map meetL) 73)]) (fun z => z.1 ≤ meets.length) (fun z => meets.length - z.1) (0, 0, 0) (Nat.zero_le _) ?_ ?_
  · (refine ent_id ?_ ?_ ?_ rfl rfl <;> dsimp only [meetL, intL, id, go_sem, Nat.reduceAdd, Nat.reduceMul, Nat.reduceSub] <;> simp [meetL, intL, KFR_iff, KFR_app, KFR, KFL, KF, mtL_same, mtO, Nat.beq_refl])
  rintro ⟨j, v1, v2⟩ hj
  simp only at hj
  dsimp only [go_sem, Nat.reduceAdd, Nat.reduceMul, Nat.reduceSub]
  by_cases hlt : j < meets.length
  · refine br_t (by simpa using hlt) ?_
    dsimp only [go_sem, Nat.reduceAdd, Nat.reduceMul, Nat.reduceSub]
    refine ixs_map j hlt rfl ?_
    dsimp only [meetL, go_sem, Nat.reduceAdd, Nat.reduceMul, Nat.reduceSub]
    have htk : meets.take (j + 1) = meets.take j ++ [meets[j]] := (List.take_append_getElem hlt).symm
    generalize meets[j] = m at htk
    have hrow1 : ((meets.take j).map shut).map meetL ++ [[I m.a, I m.b, I m.day, SV.v (.bool true)]] = ((meets.take (j + 1)).map shut).map meetL := by
      rw [htk, List.map_append, List.map_append]; rfl
    have hfl : ((meets.take j).filter (·.close)).length ≤ j := Nat.le_trans (List.length_filter_le _ _) (by simp; omega)
    by_cases hc : m.close = true
    · refine br_t hc ?_
      have hrow2 : ((meets.take j).filter (·.close)).map meetL ++ [[I m.a, I m.b, I m.day, B m.close]] = ((meets.take (j + 1)).filter (·.close)).map meetL := by
        rw [htk, List.filter_append, List.map_append]; simp [hc, meetL]
      ((try dsimp only [go_sem, Nat.reduceAdd, Nat.reduceMul, Nat.reduceSub]); repeat (simp only [Nat.beq_refl]; try dsimp only [go_sem, Nat.reduceAdd, Nat.reduceMul, Nat.reduceSub]))
      refine ⟨(by intro c hc; simp only [List.mem_singleton] at hc; subst hc; rfl), by simp; omega, ?_⟩
      ((try dsimp only [go_sem, Nat.reduceAdd, Nat.reduceMul, Nat.reduceSub]); repeat (simp only [Nat.beq_refl]; try dsimp only [go_sem, Nat.reduceAdd, Nat.reduceMul, Nat.reduceSub]))

      rw [hrow2]
      ((try dsimp only [go_sem, Nat.reduceAdd, Nat.reduceMul, Nat.reduceSub]); repeat (simp only [Nat.beq_refl]; try dsimp only [go_sem, Nat.reduceAdd, Nat.reduceMul, Nat.reduceSub]))
      refine ⟨(by intro c hc; simp only [List.mem_singleton] at hc; subst hc; rfl), by simp; omega, ?_⟩
      ((try dsimp only [go_sem, Nat.reduceAdd, Nat.reduceMul, Nat.reduceSub]); repeat (simp only [Nat.beq_refl]; try dsimp only [go_sem, Nat.reduceAdd, Nat.reduceMul, Nat.reduceSub]))
      rw [hrow1, w64_in (n := (j : Int) + 1) (by omega) (by omega)]
      refine ⟨(j + 1, v1 + 1, v2 + 1), hlt, by simp only; omega, ?_⟩
      generalize (meets.take (j + 1)).map shut = r1
      generalize (meets.take (j + 1)).filter (·.close) = r2
      (refine ent_id ?_ ?_ ?_ rfl rfl <;> dsimp only [meetL, intL, id, go_sem, Nat.reduceAdd, Nat.reduceMul, Nat.reduceSub] <;> simp [meetL, intL, KFR_iff, KFR_app, KFR, KFL, KF, mtL_same, mtO, Nat.beq_refl])
    · refine br_f (by simpa using hc) ?_
      have hrow2 : (meets.take j).filter (·.close) = (meets.take (j + 1)).filter (·.close) := by
        rw [htk, List.filter_append]; simp [hc]
      ((try dsimp only [go_sem, Nat.reduceAdd, Nat.reduceMul, Nat.reduceSub]); repeat (simp only [Nat.beq_refl]; try dsimp only [go_sem, Nat.reduceAdd, Nat.reduceMul, Nat.reduceSub]))
      refine ⟨(by intro c hc; simp only [List.mem_singleton] at hc; subst hc; rfl), by simp; omega, ?_⟩

      rw [hrow2]
      ((try dsimp only [go_sem, Nat.reduceAdd, Nat.reduceMul, Nat.reduceSub]); repeat (simp only [Nat.beq_refl]; try dsimp only [go_sem, Nat.reduceAdd, Nat.reduceMul, Nat.reduceSub]))
      rw [hrow1, w64_in (n := (j : Int) + 1) (by omega) (by omega)]
      refine ⟨(j + 1, v1 + 1, v2), hlt, by simp only; omega, ?_⟩
      generalize (meets.take (j + 1)).map shut = r1
      generalize (meets.take (j + 1)).filter (·.close) = r2
      (refine ent_id ?_ ?_ ?_ rfl rfl <;> dsimp only [meetL, intL, id, go_sem, Nat.reduceAdd, Nat.reduceMul, Nat.reduceSub] <;> simp [meetL, intL, KFR_iff, KFR_app, KFR, KFL, KF, mtL_same, mtO, Nat.beq_refl])
  refine br_f (by simp; omega) ?_
  dsimp only [go_sem, Nat.reduceAdd, Nat.reduceMul, Nat.reduceSub]
  rw [show j = meets.length from by omega, List.take_length]
  refine gh (ent_trans (ent_frz 12 1 v1 rfl rfl rfl rfl) (ent_frz 13 2 v2 rfl rfl rfl rfl)) ?_
  dsimp only [go_sem, Nat.reduceAdd, Nat.reduceMul, Nat.reduceSub]
  obtain ⟨hE1, hE2⟩ := open_law hE (i := 0) (by omega)
  refine call (mange_ok k first meets wait day false false (by omega) (by omega)) ?_
  rw [show rowsK (meetsE k first meets wait day) (mangeK k first meets wait day) = .sl false 1 ((mangeK k first meets wait day).map u8L) from by simp [rowsK, hE], hE]
  dsimp only [go_sem, Nat.reduceAdd, Nat.reduceMul, Nat.reduceSub]
  refine call (span_ok _ _) ?_
  dsimp only [go_sem, Nat.reduceAdd, Nat.reduceMul, Nat.reduceSub]
  refine call (mange_ok k first (meets.map shut) ⟨wait.lo, wait.lo⟩ day false false (by omega) (by simp; omega)) ?_
  rw [show rowsK (meetsE k first (meets.map shut) ⟨wait.lo, wait.lo⟩ day) (mangeK k first (meets.map shut) ⟨wait.lo, wait.lo⟩ day) = .sl false 1 ((mangeK k first (meets.map shut) ⟨wait.lo, wait.lo⟩ day).map u8L) from by simp [rowsK, hE1], hE1]
  dsimp only [go_sem, Nat.reduceAdd, Nat.reduceMul, Nat.reduceSub]
  refine call (span_ok _ _) ?_
  dsimp only [go_sem, Nat.reduceAdd, Nat.reduceMul, Nat.reduceSub]
  refine call (mange_ok k first (meets.filter (·.close)) ⟨wait.hi, wait.hi⟩ day false false (by omega) (by have := List.length_filter_le (fun x : Meet => x.close) meets; omega)) ?_
  rw [show rowsK (meetsE k first (meets.filter (·.close)) ⟨wait.hi, wait.hi⟩ day) (mangeK k first (meets.filter (·.close)) ⟨wait.hi, wait.hi⟩ day) = .sl false 1 ((mangeK k first (meets.filter (·.close)) ⟨wait.hi, wait.hi⟩ day).map u8L) from by simp [rowsK, hE2], hE2]
  dsimp only [go_sem, Nat.reduceAdd, Nat.reduceMul, Nat.reduceSub]

  repeat (refine gb ?_; dsimp only [go_sem, Nat.reduceAdd, Nat.reduceMul, Nat.reduceSub])
  have A := fun (i : Nat) (hi : i < k) => kn_sick hE hi
  have A1 := fun (i : Nat) (hi : i < k) => kn_sick hE1 hi
  have A2 := fun (i : Nat) (hi : i < k) => kn_sick hE2 hi
  have l0 := mangeK_len k first meets wait day
  have l1 := mangeK_len k first (meets.map shut) ⟨wait.lo, wait.lo⟩ day
  have l2 := mangeK_len k first (meets.filter (·.close)) ⟨wait.hi, wait.hi⟩ day
  generalize mangeK k first meets wait day = L0 at A l0
  generalize mangeK k first (meets.map shut) ⟨wait.lo, wait.lo⟩ day = L1 at A1 l1
  generalize mangeK k first (meets.filter (·.close)) ⟨wait.hi, wait.hi⟩ day = L2 at A2 l2
  simp only [List.length_map, l0, l1, l2]
  refine br_f (by simp) ?_
  dsimp only [go_sem, Nat.reduceAdd, Nat.reduceMul, Nat.reduceSub]
  simp only [List.length_map, l0]
  refine loopO (fun z : Nat => [(117, I z)]) (fun _ => []) (fun z => z ≤ k) (fun z => k - z) 0 (Nat.zero_le _) ?_ ?_
  · (refine ent_id ?_ ?_ ?_ rfl rfl <;> dsimp only [meetL, intL, u8L, U8, id, go_sem, Nat.reduceAdd, Nat.reduceMul, Nat.reduceSub] <;> simp [meetL, intL, u8L, U8, KFR_iff, KFR_app, KFR, KFL, KF, mtL_same, mtO, Nat.beq_refl])
  intro q hq
  dsimp only [go_sem, Nat.reduceAdd, Nat.reduceMul, Nat.reduceSub]
  by_cases hlt2 : q < k
  · refine br_t (by simpa using hlt2) ?_
    dsimp only [go_sem, Nat.reduceAdd, Nat.reduceMul, Nat.reduceSub]
    obtain ⟨a1, a2, a3⟩ := A q hlt2
    obtain ⟨b1, b2, b3⟩ := A1 q hlt2
    obtain ⟨c1, c2, c3⟩ := A2 q hlt2
    rw [List.getElem?_eq_getElem (by omega)] at a1 b1 c1
    have a1 := Option.some.inj a1
    have b1 := Option.some.inj b1
    have c1 := Option.some.inj c1
    obtain ⟨o1, o2, o3, o4⟩ := open_sick (first := first) (meets := meets) (w := wait.lo) (i := (q : Int)) (day := day)
    obtain ⟨p1, p2, p3, p4⟩ := open_sick (first := first) (meets := meets) (w := wait.hi) (i := (q : Int)) (day := day)
    have hPQ : Sick first (act true meets) wait.hi q day → Sick first (act false meets) wait.lo q day := fun ⟨t, ht, h⟩ => by
      obtain ⟨t', q1, q2⟩ := h.earlier (M' := act false meets) (w' := wait.lo) (fun m hm => ⟨hm.1, fun h => by cases h⟩) hw.2.1
      exact ⟨t', by omega, q2⟩
    obtain ⟨r1, r2, r3, r4⟩ := open_final a2 a3 (b2.trans o1) (b3.trans o2) (c2.trans p3) (c3.trans p4) hPQ
    rw [← a1, ← b1] at r1
    rw [← a1, ← c1] at r2
    rw [← b1] at r3
    rw [← c1] at r4
    refine ixs_map q (by omega) rfl ?_
    dsimp only [u8L, U8, go_sem, Nat.reduceAdd, Nat.reduceMul, Nat.reduceSub]
    refine ixs_map q (by omega) rfl ?_
    dsimp only [u8L, U8, go_sem, Nat.reduceAdd, Nat.reduceMul, Nat.reduceSub]
    clear A A1 A2 a1 b1 c1 o1 o2 o3 o4 p1 p2 p3 p4 a2 a3 b2 b3 c2 c3 hPQ
    simp only [r1, beq_self_eq_true, Bool.not_true]
    repeat (refine .inl ⟨rfl, ?_⟩; dsimp only [go_sem, Nat.reduceAdd, Nat.reduceMul, Nat.reduceSub])
    refine ixs_map q (by omega) rfl ?_
    dsimp only [u8L, U8, go_sem, Nat.reduceAdd, Nat.reduceMul, Nat.reduceSub]
    repeat (refine .inl ⟨rfl, ?_⟩; dsimp only [go_sem, Nat.reduceAdd, Nat.reduceMul, Nat.reduceSub])
    refine ixs_map q (by omega) rfl ?_
    dsimp only [u8L, U8, go_sem, Nat.reduceAdd, Nat.reduceMul, Nat.reduceSub]
    repeat (refine .inl ⟨rfl, ?_⟩; dsimp only [go_sem, Nat.reduceAdd, Nat.reduceMul, Nat.reduceSub])
    simp only [r2, beq_self_eq_true, Bool.not_true]
    repeat (refine .inl ⟨rfl, ?_⟩; dsimp only [go_sem, Nat.reduceAdd, Nat.reduceMul, Nat.reduceSub])
    refine ixs_map q (by omega) rfl ?_
    dsimp only [u8L, U8, go_sem, Nat.reduceAdd, Nat.reduceMul, Nat.reduceSub]
    repeat (refine .inl ⟨rfl, ?_⟩; dsimp only [go_sem, Nat.reduceAdd, Nat.reduceMul, Nat.reduceSub])
    simp only [r3]
    repeat (refine .inl ⟨rfl, ?_⟩; dsimp only [go_sem, Nat.reduceAdd, Nat.reduceMul, Nat.reduceSub])
    refine ixs_map q (by omega) rfl ?_
    dsimp only [u8L, U8, go_sem, Nat.reduceAdd, Nat.reduceMul, Nat.reduceSub]
    repeat (refine .inl ⟨rfl, ?_⟩; dsimp only [go_sem, Nat.reduceAdd, Nat.reduceMul, Nat.reduceSub])
    simp only [r4]
    refine br_f rfl ?_
    dsimp only [go_sem, Nat.reduceAdd, Nat.reduceMul, Nat.reduceSub]
    rw [w64_in (n := (q : Int) + 1) (by omega) (by omega)]
    refine ⟨q + 1, hlt2, by omega, ?_⟩
    (refine ent_id ?_ ?_ ?_ rfl rfl <;> dsimp only [meetL, intL, u8L, U8, id, go_sem, Nat.reduceAdd, Nat.reduceMul, Nat.reduceSub] <;> simp [meetL, intL, u8L, U8, KFR_iff, KFR_app, KFR, KFL, KF, mtL_same, mtO, Nat.beq_refl])
  refine br_f (by simp; omega) ?_
  dsimp only [go_sem, Nat.reduceAdd, Nat.reduceMul, Nat.reduceSub]
  refine gh ent_refl ?_
  dsimp only [go_sem, Nat.reduceAdd, Nat.reduceMul, Nat.reduceSub]
end Go.Proofs.Ytnlfjchbhgikaaa
