import Derived.Test.YtnlfjchbhgikaaaMK
set_option maxRecDepth 100000
set_option maxHeartbeats 4000000
namespace Go.Azalai
theorem pairwise_of_srt {l : List Meet} (h : Srt Meet.day 0 l.length l) : l.Pairwise (fun x y => x.day ≤ y.day) := by
  rw [List.pairwise_iff_getElem]
  intro i j hi hj hij
  have := h i j (Nat.zero_le _) hij hj
  rwa [ky_eq Meet.day hi, ky_eq Meet.day hj] at this
/-- what the code knows is what is known -/
theorem mange_eq {n : Nat} {first : List Int} {meets l : List Meet} {wait : Span} {day : Int} (hw : 1 ≤ wait.lo ∧ wait.lo ≤ wait.hi) (hd : 0 ≤ day ∧ day ≤ 100000) (hf : ∀ i ∈ first, 0 ≤ i ∧ i < (n : Int)) (hm : ∀ m ∈ meets, okM n m)
    (hp : l.Perm meets) (hs : l.Pairwise (fun x y => x.day ≤ y.day)) (hl : ∃ s, Least n first (act false meets) wait.lo s) (hl2 : ∃ s, Least n first (act true meets) wait.hi s) {i : Nat} (hi : i < n) :
    (if gI (spreadF wait.hi day (l.filter (·.close)) (baseF first (List.replicate n 100061))) i ≤ day then 2 else if gI (spreadF wait.lo day l (baseF first (List.replicate n 100061))) i ≤ day then 1 else 0) = knF day (gI (sickF n first (act false meets) wait.lo) i) (gI (sickF n first (act true meets) wait.hi) i) := by
  obtain ⟨s1, h1⟩ := hl
  obtain ⟨s2, h2⟩ := hl2
  rw [h1.sickF, h2.sickF]
  have hml : ∀ m ∈ l, okM n m := fun m h => hm m (hp.mem_iff.1 h)
  have e1 := spread_sick (n := n) (first := first) (l := l) (w := wait.lo) (day := day) hw.1 hd.2 hf hml hs (i := (i : Int)) (by omega) (by omega)
  have e2 := spread_sick (n := n) (first := first) (l := l.filter (·.close)) (w := wait.hi) (day := day) (by omega) hd.2 hf (fun m h => hml m (List.mem_filter.1 h).1) (hs.filter _) (i := (i : Int)) (by omega) (by omega)
  have g1 := h1.sick (day := day) hd.2 (i := (i : Int)) (by omega) (by omega)
  have g2 := h2.sick (day := day) hd.2 (i := (i : Int)) (by omega) (by omega)
  have c1 : Sick first (· ∈ l) wait.lo i day ↔ Sick first (act false meets) wait.lo i day :=
    ⟨fun ⟨t, ht, h⟩ => ⟨t, ht, h.mono fun m hm => ⟨hp.mem_iff.1 hm, fun h => by cases h⟩⟩, fun ⟨t, ht, h⟩ => ⟨t, ht, h.mono fun m hm => hp.mem_iff.2 hm.1⟩⟩
  have c2 : Sick first (· ∈ l.filter (·.close)) wait.hi i day ↔ Sick first (act true meets) wait.hi i day :=
    ⟨fun ⟨t, ht, h⟩ => ⟨t, ht, h.mono fun m hm => ⟨hp.mem_iff.1 (List.mem_filter.1 hm).1, fun _ => (List.mem_filter.1 hm).2⟩⟩, fun ⟨t, ht, h⟩ => ⟨t, ht, h.mono fun m hm => List.mem_filter.2 ⟨hp.mem_iff.2 hm.1, hm.2 rfl⟩⟩⟩
  have c3 : Sick first (act true meets) wait.hi i day → Sick first (act false meets) wait.lo i day := fun ⟨t, ht, h⟩ => by
    obtain ⟨t', q1, q2⟩ := h.earlier (M' := act false meets) (w' := wait.lo) (fun m hm => ⟨hm.1, fun h => by cases h⟩) hw.2
    exact ⟨t', by omega, q2⟩
  rw [c1, ← g1] at e1
  rw [c2, ← g2] at e2
  rw [← g1, ← g2] at c3
  unfold knF
  by_cases q2 : gI s2 (i : Int) ≤ day
  · have := c3 q2
    rw [if_pos (e2.2 q2), if_neg (by omega), if_pos q2]
  · rw [if_neg (fun h => q2 (e2.1 h))]
    by_cases q1 : gI s1 (i : Int) ≤ day
    · rw [if_pos (e1.2 q1), if_neg (by omega), if_neg q2]
    · rw [if_neg (fun h => q1 (e1.1 h)), if_pos (by omega)]
end Go.Azalai
namespace Go.Proofs.Ytnlfjchbhgikaaa
open Go Go.Sx Go.Azalai
theorem mange_ok (n : Int) (first : List Int) (meets : List Meet) (wait : Span) (day : Int) (c1 c2 : Bool) (hl1 : first.length ≤ 1000) (hl2 : meets.length ≤ 1000) :
    Ct Try.prog 35 [I n, .sl c1 1 (first.map intL), .sl c2 4 (meets.map meetL), .agg (spanL wait), I day] (.tup [rowsK (meetsE n first meets wait day) (mangeK n first meets wait day), I (meetsE n first meets wait day)]) := by
  have hkr : KF (rowsK (meetsE n first meets wait day) (mangeK n first meets wait day)) := by
    unfold rowsK; split <;> simp [KF, KFR_iff, KFL, u8L, U8]
  refine t35 (by simp [meetL, KFR_iff, intL, spanL, KFL, KF]) (by simp [KF, KFL, hkr]) ?_
  dsimp only [c35, r35, spanL, go_sem, Nat.reduceAdd, Nat.reduceMul, Nat.reduceSub]
  refine call (from1 1 30 n true) ?_
  dsimp only [go_sem, Nat.reduceAdd, Nat.reduceMul, Nat.reduceSub]
  repeat (first | (refine gb ?_; dsimp only [go_sem, Nat.reduceAdd, Nat.reduceMul, Nat.reduceSub]) | (refine call (ordered1 1 60 wait true) ?_; dsimp only [go_sem, Nat.reduceAdd, Nat.reduceMul, Nat.reduceSub]) | (refine call (from1 0 100000 day true) ?_; dsimp only [go_sem, Nat.reduceAdd, Nat.reduceMul, Nat.reduceSub]))
  by_cases h1 : (inR 1 30 n && okSp 1 60 wait && inR 0 100000 day) = true
  case neg =>
    refine br_t (by revert h1; cases inR 1 30 n <;> cases okSp 1 60 wait <;> cases inR 0 100000 day <;> simp) ?_
    dsimp only [go_sem, Nat.reduceAdd, Nat.reduceMul, Nat.reduceSub]
    have hE : meetsE n first meets wait day = 2 := by
      unfold meetsE
      rw [if_pos (by revert h1; cases inR 1 30 n <;> cases okSp 1 60 wait <;> cases inR 0 100000 day <;> simp)]
    simp [rowsK, hE]
  refine br_f (by revert h1; cases inR 1 30 n <;> cases okSp 1 60 wait <;> cases inR 0 100000 day <;> simp) ?_
  dsimp only [go_sem, Nat.reduceAdd, Nat.reduceMul, Nat.reduceSub]
  repeat (refine gb ?_; dsimp only [go_sem, Nat.reduceAdd, Nat.reduceMul, Nat.reduceSub])
  simp only [List.length_map]
  by_cases h2 : first.length > 30 ∨ meets.length > 200
  · refine br_t (by simp; omega) ?_
    dsimp only [go_sem, Nat.reduceAdd, Nat.reduceMul, Nat.reduceSub]
    have hE : meetsE n first meets wait day = 4 := by
      unfold meetsE
      rw [if_neg (by simp [h1]), if_pos h2]
    simp [rowsK, hE]
  refine br_f (by simp; omega) ?_
  dsimp only [go_sem, Nat.reduceAdd, Nat.reduceMul, Nat.reduceSub]
  have hn : 1 ≤ n ∧ n ≤ 30 := by simp only [Bool.and_eq_true, inR, decide_eq_true_eq] at h1; exact h1.1.1
  have hE0 : meetsE n first meets wait day = if !(first.all (inR 0 (n - 1))) || meets.any (oddM n) then 14 else 0 := by
    unfold meetsE
    rw [if_neg (by simp [h1]), if_neg h2]
  rw [w64_in (n := n - 1) (by omega) (by omega)]
  refine call (from_any 0 (n - 1) first (by omega) c1) ?_
  dsimp only [go_sem, Nat.reduceAdd, Nat.reduceMul, Nat.reduceSub]
  repeat (refine gb ?_; dsimp only [go_sem, Nat.reduceAdd, Nat.reduceMul, Nat.reduceSub])
  refine callv (by simp [FLT]) (res := B (meets.any (oddM n))) ?_ ?_
  · dsimp only [go_sem, Nat.reduceAdd, Nat.reduceMul, Nat.reduceSub]
    exact con78 77 [.ps [I n] 0] (by simp [KFL, KF]) (oddM n) meets (fun x _ => odd_ok n hn.1 hn.2 x) (by omega)
  dsimp only [go_sem, Nat.reduceAdd, Nat.reduceMul, Nat.reduceSub]
  repeat (refine gb ?_; dsimp only [go_sem, Nat.reduceAdd, Nat.reduceMul, Nat.reduceSub])
  by_cases h3 : (!(first.all (inR 0 (n - 1))) || meets.any (oddM n)) = true
  · refine br_t (by revert h3; cases first.all (inR 0 (n - 1)) <;> cases meets.any (oddM n) <;> simp) ?_
    dsimp only [go_sem, Nat.reduceAdd, Nat.reduceMul, Nat.reduceSub]
    rw [if_pos h3] at hE0
    simp [rowsK, hE0]
  refine br_f (by revert h3; cases first.all (inR 0 (n - 1)) <;> cases meets.any (oddM n) <;> simp) ?_
  dsimp only [go_sem, Nat.reduceAdd, Nat.reduceMul, Nat.reduceSub]
  rw [if_neg h3] at hE0
  obtain ⟨_, hw, hd, hf1, hm1, hf, hm⟩ := meetsE_0 hE0
  clear h1 h2 h3
  refine callmP [] (clone_ok meets (by omega) c2) rfl rfl rfl ?_ ?_ ?_
  · ((try dsimp only [go_sem, Nat.reduceAdd, Nat.reduceMul, Nat.reduceSub]); repeat (simp only [Nat.beq_refl]; try dsimp only [go_sem, Nat.reduceAdd, Nat.reduceMul, Nat.reduceSub]))
    simp [mtL, mtB, mtS, KFR_iff, KFR, KFL, KF, meetL]
  · ((try dsimp only [go_sem, Nat.reduceAdd, Nat.reduceMul, Nat.reduceSub]); repeat (simp only [Nat.beq_refl]; try dsimp only [go_sem, Nat.reduceAdd, Nat.reduceMul, Nat.reduceSub]))
  rintro _ rfl
  ((try dsimp only [go_sem, Nat.reduceAdd, Nat.reduceMul, Nat.reduceSub]); repeat (simp only [Nat.beq_refl]; try dsimp only [go_sem, Nat.reduceAdd, Nat.reduceMul, Nat.reduceSub]))
  refine gh ent_refl ?_
  ((try dsimp only [go_sem, Nat.reduceAdd, Nat.reduceMul, Nat.reduceSub]); repeat (simp only [Nat.beq_refl]; try dsimp only [go_sem, Nat.reduceAdd, Nat.reduceMul, Nat.reduceSub]))
  refine callmP [2] (sort_ok 0 meets (by omega)) rfl rfl rfl ?_ ?_ ?_
  · ((try dsimp only [go_sem, Nat.reduceAdd, Nat.reduceMul, Nat.reduceSub]); repeat (simp only [Nat.beq_refl]; try dsimp only [go_sem, Nat.reduceAdd, Nat.reduceMul, Nat.reduceSub]))
    simp [mtL, mtB, mtS]
  · ((try dsimp only [go_sem, Nat.reduceAdd, Nat.reduceMul, Nat.reduceSub]); repeat (simp only [Nat.beq_refl]; try dsimp only [go_sem, Nat.reduceAdd, Nat.reduceMul, Nat.reduceSub]))
    simp [KFR_iff, meetL, KFL, KF]
  rintro _ ⟨l, hpl, hsl, rfl⟩
  ((try dsimp only [rowO, go_sem, Nat.reduceAdd, Nat.reduceMul, Nat.reduceSub]); repeat (simp only [Nat.beq_refl]; try dsimp only [go_sem, Nat.reduceAdd, Nat.reduceMul, Nat.reduceSub]))
  refine gh (ent_frz 13 2 0 rfl rfl rfl rfl) ?_
  obtain ⟨k, rfl⟩ : ∃ k : Nat, n = k := ⟨n.toNat, by omega⟩
  have hll := hpl.len
  have hso := pairwise_of_srt (by rw [hll]; exact hsl)
  have hml : ∀ m ∈ l, okM k m := fun m h => hm m (hpl.perm.mem_iff.1 h)
  ((try dsimp only [go_sem, Nat.reduceAdd, Nat.reduceMul, Nat.reduceSub]); repeat (simp only [Nat.beq_refl]; try dsimp only [go_sem, Nat.reduceAdd, Nat.reduceMul, Nat.reduceSub]))
  refine call (spread_ok k first l wait.lo day c1 false (by omega) (by omega) hf hml (by omega) hl1 (by omega)) ?_
  ((try dsimp only [go_sem, Nat.reduceAdd, Nat.reduceMul, Nat.reduceSub]); repeat (simp only [Nat.beq_refl]; try dsimp only [go_sem, Nat.reduceAdd, Nat.reduceMul, Nat.reduceSub]))
  refine callmP [] (clone_ok l (by omega) false) rfl rfl rfl ?_ ?_ ?_
  · ((try dsimp only [go_sem, Nat.reduceAdd, Nat.reduceMul, Nat.reduceSub]); repeat (simp only [Nat.beq_refl]; try dsimp only [go_sem, Nat.reduceAdd, Nat.reduceMul, Nat.reduceSub]))
    simp [mtL, mtB, mtS, KFR_iff, KFR, KFL, KF, meetL]
  · ((try dsimp only [go_sem, Nat.reduceAdd, Nat.reduceMul, Nat.reduceSub]); repeat (simp only [Nat.beq_refl]; try dsimp only [go_sem, Nat.reduceAdd, Nat.reduceMul, Nat.reduceSub]))
  rintro _ rfl
  ((try dsimp only [go_sem, Nat.reduceAdd, Nat.reduceMul, Nat.reduceSub]); repeat (simp only [Nat.beq_refl]; try dsimp only [go_sem, Nat.reduceAdd, Nat.reduceMul, Nat.reduceSub]))
  refine callmP [3] (delete_ok 0 l (by omega)) rfl rfl rfl ?_ ?_ ?_
  · ((try dsimp only [go_sem, Nat.reduceAdd, Nat.reduceMul, Nat.reduceSub]); repeat (simp only [Nat.beq_refl]; try dsimp only [go_sem, Nat.reduceAdd, Nat.reduceMul, Nat.reduceSub]))
    simp [mtL, mtB, mtS]
  · ((try dsimp only [go_sem, Nat.reduceAdd, Nat.reduceMul, Nat.reduceSub]); repeat (simp only [Nat.beq_refl]; try dsimp only [go_sem, Nat.reduceAdd, Nat.reduceMul, Nat.reduceSub]))
    simp [KFR_iff, meetL, KFL, KF]
  rintro _ (⟨hfl, rfl⟩ | ⟨l', hl', hle, htk, rfl⟩)
  · ((try dsimp only [go_sem, Nat.reduceAdd, Nat.reduceMul, Nat.reduceSub]); repeat (simp only [Nat.beq_refl]; try dsimp only [go_sem, Nat.reduceAdd, Nat.reduceMul, Nat.reduceSub]))
    refine gh (ent_frz 15 3 0 rfl rfl rfl rfl) ?_
    rw [show l.map meetL = (l.filter (·.close)).map meetL from by rw [hfl]]
    clear hfl
    generalize hfl0 : l.filter (·.close) = fl at *
    ((try dsimp only [go_sem, Nat.reduceAdd, Nat.reduceMul, Nat.reduceSub]); repeat (simp only [Nat.beq_refl]; try dsimp only [go_sem, Nat.reduceAdd, Nat.reduceMul, Nat.reduceSub]))
    refine call (spread_ok k first fl wait.hi day c1 false (by omega) (by omega) hf (fun m h => hml m (by rw [← hfl0] at h; exact (List.mem_filter.1 h).1)) (by omega) hl1 (by rw [← hfl0]; exact Nat.le_trans (List.length_filter_le _ _) (by omega))) ?_
    ((try dsimp only [go_sem, Nat.reduceAdd, Nat.reduceMul, Nat.reduceSub]); repeat (simp only [Nat.beq_refl]; try dsimp only [go_sem, Nat.reduceAdd, Nat.reduceMul, Nat.reduceSub]))
    have hlenE : (spreadF wait.lo day l (baseF first (List.replicate k 100061))).length = k := by rw [spreadF_len, baseF_len]; simp
    have hlenL : (spreadF wait.hi day fl (baseF first (List.replicate k 100061))).length = k := by rw [spreadF_len, baseF_len]; simp
    have heq : ∀ i : Nat, i < k → (if gI (spreadF wait.hi day fl (baseF first (List.replicate k 100061))) (i : Int) ≤ day then 2 else if gI (spreadF wait.lo day l (baseF first (List.replicate k 100061))) (i : Int) ≤ day then 1 else 0) = knF day (gI (sickF k first (act false meets) wait.lo) i) (gI (sickF k first (act true meets) wait.hi) i) := fun i hi => by
      have := mange_eq (meets := meets) (l := l) ⟨hw.1, hw.2.1⟩ hd hf hm hpl.perm hso (least_ex hf (fun m h => hm m h.1) (by omega)) (least_ex hf (fun m h => hm m h.1) (by omega)) hi
      rw [hfl0] at this
      exact this
    generalize spreadF wait.lo day l (baseF first (List.replicate k 100061)) = E at hlenE heq
    generalize spreadF wait.hi day fl (baseF first (List.replicate k 100061)) = L at hlenL heq
    refine ⟨k, rfl, by omega, ?_⟩
    ((try dsimp only [go_sem, Nat.reduceAdd, Nat.reduceMul, Nat.reduceSub]); repeat (simp only [Nat.beq_refl]; try dsimp only [go_sem, Nat.reduceAdd, Nat.reduceMul, Nat.reduceSub]))
    rw [show List.replicate k [SV.v (Value.int IntKind.u8 0)] = (List.replicate k (0 : Int)).map u8L from by simp [u8L, U8]]
    simp only [List.length_map, List.length_replicate]
    have hs0 : (List.replicate k (0 : Int)).length = k ∧ ∀ i, i < k → (List.replicate k (0 : Int))[i]? = some 0 := ⟨by simp, fun i hi => by rw [List.getElem?_replicate, if_pos hi]⟩
    generalize List.replicate k (0 : Int) = ks0 at hs0
    refine loopO (fun z : Nat × List Int => [(79, I z.1)]) (fun z => [(4, .row 0 1 (z.2.map u8L) 5)]) (fun z => z.1 ≤ k ∧ z.2.length = k ∧ ∀ i, i < k → z.2[i]? = some (if i < z.1 then (if gI L (i : Int) ≤ day then 2 else if gI E (i : Int) ≤ day then 1 else 0) else 0)) (fun z => k - z.1) (0, ks0) ⟨Nat.zero_le _, hs0.1, fun i hi => by rw [hs0.2 i hi, if_neg (Nat.not_lt_zero _)]⟩ ?_ ?_
    · (refine ent_id ?_ ?_ ?_ rfl rfl <;> dsimp only [meetL, intL, u8L, U8, id, go_sem, Nat.reduceAdd, Nat.reduceMul, Nat.reduceSub] <;> simp [meetL, intL, u8L, U8, KFR_iff, KFR_app, KFR, KFL, KF, mtL_same, mtO, Nat.beq_refl])
    rintro ⟨j, ks⟩ ⟨hj, hkl, hki⟩
    simp only at hj hkl hki
    ((try dsimp only [go_sem, Nat.reduceAdd, Nat.reduceMul, Nat.reduceSub]); repeat (simp only [Nat.beq_refl]; try dsimp only [go_sem, Nat.reduceAdd, Nat.reduceMul, Nat.reduceSub]))
    by_cases hlt : j < k
    · refine br_t (by simpa using hlt) ?_
      ((try dsimp only [go_sem, Nat.reduceAdd, Nat.reduceMul, Nat.reduceSub]); repeat (simp only [Nat.beq_refl]; try dsimp only [go_sem, Nat.reduceAdd, Nat.reduceMul, Nat.reduceSub]))
      have gL : gI L (j : Int) = L[j] := gI_eq rfl (by omega)
      have gE : gI E (j : Int) = E[j] := gI_eq rfl (by omega)
      refine ixs_map j (by omega) rfl ?_
      ((try dsimp only [intL, go_sem, Nat.reduceAdd, Nat.reduceMul, Nat.reduceSub]); repeat (simp only [Nat.beq_refl]; try dsimp only [go_sem, Nat.reduceAdd, Nat.reduceMul, Nat.reduceSub]))
      by_cases q2 : L[j] ≤ day
      · refine br_t (by simpa using q2) ?_
        have hx : (if gI L (j : Int) ≤ day then (2 : Int) else if gI E (j : Int) ≤ day then 1 else 0) = 2 := by rw [gL, if_pos q2]
        ((try dsimp only [go_sem, Nat.reduceAdd, Nat.reduceMul, Nat.reduceSub]); repeat (simp only [Nat.beq_refl]; try dsimp only [go_sem, Nat.reduceAdd, Nat.reduceMul, Nat.reduceSub]))
        refine ixrm j rfl (by first | omega | (simp; omega)) ?_
        ((try dsimp only [go_sem, Nat.reduceAdd, Nat.reduceMul, Nat.reduceSub]); repeat (simp only [Nat.beq_refl]; try dsimp only [go_sem, Nat.reduceAdd, Nat.reduceMul, Nat.reduceSub]))
        refine strm (2 : Int) (by first | omega | (simp; omega)) (by simp [u8L, U8]) (by simp [u8L, U8, splice]) ?_
        ((try dsimp only [go_sem, Nat.reduceAdd, Nat.reduceMul, Nat.reduceSub]); repeat (simp only [Nat.beq_refl]; try dsimp only [go_sem, Nat.reduceAdd, Nat.reduceMul, Nat.reduceSub]))
        rw [w64_in (n := (j : Int) + 1) (by omega) (by omega)]
        refine ⟨(j + 1, ks.set j 2), ⟨hlt, by simp [hkl], fun i hi => ?_⟩, by simp only; omega, ?_⟩
        · dsimp only
          have := hki i hi
          by_cases hij : i = j
          · subst hij; rw [List.getElem?_set_self (by omega), if_pos (Nat.lt_succ_self i), hx]
          · rw [List.getElem?_set_ne (by omega), this]
            by_cases hij2 : i < j
            · rw [if_pos hij2, if_pos (c := i < j + 1) (by omega)]
            · rw [if_neg hij2, if_neg (c := i < j + 1) (by omega)]
        generalize ks.set j 2 = ks2
        (refine ent_id ?_ ?_ ?_ rfl rfl <;> dsimp only [meetL, intL, u8L, U8, id, go_sem, Nat.reduceAdd, Nat.reduceMul, Nat.reduceSub] <;> simp [meetL, intL, u8L, U8, KFR_iff, KFR_app, KFR, KFL, KF, mtL_same, mtO, Nat.beq_refl])
      refine br_f (by simpa using q2) ?_
      ((try dsimp only [go_sem, Nat.reduceAdd, Nat.reduceMul, Nat.reduceSub]); repeat (simp only [Nat.beq_refl]; try dsimp only [go_sem, Nat.reduceAdd, Nat.reduceMul, Nat.reduceSub]))
      refine ixs_map j (by omega) rfl ?_
      ((try dsimp only [intL, go_sem, Nat.reduceAdd, Nat.reduceMul, Nat.reduceSub]); repeat (simp only [Nat.beq_refl]; try dsimp only [go_sem, Nat.reduceAdd, Nat.reduceMul, Nat.reduceSub]))
      by_cases q1 : E[j] ≤ day
      · refine br_t (by simpa using q1) ?_
        have hx : (if gI L (j : Int) ≤ day then (2 : Int) else if gI E (j : Int) ≤ day then 1 else 0) = 1 := by rw [gL, gE, if_neg q2, if_pos q1]
        ((try dsimp only [go_sem, Nat.reduceAdd, Nat.reduceMul, Nat.reduceSub]); repeat (simp only [Nat.beq_refl]; try dsimp only [go_sem, Nat.reduceAdd, Nat.reduceMul, Nat.reduceSub]))
        refine ixrm j rfl (by first | omega | (simp; omega)) ?_
        ((try dsimp only [go_sem, Nat.reduceAdd, Nat.reduceMul, Nat.reduceSub]); repeat (simp only [Nat.beq_refl]; try dsimp only [go_sem, Nat.reduceAdd, Nat.reduceMul, Nat.reduceSub]))
        refine strm (1 : Int) (by first | omega | (simp; omega)) (by simp [u8L, U8]) (by simp [u8L, U8, splice]) ?_
        ((try dsimp only [go_sem, Nat.reduceAdd, Nat.reduceMul, Nat.reduceSub]); repeat (simp only [Nat.beq_refl]; try dsimp only [go_sem, Nat.reduceAdd, Nat.reduceMul, Nat.reduceSub]))
        rw [w64_in (n := (j : Int) + 1) (by omega) (by omega)]
        refine ⟨(j + 1, ks.set j 1), ⟨hlt, by simp [hkl], fun i hi => ?_⟩, by simp only; omega, ?_⟩
        · dsimp only
          have := hki i hi
          by_cases hij : i = j
          · subst hij; rw [List.getElem?_set_self (by omega), if_pos (Nat.lt_succ_self i), hx]
          · rw [List.getElem?_set_ne (by omega), this]
            by_cases hij2 : i < j
            · rw [if_pos hij2, if_pos (c := i < j + 1) (by omega)]
            · rw [if_neg hij2, if_neg (c := i < j + 1) (by omega)]
        generalize ks.set j 1 = ks2
        (refine ent_id ?_ ?_ ?_ rfl rfl <;> dsimp only [meetL, intL, u8L, U8, id, go_sem, Nat.reduceAdd, Nat.reduceMul, Nat.reduceSub] <;> simp [meetL, intL, u8L, U8, KFR_iff, KFR_app, KFR, KFL, KF, mtL_same, mtO, Nat.beq_refl])
      refine br_f (by simpa using q1) ?_
      have hx : (if gI L (j : Int) ≤ day then (2 : Int) else if gI E (j : Int) ≤ day then 1 else 0) = 0 := by rw [gL, gE, if_neg q2, if_neg q1]
      ((try dsimp only [go_sem, Nat.reduceAdd, Nat.reduceMul, Nat.reduceSub]); repeat (simp only [Nat.beq_refl]; try dsimp only [go_sem, Nat.reduceAdd, Nat.reduceMul, Nat.reduceSub]))
      rw [w64_in (n := (j : Int) + 1) (by omega) (by omega)]
      refine ⟨(j + 1, ks), ⟨hlt, hkl, fun i hi => ?_⟩, by simp only; omega, ?_⟩
      · dsimp only
        have := hki i hi
        by_cases hij : i = j
        · subst hij; rw [this, if_neg (Nat.lt_irrefl i), if_pos (Nat.lt_succ_self i), hx]
        · rw [this]
          by_cases hij2 : i < j
          · rw [if_pos hij2, if_pos (c := i < j + 1) (by omega)]
          · rw [if_neg hij2, if_neg (c := i < j + 1) (by omega)]
      (refine ent_id ?_ ?_ ?_ rfl rfl <;> dsimp only [meetL, intL, u8L, U8, id, go_sem, Nat.reduceAdd, Nat.reduceMul, Nat.reduceSub] <;> simp [meetL, intL, u8L, U8, KFR_iff, KFR_app, KFR, KFL, KF, mtL_same, mtO, Nat.beq_refl])
    refine br_f (by simp; omega) ?_
    ((try dsimp only [go_sem, Nat.reduceAdd, Nat.reduceMul, Nat.reduceSub]); repeat (simp only [Nat.beq_refl]; try dsimp only [go_sem, Nat.reduceAdd, Nat.reduceMul, Nat.reduceSub]))
    have hjk : j = k := by omega
    subst hjk
    have hks : ks = mangeK j first meets wait day := by
      apply List.ext_getElem? 
      intro i
      unfold mangeK
      rw [Int.toNat_natCast, List.getElem?_map]
      by_cases hi : i < j
      · rw [hki i hi, if_pos hi, heq i hi, List.getElem?_range hi]; rfl
      · rw [List.getElem?_eq_none (by omega), List.getElem?_eq_none (by simp; omega)]; rfl
    rw [hks]
    simp [rowsK, hE0]
  · ((try dsimp only [go_sem, Nat.reduceAdd, Nat.reduceMul, Nat.reduceSub]); repeat (simp only [Nat.beq_refl]; try dsimp only [go_sem, Nat.reduceAdd, Nat.reduceMul, Nat.reduceSub]))
    refine gh (ent_frzp 15 3 0 _ rfl rfl rfl rfl (by simpa using hle)) ?_
    rw [← List.map_take, htk]
    clear htk hle
    generalize hfl0 : l.filter (·.close) = fl at *
    ((try dsimp only [go_sem, Nat.reduceAdd, Nat.reduceMul, Nat.reduceSub]); repeat (simp only [Nat.beq_refl]; try dsimp only [go_sem, Nat.reduceAdd, Nat.reduceMul, Nat.reduceSub]))
    refine call (spread_ok k first fl wait.hi day c1 false (by omega) (by omega) hf (fun m h => hml m (by rw [← hfl0] at h; exact (List.mem_filter.1 h).1)) (by omega) hl1 (by rw [← hfl0]; exact Nat.le_trans (List.length_filter_le _ _) (by omega))) ?_
    ((try dsimp only [go_sem, Nat.reduceAdd, Nat.reduceMul, Nat.reduceSub]); repeat (simp only [Nat.beq_refl]; try dsimp only [go_sem, Nat.reduceAdd, Nat.reduceMul, Nat.reduceSub]))
    have hlenE : (spreadF wait.lo day l (baseF first (List.replicate k 100061))).length = k := by rw [spreadF_len, baseF_len]; simp
    have hlenL : (spreadF wait.hi day fl (baseF first (List.replicate k 100061))).length = k := by rw [spreadF_len, baseF_len]; simp
    have heq : ∀ i : Nat, i < k → (if gI (spreadF wait.hi day fl (baseF first (List.replicate k 100061))) (i : Int) ≤ day then 2 else if gI (spreadF wait.lo day l (baseF first (List.replicate k 100061))) (i : Int) ≤ day then 1 else 0) = knF day (gI (sickF k first (act false meets) wait.lo) i) (gI (sickF k first (act true meets) wait.hi) i) := fun i hi => by
      have := mange_eq (meets := meets) (l := l) ⟨hw.1, hw.2.1⟩ hd hf hm hpl.perm hso (least_ex hf (fun m h => hm m h.1) (by omega)) (least_ex hf (fun m h => hm m h.1) (by omega)) hi
      rw [hfl0] at this
      exact this
    generalize spreadF wait.lo day l (baseF first (List.replicate k 100061)) = E at hlenE heq
    generalize spreadF wait.hi day fl (baseF first (List.replicate k 100061)) = L at hlenL heq
    refine ⟨k, rfl, by omega, ?_⟩
    ((try dsimp only [go_sem, Nat.reduceAdd, Nat.reduceMul, Nat.reduceSub]); repeat (simp only [Nat.beq_refl]; try dsimp only [go_sem, Nat.reduceAdd, Nat.reduceMul, Nat.reduceSub]))
    rw [show List.replicate k [SV.v (Value.int IntKind.u8 0)] = (List.replicate k (0 : Int)).map u8L from by simp [u8L, U8]]
    simp only [List.length_map, List.length_replicate]
    have hs0 : (List.replicate k (0 : Int)).length = k ∧ ∀ i, i < k → (List.replicate k (0 : Int))[i]? = some 0 := ⟨by simp, fun i hi => by rw [List.getElem?_replicate, if_pos hi]⟩
    generalize List.replicate k (0 : Int) = ks0 at hs0
    refine loopO (fun z : Nat × List Int => [(79, I z.1)]) (fun z => [(4, .row 0 1 (z.2.map u8L) 5)]) (fun z => z.1 ≤ k ∧ z.2.length = k ∧ ∀ i, i < k → z.2[i]? = some (if i < z.1 then (if gI L (i : Int) ≤ day then 2 else if gI E (i : Int) ≤ day then 1 else 0) else 0)) (fun z => k - z.1) (0, ks0) ⟨Nat.zero_le _, hs0.1, fun i hi => by rw [hs0.2 i hi, if_neg (Nat.not_lt_zero _)]⟩ ?_ ?_
    · (refine ent_id ?_ ?_ ?_ rfl rfl <;> dsimp only [meetL, intL, u8L, U8, id, go_sem, Nat.reduceAdd, Nat.reduceMul, Nat.reduceSub] <;> simp [meetL, intL, u8L, U8, KFR_iff, KFR_app, KFR, KFL, KF, mtL_same, mtO, Nat.beq_refl])
    rintro ⟨j, ks⟩ ⟨hj, hkl, hki⟩
    simp only at hj hkl hki
    ((try dsimp only [go_sem, Nat.reduceAdd, Nat.reduceMul, Nat.reduceSub]); repeat (simp only [Nat.beq_refl]; try dsimp only [go_sem, Nat.reduceAdd, Nat.reduceMul, Nat.reduceSub]))
    by_cases hlt : j < k
    · refine br_t (by simpa using hlt) ?_
      ((try dsimp only [go_sem, Nat.reduceAdd, Nat.reduceMul, Nat.reduceSub]); repeat (simp only [Nat.beq_refl]; try dsimp only [go_sem, Nat.reduceAdd, Nat.reduceMul, Nat.reduceSub]))
      have gL : gI L (j : Int) = L[j] := gI_eq rfl (by omega)
      have gE : gI E (j : Int) = E[j] := gI_eq rfl (by omega)
      refine ixs_map j (by omega) rfl ?_
      ((try dsimp only [intL, go_sem, Nat.reduceAdd, Nat.reduceMul, Nat.reduceSub]); repeat (simp only [Nat.beq_refl]; try dsimp only [go_sem, Nat.reduceAdd, Nat.reduceMul, Nat.reduceSub]))
      by_cases q2 : L[j] ≤ day
      · refine br_t (by simpa using q2) ?_
        have hx : (if gI L (j : Int) ≤ day then (2 : Int) else if gI E (j : Int) ≤ day then 1 else 0) = 2 := by rw [gL, if_pos q2]
        ((try dsimp only [go_sem, Nat.reduceAdd, Nat.reduceMul, Nat.reduceSub]); repeat (simp only [Nat.beq_refl]; try dsimp only [go_sem, Nat.reduceAdd, Nat.reduceMul, Nat.reduceSub]))
        refine ixrm j rfl (by first | omega | (simp; omega)) ?_
        ((try dsimp only [go_sem, Nat.reduceAdd, Nat.reduceMul, Nat.reduceSub]); repeat (simp only [Nat.beq_refl]; try dsimp only [go_sem, Nat.reduceAdd, Nat.reduceMul, Nat.reduceSub]))
        refine strm (2 : Int) (by first | omega | (simp; omega)) (by simp [u8L, U8]) (by simp [u8L, U8, splice]) ?_
        ((try dsimp only [go_sem, Nat.reduceAdd, Nat.reduceMul, Nat.reduceSub]); repeat (simp only [Nat.beq_refl]; try dsimp only [go_sem, Nat.reduceAdd, Nat.reduceMul, Nat.reduceSub]))
        rw [w64_in (n := (j : Int) + 1) (by omega) (by omega)]
        refine ⟨(j + 1, ks.set j 2), ⟨hlt, by simp [hkl], fun i hi => ?_⟩, by simp only; omega, ?_⟩
        · dsimp only
          have := hki i hi
          by_cases hij : i = j
          · subst hij; rw [List.getElem?_set_self (by omega), if_pos (Nat.lt_succ_self i), hx]
          · rw [List.getElem?_set_ne (by omega), this]
            by_cases hij2 : i < j
            · rw [if_pos hij2, if_pos (c := i < j + 1) (by omega)]
            · rw [if_neg hij2, if_neg (c := i < j + 1) (by omega)]
        generalize ks.set j 2 = ks2
        (refine ent_id ?_ ?_ ?_ rfl rfl <;> dsimp only [meetL, intL, u8L, U8, id, go_sem, Nat.reduceAdd, Nat.reduceMul, Nat.reduceSub] <;> simp [meetL, intL, u8L, U8, KFR_iff, KFR_app, KFR, KFL, KF, mtL_same, mtO, Nat.beq_refl])
      refine br_f (by simpa using q2) ?_
      ((try dsimp only [go_sem, Nat.reduceAdd, Nat.reduceMul, Nat.reduceSub]); repeat (simp only [Nat.beq_refl]; try dsimp only [go_sem, Nat.reduceAdd, Nat.reduceMul, Nat.reduceSub]))
      refine ixs_map j (by omega) rfl ?_
      ((try dsimp only [intL, go_sem, Nat.reduceAdd, Nat.reduceMul, Nat.reduceSub]); repeat (simp only [Nat.beq_refl]; try dsimp only [go_sem, Nat.reduceAdd, Nat.reduceMul, Nat.reduceSub]))
      by_cases q1 : E[j] ≤ day
      · refine br_t (by simpa using q1) ?_
        have hx : (if gI L (j : Int) ≤ day then (2 : Int) else if gI E (j : Int) ≤ day then 1 else 0) = 1 := by rw [gL, gE, if_neg q2, if_pos q1]
        ((try dsimp only [go_sem, Nat.reduceAdd, Nat.reduceMul, Nat.reduceSub]); repeat (simp only [Nat.beq_refl]; try dsimp only [go_sem, Nat.reduceAdd, Nat.reduceMul, Nat.reduceSub]))
        refine ixrm j rfl (by first | omega | (simp; omega)) ?_
        ((try dsimp only [go_sem, Nat.reduceAdd, Nat.reduceMul, Nat.reduceSub]); repeat (simp only [Nat.beq_refl]; try dsimp only [go_sem, Nat.reduceAdd, Nat.reduceMul, Nat.reduceSub]))
        refine strm (1 : Int) (by first | omega | (simp; omega)) (by simp [u8L, U8]) (by simp [u8L, U8, splice]) ?_
        ((try dsimp only [go_sem, Nat.reduceAdd, Nat.reduceMul, Nat.reduceSub]); repeat (simp only [Nat.beq_refl]; try dsimp only [go_sem, Nat.reduceAdd, Nat.reduceMul, Nat.reduceSub]))
        rw [w64_in (n := (j : Int) + 1) (by omega) (by omega)]
        refine ⟨(j + 1, ks.set j 1), ⟨hlt, by simp [hkl], fun i hi => ?_⟩, by simp only; omega, ?_⟩
        · dsimp only
          have := hki i hi
          by_cases hij : i = j
          · subst hij; rw [List.getElem?_set_self (by omega), if_pos (Nat.lt_succ_self i), hx]
          · rw [List.getElem?_set_ne (by omega), this]
            by_cases hij2 : i < j
            · rw [if_pos hij2, if_pos (c := i < j + 1) (by omega)]
            · rw [if_neg hij2, if_neg (c := i < j + 1) (by omega)]
        generalize ks.set j 1 = ks2
        (refine ent_id ?_ ?_ ?_ rfl rfl <;> dsimp only [meetL, intL, u8L, U8, id, go_sem, Nat.reduceAdd, Nat.reduceMul, Nat.reduceSub] <;> simp [meetL, intL, u8L, U8, KFR_iff, KFR_app, KFR, KFL, KF, mtL_same, mtO, Nat.beq_refl])
      refine br_f (by simpa using q1) ?_
      have hx : (if gI L (j : Int) ≤ day then (2 : Int) else if gI E (j : Int) ≤ day then 1 else 0) = 0 := by rw [gL, gE, if_neg q2, if_neg q1]
      ((try dsimp only [go_sem, Nat.reduceAdd, Nat.reduceMul, Nat.reduceSub]); repeat (simp only [Nat.beq_refl]; try dsimp only [go_sem, Nat.reduceAdd, Nat.reduceMul, Nat.reduceSub]))
      rw [w64_in (n := (j : Int) + 1) (by omega) (by omega)]
      refine ⟨(j + 1, ks), ⟨hlt, hkl, fun i hi => ?_⟩, by simp only; omega, ?_⟩
      · dsimp only
        have := hki i hi
        by_cases hij : i = j
        · subst hij; rw [this, if_neg (Nat.lt_irrefl i), if_pos (Nat.lt_succ_self i), hx]
        · rw [this]
          by_cases hij2 : i < j
          · rw [if_pos hij2, if_pos (c := i < j + 1) (by omega)]
          · rw [if_neg hij2, if_neg (c := i < j + 1) (by omega)]
      (refine ent_id ?_ ?_ ?_ rfl rfl <;> dsimp only [meetL, intL, u8L, U8, id, go_sem, Nat.reduceAdd, Nat.reduceMul, Nat.reduceSub] <;> simp [meetL, intL, u8L, U8, KFR_iff, KFR_app, KFR, KFL, KF, mtL_same, mtO, Nat.beq_refl])
    refine br_f (by simp; omega) ?_
    ((try dsimp only [go_sem, Nat.reduceAdd, Nat.reduceMul, Nat.reduceSub]); repeat (simp only [Nat.beq_refl]; try dsimp only [go_sem, Nat.reduceAdd, Nat.reduceMul, Nat.reduceSub]))
    have hjk : j = k := by omega
    subst hjk
    have hks : ks = mangeK j first meets wait day := by
      apply List.ext_getElem? 
      intro i
      unfold mangeK
      rw [Int.toNat_natCast, List.getElem?_map]
      by_cases hi : i < j
      · rw [hki i hi, if_pos hi, heq i hi, List.getElem?_range hi]; rfl
      · rw [List.getElem?_eq_none (by omega), List.getElem?_eq_none (by simp; omega)]; rfl
    rw [hks]
    simp [rowsK, hE0]
end Go.Proofs.Ytnlfjchbhgikaaa
