import Derived.Test.YtnlfjchbhgikaaaMF
set_option maxRecDepth 100000
set_option maxHeartbeats 4000000
namespace Go.Azalai
def gI (s : List Int) (i : Int) : Int := s.getD i.toNat 0
def inf1 (w d a b : Int) (s : List Int) : List Int := if gI s a ≤ d then s.set b.toNat (min (gI s b) (d + w)) else s
def meetS (w : Int) (m : Meet) (s : List Int) : List Int := inf1 w m.day m.b m.a (inf1 w m.day m.a m.b s)
def spreadF (w last : Int) : List Meet → List Int → List Int
  | [], s => s
  | m :: l, s => if m.day > last then s else spreadF w last l (meetS w m s)
def baseF : List Int → List Int → List Int
  | [], s => s
  | i :: l, s => baseF l (s.set i.toNat 0)
theorem inf1_len (w d a b : Int) (s : List Int) : (inf1 w d a b s).length = s.length := by unfold inf1; split <;> simp
def okM (n : Int) (m : Meet) : Prop := (0 ≤ m.a ∧ m.a < n) ∧ (0 ≤ m.b ∧ m.b < n) ∧ m.a ≠ m.b ∧ 0 ≤ m.day ∧ m.day ≤ 100000
theorem gI_eq {s : List Int} {i : Int} {k : Nat} (h : i = k) (hk : k < s.length) : gI s i = s[k] := by
  unfold gI; rw [h, Int.toNat_natCast, List.getD_eq_getElem?_getD, List.getElem?_eq_getElem hk]; rfl
end Go.Azalai
namespace Go.Proofs.Ytnlfjchbhgikaaa
open Go Go.Sx Go.Azalai
theorem spread_ok (n : Nat) (first : List Int) (meets : List Meet) (w last : Int) (c1 c2 : Bool) (hn : 1 ≤ n) (hn' : n ≤ 30) (hf : ∀ i ∈ first, 0 ≤ i ∧ i < n) (hm : ∀ m ∈ meets, okM n m) (hw : 0 ≤ w ∧ w ≤ 60) (hl1 : first.length ≤ 1000) (hl2 : meets.length ≤ 1000) :
    Ct Try.prog 83 [I n, .sl c1 1 (first.map intL), .sl c2 4 (meets.map meetL), I w, I last] (.sl false 1 ((spreadF w last meets (baseF first (List.replicate n 100061))).map intL)) := by
  refine t83 (by simp [meetL, KFR_iff, intL, KFL, KF]) (by simp [KFR_iff, intL, KFL, KF]) ?_
  dsimp only [c83, r83, go_sem, Nat.reduceAdd, Nat.reduceMul, Nat.reduceSub]
  refine callmP [] (repi_ok 100061 n hn (by omega) true) rfl rfl rfl ?_ ?_ ?_
  · ((try dsimp only [go_sem, Nat.reduceAdd, Nat.reduceMul, Nat.reduceSub]); repeat (simp only [Nat.beq_refl]; try dsimp only [go_sem, Nat.reduceAdd, Nat.reduceMul, Nat.reduceSub]))
    simp [mtL, mtB, mtS, KFR, KFL, KF]
  · ((try dsimp only [go_sem, Nat.reduceAdd, Nat.reduceMul, Nat.reduceSub]); repeat (simp only [Nat.beq_refl]; try dsimp only [go_sem, Nat.reduceAdd, Nat.reduceMul, Nat.reduceSub]))
  rintro _ rfl
  ((try dsimp only [go_sem, Nat.reduceAdd, Nat.reduceMul, Nat.reduceSub]); repeat (simp only [Nat.beq_refl]; try dsimp only [go_sem, Nat.reduceAdd, Nat.reduceMul, Nat.reduceSub]))
  simp only [List.length_map]
  rw [show List.replicate n [I 100061] = (List.replicate n (100061 : Int)).map intL from by simp [intL]]
  have hbl : ∀ (l s : List Int), (baseF l s).length = s.length := fun l => by
    induction l with
    | nil => intro s; rfl
    | cons i l ih => intro s; rw [baseF, ih]; simp
  have hsI : (List.replicate n (100061 : Int)).length = n := by simp
  generalize List.replicate n (100061 : Int) = sI at hsI
  refine loopO (fun z : Nat × List Int => [(22, I z.1)]) (fun z => [(0, .row 0 1 (z.2.map intL) 3)]) (fun z => z.1 ≤ first.length ∧ z.2.length = n ∧ baseF (first.drop z.1) z.2 = baseF first sI) (fun z => first.length - z.1) (0, sI) ⟨Nat.zero_le _, hsI, by simp⟩ ?_ ?_
  · (refine ent_id ?_ ?_ ?_ rfl rfl <;> dsimp only [meetL, intL, id, go_sem, Nat.reduceAdd, Nat.reduceMul, Nat.reduceSub] <;> simp [meetL, intL, KFR_iff, KFR_app, KFR, KFL, KF, mtL_same, mtO, Nat.beq_refl])
  rintro ⟨k, s⟩ ⟨hk, hs, hb⟩
  simp only at hk hs hb
  dsimp only [go_sem, Nat.reduceAdd, Nat.reduceMul, Nat.reduceSub]
  by_cases hlt : k < first.length
  · refine br_t (by simpa using hlt) ?_
    dsimp only [go_sem, Nat.reduceAdd, Nat.reduceMul, Nat.reduceSub]
    refine ixs_map k hlt rfl ?_
    dsimp only [intL, go_sem, Nat.reduceAdd, Nat.reduceMul, Nat.reduceSub]
    have hfk := hf first[k] (List.getElem_mem _)
    obtain ⟨p, hp⟩ : ∃ p : Nat, first[k] = (p : Int) := ⟨first[k].toNat, by omega⟩
    rw [List.drop_eq_getElem_cons hlt, hp] at hb
    rw [hp] at hfk
    rw [hp]
    refine ixrm p rfl (by first | omega | (simp; omega)) ?_
    ((try dsimp only [go_sem, Nat.reduceAdd, Nat.reduceMul, Nat.reduceSub]); repeat (simp only [Nat.beq_refl]; try dsimp only [go_sem, Nat.reduceAdd, Nat.reduceMul, Nat.reduceSub]))
    refine strm (0 : Int) (by first | omega | (simp; omega)) (by simp [intL]) (by simp [intL, splice]) ?_
    ((try dsimp only [go_sem, Nat.reduceAdd, Nat.reduceMul, Nat.reduceSub]); repeat (simp only [Nat.beq_refl]; try dsimp only [go_sem, Nat.reduceAdd, Nat.reduceMul, Nat.reduceSub]))
    rw [w64_in (n := (k : Int) + 1) (by omega) (by omega)]
    refine ⟨(k + 1, s.set p 0), ⟨hlt, by simp [hs], by simpa [baseF] using hb⟩, by simp only; omega, ?_⟩
    generalize s.set p 0 = s2
    (refine ent_id ?_ ?_ ?_ rfl rfl <;> dsimp only [meetL, intL, id, go_sem, Nat.reduceAdd, Nat.reduceMul, Nat.reduceSub] <;> simp [meetL, intL, KFR_iff, KFR_app, KFR, KFL, KF, mtL_same, mtO, Nat.beq_refl])
  refine br_f (by simp; omega) ?_
  dsimp only [go_sem, Nat.reduceAdd, Nat.reduceMul, Nat.reduceSub]
  rw [show k = first.length from by omega, List.drop_length] at hb
  simp only [baseF] at hb
  subst hb
  generalize baseF first sI = s0 at hs
  refine loopO (fun z : Nat × List Int => [(32, I z.1)]) (fun z => [(0, .row 0 1 (z.2.map intL) 3)]) (fun z => z.1 ≤ meets.length ∧ z.2.length = n ∧ spreadF w last (meets.drop z.1) z.2 = spreadF w last meets s0) (fun z => meets.length - z.1) (0, s0) ⟨Nat.zero_le _, hs, by simp⟩ ?_ ?_
  · (refine ent_id ?_ ?_ ?_ rfl rfl <;> dsimp only [meetL, intL, id, go_sem, Nat.reduceAdd, Nat.reduceMul, Nat.reduceSub] <;> simp [meetL, intL, KFR_iff, KFR_app, KFR, KFL, KF, mtL_same, mtO, Nat.beq_refl])
  rintro ⟨j, s⟩ ⟨hj, hs', hr⟩
  simp only at hj hs' hr
  dsimp only [go_sem, Nat.reduceAdd, Nat.reduceMul, Nat.reduceSub]
  by_cases hlt : j < meets.length
  case neg =>
    refine br_f (by simp; omega) ?_
    dsimp only [go_sem, Nat.reduceAdd, Nat.reduceMul, Nat.reduceSub]
    rw [show j = meets.length from by omega, List.drop_length] at hr
    simp only [spreadF] at hr
    rw [← hr]
  refine br_t (by simpa using hlt) ?_
  dsimp only [go_sem, Nat.reduceAdd, Nat.reduceMul, Nat.reduceSub]
  refine ixs_map j hlt rfl ?_
  dsimp only [meetL, go_sem, Nat.reduceAdd, Nat.reduceMul, Nat.reduceSub]
  refine ixs_map j hlt rfl ?_
  dsimp only [meetL, go_sem, Nat.reduceAdd, Nat.reduceMul, Nat.reduceSub]
  refine ixs_map j hlt rfl ?_
  dsimp only [meetL, go_sem, Nat.reduceAdd, Nat.reduceMul, Nat.reduceSub]
  refine ixs_map j hlt rfl ?_
  dsimp only [meetL, go_sem, Nat.reduceAdd, Nat.reduceMul, Nat.reduceSub]
  have hmj := hm meets[j] (List.getElem_mem _)
  rw [List.drop_eq_getElem_cons hlt] at hr
  generalize hmm : meets[j] = m at hmj hr
  obtain ⟨ma, mb, md, mc⟩ := m
  obtain ⟨⟨ha0, ha1⟩, ⟨hb0, hb1⟩, hab, hd0, hd1⟩ := hmj
  simp only at ha0 ha1 hb0 hb1 hab hd0 hd1
  obtain ⟨pa, rfl⟩ : ∃ p : Nat, ma = p := ⟨ma.toNat, by omega⟩
  obtain ⟨pb, rfl⟩ : ∃ p : Nat, mb = p := ⟨mb.toNat, by omega⟩
  simp only
  refine loopO (fun z : Nat × List Int => [(58, I z.1)]) (fun z => [(0, .row 0 1 (z.2.map intL) 3)]) (fun z => (z.1 = 0 ∧ z.2 = s) ∨ (z.1 = 1 ∧ ¬ md > last ∧ z.2 = inf1 w md pa pb s) ∨ (z.1 = 2 ∧ ¬ md > last ∧ z.2 = inf1 w md pb pa (inf1 w md pa pb s))) (fun z => 2 - z.1) (0, s) (.inl ⟨rfl, rfl⟩) ?_ ?_
  · (refine ent_id ?_ ?_ ?_ rfl rfl <;> dsimp only [meetL, intL, id, go_sem, Nat.reduceAdd, Nat.reduceMul, Nat.reduceSub] <;> simp [meetL, intL, KFR_iff, KFR_app, KFR, KFL, KF, mtL_same, mtO, Nat.beq_refl])
  rintro ⟨q, s1⟩ hq
  simp only at hq
  have hs1 : s1.length = n := by
    rcases hq with ⟨_, h⟩ | ⟨_, _, h⟩ | ⟨_, _, h⟩ <;> rw [h] <;> simp [inf1_len, hs']
  dsimp only [go_sem, Nat.reduceAdd, Nat.reduceMul, Nat.reduceSub]
  rcases hq with ⟨rfl, hss⟩ | ⟨rfl, hday, hss⟩ | ⟨rfl, hday, hss⟩
  · skip
    refine br_t (by decide) ?_
    dsimp only [go_sem, Nat.reduceAdd, Nat.reduceMul, Nat.reduceSub]
    refine ixa 0 rfl (by decide) ?_
    ((try dsimp only [go_sem, Nat.reduceAdd, Nat.reduceMul, Nat.reduceSub]); repeat (simp only [Nat.beq_refl]; try dsimp only [go_sem, Nat.reduceAdd, Nat.reduceMul, Nat.reduceSub]))
    refine ixs_map j hlt rfl ?_
    rw [hmm]
    dsimp only [meetL, go_sem, Nat.reduceAdd, Nat.reduceMul, Nat.reduceSub]
    by_cases hday : md > last
    · refine br_t (by simpa using hday) ?_
      dsimp only [go_sem, Nat.reduceAdd, Nat.reduceMul, Nat.reduceSub]
      simp only [spreadF] at hr
      rw [if_pos hday] at hr
      rw [← hr, hss]
    refine br_f (by simpa using hday) ?_
    ((try dsimp only [go_sem, Nat.reduceAdd, Nat.reduceMul, Nat.reduceSub]); repeat (simp only [Nat.beq_refl]; try dsimp only [go_sem, Nat.reduceAdd, Nat.reduceMul, Nat.reduceSub]))
    refine ixa 0 rfl (by decide) ?_
    ((try dsimp only [go_sem, Nat.reduceAdd, Nat.reduceMul, Nat.reduceSub]); repeat (simp only [Nat.beq_refl]; try dsimp only [go_sem, Nat.reduceAdd, Nat.reduceMul, Nat.reduceSub]))
    refine ixrm pa rfl (by first | omega | (simp; omega)) ?_
    ((try dsimp only [go_sem, Nat.reduceAdd, Nat.reduceMul, Nat.reduceSub]); repeat (simp only [Nat.beq_refl]; try dsimp only [go_sem, Nat.reduceAdd, Nat.reduceMul, Nat.reduceSub]))
    refine ldrm (by first | omega | (simp; omega)) ?_
    ((try dsimp only [intL, go_sem, Nat.reduceAdd, Nat.reduceMul, Nat.reduceSub]); repeat (simp only [Nat.beq_refl]; try dsimp only [go_sem, Nat.reduceAdd, Nat.reduceMul, Nat.reduceSub]))
    refine ixs_map j hlt rfl ?_
    rw [hmm]
    dsimp only [meetL, go_sem, Nat.reduceAdd, Nat.reduceMul, Nat.reduceSub]
    have hgpa : gI s1 (pa : Int) = s1[pa] := gI_eq rfl (by omega)
    have hgpb : gI s1 (pb : Int) = s1[pb] := gI_eq rfl (by omega)
    by_cases hle : s1[pa] ≤ md
    · refine br_t (by simpa using hle) ?_
      ((try dsimp only [go_sem, Nat.reduceAdd, Nat.reduceMul, Nat.reduceSub]); repeat (simp only [Nat.beq_refl]; try dsimp only [go_sem, Nat.reduceAdd, Nat.reduceMul, Nat.reduceSub]))
      refine ixa 1 rfl (by decide) ?_
      ((try dsimp only [go_sem, Nat.reduceAdd, Nat.reduceMul, Nat.reduceSub]); repeat (simp only [Nat.beq_refl]; try dsimp only [go_sem, Nat.reduceAdd, Nat.reduceMul, Nat.reduceSub]))
      refine ixa 1 rfl (by decide) ?_
      ((try dsimp only [go_sem, Nat.reduceAdd, Nat.reduceMul, Nat.reduceSub]); repeat (simp only [Nat.beq_refl]; try dsimp only [go_sem, Nat.reduceAdd, Nat.reduceMul, Nat.reduceSub]))
      refine ixrm pb rfl (by first | omega | (simp; omega)) ?_
      ((try dsimp only [go_sem, Nat.reduceAdd, Nat.reduceMul, Nat.reduceSub]); repeat (simp only [Nat.beq_refl]; try dsimp only [go_sem, Nat.reduceAdd, Nat.reduceMul, Nat.reduceSub]))
      refine ldrm (by first | omega | (simp; omega)) ?_
      ((try dsimp only [intL, go_sem, Nat.reduceAdd, Nat.reduceMul, Nat.reduceSub]); repeat (simp only [Nat.beq_refl]; try dsimp only [go_sem, Nat.reduceAdd, Nat.reduceMul, Nat.reduceSub]))
      refine ixs_map j hlt rfl ?_
      rw [hmm]
      dsimp only [meetL, go_sem, Nat.reduceAdd, Nat.reduceMul, Nat.reduceSub]
      rw [w64_in (n := md + w) (by omega) (by omega)]
      refine ixrm pb rfl (by first | omega | (simp; omega)) ?_
      ((try dsimp only [go_sem, Nat.reduceAdd, Nat.reduceMul, Nat.reduceSub]); repeat (simp only [Nat.beq_refl]; try dsimp only [go_sem, Nat.reduceAdd, Nat.reduceMul, Nat.reduceSub]))
      refine strm (min s1[pb] (md + w)) (by first | omega | (simp; omega)) (by simp [intL]) (by simp [intL, splice]) ?_
      ((try dsimp only [go_sem, Nat.reduceAdd, Nat.reduceMul, Nat.reduceSub]); repeat (simp only [Nat.beq_refl]; try dsimp only [go_sem, Nat.reduceAdd, Nat.reduceMul, Nat.reduceSub]))
      refine ⟨(1, s1.set pb (min s1[pb] (md + w))), .inr (.inl ⟨rfl, hday, ?_⟩), by simp only; omega, ?_⟩
      · simp only
        rw [show inf1 w md pa pb s = inf1 w md pa pb s1 from by rw [hss]]
        unfold inf1
        rw [if_pos (by rw [hgpa]; exact hle), hgpb, Int.toNat_natCast]
      generalize s1.set pb (min s1[pb] (md + w)) = s2
      (refine ent_id ?_ ?_ ?_ rfl rfl <;> dsimp only [meetL, intL, w64_1, w64_2, id, go_sem, Nat.reduceAdd, Nat.reduceMul, Nat.reduceSub] <;> simp [meetL, intL, w64_1, w64_2, KFR_iff, KFR_app, KFR, KFL, KF, mtL_same, mtO, Nat.beq_refl])
    refine br_f (by simpa using hle) ?_
    ((try dsimp only [go_sem, Nat.reduceAdd, Nat.reduceMul, Nat.reduceSub]); repeat (simp only [Nat.beq_refl]; try dsimp only [go_sem, Nat.reduceAdd, Nat.reduceMul, Nat.reduceSub]))
    refine ⟨(1, s1), .inr (.inl ⟨rfl, hday, ?_⟩), by simp only; omega, ?_⟩
    · simp only
      rw [show inf1 w md pa pb s = inf1 w md pa pb s1 from by rw [hss]]
      unfold inf1
      rw [if_neg (by rw [hgpa]; exact hle)]
    (refine ent_id ?_ ?_ ?_ rfl rfl <;> dsimp only [meetL, intL, w64_1, w64_2, id, go_sem, Nat.reduceAdd, Nat.reduceMul, Nat.reduceSub] <;> simp [meetL, intL, w64_1, w64_2, KFR_iff, KFR_app, KFR, KFL, KF, mtL_same, mtO, Nat.beq_refl])
  · skip
    refine br_t (by decide) ?_
    dsimp only [go_sem, Nat.reduceAdd, Nat.reduceMul, Nat.reduceSub]
    refine ixa 1 rfl (by decide) ?_
    ((try dsimp only [go_sem, Nat.reduceAdd, Nat.reduceMul, Nat.reduceSub]); repeat (simp only [Nat.beq_refl]; try dsimp only [go_sem, Nat.reduceAdd, Nat.reduceMul, Nat.reduceSub]))
    refine ixs_map j hlt rfl ?_
    rw [hmm]
    dsimp only [meetL, go_sem, Nat.reduceAdd, Nat.reduceMul, Nat.reduceSub]
    refine br_f (by simpa using hday) ?_
    ((try dsimp only [go_sem, Nat.reduceAdd, Nat.reduceMul, Nat.reduceSub]); repeat (simp only [Nat.beq_refl]; try dsimp only [go_sem, Nat.reduceAdd, Nat.reduceMul, Nat.reduceSub]))
    refine ixa 0 rfl (by decide) ?_
    ((try dsimp only [go_sem, Nat.reduceAdd, Nat.reduceMul, Nat.reduceSub]); repeat (simp only [Nat.beq_refl]; try dsimp only [go_sem, Nat.reduceAdd, Nat.reduceMul, Nat.reduceSub]))
    refine ixrm pb rfl (by first | omega | (simp; omega)) ?_
    ((try dsimp only [go_sem, Nat.reduceAdd, Nat.reduceMul, Nat.reduceSub]); repeat (simp only [Nat.beq_refl]; try dsimp only [go_sem, Nat.reduceAdd, Nat.reduceMul, Nat.reduceSub]))
    refine ldrm (by first | omega | (simp; omega)) ?_
    ((try dsimp only [intL, go_sem, Nat.reduceAdd, Nat.reduceMul, Nat.reduceSub]); repeat (simp only [Nat.beq_refl]; try dsimp only [go_sem, Nat.reduceAdd, Nat.reduceMul, Nat.reduceSub]))
    refine ixs_map j hlt rfl ?_
    rw [hmm]
    dsimp only [meetL, go_sem, Nat.reduceAdd, Nat.reduceMul, Nat.reduceSub]
    have hgpb : gI s1 (pb : Int) = s1[pb] := gI_eq rfl (by omega)
    have hgpa : gI s1 (pa : Int) = s1[pa] := gI_eq rfl (by omega)
    by_cases hle : s1[pb] ≤ md
    · refine br_t (by simpa using hle) ?_
      ((try dsimp only [go_sem, Nat.reduceAdd, Nat.reduceMul, Nat.reduceSub]); repeat (simp only [Nat.beq_refl]; try dsimp only [go_sem, Nat.reduceAdd, Nat.reduceMul, Nat.reduceSub]))
      refine ixa 1 rfl (by decide) ?_
      ((try dsimp only [go_sem, Nat.reduceAdd, Nat.reduceMul, Nat.reduceSub]); repeat (simp only [Nat.beq_refl]; try dsimp only [go_sem, Nat.reduceAdd, Nat.reduceMul, Nat.reduceSub]))
      refine ixa 1 rfl (by decide) ?_
      ((try dsimp only [go_sem, Nat.reduceAdd, Nat.reduceMul, Nat.reduceSub]); repeat (simp only [Nat.beq_refl]; try dsimp only [go_sem, Nat.reduceAdd, Nat.reduceMul, Nat.reduceSub]))
      refine ixrm pa rfl (by first | omega | (simp; omega)) ?_
      ((try dsimp only [go_sem, Nat.reduceAdd, Nat.reduceMul, Nat.reduceSub]); repeat (simp only [Nat.beq_refl]; try dsimp only [go_sem, Nat.reduceAdd, Nat.reduceMul, Nat.reduceSub]))
      refine ldrm (by first | omega | (simp; omega)) ?_
      ((try dsimp only [intL, go_sem, Nat.reduceAdd, Nat.reduceMul, Nat.reduceSub]); repeat (simp only [Nat.beq_refl]; try dsimp only [go_sem, Nat.reduceAdd, Nat.reduceMul, Nat.reduceSub]))
      refine ixs_map j hlt rfl ?_
      rw [hmm]
      dsimp only [meetL, go_sem, Nat.reduceAdd, Nat.reduceMul, Nat.reduceSub]
      rw [w64_in (n := md + w) (by omega) (by omega)]
      refine ixrm pa rfl (by first | omega | (simp; omega)) ?_
      ((try dsimp only [go_sem, Nat.reduceAdd, Nat.reduceMul, Nat.reduceSub]); repeat (simp only [Nat.beq_refl]; try dsimp only [go_sem, Nat.reduceAdd, Nat.reduceMul, Nat.reduceSub]))
      refine strm (min s1[pa] (md + w)) (by first | omega | (simp; omega)) (by simp [intL]) (by simp [intL, splice]) ?_
      ((try dsimp only [go_sem, Nat.reduceAdd, Nat.reduceMul, Nat.reduceSub]); repeat (simp only [Nat.beq_refl]; try dsimp only [go_sem, Nat.reduceAdd, Nat.reduceMul, Nat.reduceSub]))
      refine ⟨(2, s1.set pa (min s1[pa] (md + w))), .inr (.inr ⟨rfl, hday, ?_⟩), by simp only; omega, ?_⟩
      · simp only
        rw [show inf1 w md pb pa (inf1 w md pa pb s) = inf1 w md pb pa s1 from by rw [hss]]
        unfold inf1
        rw [if_pos (by rw [hgpb]; exact hle), hgpa, Int.toNat_natCast]
      generalize s1.set pa (min s1[pa] (md + w)) = s2
      (refine ent_id ?_ ?_ ?_ rfl rfl <;> dsimp only [meetL, intL, w64_1, w64_2, id, go_sem, Nat.reduceAdd, Nat.reduceMul, Nat.reduceSub] <;> simp [meetL, intL, w64_1, w64_2, KFR_iff, KFR_app, KFR, KFL, KF, mtL_same, mtO, Nat.beq_refl])
    refine br_f (by simpa using hle) ?_
    ((try dsimp only [go_sem, Nat.reduceAdd, Nat.reduceMul, Nat.reduceSub]); repeat (simp only [Nat.beq_refl]; try dsimp only [go_sem, Nat.reduceAdd, Nat.reduceMul, Nat.reduceSub]))
    refine ⟨(2, s1), .inr (.inr ⟨rfl, hday, ?_⟩), by simp only; omega, ?_⟩
    · simp only
      rw [show inf1 w md pb pa (inf1 w md pa pb s) = inf1 w md pb pa s1 from by rw [hss]]
      unfold inf1
      rw [if_neg (by rw [hgpb]; exact hle)]
    (refine ent_id ?_ ?_ ?_ rfl rfl <;> dsimp only [meetL, intL, w64_1, w64_2, id, go_sem, Nat.reduceAdd, Nat.reduceMul, Nat.reduceSub] <;> simp [meetL, intL, w64_1, w64_2, KFR_iff, KFR_app, KFR, KFL, KF, mtL_same, mtO, Nat.beq_refl])
  · refine br_f (by decide) ?_
    dsimp only [go_sem, Nat.reduceAdd, Nat.reduceMul, Nat.reduceSub]
    rw [w64_in (n := (j : Int) + 1) (by omega) (by omega)]
    refine ⟨(j + 1, s1), ⟨hlt, hs1, ?_⟩, by simp only; omega, ?_⟩
    · simp only [spreadF, meetS] at hr
      rw [if_neg hday] at hr
      show spreadF w last (List.drop (j + 1) meets) s1 = _
      rw [hss]; exact hr
    (refine ent_id ?_ ?_ ?_ rfl rfl <;> dsimp only [meetL, intL, id, go_sem, Nat.reduceAdd, Nat.reduceMul, Nat.reduceSub] <;> simp [meetL, intL, KFR_iff, KFR_app, KFR, KFL, KF, mtL_same, mtO, Nat.beq_refl])
end Go.Proofs.Ytnlfjchbhgikaaa
