import Derived.Test.YtnlfjchbhgikaaaMH
set_option maxRecDepth 100000
set_option maxHeartbeats 4000000
namespace Go.Proofs.Ytnlfjchbhgikaaa
open Go Go.Sx Go.Azalai
theorem sick_ok (n : Nat) (first : List Int) (meets : List Meet) (w : Int) (close c1 c2 : Bool) (hn : 1 ≤ n) (hn' : n ≤ 30) (hf : ∀ i ∈ first, 0 ≤ i ∧ i < (n : Int)) (hm : ∀ m ∈ meets, okM n m) (hw : 0 ≤ w ∧ w ≤ 60) (hl1 : first.length ≤ 1000) (hl2 : meets.length ≤ 1000) :
    Ct Try.prog 86 [I n, .sl c1 1 (first.map intL), .sl c2 4 (meets.map meetL), I w, B close] (.sl false 1 ((sickF n first (act close meets) w).map intL)) := by
  refine t86 (by simp [meetL, KFR_iff, intL, KFL, KF]) (by simp [KFR_iff, intL, KFL, KF]) ?_
  dsimp only [c86, r86, go_sem, Nat.reduceAdd, Nat.reduceMul, Nat.reduceSub]
  refine loopG (ent_nilslot 11 1 3 rfl rfl) (fun s : Nat × Nat => [(12, I s.1), (11, .mr 0 s.2)]) (fun s => [(0, .row s.2 1 ((List.replicate s.1 never).map intL) 3)]) (fun s => s.1 ≤ n) (fun s => n - s.1) (0, 0) (Nat.zero_le _) ?_ ?_
  · (refine ent_id ?_ ?_ ?_ rfl rfl <;> dsimp only [meetL, intL, id, go_sem, Nat.reduceAdd, Nat.reduceMul, Nat.reduceSub] <;> simp [meetL, intL, KFR_iff, KFR_app, KFR, KFL, KF, mtL_same, mtO, Nat.beq_refl])
  rintro ⟨k, v⟩ hk
  simp only at hk
  dsimp only [go_sem, Nat.reduceAdd, Nat.reduceMul, Nat.reduceSub]
  by_cases hlt : k < n
  · refine br_t (by simpa using hlt) ?_
    ((try dsimp only [go_sem, Nat.reduceAdd, Nat.reduceMul, Nat.reduceSub]); repeat (simp only [Nat.beq_refl]; try dsimp only [go_sem, Nat.reduceAdd, Nat.reduceMul, Nat.reduceSub]))
    refine ⟨(by intro c hc; simp only [List.mem_singleton] at hc; subst hc; rfl), by simp; omega, ?_⟩
    ((try dsimp only [go_sem, Nat.reduceAdd, Nat.reduceMul, Nat.reduceSub]); repeat (simp only [Nat.beq_refl]; try dsimp only [go_sem, Nat.reduceAdd, Nat.reduceMul, Nat.reduceSub]))
    rw [w64_in (n := (k : Int) + 1) (by omega) (by omega)]
    have hrow : (List.replicate k never).map intL ++ [[SV.v (Value.int IntKind.i64 1099511627776)]] = (List.replicate (k + 1) never).map intL := by
      rw [List.replicate_succ', List.map_append]; rfl
    rw [hrow]
    refine ⟨(k + 1, v + 1), hlt, by simp only; omega, ?_⟩
    generalize hg : List.replicate (k + 1) never = s2
    (refine ent_id ?_ ?_ ?_ rfl rfl <;> dsimp only [meetL, intL, hg, id, go_sem, Nat.reduceAdd, Nat.reduceMul, Nat.reduceSub] <;> simp [meetL, intL, hg, KFR_iff, KFR_app, KFR, KFL, KF, mtL_same, mtO, Nat.beq_refl])
  refine br_f (by simp; omega) ?_
  dsimp only [go_sem, Nat.reduceAdd, Nat.reduceMul, Nat.reduceSub]
  have hkn : k = n := by omega
  subst hkn
  have hsI : (List.replicate k never).length = k := by simp
  have hg0 : ∀ i : Int, 0 ≤ i → i < k → gI (List.replicate k never) i = never := fun i h0 h1 => gI_rep h0 h1
  generalize List.replicate k never = sI at hsI hg0
  refine loopO (fun z : Nat × List Int => [(13, I z.1)]) (fun z => [(0, .row v 1 (z.2.map intL) 3)]) (fun z => z.1 ≤ first.length ∧ z.2.length = k ∧ baseF (first.drop z.1) z.2 = baseF first sI) (fun z => first.length - z.1) (0, sI) ⟨Nat.zero_le _, hsI, by simp⟩ ?_ ?_
  · (refine ent_id ?_ ?_ ?_ rfl rfl <;> dsimp only [meetL, intL, id, go_sem, Nat.reduceAdd, Nat.reduceMul, Nat.reduceSub] <;> simp [meetL, intL, KFR_iff, KFR_app, KFR, KFL, KF, mtL_same, mtO, Nat.beq_refl])
  rintro ⟨j, s⟩ ⟨hj, hs, hb⟩
  simp only at hj hs hb
  dsimp only [go_sem, Nat.reduceAdd, Nat.reduceMul, Nat.reduceSub]
  simp only [List.length_map]
  by_cases hlt2 : j < first.length
  · refine br_t (by simpa using hlt2) ?_
    ((try dsimp only [go_sem, Nat.reduceAdd, Nat.reduceMul, Nat.reduceSub]); repeat (simp only [Nat.beq_refl]; try dsimp only [go_sem, Nat.reduceAdd, Nat.reduceMul, Nat.reduceSub]))
    refine ixs_map j hlt2 rfl ?_
    ((try dsimp only [intL, go_sem, Nat.reduceAdd, Nat.reduceMul, Nat.reduceSub]); repeat (simp only [Nat.beq_refl]; try dsimp only [go_sem, Nat.reduceAdd, Nat.reduceMul, Nat.reduceSub]))
    have hfk := hf first[j] (List.getElem_mem _)
    obtain ⟨p, hp⟩ : ∃ p : Nat, first[j] = (p : Int) := ⟨first[j].toNat, by omega⟩
    rw [List.drop_eq_getElem_cons hlt2, hp] at hb
    rw [hp] at hfk
    rw [hp]
    refine ixrm p rfl (by first | omega | (simp; omega)) ?_
    ((try dsimp only [go_sem, Nat.reduceAdd, Nat.reduceMul, Nat.reduceSub]); repeat (simp only [Nat.beq_refl]; try dsimp only [go_sem, Nat.reduceAdd, Nat.reduceMul, Nat.reduceSub]))
    refine strm (0 : Int) (by first | omega | (simp; omega)) (by simp [intL]) (by simp [intL, splice]) ?_
    ((try dsimp only [go_sem, Nat.reduceAdd, Nat.reduceMul, Nat.reduceSub]); repeat (simp only [Nat.beq_refl]; try dsimp only [go_sem, Nat.reduceAdd, Nat.reduceMul, Nat.reduceSub]))
    rw [w64_in (n := (j : Int) + 1) (by omega) (by omega)]
    refine ⟨(j + 1, s.set p 0), ⟨hlt2, by simp [hs], by simpa [baseF] using hb⟩, by simp only; omega, ?_⟩
    generalize s.set p 0 = s2
    (refine ent_id ?_ ?_ ?_ rfl rfl <;> dsimp only [meetL, intL, id, go_sem, Nat.reduceAdd, Nat.reduceMul, Nat.reduceSub] <;> simp [meetL, intL, KFR_iff, KFR_app, KFR, KFL, KF, mtL_same, mtO, Nat.beq_refl])
  refine br_f (by simp; omega) ?_
  dsimp only [go_sem, Nat.reduceAdd, Nat.reduceMul, Nat.reduceSub]
  rw [show j = first.length from by omega, List.drop_length] at hb
  simp only [baseF] at hb
  have hSk : Sk k first (act close meets) w s := by
    have hbg := baseF_gI (n := k) first sI (by rw [hsI]) hf
    refine ⟨hs, fun i h0 h1 => ?_, fun i hi => ?_, fun i h0 h1 => ?_⟩
    · rw [hb, hbg i h0]
      split
      · rename_i h; exact .inr (.base h)
      · exact .inl (hg0 i h0 h1)
    · rw [hb, hbg i (hf i hi).1, if_pos hi]; exact Int.le_refl _
    · rw [hb, hbg i h0]
      split
      · unfold never; omega
      · rw [hg0 i h0 h1]; exact Int.le_refl _
  clear hb hg0
  refine loopO (fun z : List Int × Bool => [(14, B z.2)]) (fun z => [(0, .row v 1 (z.1.map intL) 3)]) (fun z => Sk k first (act close meets) w z.1 ∧ (z.2 = false → ∀ m, act close meets m → inf1 w m.day m.a m.b z.1 = z.1 ∧ inf1 w m.day m.b m.a z.1 = z.1)) (fun z => sumN z.1 + cond z.2 1 0) (s, true) ⟨hSk, fun h => by cases h⟩ ?_ ?_
  · (refine ent_id ?_ ?_ ?_ rfl rfl <;> dsimp only [meetL, intL, id, go_sem, Nat.reduceAdd, Nat.reduceMul, Nat.reduceSub] <;> simp [meetL, intL, KFR_iff, KFR_app, KFR, KFL, KF, mtL_same, mtO, Nat.beq_refl])
  rintro ⟨s1, ch⟩ ⟨hS1, hfix⟩
  simp only at hS1 hfix
  dsimp only [go_sem, Nat.reduceAdd, Nat.reduceMul, Nat.reduceSub]
  cases ch with
  | false =>
    refine br_f rfl ?_
    ((try dsimp only [go_sem, Nat.reduceAdd, Nat.reduceMul, Nat.reduceSub]); repeat (simp only [Nat.beq_refl]; try dsimp only [go_sem, Nat.reduceAdd, Nat.reduceMul, Nat.reduceSub]))
    have := (hS1.least (fun m hm' => hm m hm'.1) (hfix rfl)).sickF
    rw [this]
  | true =>
    refine br_t rfl ?_
    dsimp only [go_sem, Nat.reduceAdd, Nat.reduceMul, Nat.reduceSub]
    refine loopO (fun z : Nat × List Int × Bool => [(15, I z.1), (14, B z.2.2)]) (fun z => [(0, .row v 1 (z.2.1.map intL) 3)]) (fun z => z.1 ≤ meets.length ∧ Sk k first (act close meets) w z.2.1 ∧ (z.2.2 = false → z.2.1 = s1 ∧ ∀ m ∈ meets.take z.1, (close = true → m.close = true) → inf1 w m.day m.a m.b s1 = s1 ∧ inf1 w m.day m.b m.a s1 = s1) ∧ (z.2.2 = true → sumN z.2.1 < sumN s1)) (fun z => meets.length - z.1) (0, s1, false) ⟨Nat.zero_le _, hS1, fun _ => ⟨rfl, fun m hm => by simp at hm⟩, fun h => by cases h⟩ ?_ ?_
    · (refine ent_id ?_ ?_ ?_ rfl rfl <;> dsimp only [meetL, intL, id, go_sem, Nat.reduceAdd, Nat.reduceMul, Nat.reduceSub] <;> simp [meetL, intL, KFR_iff, KFR_app, KFR, KFL, KF, mtL_same, mtO, Nat.beq_refl])
    rintro ⟨q, s2, ch2⟩ ⟨hq, hS2, hch0, hch1⟩
    simp only at hq hS2 hch0 hch1
    dsimp only [go_sem, Nat.reduceAdd, Nat.reduceMul, Nat.reduceSub]
    by_cases hlt3 : q < meets.length
    case neg =>
      refine br_f (by simp; omega) ?_
      ((try dsimp only [go_sem, Nat.reduceAdd, Nat.reduceMul, Nat.reduceSub]); repeat (simp only [Nat.beq_refl]; try dsimp only [go_sem, Nat.reduceAdd, Nat.reduceMul, Nat.reduceSub]))
      refine ⟨(s2, ch2), ⟨hS2, fun h => ?_⟩, ?_, ?_⟩
      · simp only at h ⊢
        obtain ⟨rfl, h2⟩ := hch0 h
        intro m hm'
        exact h2 m (by rw [List.take_of_length_le (by omega)]; exact hm'.1) hm'.2
      · simp only
        cases ch2 with
        | false => rw [(hch0 rfl).1]; simp
        | true => have := hch1 rfl; simp; omega
      (refine ent_id ?_ ?_ ?_ rfl rfl <;> dsimp only [meetL, intL, id, go_sem, Nat.reduceAdd, Nat.reduceMul, Nat.reduceSub] <;> simp [meetL, intL, KFR_iff, KFR_app, KFR, KFL, KF, mtL_same, mtO, Nat.beq_refl])
    refine br_t (by simp; omega) ?_
    ((try dsimp only [go_sem, Nat.reduceAdd, Nat.reduceMul, Nat.reduceSub]); repeat (simp only [Nat.beq_refl]; try dsimp only [go_sem, Nat.reduceAdd, Nat.reduceMul, Nat.reduceSub]))
    refine ixs_map q hlt3 rfl ?_
    ((try dsimp only [meetL, go_sem, Nat.reduceAdd, Nat.reduceMul, Nat.reduceSub]); repeat (simp only [Nat.beq_refl]; try dsimp only [go_sem, Nat.reduceAdd, Nat.reduceMul, Nat.reduceSub]))
    have hmj := hm meets[q] (List.getElem_mem _)
    have hact : (close = true → meets[q].close = true) → act close meets meets[q] := fun h => ⟨List.getElem_mem _, h⟩
    have htk : meets.take (q + 1) = meets.take q ++ [meets[q]] := (List.take_append_getElem hlt3).symm
    generalize meets[q] = m at hmj hact htk
    obtain ⟨ma, mb, md, mc⟩ := m
    obtain ⟨⟨ha0, ha1⟩, ⟨hb0, hb1⟩, hab, hd0, hd1⟩ := hmj
    simp only at ha0 ha1 hb0 hb1 hab hd0 hd1
    obtain ⟨pa, rfl⟩ : ∃ p : Nat, ma = p := ⟨ma.toNat, by omega⟩
    obtain ⟨pb, rfl⟩ : ∃ p : Nat, mb = p := ⟨mb.toNat, by omega⟩
    simp only at hact ⊢
    have hl2' := hS2.len
    repeat (refine gb ?_; ((try dsimp only [go_sem, Nat.reduceAdd, Nat.reduceMul, Nat.reduceSub]); repeat (simp only [Nat.beq_refl]; try dsimp only [go_sem, Nat.reduceAdd, Nat.reduceMul, Nat.reduceSub])))
    by_cases hcl : close = true ∧ mc = false
    · obtain ⟨rfl, rfl⟩ := hcl
      refine br_t rfl ?_
      ((try dsimp only [go_sem, Nat.reduceAdd, Nat.reduceMul, Nat.reduceSub]); repeat (simp only [Nat.beq_refl]; try dsimp only [go_sem, Nat.reduceAdd, Nat.reduceMul, Nat.reduceSub]))
      rw [w64_in (n := (q : Int) + 1) (by omega) (by omega)]
      refine ⟨(q + 1, s2, ch2), ⟨hlt3, hS2, fun h => ⟨(hch0 h).1, fun m hm' hc => ?_⟩, hch1⟩, by simp only; omega, ?_⟩
      · rw [htk] at hm'
        rcases List.mem_append.1 hm' with h' | h'
        · exact (hch0 h).2 m h' (by simpa using hc)
        · simp at h'; subst h'; exact absurd hc (by simp)
      (refine ent_id ?_ ?_ ?_ rfl rfl <;> dsimp only [meetL, intL, id, go_sem, Nat.reduceAdd, Nat.reduceMul, Nat.reduceSub] <;> simp [meetL, intL, KFR_iff, KFR_app, KFR, KFL, KF, mtL_same, mtO, Nat.beq_refl])
    refine br_f (by cases close <;> cases mc <;> simp_all) ?_
    ((try dsimp only [go_sem, Nat.reduceAdd, Nat.reduceMul, Nat.reduceSub]); repeat (simp only [Nat.beq_refl]; try dsimp only [go_sem, Nat.reduceAdd, Nat.reduceMul, Nat.reduceSub]))
    have hcc : close = true → mc = true := fun h => by cases mc with | true => rfl | false => exact absurd ⟨h, rfl⟩ hcl
    have hac := hact hcc
    have hsl : sumN s2 ≤ sumN s1 := by
      cases ch2 with
      | false => rw [(hch0 rfl).1]; exact Nat.le_refl _
      | true => exact Nat.le_of_lt (hch1 rfl)
    refine ixrm pa rfl (by first | omega | (simp; omega)) ?_
    ((try dsimp only [go_sem, Nat.reduceAdd, Nat.reduceMul, Nat.reduceSub]); repeat (simp only [Nat.beq_refl]; try dsimp only [go_sem, Nat.reduceAdd, Nat.reduceMul, Nat.reduceSub]))
    refine ldrm (by first | omega | (simp; omega)) ?_
    ((try dsimp only [intL, go_sem, Nat.reduceAdd, Nat.reduceMul, Nat.reduceSub]); repeat (simp only [Nat.beq_refl]; try dsimp only [go_sem, Nat.reduceAdd, Nat.reduceMul, Nat.reduceSub]))
    have hgxa : gI s2 (pa : Int) = s2[pa] := gI_eq rfl (by omega)
    have hgya : gI s2 (pb : Int) = s2[pb] := gI_eq rfl (by omega)
    by_cases h1a : s2[pa] ≤ md
    · rw [show decide (s2[pa] ≤ md) = true from by simpa using h1a]
      repeat (refine .inl ⟨rfl, ?_⟩; ((try dsimp only [go_sem, Nat.reduceAdd, Nat.reduceMul, Nat.reduceSub]); repeat (simp only [Nat.beq_refl]; try dsimp only [go_sem, Nat.reduceAdd, Nat.reduceMul, Nat.reduceSub])))
      rw [w64_in (n := md + w) (by omega) (by omega)]
      refine ixrm pb rfl (by first | omega | (simp; omega)) ?_
      ((try dsimp only [go_sem, Nat.reduceAdd, Nat.reduceMul, Nat.reduceSub]); repeat (simp only [Nat.beq_refl]; try dsimp only [go_sem, Nat.reduceAdd, Nat.reduceMul, Nat.reduceSub]))
      try (refine .inl ⟨rfl, ?_⟩; ((try dsimp only [go_sem, Nat.reduceAdd, Nat.reduceMul, Nat.reduceSub]); repeat (simp only [Nat.beq_refl]; try dsimp only [go_sem, Nat.reduceAdd, Nat.reduceMul, Nat.reduceSub])))
      refine ldrm (by first | omega | (simp; omega)) ?_
      ((try dsimp only [intL, go_sem, Nat.reduceAdd, Nat.reduceMul, Nat.reduceSub]); repeat (simp only [Nat.beq_refl]; try dsimp only [go_sem, Nat.reduceAdd, Nat.reduceMul, Nat.reduceSub]))
      repeat (refine .inl ⟨rfl, ?_⟩; ((try dsimp only [go_sem, Nat.reduceAdd, Nat.reduceMul, Nat.reduceSub]); repeat (simp only [Nat.beq_refl]; try dsimp only [go_sem, Nat.reduceAdd, Nat.reduceMul, Nat.reduceSub])))
      by_cases h2a : md + w < s2[pb]
      · refine br_t (by simpa using h2a) ?_
        ((try dsimp only [go_sem, Nat.reduceAdd, Nat.reduceMul, Nat.reduceSub]); repeat (simp only [Nat.beq_refl]; try dsimp only [go_sem, Nat.reduceAdd, Nat.reduceMul, Nat.reduceSub]))
        rw [w64_in (n := md + w) (by omega) (by omega)]
        refine ixrm pb rfl (by first | omega | (simp; omega)) ?_
        ((try dsimp only [go_sem, Nat.reduceAdd, Nat.reduceMul, Nat.reduceSub]); repeat (simp only [Nat.beq_refl]; try dsimp only [go_sem, Nat.reduceAdd, Nat.reduceMul, Nat.reduceSub]))
        refine strm (md + w) (by first | omega | (simp; omega)) (by simp [intL]) (by simp [intL, splice]) ?_
        ((try dsimp only [go_sem, Nat.reduceAdd, Nat.reduceMul, Nat.reduceSub]); repeat (simp only [Nat.beq_refl]; try dsimp only [go_sem, Nat.reduceAdd, Nat.reduceMul, Nat.reduceSub]))
        have ea : inf1 w md pa pb s2 = s2.set pb (md + w) := by
          rw [inf1_if (by omega) (by omega), hgxa, hgya, if_pos ⟨h1a, h2a⟩, Int.toNat_natCast]
        have hlta := inf1_lt (w := w) (d := md) (a := pa) (b := pb) (s := s2) (by omega) (by omega) (by omega) (by rw [hgxa]; exact h1a) (by rw [hgya]; exact h2a)
        rw [← ea]
        obtain ⟨s3, hFa⟩ : ∃ l, l = inf1 w md pa pb s2 := ⟨_, rfl⟩
        rw [← hFa]
        rw [← hFa] at hlta
        have hls3 : s3.length = k := by rw [hFa, inf1_len]; omega
        refine ixrm pb rfl (by first | omega | (simp; omega)) ?_
        ((try dsimp only [go_sem, Nat.reduceAdd, Nat.reduceMul, Nat.reduceSub]); repeat (simp only [Nat.beq_refl]; try dsimp only [go_sem, Nat.reduceAdd, Nat.reduceMul, Nat.reduceSub]))
        refine ldrm (by first | omega | (simp; omega)) ?_
        ((try dsimp only [intL, go_sem, Nat.reduceAdd, Nat.reduceMul, Nat.reduceSub]); repeat (simp only [Nat.beq_refl]; try dsimp only [go_sem, Nat.reduceAdd, Nat.reduceMul, Nat.reduceSub]))
        have hgxb : gI s3 (pb : Int) = s3[pb] := gI_eq rfl (by omega)
        have hgyb : gI s3 (pa : Int) = s3[pa] := gI_eq rfl (by omega)
        by_cases h1b : s3[pb] ≤ md
        · rw [show decide (s3[pb] ≤ md) = true from by simpa using h1b]
          repeat (refine .inl ⟨rfl, ?_⟩; ((try dsimp only [go_sem, Nat.reduceAdd, Nat.reduceMul, Nat.reduceSub]); repeat (simp only [Nat.beq_refl]; try dsimp only [go_sem, Nat.reduceAdd, Nat.reduceMul, Nat.reduceSub])))
          rw [w64_in (n := md + w) (by omega) (by omega)]
          refine ixrm pa rfl (by first | omega | (simp; omega)) ?_
          ((try dsimp only [go_sem, Nat.reduceAdd, Nat.reduceMul, Nat.reduceSub]); repeat (simp only [Nat.beq_refl]; try dsimp only [go_sem, Nat.reduceAdd, Nat.reduceMul, Nat.reduceSub]))
          try (refine .inl ⟨rfl, ?_⟩; ((try dsimp only [go_sem, Nat.reduceAdd, Nat.reduceMul, Nat.reduceSub]); repeat (simp only [Nat.beq_refl]; try dsimp only [go_sem, Nat.reduceAdd, Nat.reduceMul, Nat.reduceSub])))
          refine ldrm (by first | omega | (simp; omega)) ?_
          ((try dsimp only [intL, go_sem, Nat.reduceAdd, Nat.reduceMul, Nat.reduceSub]); repeat (simp only [Nat.beq_refl]; try dsimp only [go_sem, Nat.reduceAdd, Nat.reduceMul, Nat.reduceSub]))
          repeat (refine .inl ⟨rfl, ?_⟩; ((try dsimp only [go_sem, Nat.reduceAdd, Nat.reduceMul, Nat.reduceSub]); repeat (simp only [Nat.beq_refl]; try dsimp only [go_sem, Nat.reduceAdd, Nat.reduceMul, Nat.reduceSub])))
          by_cases h2b : md + w < s3[pa]
          · refine br_t (by simpa using h2b) ?_
            ((try dsimp only [go_sem, Nat.reduceAdd, Nat.reduceMul, Nat.reduceSub]); repeat (simp only [Nat.beq_refl]; try dsimp only [go_sem, Nat.reduceAdd, Nat.reduceMul, Nat.reduceSub]))
            rw [w64_in (n := md + w) (by omega) (by omega)]
            refine ixrm pa rfl (by first | omega | (simp; omega)) ?_
            ((try dsimp only [go_sem, Nat.reduceAdd, Nat.reduceMul, Nat.reduceSub]); repeat (simp only [Nat.beq_refl]; try dsimp only [go_sem, Nat.reduceAdd, Nat.reduceMul, Nat.reduceSub]))
            refine strm (md + w) (by first | omega | (simp; omega)) (by simp [intL]) (by simp [intL, splice]) ?_
            ((try dsimp only [go_sem, Nat.reduceAdd, Nat.reduceMul, Nat.reduceSub]); repeat (simp only [Nat.beq_refl]; try dsimp only [go_sem, Nat.reduceAdd, Nat.reduceMul, Nat.reduceSub]))
            have eb : inf1 w md pb pa s3 = s3.set pa (md + w) := by
              rw [inf1_if (by omega) (by omega), hgxb, hgyb, if_pos ⟨h1b, h2b⟩, Int.toNat_natCast]
            have hltb := inf1_lt (w := w) (d := md) (a := pb) (b := pa) (s := s3) (by omega) (by omega) (by omega) (by rw [hgxb]; exact h1b) (by rw [hgyb]; exact h2b)
            rw [← eb]
            obtain ⟨s4, hFb⟩ : ∃ l, l = inf1 w md pb pa s3 := ⟨_, rfl⟩
            rw [← hFb]
            rw [← hFb] at hltb
            have hls4 : s4.length = k := by rw [hFb, inf1_len]; omega
            have hS3 : Sk k first (act close meets) w s3 := by rw [hFa]; exact hS2.step hf ⟨ha0, ha1⟩ ⟨hb0, hb1⟩ hd1 (fun t g1 g2 => .l hac g1 g2)
            have hS4 : Sk k first (act close meets) w s4 := by rw [hFb]; exact hS3.step hf ⟨hb0, hb1⟩ ⟨ha0, ha1⟩ hd1 (fun t g1 g2 => .r hac g1 g2)
            rw [w64_in (n := (q : Int) + 1) (by omega) (by omega)]
            refine ⟨(q + 1, s4, true), ⟨hlt3, hS4, fun h => (by cases h), fun _ => (show sumN s4 < sumN s1 by omega)⟩, by simp only; omega, ?_⟩
            (refine ent_id ?_ ?_ ?_ rfl rfl <;> dsimp only [meetL, intL, id, go_sem, Nat.reduceAdd, Nat.reduceMul, Nat.reduceSub] <;> simp [meetL, intL, KFR_iff, KFR_app, KFR, KFL, KF, mtL_same, mtO, Nat.beq_refl])
          · refine br_f (by simpa using h2b) ?_
            ((try dsimp only [go_sem, Nat.reduceAdd, Nat.reduceMul, Nat.reduceSub]); repeat (simp only [Nat.beq_refl]; try dsimp only [go_sem, Nat.reduceAdd, Nat.reduceMul, Nat.reduceSub]))
            have hFb : s3 = inf1 w md pb pa s3 := by
              rw [inf1_if (by omega) (by omega), hgxb, hgyb, if_neg (fun h => h2b h.2)]
            have hltb : sumN s3 ≤ sumN s3 := Nat.le_refl _
            have hS3 : Sk k first (act close meets) w s3 := by rw [hFa]; exact hS2.step hf ⟨ha0, ha1⟩ ⟨hb0, hb1⟩ hd1 (fun t g1 g2 => .l hac g1 g2)
            have hS4 : Sk k first (act close meets) w s3 := by rw [hFb]; exact hS3.step hf ⟨hb0, hb1⟩ ⟨ha0, ha1⟩ hd1 (fun t g1 g2 => .r hac g1 g2)
            rw [w64_in (n := (q : Int) + 1) (by omega) (by omega)]
            refine ⟨(q + 1, s3, true), ⟨hlt3, hS4, fun h => (by cases h), fun _ => (show sumN s3 < sumN s1 by omega)⟩, by simp only; omega, ?_⟩
            (refine ent_id ?_ ?_ ?_ rfl rfl <;> dsimp only [meetL, intL, id, go_sem, Nat.reduceAdd, Nat.reduceMul, Nat.reduceSub] <;> simp [meetL, intL, KFR_iff, KFR_app, KFR, KFL, KF, mtL_same, mtO, Nat.beq_refl])
        · rw [show decide (s3[pb] ≤ md) = false from by simpa using h1b]
          repeat (refine gb ?_; ((try dsimp only [go_sem, Nat.reduceAdd, Nat.reduceMul, Nat.reduceSub]); repeat (simp only [Nat.beq_refl]; try dsimp only [go_sem, Nat.reduceAdd, Nat.reduceMul, Nat.reduceSub])))
          refine ixrm_v 0 rfl (fun h => by cases h) ?_
          ((try dsimp only [go_sem, Nat.reduceAdd, Nat.reduceMul, Nat.reduceSub]); repeat (simp only [Nat.beq_refl]; try dsimp only [go_sem, Nat.reduceAdd, Nat.reduceMul, Nat.reduceSub]))
          refine gb ?_
          ((try dsimp only [go_sem, Nat.reduceAdd, Nat.reduceMul, Nat.reduceSub]); repeat (simp only [Nat.beq_refl]; try dsimp only [go_sem, Nat.reduceAdd, Nat.reduceMul, Nat.reduceSub]))
          refine ⟨intL 0, imp_v rfl (fun h => by cases h), ?_⟩
          ((try dsimp only [intL, go_sem, Nat.reduceAdd, Nat.reduceMul, Nat.reduceSub]); repeat (simp only [Nat.beq_refl]; try dsimp only [go_sem, Nat.reduceAdd, Nat.reduceMul, Nat.reduceSub]))
          repeat (refine gb ?_; ((try dsimp only [go_sem, Nat.reduceAdd, Nat.reduceMul, Nat.reduceSub]); repeat (simp only [Nat.beq_refl]; try dsimp only [go_sem, Nat.reduceAdd, Nat.reduceMul, Nat.reduceSub])))
          refine br_f rfl ?_
          ((try dsimp only [go_sem, Nat.reduceAdd, Nat.reduceMul, Nat.reduceSub]); repeat (simp only [Nat.beq_refl]; try dsimp only [go_sem, Nat.reduceAdd, Nat.reduceMul, Nat.reduceSub]))
          have hFb : s3 = inf1 w md pb pa s3 := by
            rw [inf1_if (by omega) (by omega), hgxb, hgyb, if_neg (fun h => h1b h.1)]
          have hltb : sumN s3 ≤ sumN s3 := Nat.le_refl _
          have hS3 : Sk k first (act close meets) w s3 := by rw [hFa]; exact hS2.step hf ⟨ha0, ha1⟩ ⟨hb0, hb1⟩ hd1 (fun t g1 g2 => .l hac g1 g2)
          have hS4 : Sk k first (act close meets) w s3 := by rw [hFb]; exact hS3.step hf ⟨hb0, hb1⟩ ⟨ha0, ha1⟩ hd1 (fun t g1 g2 => .r hac g1 g2)
          rw [w64_in (n := (q : Int) + 1) (by omega) (by omega)]
          refine ⟨(q + 1, s3, true), ⟨hlt3, hS4, fun h => (by cases h), fun _ => (show sumN s3 < sumN s1 by omega)⟩, by simp only; omega, ?_⟩
          (refine ent_id ?_ ?_ ?_ rfl rfl <;> dsimp only [meetL, intL, id, go_sem, Nat.reduceAdd, Nat.reduceMul, Nat.reduceSub] <;> simp [meetL, intL, KFR_iff, KFR_app, KFR, KFL, KF, mtL_same, mtO, Nat.beq_refl])
      · refine br_f (by simpa using h2a) ?_
        ((try dsimp only [go_sem, Nat.reduceAdd, Nat.reduceMul, Nat.reduceSub]); repeat (simp only [Nat.beq_refl]; try dsimp only [go_sem, Nat.reduceAdd, Nat.reduceMul, Nat.reduceSub]))
        have hFa : s2 = inf1 w md pa pb s2 := by
          rw [inf1_if (by omega) (by omega), hgxa, hgya, if_neg (fun h => h2a h.2)]
        have hlta : sumN s2 ≤ sumN s2 := Nat.le_refl _
        refine ixrm pb rfl (by first | omega | (simp; omega)) ?_
        ((try dsimp only [go_sem, Nat.reduceAdd, Nat.reduceMul, Nat.reduceSub]); repeat (simp only [Nat.beq_refl]; try dsimp only [go_sem, Nat.reduceAdd, Nat.reduceMul, Nat.reduceSub]))
        refine ldrm (by first | omega | (simp; omega)) ?_
        ((try dsimp only [intL, go_sem, Nat.reduceAdd, Nat.reduceMul, Nat.reduceSub]); repeat (simp only [Nat.beq_refl]; try dsimp only [go_sem, Nat.reduceAdd, Nat.reduceMul, Nat.reduceSub]))
        have hgxb : gI s2 (pb : Int) = s2[pb] := gI_eq rfl (by omega)
        have hgyb : gI s2 (pa : Int) = s2[pa] := gI_eq rfl (by omega)
        by_cases h1b : s2[pb] ≤ md
        · rw [show decide (s2[pb] ≤ md) = true from by simpa using h1b]
          repeat (refine .inl ⟨rfl, ?_⟩; ((try dsimp only [go_sem, Nat.reduceAdd, Nat.reduceMul, Nat.reduceSub]); repeat (simp only [Nat.beq_refl]; try dsimp only [go_sem, Nat.reduceAdd, Nat.reduceMul, Nat.reduceSub])))
          rw [w64_in (n := md + w) (by omega) (by omega)]
          refine ixrm pa rfl (by first | omega | (simp; omega)) ?_
          ((try dsimp only [go_sem, Nat.reduceAdd, Nat.reduceMul, Nat.reduceSub]); repeat (simp only [Nat.beq_refl]; try dsimp only [go_sem, Nat.reduceAdd, Nat.reduceMul, Nat.reduceSub]))
          try (refine .inl ⟨rfl, ?_⟩; ((try dsimp only [go_sem, Nat.reduceAdd, Nat.reduceMul, Nat.reduceSub]); repeat (simp only [Nat.beq_refl]; try dsimp only [go_sem, Nat.reduceAdd, Nat.reduceMul, Nat.reduceSub])))
          refine ldrm (by first | omega | (simp; omega)) ?_
          ((try dsimp only [intL, go_sem, Nat.reduceAdd, Nat.reduceMul, Nat.reduceSub]); repeat (simp only [Nat.beq_refl]; try dsimp only [go_sem, Nat.reduceAdd, Nat.reduceMul, Nat.reduceSub]))
          repeat (refine .inl ⟨rfl, ?_⟩; ((try dsimp only [go_sem, Nat.reduceAdd, Nat.reduceMul, Nat.reduceSub]); repeat (simp only [Nat.beq_refl]; try dsimp only [go_sem, Nat.reduceAdd, Nat.reduceMul, Nat.reduceSub])))
          by_cases h2b : md + w < s2[pa]
          · refine br_t (by simpa using h2b) ?_
            ((try dsimp only [go_sem, Nat.reduceAdd, Nat.reduceMul, Nat.reduceSub]); repeat (simp only [Nat.beq_refl]; try dsimp only [go_sem, Nat.reduceAdd, Nat.reduceMul, Nat.reduceSub]))
            rw [w64_in (n := md + w) (by omega) (by omega)]
            refine ixrm pa rfl (by first | omega | (simp; omega)) ?_
            ((try dsimp only [go_sem, Nat.reduceAdd, Nat.reduceMul, Nat.reduceSub]); repeat (simp only [Nat.beq_refl]; try dsimp only [go_sem, Nat.reduceAdd, Nat.reduceMul, Nat.reduceSub]))
            refine strm (md + w) (by first | omega | (simp; omega)) (by simp [intL]) (by simp [intL, splice]) ?_
            ((try dsimp only [go_sem, Nat.reduceAdd, Nat.reduceMul, Nat.reduceSub]); repeat (simp only [Nat.beq_refl]; try dsimp only [go_sem, Nat.reduceAdd, Nat.reduceMul, Nat.reduceSub]))
            have eb : inf1 w md pb pa s2 = s2.set pa (md + w) := by
              rw [inf1_if (by omega) (by omega), hgxb, hgyb, if_pos ⟨h1b, h2b⟩, Int.toNat_natCast]
            have hltb := inf1_lt (w := w) (d := md) (a := pb) (b := pa) (s := s2) (by omega) (by omega) (by omega) (by rw [hgxb]; exact h1b) (by rw [hgyb]; exact h2b)
            rw [← eb]
            obtain ⟨s4, hFb⟩ : ∃ l, l = inf1 w md pb pa s2 := ⟨_, rfl⟩
            rw [← hFb]
            rw [← hFb] at hltb
            have hls4 : s4.length = k := by rw [hFb, inf1_len]; omega
            have hS3 : Sk k first (act close meets) w s2 := by rw [hFa]; exact hS2.step hf ⟨ha0, ha1⟩ ⟨hb0, hb1⟩ hd1 (fun t g1 g2 => .l hac g1 g2)
            have hS4 : Sk k first (act close meets) w s4 := by rw [hFb]; exact hS3.step hf ⟨hb0, hb1⟩ ⟨ha0, ha1⟩ hd1 (fun t g1 g2 => .r hac g1 g2)
            rw [w64_in (n := (q : Int) + 1) (by omega) (by omega)]
            refine ⟨(q + 1, s4, true), ⟨hlt3, hS4, fun h => (by cases h), fun _ => (show sumN s4 < sumN s1 by omega)⟩, by simp only; omega, ?_⟩
            (refine ent_id ?_ ?_ ?_ rfl rfl <;> dsimp only [meetL, intL, id, go_sem, Nat.reduceAdd, Nat.reduceMul, Nat.reduceSub] <;> simp [meetL, intL, KFR_iff, KFR_app, KFR, KFL, KF, mtL_same, mtO, Nat.beq_refl])
          · refine br_f (by simpa using h2b) ?_
            ((try dsimp only [go_sem, Nat.reduceAdd, Nat.reduceMul, Nat.reduceSub]); repeat (simp only [Nat.beq_refl]; try dsimp only [go_sem, Nat.reduceAdd, Nat.reduceMul, Nat.reduceSub]))
            have hFb : s2 = inf1 w md pb pa s2 := by
              rw [inf1_if (by omega) (by omega), hgxb, hgyb, if_neg (fun h => h2b h.2)]
            have hltb : sumN s2 ≤ sumN s2 := Nat.le_refl _
            have hS3 : Sk k first (act close meets) w s2 := by rw [hFa]; exact hS2.step hf ⟨ha0, ha1⟩ ⟨hb0, hb1⟩ hd1 (fun t g1 g2 => .l hac g1 g2)
            have hS4 : Sk k first (act close meets) w s2 := by rw [hFb]; exact hS3.step hf ⟨hb0, hb1⟩ ⟨ha0, ha1⟩ hd1 (fun t g1 g2 => .r hac g1 g2)
            rw [w64_in (n := (q : Int) + 1) (by omega) (by omega)]
            refine ⟨(q + 1, s2, ch2), ⟨hlt3, hS4, fun h => ⟨(hch0 h).1, fun m hm' hc => ?_⟩, hch1⟩, by simp only; omega, ?_⟩
            · rw [htk] at hm'
              rcases List.mem_append.1 hm' with h' | h'
              · exact (hch0 h).2 m h' hc
              · simp only [List.mem_singleton] at h'
                subst h'
                rw [← (hch0 h).1]
                exact ⟨hFa.symm, hFb.symm⟩
            (refine ent_id ?_ ?_ ?_ rfl rfl <;> dsimp only [meetL, intL, id, go_sem, Nat.reduceAdd, Nat.reduceMul, Nat.reduceSub] <;> simp [meetL, intL, KFR_iff, KFR_app, KFR, KFL, KF, mtL_same, mtO, Nat.beq_refl])
        · rw [show decide (s2[pb] ≤ md) = false from by simpa using h1b]
          repeat (refine gb ?_; ((try dsimp only [go_sem, Nat.reduceAdd, Nat.reduceMul, Nat.reduceSub]); repeat (simp only [Nat.beq_refl]; try dsimp only [go_sem, Nat.reduceAdd, Nat.reduceMul, Nat.reduceSub])))
          refine ixrm_v 0 rfl (fun h => by cases h) ?_
          ((try dsimp only [go_sem, Nat.reduceAdd, Nat.reduceMul, Nat.reduceSub]); repeat (simp only [Nat.beq_refl]; try dsimp only [go_sem, Nat.reduceAdd, Nat.reduceMul, Nat.reduceSub]))
          refine gb ?_
          ((try dsimp only [go_sem, Nat.reduceAdd, Nat.reduceMul, Nat.reduceSub]); repeat (simp only [Nat.beq_refl]; try dsimp only [go_sem, Nat.reduceAdd, Nat.reduceMul, Nat.reduceSub]))
          refine ⟨intL 0, imp_v rfl (fun h => by cases h), ?_⟩
          ((try dsimp only [intL, go_sem, Nat.reduceAdd, Nat.reduceMul, Nat.reduceSub]); repeat (simp only [Nat.beq_refl]; try dsimp only [go_sem, Nat.reduceAdd, Nat.reduceMul, Nat.reduceSub]))
          repeat (refine gb ?_; ((try dsimp only [go_sem, Nat.reduceAdd, Nat.reduceMul, Nat.reduceSub]); repeat (simp only [Nat.beq_refl]; try dsimp only [go_sem, Nat.reduceAdd, Nat.reduceMul, Nat.reduceSub])))
          refine br_f rfl ?_
          ((try dsimp only [go_sem, Nat.reduceAdd, Nat.reduceMul, Nat.reduceSub]); repeat (simp only [Nat.beq_refl]; try dsimp only [go_sem, Nat.reduceAdd, Nat.reduceMul, Nat.reduceSub]))
          have hFb : s2 = inf1 w md pb pa s2 := by
            rw [inf1_if (by omega) (by omega), hgxb, hgyb, if_neg (fun h => h1b h.1)]
          have hltb : sumN s2 ≤ sumN s2 := Nat.le_refl _
          have hS3 : Sk k first (act close meets) w s2 := by rw [hFa]; exact hS2.step hf ⟨ha0, ha1⟩ ⟨hb0, hb1⟩ hd1 (fun t g1 g2 => .l hac g1 g2)
          have hS4 : Sk k first (act close meets) w s2 := by rw [hFb]; exact hS3.step hf ⟨hb0, hb1⟩ ⟨ha0, ha1⟩ hd1 (fun t g1 g2 => .r hac g1 g2)
          rw [w64_in (n := (q : Int) + 1) (by omega) (by omega)]
          refine ⟨(q + 1, s2, ch2), ⟨hlt3, hS4, fun h => ⟨(hch0 h).1, fun m hm' hc => ?_⟩, hch1⟩, by simp only; omega, ?_⟩
          · rw [htk] at hm'
            rcases List.mem_append.1 hm' with h' | h'
            · exact (hch0 h).2 m h' hc
            · simp only [List.mem_singleton] at h'
              subst h'
              rw [← (hch0 h).1]
              exact ⟨hFa.symm, hFb.symm⟩
          (refine ent_id ?_ ?_ ?_ rfl rfl <;> dsimp only [meetL, intL, id, go_sem, Nat.reduceAdd, Nat.reduceMul, Nat.reduceSub] <;> simp [meetL, intL, KFR_iff, KFR_app, KFR, KFL, KF, mtL_same, mtO, Nat.beq_refl])
    · rw [show decide (s2[pa] ≤ md) = false from by simpa using h1a]
      repeat (refine gb ?_; ((try dsimp only [go_sem, Nat.reduceAdd, Nat.reduceMul, Nat.reduceSub]); repeat (simp only [Nat.beq_refl]; try dsimp only [go_sem, Nat.reduceAdd, Nat.reduceMul, Nat.reduceSub])))
      refine ixrm_v 0 rfl (fun h => by cases h) ?_
      ((try dsimp only [go_sem, Nat.reduceAdd, Nat.reduceMul, Nat.reduceSub]); repeat (simp only [Nat.beq_refl]; try dsimp only [go_sem, Nat.reduceAdd, Nat.reduceMul, Nat.reduceSub]))
      refine gb ?_
      ((try dsimp only [go_sem, Nat.reduceAdd, Nat.reduceMul, Nat.reduceSub]); repeat (simp only [Nat.beq_refl]; try dsimp only [go_sem, Nat.reduceAdd, Nat.reduceMul, Nat.reduceSub]))
      refine ⟨intL 0, imp_v rfl (fun h => by cases h), ?_⟩
      ((try dsimp only [intL, go_sem, Nat.reduceAdd, Nat.reduceMul, Nat.reduceSub]); repeat (simp only [Nat.beq_refl]; try dsimp only [go_sem, Nat.reduceAdd, Nat.reduceMul, Nat.reduceSub]))
      repeat (refine gb ?_; ((try dsimp only [go_sem, Nat.reduceAdd, Nat.reduceMul, Nat.reduceSub]); repeat (simp only [Nat.beq_refl]; try dsimp only [go_sem, Nat.reduceAdd, Nat.reduceMul, Nat.reduceSub])))
      refine br_f rfl ?_
      ((try dsimp only [go_sem, Nat.reduceAdd, Nat.reduceMul, Nat.reduceSub]); repeat (simp only [Nat.beq_refl]; try dsimp only [go_sem, Nat.reduceAdd, Nat.reduceMul, Nat.reduceSub]))
      have hFa : s2 = inf1 w md pa pb s2 := by
        rw [inf1_if (by omega) (by omega), hgxa, hgya, if_neg (fun h => h1a h.1)]
      have hlta : sumN s2 ≤ sumN s2 := Nat.le_refl _
      refine ixrm pb rfl (by first | omega | (simp; omega)) ?_
      ((try dsimp only [go_sem, Nat.reduceAdd, Nat.reduceMul, Nat.reduceSub]); repeat (simp only [Nat.beq_refl]; try dsimp only [go_sem, Nat.reduceAdd, Nat.reduceMul, Nat.reduceSub]))
      refine ldrm (by first | omega | (simp; omega)) ?_
      ((try dsimp only [intL, go_sem, Nat.reduceAdd, Nat.reduceMul, Nat.reduceSub]); repeat (simp only [Nat.beq_refl]; try dsimp only [go_sem, Nat.reduceAdd, Nat.reduceMul, Nat.reduceSub]))
      have hgxb : gI s2 (pb : Int) = s2[pb] := gI_eq rfl (by omega)
      have hgyb : gI s2 (pa : Int) = s2[pa] := gI_eq rfl (by omega)
      by_cases h1b : s2[pb] ≤ md
      · rw [show decide (s2[pb] ≤ md) = true from by simpa using h1b]
        repeat (refine .inl ⟨rfl, ?_⟩; ((try dsimp only [go_sem, Nat.reduceAdd, Nat.reduceMul, Nat.reduceSub]); repeat (simp only [Nat.beq_refl]; try dsimp only [go_sem, Nat.reduceAdd, Nat.reduceMul, Nat.reduceSub])))
        rw [w64_in (n := md + w) (by omega) (by omega)]
        refine ixrm pa rfl (by first | omega | (simp; omega)) ?_
        ((try dsimp only [go_sem, Nat.reduceAdd, Nat.reduceMul, Nat.reduceSub]); repeat (simp only [Nat.beq_refl]; try dsimp only [go_sem, Nat.reduceAdd, Nat.reduceMul, Nat.reduceSub]))
        try (refine .inl ⟨rfl, ?_⟩; ((try dsimp only [go_sem, Nat.reduceAdd, Nat.reduceMul, Nat.reduceSub]); repeat (simp only [Nat.beq_refl]; try dsimp only [go_sem, Nat.reduceAdd, Nat.reduceMul, Nat.reduceSub])))
        refine ldrm (by first | omega | (simp; omega)) ?_
        ((try dsimp only [intL, go_sem, Nat.reduceAdd, Nat.reduceMul, Nat.reduceSub]); repeat (simp only [Nat.beq_refl]; try dsimp only [go_sem, Nat.reduceAdd, Nat.reduceMul, Nat.reduceSub]))
        repeat (refine .inl ⟨rfl, ?_⟩; ((try dsimp only [go_sem, Nat.reduceAdd, Nat.reduceMul, Nat.reduceSub]); repeat (simp only [Nat.beq_refl]; try dsimp only [go_sem, Nat.reduceAdd, Nat.reduceMul, Nat.reduceSub])))
        by_cases h2b : md + w < s2[pa]
        · refine br_t (by simpa using h2b) ?_
          ((try dsimp only [go_sem, Nat.reduceAdd, Nat.reduceMul, Nat.reduceSub]); repeat (simp only [Nat.beq_refl]; try dsimp only [go_sem, Nat.reduceAdd, Nat.reduceMul, Nat.reduceSub]))
          rw [w64_in (n := md + w) (by omega) (by omega)]
          refine ixrm pa rfl (by first | omega | (simp; omega)) ?_
          ((try dsimp only [go_sem, Nat.reduceAdd, Nat.reduceMul, Nat.reduceSub]); repeat (simp only [Nat.beq_refl]; try dsimp only [go_sem, Nat.reduceAdd, Nat.reduceMul, Nat.reduceSub]))
          refine strm (md + w) (by first | omega | (simp; omega)) (by simp [intL]) (by simp [intL, splice]) ?_
          ((try dsimp only [go_sem, Nat.reduceAdd, Nat.reduceMul, Nat.reduceSub]); repeat (simp only [Nat.beq_refl]; try dsimp only [go_sem, Nat.reduceAdd, Nat.reduceMul, Nat.reduceSub]))
          have eb : inf1 w md pb pa s2 = s2.set pa (md + w) := by
            rw [inf1_if (by omega) (by omega), hgxb, hgyb, if_pos ⟨h1b, h2b⟩, Int.toNat_natCast]
          have hltb := inf1_lt (w := w) (d := md) (a := pb) (b := pa) (s := s2) (by omega) (by omega) (by omega) (by rw [hgxb]; exact h1b) (by rw [hgyb]; exact h2b)
          rw [← eb]
          obtain ⟨s4, hFb⟩ : ∃ l, l = inf1 w md pb pa s2 := ⟨_, rfl⟩
          rw [← hFb]
          rw [← hFb] at hltb
          have hls4 : s4.length = k := by rw [hFb, inf1_len]; omega
          have hS3 : Sk k first (act close meets) w s2 := by rw [hFa]; exact hS2.step hf ⟨ha0, ha1⟩ ⟨hb0, hb1⟩ hd1 (fun t g1 g2 => .l hac g1 g2)
          have hS4 : Sk k first (act close meets) w s4 := by rw [hFb]; exact hS3.step hf ⟨hb0, hb1⟩ ⟨ha0, ha1⟩ hd1 (fun t g1 g2 => .r hac g1 g2)
          rw [w64_in (n := (q : Int) + 1) (by omega) (by omega)]
          refine ⟨(q + 1, s4, true), ⟨hlt3, hS4, fun h => (by cases h), fun _ => (show sumN s4 < sumN s1 by omega)⟩, by simp only; omega, ?_⟩
          (refine ent_id ?_ ?_ ?_ rfl rfl <;> dsimp only [meetL, intL, id, go_sem, Nat.reduceAdd, Nat.reduceMul, Nat.reduceSub] <;> simp [meetL, intL, KFR_iff, KFR_app, KFR, KFL, KF, mtL_same, mtO, Nat.beq_refl])
        · refine br_f (by simpa using h2b) ?_
          ((try dsimp only [go_sem, Nat.reduceAdd, Nat.reduceMul, Nat.reduceSub]); repeat (simp only [Nat.beq_refl]; try dsimp only [go_sem, Nat.reduceAdd, Nat.reduceMul, Nat.reduceSub]))
          have hFb : s2 = inf1 w md pb pa s2 := by
            rw [inf1_if (by omega) (by omega), hgxb, hgyb, if_neg (fun h => h2b h.2)]
          have hltb : sumN s2 ≤ sumN s2 := Nat.le_refl _
          have hS3 : Sk k first (act close meets) w s2 := by rw [hFa]; exact hS2.step hf ⟨ha0, ha1⟩ ⟨hb0, hb1⟩ hd1 (fun t g1 g2 => .l hac g1 g2)
          have hS4 : Sk k first (act close meets) w s2 := by rw [hFb]; exact hS3.step hf ⟨hb0, hb1⟩ ⟨ha0, ha1⟩ hd1 (fun t g1 g2 => .r hac g1 g2)
          rw [w64_in (n := (q : Int) + 1) (by omega) (by omega)]
          refine ⟨(q + 1, s2, ch2), ⟨hlt3, hS4, fun h => ⟨(hch0 h).1, fun m hm' hc => ?_⟩, hch1⟩, by simp only; omega, ?_⟩
          · rw [htk] at hm'
            rcases List.mem_append.1 hm' with h' | h'
            · exact (hch0 h).2 m h' hc
            · simp only [List.mem_singleton] at h'
              subst h'
              rw [← (hch0 h).1]
              exact ⟨hFa.symm, hFb.symm⟩
          (refine ent_id ?_ ?_ ?_ rfl rfl <;> dsimp only [meetL, intL, id, go_sem, Nat.reduceAdd, Nat.reduceMul, Nat.reduceSub] <;> simp [meetL, intL, KFR_iff, KFR_app, KFR, KFL, KF, mtL_same, mtO, Nat.beq_refl])
      · rw [show decide (s2[pb] ≤ md) = false from by simpa using h1b]
        repeat (refine gb ?_; ((try dsimp only [go_sem, Nat.reduceAdd, Nat.reduceMul, Nat.reduceSub]); repeat (simp only [Nat.beq_refl]; try dsimp only [go_sem, Nat.reduceAdd, Nat.reduceMul, Nat.reduceSub])))
        refine ixrm_v 0 rfl (fun h => by cases h) ?_
        ((try dsimp only [go_sem, Nat.reduceAdd, Nat.reduceMul, Nat.reduceSub]); repeat (simp only [Nat.beq_refl]; try dsimp only [go_sem, Nat.reduceAdd, Nat.reduceMul, Nat.reduceSub]))
        refine gb ?_
        ((try dsimp only [go_sem, Nat.reduceAdd, Nat.reduceMul, Nat.reduceSub]); repeat (simp only [Nat.beq_refl]; try dsimp only [go_sem, Nat.reduceAdd, Nat.reduceMul, Nat.reduceSub]))
        refine ⟨intL 0, imp_v rfl (fun h => by cases h), ?_⟩
        ((try dsimp only [intL, go_sem, Nat.reduceAdd, Nat.reduceMul, Nat.reduceSub]); repeat (simp only [Nat.beq_refl]; try dsimp only [go_sem, Nat.reduceAdd, Nat.reduceMul, Nat.reduceSub]))
        repeat (refine gb ?_; ((try dsimp only [go_sem, Nat.reduceAdd, Nat.reduceMul, Nat.reduceSub]); repeat (simp only [Nat.beq_refl]; try dsimp only [go_sem, Nat.reduceAdd, Nat.reduceMul, Nat.reduceSub])))
        refine br_f rfl ?_
        ((try dsimp only [go_sem, Nat.reduceAdd, Nat.reduceMul, Nat.reduceSub]); repeat (simp only [Nat.beq_refl]; try dsimp only [go_sem, Nat.reduceAdd, Nat.reduceMul, Nat.reduceSub]))
        have hFb : s2 = inf1 w md pb pa s2 := by
          rw [inf1_if (by omega) (by omega), hgxb, hgyb, if_neg (fun h => h1b h.1)]
        have hltb : sumN s2 ≤ sumN s2 := Nat.le_refl _
        have hS3 : Sk k first (act close meets) w s2 := by rw [hFa]; exact hS2.step hf ⟨ha0, ha1⟩ ⟨hb0, hb1⟩ hd1 (fun t g1 g2 => .l hac g1 g2)
        have hS4 : Sk k first (act close meets) w s2 := by rw [hFb]; exact hS3.step hf ⟨hb0, hb1⟩ ⟨ha0, ha1⟩ hd1 (fun t g1 g2 => .r hac g1 g2)
        rw [w64_in (n := (q : Int) + 1) (by omega) (by omega)]
        refine ⟨(q + 1, s2, ch2), ⟨hlt3, hS4, fun h => ⟨(hch0 h).1, fun m hm' hc => ?_⟩, hch1⟩, by simp only; omega, ?_⟩
        · rw [htk] at hm'
          rcases List.mem_append.1 hm' with h' | h'
          · exact (hch0 h).2 m h' hc
          · simp only [List.mem_singleton] at h'
            subst h'
            rw [← (hch0 h).1]
            exact ⟨hFa.symm, hFb.symm⟩
        (refine ent_id ?_ ?_ ?_ rfl rfl <;> dsimp only [meetL, intL, id, go_sem, Nat.reduceAdd, Nat.reduceMul, Nat.reduceSub] <;> simp [meetL, intL, KFR_iff, KFR_app, KFR, KFL, KF, mtL_same, mtO, Nat.beq_refl])
end Go.Proofs.Ytnlfjchbhgikaaa
