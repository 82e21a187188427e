import Derived.Test.YtnlfjchbhgikaaaMJ
import Derived.Test.YtnlfjchbhgikaaaCO
set_option maxRecDepth 100000
set_option maxHeartbeats 4000000
namespace Go.Azalai
def knF (day x y : Int) : Int := if day < x then 0 else if y ≤ day then 2 else 1
noncomputable def mangeK (n : Int) (first : List Int) (meets : List Meet) (wait : Span) (day : Int) : List Int :=
  (List.range n.toNat).map fun i : Nat => knF day (gI (sickF n.toNat first (act false meets) wait.lo) (i : Nat)) (gI (sickF n.toNat first (act true meets) wait.hi) (i : Nat))
theorem least_go {n : Nat} {first : List Int} {M : Meet → Prop} {w : Int} (hf : ∀ i ∈ first, 0 ≤ i ∧ i < (n : Int)) (hm : ∀ m, M m → okM n m) (hw : 0 ≤ w) : ∀ (N : Nat) (s : List Int), sumN s ≤ N → Sk n first M w s → ∃ s, Least n first M w s := fun N => by
  induction N with
  | zero =>
    intro s hN hs
    refine ⟨s, hs.least hm fun m hM => ?_⟩
    obtain ⟨⟨a0, a1⟩, ⟨b0, b1⟩, _, d0, d1⟩ := hm m hM
    have hl := hs.len
    refine ⟨?_, ?_⟩
    · rcases inf1_dec (w := w) (d := m.day) (a := m.a) (b := m.b) (s := s) (by omega) b0 (by omega) with h | h
      · exact h
      · omega
    · rcases inf1_dec (w := w) (d := m.day) (a := m.b) (b := m.a) (s := s) (by omega) a0 (by omega) with h | h
      · exact h
      · omega
  | succ N ih =>
    intro s hN hs
    by_cases hall : ∀ m, M m → inf1 w m.day m.a m.b s = s ∧ inf1 w m.day m.b m.a s = s
    · exact ⟨s, hs.least hm hall⟩
    · have ⟨m, hq⟩ := Classical.not_forall.1 hall
      have ⟨hM, hne⟩ := Classical.not_imp.1 hq
      obtain ⟨⟨a0, a1⟩, ⟨b0, b1⟩, _, d0, d1⟩ := hm m hM
      have hl := hs.len
      by_cases e1 : inf1 w m.day m.a m.b s = s
      · have e2 : inf1 w m.day m.b m.a s ≠ s := fun e2 => hne ⟨e1, e2⟩
        rcases inf1_dec (w := w) (d := m.day) (a := m.b) (b := m.a) (s := s) (by omega) a0 (by omega) with h | h
        · exact absurd h e2
        · exact ih _ (by omega) (hs.step hf ⟨b0, b1⟩ ⟨a0, a1⟩ d1 (fun t g1 g2 => .r hM g1 g2))
      · rcases inf1_dec (w := w) (d := m.day) (a := m.a) (b := m.b) (s := s) (by omega) b0 (by omega) with h | h
        · exact absurd h e1
        · exact ih _ (by omega) (hs.step hf ⟨a0, a1⟩ ⟨b0, b1⟩ d1 (fun t g1 g2 => .l hM g1 g2))
theorem least_ex {n : Nat} {first : List Int} {M : Meet → Prop} {w : Int} (hf : ∀ i ∈ first, 0 ≤ i ∧ i < (n : Int)) (hm : ∀ m, M m → okM n m) (hw : 0 ≤ w) : ∃ s, Least n first M w s := by
  refine least_go hf hm hw _ (baseF first (List.replicate n never)) (Nat.le_refl _) ?_
  have hb := baseF_gI (n := n) first (List.replicate n never) (by simp) hf
  refine ⟨by rw [baseF_len]; simp, fun i h0 h1 => ?_, fun i hi => ?_, fun i h0 h1 => ?_⟩
  · rw [hb i h0]
    split
    · rename_i h; exact .inr (.base h)
    · exact .inl (gI_rep h0 h1)
  · rw [hb i (hf i hi).1, if_pos hi]; exact Int.le_refl _
  · rw [hb i h0]
    split
    · unfold never; omega
    · rw [gI_rep h0 h1]; exact Int.le_refl _
theorem meetsE_0 {n : Int} {first : List Int} {meets : List Meet} {wait : Span} {day : Int} (h : meetsE n first meets wait day = 0) : (1 ≤ n ∧ n ≤ 30) ∧ (1 ≤ wait.lo ∧ wait.lo ≤ wait.hi ∧ wait.hi ≤ 60) ∧ (0 ≤ day ∧ day ≤ 100000) ∧ first.length ≤ 30 ∧ meets.length ≤ 200 ∧ (∀ i ∈ first, 0 ≤ i ∧ i < n) ∧ ∀ m ∈ meets, okM n m := by
  unfold meetsE at h
  split at h
  · cases h
  rename_i h1
  split at h
  · cases h
  rename_i h2
  split at h
  · cases h
  rename_i h3
  simp only [Bool.not_eq_true', Bool.not_eq_false, Bool.and_eq_true, inR, okSp, decide_eq_true_eq, Bool.or_eq_true, not_or, Bool.not_eq_true] at h1 h3
  refine ⟨h1.1.1, h1.1.2, h1.2, by omega, by omega, fun i hi => ?_, fun m hm => ?_⟩
  · have := List.all_eq_true.1 h3.1 i hi
    simp only [inR, decide_eq_true_eq] at this
    omega
  · have := List.any_eq_false.1 h3.2 m hm
    unfold oddM inR at this
    simp only [Bool.or_eq_true, Bool.not_eq_true', Bool.and_eq_false_iff, decide_eq_false_iff_not, decide_eq_true_eq, not_or] at this
    unfold okM
    omega
end Go.Azalai
namespace Go.Proofs.Ytnlfjchbhgikaaa
open Go Go.Sx Go.Azalai
def u8L (n : Int) : List SV := [U8 n]
def rowsK (e : Int) (l : List Int) : SV := if e = 0 then .sl false 1 (l.map u8L) else .v (.slice none 0 0)
theorem same_ok (l : List Int) (hL : l.length ≤ 1000) (c1 c2 : Bool) : Ct Try.prog 37 [.sl c1 1 (l.map intL), .sl c2 1 (l.map intL)] (B true) := by
  refine t37 (by simp [KFR_iff, intL, KFL, KF]) (by simp [KFL, KF]) ?_
  dsimp only [c37, r37, go_sem, Nat.reduceAdd, Nat.reduceMul, Nat.reduceSub]
  refine br_f (by simp) ?_
  dsimp only [go_sem, Nat.reduceAdd, Nat.reduceMul, Nat.reduceSub]
  refine loopO (fun j : Nat => [(5, I j)]) (fun _ => []) (fun j => j ≤ l.length) (fun j => l.length - j) 0 (Nat.zero_le _) ?_ ?_
  · (refine ent_id ?_ ?_ ?_ rfl rfl <;> dsimp only [intL, id, go_sem, Nat.reduceAdd, Nat.reduceMul, Nat.reduceSub] <;> simp [intL, KFR_iff, KFR_app, KFR, KFL, KF, mtL_same, mtO, Nat.beq_refl])
  intro j hj
  dsimp only [go_sem, Nat.reduceAdd, Nat.reduceMul, Nat.reduceSub]
  simp only [List.length_map]
  by_cases hlt : j < l.length
  · refine br_t (by simpa using hlt) ?_
    dsimp only [go_sem, Nat.reduceAdd, Nat.reduceMul, Nat.reduceSub]
    refine ixs_map j hlt rfl ?_
    dsimp only [intL, go_sem, Nat.reduceAdd, Nat.reduceMul, Nat.reduceSub]
    refine ixs_map j hlt rfl ?_
    dsimp only [intL, go_sem, Nat.reduceAdd, Nat.reduceMul, Nat.reduceSub]
    refine br_f (by simp) ?_
    dsimp only [go_sem, Nat.reduceAdd, Nat.reduceMul, Nat.reduceSub]
    rw [w64_in (n := (j : Int) + 1) (by omega) (by omega)]
    refine ⟨j + 1, hlt, by omega, ?_⟩
    (refine ent_id ?_ ?_ ?_ rfl rfl <;> dsimp only [intL, id, go_sem, Nat.reduceAdd, Nat.reduceMul, Nat.reduceSub] <;> simp [intL, KFR_iff, KFR_app, KFR, KFL, KF, mtL_same, mtO, Nat.beq_refl])
  refine br_f (by simp; omega) ?_
  dsimp only [go_sem, Nat.reduceAdd, Nat.reduceMul, Nat.reduceSub]
theorem mangeR_ok (n : Int) (first : List Int) (meets : List Meet) (wait : Span) (day : Int) (c1 c2 : Bool) (hl1 : first.length ≤ 1000) (hl2 : meets.length ≤ 1000) :
    Ct Try.prog 36 [I n, .sl c1 1 (first.map intL), .sl c2 4 (meets.map meetL), .agg (spanL wait), I day] (.tup [rowsK (meetsE n first meets wait day) (mangeK n first meets wait day), I (meetsE n first meets wait day)]) := by
  have hkr : KF (rowsK (meetsE n first meets wait day) (mangeK n first meets wait day)) := by
    unfold rowsK; split <;> simp [KF, KFR_iff, KFL, u8L, U8]
  refine t36 (by simp [meetL, KFR_iff, intL, spanL, KFL, KF]) (by simp [KF, KFL, hkr]) ?_
  dsimp only [c36, r36, spanL, go_sem, Nat.reduceAdd, Nat.reduceMul, Nat.reduceSub]
  refine call (meetsR_ok n first meets wait day c1 c2 hl1 hl2) ?_
  dsimp only [go_sem, Nat.reduceAdd, Nat.reduceMul, Nat.reduceSub]
  by_cases hE : meetsE n first meets wait day = 0
  case neg =>
    refine br_t (by simpa using hE) ?_
    dsimp only [go_sem, Nat.reduceAdd, Nat.reduceMul, Nat.reduceSub]
    simp [rowsK, hE]
  refine br_f (by simpa using hE) ?_
  dsimp only [go_sem, Nat.reduceAdd, Nat.reduceMul, Nat.reduceSub]
  obtain ⟨hn, hw, hd, hf1, hm1, hf, hm⟩ := meetsE_0 hE
  obtain ⟨k, rfl⟩ : ∃ k : Nat, n = k := ⟨n.toNat, by omega⟩
  refine call (sick_ok k first meets wait.lo false c1 c2 (by omega) (by omega) hf hm (by omega) hl1 hl2) ?_
  dsimp only [go_sem, Nat.reduceAdd, Nat.reduceMul, Nat.reduceSub]
  refine call (sick_ok k first meets wait.hi true c1 c2 (by omega) (by omega) hf hm (by omega) hl1 hl2) ?_
  dsimp only [go_sem, Nat.reduceAdd, Nat.reduceMul, Nat.reduceSub]
  obtain ⟨s1, hs1⟩ := least_ex (M := act false meets) (w := wait.lo) hf (fun m h => hm m h.1) (by omega)
  obtain ⟨s2, hs2⟩ := least_ex (M := act true meets) (w := wait.hi) hf (fun m h => hm m h.1) (by omega)
  have hK : mangeK k first meets wait day = (List.range k).map fun i : Nat => knF day (gI s1 i) (gI s2 i) := by
    unfold mangeK; rw [Int.toNat_natCast, hs1.sickF, hs2.sickF]
  rw [hK, hs1.sickF, hs2.sickF]
  have hlen1 := hs1.len
  have hlen2 := hs2.len
  clear hs1 hs2 hK hkr
  refine loopG (ent_nilslot 15 1 5 rfl rfl) (fun z : Nat × Nat => [(16, I z.1), (15, .mr 1 z.2)]) (fun z => [(1, .row z.2 1 (((List.range z.1).map fun i : Nat => knF day (gI s1 i) (gI s2 i)).map u8L) 5)]) (fun z => z.1 ≤ k) (fun z => k - z.1) (0, 0) (Nat.zero_le _) ?_ ?_
  · (refine ent_id ?_ ?_ ?_ rfl rfl <;> dsimp only [meetL, intL, u8L, U8, id, go_sem, Nat.reduceAdd, Nat.reduceMul, Nat.reduceSub] <;> simp [meetL, intL, u8L, U8, KFR_iff, KFR_app, KFR, KFL, KF, mtL_same, mtO, Nat.beq_refl])
  rintro ⟨j, v⟩ hj
  simp only at hj
  dsimp only [go_sem, Nat.reduceAdd, Nat.reduceMul, Nat.reduceSub]
  by_cases hlt : j < k
  · refine br_t (by simpa using hlt) ?_
    dsimp only [go_sem, Nat.reduceAdd, Nat.reduceMul, Nat.reduceSub]
    refine ixs_map j (by omega) rfl ?_
    dsimp only [intL, go_sem, Nat.reduceAdd, Nat.reduceMul, Nat.reduceSub]
    have g1 : gI s1 (j : Int) = s1[j] := gI_eq rfl (by omega)
    have g2 : gI s2 (j : Int) = s2[j] := gI_eq rfl (by omega)
    by_cases q2 : s2[j] ≤ day
    · refine br_t (by simpa using q2) ?_
      dsimp only [go_sem, Nat.reduceAdd, Nat.reduceMul, Nat.reduceSub]
      refine ixs_map j (by omega) rfl ?_
      dsimp only [intL, go_sem, Nat.reduceAdd, Nat.reduceMul, Nat.reduceSub]
      by_cases q1 : day < s1[j]
      · refine br_t (by simpa using q1) ?_
        have hx : knF day (gI s1 (j : Int)) (gI s2 (j : Int)) = 0 := by rw [g1, g2]; unfold knF; rw [if_pos q1]
        ((try dsimp only [go_sem, Nat.reduceAdd, Nat.reduceMul, Nat.reduceSub]); repeat (simp only [Nat.beq_refl]; try dsimp only [go_sem, Nat.reduceAdd, Nat.reduceMul, Nat.reduceSub]))
        refine ⟨(by intro c hc; simp only [List.mem_singleton] at hc; subst hc; rfl), by simp; omega, ?_⟩
        ((try dsimp only [go_sem, Nat.reduceAdd, Nat.reduceMul, Nat.reduceSub]); repeat (simp only [Nat.beq_refl]; try dsimp only [go_sem, Nat.reduceAdd, Nat.reduceMul, Nat.reduceSub]))
        rw [w64_in (n := (j : Int) + 1) (by omega) (by omega)]
        have hrow : ((List.range j).map fun i : Nat => knF day (gI s1 i) (gI s2 i)).map u8L ++ [[SV.v (Value.int IntKind.u8 0)]] = ((List.range (j + 1)).map fun i : Nat => knF day (gI s1 i) (gI s2 i)).map u8L := by
          rw [List.range_succ, List.map_append, List.map_append]; simp [u8L, U8, hx]
        rw [hrow]
        refine ⟨(j + 1, v + 1), hlt, by simp only; omega, ?_⟩
        generalize (List.range (j + 1)).map (fun i : Nat => knF day (gI s1 i) (gI s2 i)) = rs
        (refine ent_id ?_ ?_ ?_ rfl rfl <;> dsimp only [meetL, intL, u8L, U8, id, go_sem, Nat.reduceAdd, Nat.reduceMul, Nat.reduceSub] <;> simp [meetL, intL, u8L, U8, KFR_iff, KFR_app, KFR, KFL, KF, mtL_same, mtO, Nat.beq_refl])
      · refine br_f (by simpa using q1) ?_
        have hx : knF day (gI s1 (j : Int)) (gI s2 (j : Int)) = 2 := by rw [g1, g2]; unfold knF; rw [if_neg q1, if_pos q2]
        ((try dsimp only [go_sem, Nat.reduceAdd, Nat.reduceMul, Nat.reduceSub]); repeat (simp only [Nat.beq_refl]; try dsimp only [go_sem, Nat.reduceAdd, Nat.reduceMul, Nat.reduceSub]))
        refine ⟨(by intro c hc; simp only [List.mem_singleton] at hc; subst hc; rfl), by simp; omega, ?_⟩
        ((try dsimp only [go_sem, Nat.reduceAdd, Nat.reduceMul, Nat.reduceSub]); repeat (simp only [Nat.beq_refl]; try dsimp only [go_sem, Nat.reduceAdd, Nat.reduceMul, Nat.reduceSub]))
        rw [w64_in (n := (j : Int) + 1) (by omega) (by omega)]
        have hrow : ((List.range j).map fun i : Nat => knF day (gI s1 i) (gI s2 i)).map u8L ++ [[SV.v (Value.int IntKind.u8 2)]] = ((List.range (j + 1)).map fun i : Nat => knF day (gI s1 i) (gI s2 i)).map u8L := by
          rw [List.range_succ, List.map_append, List.map_append]; simp [u8L, U8, hx]
        rw [hrow]
        refine ⟨(j + 1, v + 1), hlt, by simp only; omega, ?_⟩
        generalize (List.range (j + 1)).map (fun i : Nat => knF day (gI s1 i) (gI s2 i)) = rs
        (refine ent_id ?_ ?_ ?_ rfl rfl <;> dsimp only [meetL, intL, u8L, U8, id, go_sem, Nat.reduceAdd, Nat.reduceMul, Nat.reduceSub] <;> simp [meetL, intL, u8L, U8, KFR_iff, KFR_app, KFR, KFL, KF, mtL_same, mtO, Nat.beq_refl])
    · refine br_f (by simpa using q2) ?_
      dsimp only [go_sem, Nat.reduceAdd, Nat.reduceMul, Nat.reduceSub]
      refine ixs_map j (by omega) rfl ?_
      dsimp only [intL, go_sem, Nat.reduceAdd, Nat.reduceMul, Nat.reduceSub]
      by_cases q1 : day < s1[j]
      · refine br_t (by simpa using q1) ?_
        have hx : knF day (gI s1 (j : Int)) (gI s2 (j : Int)) = 0 := by rw [g1, g2]; unfold knF; rw [if_pos q1]
        ((try dsimp only [go_sem, Nat.reduceAdd, Nat.reduceMul, Nat.reduceSub]); repeat (simp only [Nat.beq_refl]; try dsimp only [go_sem, Nat.reduceAdd, Nat.reduceMul, Nat.reduceSub]))
        refine ⟨(by intro c hc; simp only [List.mem_singleton] at hc; subst hc; rfl), by simp; omega, ?_⟩
        ((try dsimp only [go_sem, Nat.reduceAdd, Nat.reduceMul, Nat.reduceSub]); repeat (simp only [Nat.beq_refl]; try dsimp only [go_sem, Nat.reduceAdd, Nat.reduceMul, Nat.reduceSub]))
        rw [w64_in (n := (j : Int) + 1) (by omega) (by omega)]
        have hrow : ((List.range j).map fun i : Nat => knF day (gI s1 i) (gI s2 i)).map u8L ++ [[SV.v (Value.int IntKind.u8 0)]] = ((List.range (j + 1)).map fun i : Nat => knF day (gI s1 i) (gI s2 i)).map u8L := by
          rw [List.range_succ, List.map_append, List.map_append]; simp [u8L, U8, hx]
        rw [hrow]
        refine ⟨(j + 1, v + 1), hlt, by simp only; omega, ?_⟩
        generalize (List.range (j + 1)).map (fun i : Nat => knF day (gI s1 i) (gI s2 i)) = rs
        (refine ent_id ?_ ?_ ?_ rfl rfl <;> dsimp only [meetL, intL, u8L, U8, id, go_sem, Nat.reduceAdd, Nat.reduceMul, Nat.reduceSub] <;> simp [meetL, intL, u8L, U8, KFR_iff, KFR_app, KFR, KFL, KF, mtL_same, mtO, Nat.beq_refl])
      · refine br_f (by simpa using q1) ?_
        have hx : knF day (gI s1 (j : Int)) (gI s2 (j : Int)) = 1 := by rw [g1, g2]; unfold knF; rw [if_neg q1, if_neg q2]
        ((try dsimp only [go_sem, Nat.reduceAdd, Nat.reduceMul, Nat.reduceSub]); repeat (simp only [Nat.beq_refl]; try dsimp only [go_sem, Nat.reduceAdd, Nat.reduceMul, Nat.reduceSub]))
        refine ⟨(by intro c hc; simp only [List.mem_singleton] at hc; subst hc; rfl), by simp; omega, ?_⟩
        ((try dsimp only [go_sem, Nat.reduceAdd, Nat.reduceMul, Nat.reduceSub]); repeat (simp only [Nat.beq_refl]; try dsimp only [go_sem, Nat.reduceAdd, Nat.reduceMul, Nat.reduceSub]))
        rw [w64_in (n := (j : Int) + 1) (by omega) (by omega)]
        have hrow : ((List.range j).map fun i : Nat => knF day (gI s1 i) (gI s2 i)).map u8L ++ [[SV.v (Value.int IntKind.u8 1)]] = ((List.range (j + 1)).map fun i : Nat => knF day (gI s1 i) (gI s2 i)).map u8L := by
          rw [List.range_succ, List.map_append, List.map_append]; simp [u8L, U8, hx]
        rw [hrow]
        refine ⟨(j + 1, v + 1), hlt, by simp only; omega, ?_⟩
        generalize (List.range (j + 1)).map (fun i : Nat => knF day (gI s1 i) (gI s2 i)) = rs
        (refine ent_id ?_ ?_ ?_ rfl rfl <;> dsimp only [meetL, intL, u8L, U8, id, go_sem, Nat.reduceAdd, Nat.reduceMul, Nat.reduceSub] <;> simp [meetL, intL, u8L, U8, KFR_iff, KFR_app, KFR, KFL, KF, mtL_same, mtO, Nat.beq_refl])
  refine br_f (by simp; omega) ?_
  dsimp only [go_sem, Nat.reduceAdd, Nat.reduceMul, Nat.reduceSub]
  have hjk : j = k := by omega
  subst hjk
  ((try dsimp only [go_sem, Nat.reduceAdd, Nat.reduceMul, Nat.reduceSub]); repeat (simp only [Nat.beq_refl]; try dsimp only [go_sem, Nat.reduceAdd, Nat.reduceMul, Nat.reduceSub]))
  simp [rowsK, hE]
end Go.Proofs.Ytnlfjchbhgikaaa
