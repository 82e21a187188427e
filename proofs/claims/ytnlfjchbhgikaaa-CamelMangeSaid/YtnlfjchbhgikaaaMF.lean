import Derived.Test.YtnlfjchbhgikaaaME
set_option maxRecDepth 100000
set_option maxHeartbeats 4000000
namespace Go.Azalai
theorem idxF_none {α : Type} (g : α → Bool) : ∀ (l : List α) (k : Nat), idxF g l k = -1 → l.filter (fun x => !g x) = l
  | [], k, _ => rfl
  | x :: l, k, h => by
    unfold idxF at h
    split at h
    · omega
    · rename_i hx
      rw [List.filter_cons_of_pos (by simp [hx]), idxF_none g l (k + 1) h]
theorem idxF_some {α : Type} (g : α → Bool) : ∀ (l : List α) (k : Nat), idxF g l k ≠ -1 → ∃ i, i < l.length ∧ idxF g l k = ((k + i : Nat) : Int) ∧ (l.take (i + 1)).filter (fun x => !g x) = l.take i
  | [], k, h => by simp [idxF] at h
  | x :: l, k, h => by
    unfold idxF at h ⊢
    by_cases hx : g x = true
    · rw [if_pos hx]; exact ⟨0, by simp, by simp, by simp [hx]⟩
    · rw [if_neg hx] at h ⊢
      obtain ⟨i, h1, h2, h3⟩ := idxF_some g l (k + 1) h
      refine ⟨i + 1, by simp; omega, by rw [h2]; congr 1; omega, ?_⟩
      rw [List.take_succ_cons, List.filter_cons_of_pos (by simp [hx]), h3, List.take_succ_cons]
end Go.Azalai
namespace Go.Proofs.Ytnlfjchbhgikaaa
open Go Go.Sx Go.Azalai
def delPost (v : Nat) (l : List Meet) (o : Ot) : Prop :=
  (l.filter (·.close) = l ∧ o = ⟨false, .mr 0 v, [(0, .row v 4 (l.map meetL) 73)], 1⟩) ∨
    ∃ l' : List Meet, l'.length = l.length ∧ (l.filter (·.close)).length ≤ l'.length ∧ l'.take (l.filter (·.close)).length = l.filter (·.close) ∧ o = ⟨false, .ms 0 v 4 0 (l.filter (·.close)).length, [(0, .row v 4 (l'.map meetL) 73)], 1⟩
theorem delete_ok (v : Nat) (l : List Meet) (hL : l.length ≤ 1000) :
    CtM Try.prog 84 [(0, .row v 4 (l.map meetL) 73)] 1 [.mr 0 v, .cl 85 []] (delPost v l) := by
  refine m84 (by simp [hpb]) (fun o ho => by rcases ho with ⟨_, rfl⟩ | ⟨l', _, _, _, rfl⟩ <;> simp [KX, KXL, KXP, KXH, KFR_iff, KFL, KF, meetL]) ?_
  dsimp only [c84, r84, go_sem, Nat.reduceAdd, Nat.reduceMul, Nat.reduceSub]
  refine callv (by simp [FLT]) (res := I (idxF (fun m : Meet => !m.close) l 0)) ?_ ?_
  · ((try dsimp only [go_sem, Nat.reduceAdd, Nat.reduceMul, Nat.reduceSub]); repeat (simp only [Nat.beq_refl]; try dsimp only [go_sem, Nat.reduceAdd, Nat.reduceMul, Nat.reduceSub]))
    exact idx97 85 [] trivial (fun m : Meet => !m.close) l (fun m _ => del_ok m) (by omega)
  dsimp only [go_sem, Nat.reduceAdd, Nat.reduceMul, Nat.reduceSub]
  by_cases hn : idxF (fun m : Meet => !m.close) l 0 = -1
  · refine br_t (by simpa using hn) ?_
    dsimp only [go_sem, Nat.reduceAdd, Nat.reduceMul, Nat.reduceSub]
    refine ⟨_, .inl ⟨by simpa using idxF_none _ l 0 hn, rfl⟩, ?_⟩
    (refine entO_id ?_ ?_ ?_ rfl <;> dsimp only [meetL, id, go_sem, Nat.reduceAdd, Nat.reduceMul, Nat.reduceSub] <;> simp [meetL, KFR_iff, KFR_app, KFR, KFL, KF, mtL_same, mtO, Nat.beq_refl])
  refine br_f (by simpa using hn) ?_
  dsimp only [go_sem, Nat.reduceAdd, Nat.reduceMul, Nat.reduceSub]
  obtain ⟨i0, h1, h2, h3⟩ := idxF_some _ l 0 hn
  rw [Nat.zero_add] at h2
  rw [h2]
  rw [w64_in (n := (i0 : Int) + 1) (by omega) (by omega)]
  simp only [Bool.not_not] at h3
  refine loopO (fun s : Nat × Nat × List Meet => [(5, I s.1), (6, I s.2.1)]) (fun s => [(0, .row v 4 (s.2.2.map meetL) 73)]) (fun s => (s.1 < s.2.1 ∧ s.2.1 ≤ l.length) ∧ s.2.2.length = l.length ∧ s.1 = ((l.take s.2.1).filter (·.close)).length ∧ s.2.2.take s.1 = (l.take s.2.1).filter (·.close) ∧ ∀ p, s.2.1 ≤ p → s.2.2[p]? = l[p]?) (fun s => l.length - s.2.1) (i0, i0 + 1, l) ⟨by simp only; omega, rfl, by simp only [h3]; simp; omega, h3.symm, fun _ _ => rfl⟩ ?_ ?_
  · rw [show (i0 : Int) + 1 = ((i0 + 1 : Nat) : Int) from by omega]
    (refine ent_id ?_ ?_ ?_ rfl rfl <;> dsimp only [meetL, id, go_sem, Nat.reduceAdd, Nat.reduceMul, Nat.reduceSub] <;> simp [meetL, KFR_iff, KFR_app, KFR, KFL, KF, mtL_same, mtO, Nat.beq_refl])
  rintro ⟨i, j, l1⟩ ⟨⟨hij, hj⟩, hl1, hi, ht, hd⟩
  simp only at hij hj hl1 hi ht hd
  ((try dsimp only [go_sem, Nat.reduceAdd, Nat.reduceMul, Nat.reduceSub]); repeat (simp only [Nat.beq_refl]; try dsimp only [go_sem, Nat.reduceAdd, Nat.reduceMul, Nat.reduceSub]))
  simp only [List.length_map]
  by_cases hlt : j < l.length
  · refine br_t (by simp; omega) ?_
    ((try dsimp only [go_sem, Nat.reduceAdd, Nat.reduceMul, Nat.reduceSub]); repeat (simp only [Nat.beq_refl]; try dsimp only [go_sem, Nat.reduceAdd, Nat.reduceMul, Nat.reduceSub]))
    refine ixrm j rfl (by simp; omega) ?_
    ((try dsimp only [go_sem, Nat.reduceAdd, Nat.reduceMul, Nat.reduceSub]); repeat (simp only [Nat.beq_refl]; try dsimp only [go_sem, Nat.reduceAdd, Nat.reduceMul, Nat.reduceSub]))
    refine ldrm (by omega) ?_
    ((try dsimp only [meetL, go_sem, Nat.reduceAdd, Nat.reduceMul, Nat.reduceSub]); repeat (simp only [Nat.beq_refl]; try dsimp only [go_sem, Nat.reduceAdd, Nat.reduceMul, Nat.reduceSub]))
    have hlj : l1[j] = l[j] := by
      have := hd j (Nat.le_refl _)
      rw [List.getElem?_eq_getElem (by omega), List.getElem?_eq_getElem hlt] at this
      exact Option.some.inj this
    have htake : l.take (j + 1) = l.take j ++ [l[j]] := (List.take_append_getElem hlt).symm
    refine call (del_ok l1[j]) ?_
    ((try dsimp only [go_sem, Nat.reduceAdd, Nat.reduceMul, Nat.reduceSub]); repeat (simp only [Nat.beq_refl]; try dsimp only [go_sem, Nat.reduceAdd, Nat.reduceMul, Nat.reduceSub]))
    by_cases hc : l1[j].close = true
    · refine br_t (by simp [hc]) ?_
      ((try dsimp only [go_sem, Nat.reduceAdd, Nat.reduceMul, Nat.reduceSub]); repeat (simp only [Nat.beq_refl]; try dsimp only [go_sem, Nat.reduceAdd, Nat.reduceMul, Nat.reduceSub]))
      refine ixrm i rfl (by simp; omega) ?_
      ((try dsimp only [go_sem, Nat.reduceAdd, Nat.reduceMul, Nat.reduceSub]); repeat (simp only [Nat.beq_refl]; try dsimp only [go_sem, Nat.reduceAdd, Nat.reduceMul, Nat.reduceSub]))
      refine strm l1[j] (by omega) (by simp [meetL]) (by simp [meetL, splice]) ?_
      ((try dsimp only [go_sem, Nat.reduceAdd, Nat.reduceMul, Nat.reduceSub]); repeat (simp only [Nat.beq_refl]; try dsimp only [go_sem, Nat.reduceAdd, Nat.reduceMul, Nat.reduceSub]))
      simp (disch := omega) only [w64_in]
      refine ⟨(i + 1, j + 1, l1.set i l1[j]), ⟨by simp only; omega, by simp [hl1], ?_, ?_, fun p hp => ?_⟩, by simp only; omega, ?_⟩
      · simp only; rw [htake, List.filter_append, List.length_append, ← hi]; rw [hlj] at hc; simp [hc]
      · simp only
        rw [htake, List.filter_append, ← ht, hlj]
        rw [hlj] at hc
        rw [List.take_succ_eq_append_getElem (by simp; omega)]
        simp [hc, List.take_set_of_le]
      · simp only at hp ⊢
        rw [List.getElem?_set_ne (by omega)]; exact hd p (by omega)
      · rw [show (i : Int) + 1 = ((i + 1 : Nat) : Int) from by omega, show (j : Int) + 1 = ((j + 1 : Nat) : Int) from by omega]
        generalize l1.set i l1[j] = l2
        (refine ent_id ?_ ?_ ?_ rfl rfl <;> dsimp only [meetL, id, go_sem, Nat.reduceAdd, Nat.reduceMul, Nat.reduceSub] <;> simp [meetL, KFR_iff, KFR_app, KFR, KFL, KF, mtL_same, mtO, Nat.beq_refl])
    · refine br_f (by simp [hc]) ?_
      ((try dsimp only [go_sem, Nat.reduceAdd, Nat.reduceMul, Nat.reduceSub]); repeat (simp only [Nat.beq_refl]; try dsimp only [go_sem, Nat.reduceAdd, Nat.reduceMul, Nat.reduceSub]))
      simp (disch := omega) only [w64_in]
      refine ⟨(i, j + 1, l1), ⟨by simp only; omega, hl1, ?_, ?_, fun p hp => hd p (by simp only at hp; omega)⟩, by simp only; omega, ?_⟩
      · simp only; rw [htake, List.filter_append, List.length_append, ← hi]; rw [hlj] at hc; simp [hc]
      · simp only; rw [htake, List.filter_append, ht]; rw [hlj] at hc; simp [hc]
      · rw [show (j : Int) + 1 = ((j + 1 : Nat) : Int) from by omega]
        (refine ent_id ?_ ?_ ?_ rfl rfl <;> dsimp only [meetL, id, go_sem, Nat.reduceAdd, Nat.reduceMul, Nat.reduceSub] <;> simp [meetL, KFR_iff, KFR_app, KFR, KFL, KF, mtL_same, mtO, Nat.beq_refl])
  refine br_f (by simp; omega) ?_
  ((try dsimp only [go_sem, Nat.reduceAdd, Nat.reduceMul, Nat.reduceSub]); repeat (simp only [Nat.beq_refl]; try dsimp only [go_sem, Nat.reduceAdd, Nat.reduceMul, Nat.reduceSub]))
  have hje : j = l.length := by omega
  subst hje
  rw [List.take_length] at hi ht
  refine ⟨i, l.length, ⟨rfl, by simp; omega, by omega, by simp; omega⟩, ?_⟩
  ((try dsimp only [go_sem, Nat.reduceAdd, Nat.reduceMul, Nat.reduceSub]); repeat (simp only [Nat.beq_refl]; try dsimp only [go_sem, Nat.reduceAdd, Nat.reduceMul, Nat.reduceSub]))
  refine raw_clear (z := .agg #[.int .i64 0, .int .i64 0, .int .i64 0, .bool false]) (zl := [.int .i64 0, .int .i64 0, .int .i64 0, .bool false]) rfl rfl (by simp; omega) (by kernel_rfl) (by kernel_rfl) rfl rfl (by intro v hv; simp at hv; rcases hv with rfl | rfl <;> rfl) ?_
  have hrow : List.take i (List.map meetL l1) ++ (List.replicate (l.length - i) (List.map SV.v [Value.int IntKind.i64 0, Value.int IntKind.i64 0, Value.int IntKind.i64 0, Value.bool false]) ++ List.drop (i + (l.length - i)) (List.map meetL l1)) = (l1.take i ++ List.replicate (l.length - i) (⟨0, 0, 0, false⟩ : Meet)).map meetL := by
    rw [List.drop_of_length_le (by simp; omega), List.append_nil, List.map_append, List.map_take, List.map_replicate]
    rfl
  rw [hrow]
  obtain ⟨l2, hl2⟩ : ∃ l2, l2 = l1.take i ++ List.replicate (l.length - i) (⟨0, 0, 0, false⟩ : Meet) := ⟨_, rfl⟩
  rw [← hl2]
  have hlen : l2.length = l.length := by rw [hl2]; simp; omega
  have ht2 : l2.take i = l.filter (·.close) := by rw [hl2, List.take_left' (by simp; omega), ht]
  ((try dsimp only [go_sem, Nat.reduceAdd, Nat.reduceMul, Nat.reduceSub]); repeat (simp only [Nat.beq_refl]; try dsimp only [go_sem, Nat.reduceAdd, Nat.reduceMul, Nat.reduceSub]))
  refine ⟨0, i, ⟨rfl, rfl, by omega, by simp; omega⟩, ?_⟩
  rw [Nat.sub_zero]
  ((try dsimp only [go_sem, Nat.reduceAdd, Nat.reduceMul, Nat.reduceSub]); repeat (simp only [Nat.beq_refl]; try dsimp only [go_sem, Nat.reduceAdd, Nat.reduceMul, Nat.reduceSub]))
  subst hi
  refine ⟨_, .inr ⟨l2, hlen, by omega, ht2, rfl⟩, ?_⟩
  (refine entO_id ?_ ?_ ?_ rfl <;> dsimp only [meetL, id, go_sem, Nat.reduceAdd, Nat.reduceMul, Nat.reduceSub] <;> simp [meetL, KFR_iff, KFR_app, KFR, KFL, KF, mtL_same, mtO, Nat.beq_refl])
end Go.Proofs.Ytnlfjchbhgikaaa
