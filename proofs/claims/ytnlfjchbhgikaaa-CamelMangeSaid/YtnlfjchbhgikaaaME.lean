import Derived.Test.YtnlfjchbhgikaaaMD
import Derived.Test.YtnlfjchbhgikaaaCQ
set_option maxRecDepth 100000
set_option maxHeartbeats 4000000
namespace Go.Azalai
def oddM (n : Int) (m : Meet) : Bool := !(inR 0 (n - 1) m.a && inR 0 (n - 1) m.b) || decide (m.a = m.b) || !inR 0 100000 m.day
end Go.Azalai
namespace Go.Proofs.Ytnlfjchbhgikaaa
open Go Go.Sx Go.Azalai

theorem idx97 (h : Nat) (caps : List SV) (hk : KFL caps) (g : Meet → Bool) (l : List Meet) (hg : ∀ x ∈ l, Ct Try.prog h (.agg (meetL x) :: caps) (B (g x))) (hl : l.length < 4611686018427387904) {c : Bool} :
    Ct Try.prog 97 [.sl c 4 (l.map meetL), .cl h caps] (I (idxF g l 0)) := by
  refine t97 ⟨by simp [KF, KFR_iff, KFL, meetL], hk, trivial⟩ (by simp [KF]) ?_
  dsimp only [c97, r97, go_sem, Nat.reduceAdd, Nat.reduceMul, Nat.reduceSub]
  refine loopO (fun k : Nat => [(8, I k)]) (fun _ => []) (fun k => k ≤ l.length ∧ idxF g (l.drop k) k = idxF g l 0) (fun k => l.length - k) 0 ⟨Nat.zero_le _, rfl⟩ ?_ ?_
  · (refine ent_id ?_ ?_ ?_ rfl rfl <;> dsimp only [meetL, hk, id, go_sem, Nat.reduceAdd, Nat.reduceMul, Nat.reduceSub] <;> simp [meetL, hk, KFR_iff, KFR_app, KFR, KFL, KF, mtL_same, mtO, Nat.beq_refl])
  · intro k ⟨hk', hi⟩
    dsimp only [go_sem, Nat.reduceAdd, Nat.reduceMul, Nat.reduceSub]
    refine br ?_ ?_
    · intro hlt
      have hlt : k < l.length := by simpa using hlt
      dsimp only [go_sem, Nat.reduceAdd, Nat.reduceMul, Nat.reduceSub]
      refine ixs_map k hlt rfl ?_
      dsimp only [meetL, go_sem, Nat.reduceAdd, Nat.reduceMul, Nat.reduceSub]
      refine call (hg l[k] (List.getElem_mem _)) ?_
      dsimp only [go_sem, Nat.reduceAdd, Nat.reduceMul, Nat.reduceSub]
      refine br ?_ ?_
      · intro hgx
        dsimp only [go_sem, Nat.reduceAdd, Nat.reduceMul, Nat.reduceSub]
        rw [← hi, List.drop_eq_getElem_cons hlt]
        simp [idxF, hgx]
      · intro hgx
        dsimp only [go_sem, Nat.reduceAdd, Nat.reduceMul, Nat.reduceSub]
        refine ⟨k + 1, ⟨by omega, ?_⟩, by omega, ?_⟩
        · rw [← hi, List.drop_eq_getElem_cons hlt]; simp [idxF, hgx]
        · rw [w64_in (by omega) (by omega)]
          (refine ent_id ?_ ?_ ?_ rfl rfl <;> dsimp only [meetL, hk, id, go_sem, Nat.reduceAdd, Nat.reduceMul, Nat.reduceSub] <;> simp [meetL, hk, KFR_iff, KFR_app, KFR, KFL, KF, mtL_same, mtO, Nat.beq_refl])
    · intro hlt
      have hlt : k = l.length := by simp at hlt; omega
      dsimp only [go_sem, Nat.reduceAdd, Nat.reduceMul, Nat.reduceSub]
      rw [← hi, hlt]; simp [idxF]

theorem con78 (h : Nat) (caps : List SV) (hk : KFL caps) (g : Meet → Bool) (l : List Meet) (hg : ∀ x ∈ l, Ct Try.prog h (.agg (meetL x) :: caps) (B (g x))) (hl : l.length < 4611686018427387904) {c : Bool} :
    Ct Try.prog 78 [.sl c 4 (l.map meetL), .cl h caps] (B (l.any g)) := by
  refine t78 ⟨by simp [KF, KFR_iff, KFL, meetL], hk, trivial⟩ (by simp [KF]) ?_
  dsimp only [c78, r78, go_sem, Nat.reduceAdd, Nat.reduceMul, Nat.reduceSub]
  refine call (idx97 h caps hk g l hg hl) ?_
  dsimp only [go_sem, Nat.reduceAdd, Nat.reduceMul, Nat.reduceSub]
  rw [idxF_any]

theorem del_ok (m : Meet) : Ct Try.prog 85 [.agg (meetL m)] (B (!m.close)) := by
  refine t85 (by simp [meetL, KFL, KF]) (by simp [KFL, KF]) ?_
  dsimp only [c85, r85, meetL, go_sem, Nat.reduceAdd, Nat.reduceMul, Nat.reduceSub]
theorem odd_ok (n : Int) (hn : 1 ≤ n) (hn' : n ≤ 30) (m : Meet) : Ct Try.prog 77 [.agg (meetL m), .ps [I n] 0] (B (oddM n m)) := by
  refine t77 (by simp [meetL, KFL, KF]) (by simp [KFL, KF]) ?_
  dsimp only [c77, r77, meetL, go_sem, Nat.reduceAdd, Nat.reduceMul, Nat.reduceSub]
  rw [w64_in (n := n - 1) (by omega) (by omega)]
  refine call (from2 0 (n - 1) m.a m.b true) ?_
  dsimp only [go_sem, Nat.reduceAdd, Nat.reduceMul, Nat.reduceSub]
  repeat (refine gb ?_; dsimp only [go_sem, Nat.reduceAdd, Nat.reduceMul, Nat.reduceSub])
  refine call (from1 0 100000 m.day true) ?_
  dsimp only [go_sem, Nat.reduceAdd, Nat.reduceMul, Nat.reduceSub]
  repeat (refine gb ?_; dsimp only [go_sem, Nat.reduceAdd, Nat.reduceMul, Nat.reduceSub])
  simp only [Option.some.injEq, SV.v.injEq, Value.bool.injEq, oddM]
  rfl
/-- a row of one number, n times -/
theorem repi_ok (x : Int) (n : Nat) (h0 : 1 ≤ n) (h1 : n ≤ 1000) (k : Bool) : CtM Try.prog 100 [] 0 [.sl k 1 [[I x]], I n] (fun o => o = ⟨false, .mr 0 0, [(0, .row 0 1 (List.replicate n [I x]) 3)], 1⟩) := by
  have hm : KFL [I x] := by simp [KFL, KF]
  have hone : allOne [I x] = true := rfl
  have hkr := kfr_rep hm n
  refine m100 (by simp [hpb]) (fun o ho => by subst ho; simp only [KX, KXL, KXP, KXH]; exact ⟨trivial, hkr, trivial⟩) ?_
  generalize [I x] = row at hm hone hkr
  dsimp only [c100, r100, go_sem, Nat.reduceAdd, Nat.reduceMul, Nat.reduceSub]
  refine br_f (by simp) ?_
  dsimp only [go_sem, Nat.reduceAdd, Nat.reduceMul, Nat.reduceSub]
  rw [show ((1 : Nat) : Int) = 1 from rfl]
  simp (disch := omega) only [uw]
  refine call (mul_ok n (by omega) (by omega)) ?_
  dsimp only [U64, go_sem, Nat.reduceAdd, Nat.reduceMul, Nat.reduceSub]
  refine gb ?_
  dsimp only [go_sem, Nat.reduceAdd, Nat.reduceMul, Nat.reduceSub]
  refine gb ?_
  dsimp only [go_sem, Nat.reduceAdd, Nat.reduceMul, Nat.reduceSub]
  refine br_f (by simp; omega) ?_
  dsimp only [go_sem, Nat.reduceAdd, Nat.reduceMul, Nat.reduceSub]
  refine ⟨n, w64_in (by omega) (by omega), by omega, ?_⟩
  have hz : KFL [SV.v (Value.int IntKind.i64 0)] := by simp [KFL, KF]
  generalize [SV.v (Value.int IntKind.i64 0)] = z at hz
  dsimp only [go_sem, Nat.reduceAdd, Nat.reduceMul, Nat.reduceSub]
  refine ⟨(by intro c hc; simp only [List.mem_singleton] at hc; subst hc; exact hone), by simp, ?_⟩
  have hmin : min n 1 = 1 := by omega
  simp only [List.length_replicate, List.length_singleton, hmin, List.drop_replicate]
  dsimp only [go_sem, Nat.reduceAdd, Nat.reduceMul, Nat.reduceSub]
  refine loopO (fun j : Nat => [(8, I j)]) (fun j => [(0, .row 0 1 (List.replicate j row ++ List.replicate (n - j) z) 3)]) (fun j => 1 ≤ j ∧ j ≤ n) (fun j => n - j) 1 ⟨Nat.le_refl _, h0⟩ ?_ ?_
  · refine ent_id ?_ ?_ ?_ rfl rfl <;> dsimp only [id, go_sem, Nat.reduceAdd, Nat.reduceMul, Nat.reduceSub] <;> simp [KFR_app, kfr_rep, hz, hm, mtL_same, mtO, Nat.beq_refl, KFR, KFL, KF]
  rintro j ⟨hj0, hj⟩
  dsimp only [go_sem, Nat.reduceAdd, Nat.reduceMul, Nat.reduceSub]
  simp only [List.length_append, List.length_replicate, show j + (n - j) = n from by omega]
  by_cases hlt : j < n
  · refine br_t (by simpa using hlt) ?_
    dsimp only [go_sem, Nat.reduceAdd, Nat.reduceMul, Nat.reduceSub]
    refine ⟨j, n, ⟨rfl, by simp; omega, by omega, by simp; omega⟩, ?_⟩
    dsimp only [go_sem, Nat.reduceAdd, Nat.reduceMul, Nat.reduceSub]
    refine ⟨0, j, ⟨rfl, rfl, by omega, by simp⟩, ?_⟩
    dsimp only [go_sem, Nat.reduceAdd, Nat.reduceMul, Nat.reduceSub]
    have hx : List.take (j - 0) (List.replicate j row ++ List.replicate (n - j) z) = List.replicate j row := by rw [Nat.sub_zero]; exact List.take_left' (by simp)
    have hx' : List.take j (List.replicate j row ++ List.replicate (n - j) z) = List.replicate j row := List.take_left' (by simp)
    rw [hx]
    refine ⟨by simp, (by intro c hc; rw [List.eq_of_mem_replicate hc]; exact hone), by simp, ?_⟩
    simp only [List.length_replicate]
    generalize hN : min (n - j) j = N
    have e : List.take j (List.replicate j row ++ List.replicate (n - j) z) ++ (List.take N (List.replicate j row) ++ List.drop (j + N) (List.replicate j row ++ List.replicate (n - j) z)) = List.replicate (j + N) row ++ List.replicate (n - (j + N)) z := by
      rw [hx', List.take_replicate, List.drop_append, List.drop_of_length_le (l := List.replicate j row) (by simp), List.length_replicate, List.nil_append, List.drop_replicate, ← List.append_assoc, List.replicate_append_replicate, show min N j = N from by omega]
      congr 2; omega
    rw [e]
    dsimp only [go_sem, Nat.reduceAdd, Nat.reduceMul, Nat.reduceSub]
    rw [show (j : Int) + (N : Int) = ((j + N : Nat) : Int) from by omega, w64_in (n := ((j + N : Nat) : Int)) (by omega) (by omega)]
    refine ⟨j + N, ⟨by omega, by omega⟩, by omega, ?_⟩
    refine ent_id ?_ ?_ ?_ rfl rfl <;> dsimp only [id, go_sem, Nat.reduceAdd, Nat.reduceMul, Nat.reduceSub] <;> simp [KFR_app, kfr_rep, hz, hm, mtL_same, mtO, Nat.beq_refl, KFR, KFL, KF]
  refine br_f (by simp; omega) ?_
  dsimp only [go_sem, Nat.reduceAdd, Nat.reduceMul, Nat.reduceSub]
  have hje : j = n := by omega
  subst hje
  simp only [Nat.sub_self, List.replicate_zero, List.append_nil]
  refine ⟨_, rfl, ?_⟩
  refine entO_id ?_ ?_ ?_ rfl <;> dsimp only [id, go_sem, Nat.reduceAdd, Nat.reduceMul, Nat.reduceSub] <;> simp [KFR_app, kfr_rep, hm, mtL_same, mtO, Nat.beq_refl, KFR, KFL, KF]
theorem clone_ok (l : List Meet) (hL : l.length ≤ 1000) (k : Bool) : CtM Try.prog 79 [] 0 [.sl k 4 (l.map meetL)] (fun o => o = ⟨false, .mr 0 0, [(0, .row 0 4 (l.map meetL) 73)], 1⟩) := by
  refine m79 (by simp [hpb]) (fun o ho => by subst ho; simp [KX, KXL, KXP, KXH, KFR_iff, KFL, KF, meetL]) ?_
  dsimp only [c79, r79, go_sem, Nat.reduceAdd, Nat.reduceMul, Nat.reduceSub]
  intro b hb
  dsimp only [go_sem, Nat.reduceAdd, Nat.reduceMul, Nat.reduceSub]
  cases b with
  | true =>
    have hl : l = [] := by simpa using hb rfl
    subst hl
    refine br_t rfl ?_
    dsimp only [go_sem, Nat.reduceAdd, Nat.reduceMul, Nat.reduceSub]
    refine ⟨_, rfl, ?_⟩
    refine entO_of (ent_trans (ent_nilslot 0 4 73 rfl rfl) ?_) (fun _ _ _ e => by cases e)
    (refine ent_id ?_ ?_ ?_ rfl rfl <;> dsimp only [meetL, id, go_sem, Nat.reduceAdd, Nat.reduceMul, Nat.reduceSub] <;> simp [meetL, KFR_iff, KFR_app, KFR, KFL, KF, mtL_same, mtO, Nat.beq_refl])
  | false =>
    refine br_f rfl ?_
    dsimp only [go_sem, Nat.reduceAdd, Nat.reduceMul, Nat.reduceSub]
    refine ⟨by simp; omega, ?_⟩
    dsimp only [go_sem, Nat.reduceAdd, Nat.reduceMul, Nat.reduceSub]
    refine ⟨_, rfl, ?_⟩
    (refine entO_id ?_ ?_ ?_ rfl <;> dsimp only [meetL, id, go_sem, Nat.reduceAdd, Nat.reduceMul, Nat.reduceSub] <;> simp [meetL, KFR_iff, KFR_app, KFR, KFL, KF, mtL_same, mtO, Nat.beq_refl])
end Go.Proofs.Ytnlfjchbhgikaaa
