/- Walks and plain laws that lead to the given statement, part 7 of 8. -/
import Derived.Test.YtkjldleglbbkeaaGF
import Derived.Test.YtkjldleglbbkeaaProg
set_option maxRecDepth 100000
set_option maxHeartbeats 4000000
namespace Go.Proofs.Ytkjldleglbbkeaa
open Go Go.Sx Go.Azalai
theorem rwalk_ok (l : Land) (hs : Small l) (s day : Int) (p : Span) (legs : List Int) (hl : legs.length ≤ 1000) (c : Bool) : Ct Try.prog 35 [.agg (landL l), I s, I day, .agg (spanL p), .sl c 1 (legs.map intL)] (walkR (walkF l p s day legs)) := by
  have hw := hs.1
  have hleg := hs.2.1
  refine t35 (by simp [landL, wellL, legL, gateL, spanL, intL, KFR_iff, KFL, KF]) (walkR_kf _) ?_
  dsimp only [c35, r35, landL, spanL, go_sem, Nat.reduceAdd, Nat.reduceMul, Nat.reduceSub]
  refine call (asked_ok l hs p) ?_
  dsimp only [go_sem, Nat.reduceAdd, Nat.reduceMul, Nat.reduceSub]
  by_cases ha : askF l p = 0
  case neg =>
    refine br_t (by simpa using ha) ?_
    dsimp only [go_sem, Nat.reduceAdd, Nat.reduceMul, Nat.reduceSub]
    simp [walkF, ha, walkR, rowsZ]
  have hok := ask_ok ha
  refine br_f (by simpa using ha) ?_
  dsimp only [go_sem, Nat.reduceAdd, Nat.reduceMul, Nat.reduceSub]
  simp only [List.length_map]
  have h1 := okLand_len hok.land
  rw [w64_in (n := (l.wells.length : Int) - 1) (by omega) (by omega)]
  refine call (within_ok s 0 (l.wells.length - 1)) ?_
  dsimp only [go_sem, Nat.reduceAdd, Nat.reduceMul, Nat.reduceSub]
  repeat (first | (refine gb ?_; dsimp only [go_sem, Nat.reduceAdd, Nat.reduceMul, Nat.reduceSub]) | (refine call (within_ok day 0 100000) ?_; dsimp only [go_sem, Nat.reduceAdd, Nat.reduceMul, Nat.reduceSub]))
  by_cases hr : (inR 0 (l.wells.length - 1) s && inR 0 100000 day) = true
  case neg =>
    refine br_t (by simpa [Bool.and_eq_true, ← Bool.not_and] using hr) ?_
    dsimp only [go_sem, Nat.reduceAdd, Nat.reduceMul, Nat.reduceSub]
    simp [walkF, ha, walkR, rowsZ, hr]
  refine br_f (by simpa [← Bool.not_and] using hr) ?_
  dsimp only [go_sem, Nat.reduceAdd, Nat.reduceMul, Nat.reduceSub]
  simp only [List.length_map]
  by_cases hm : legs.length > 24
  · refine br_t (by simp; omega) ?_
    dsimp only [go_sem, Nat.reduceAdd, Nat.reduceMul, Nat.reduceSub]
    simp only [walkF, ha, hr, ne_eq, not_true_eq_false, if_false, Bool.true_eq_false, hm, if_true, walkR, rowsZ]
    simp
  refine br_f (by simp; omega) ?_
  dsimp only [go_sem, Nat.reduceAdd, Nat.reduceMul, Nat.reduceSub]
  have hF1 : ∀ k, badAt l s legs 0 = some k → walkF l p s day legs = ([], (k : Int), 8) := fun k h => by
    simp only [walkF, ha, hr, ne_eq, not_true_eq_false, if_false, Bool.true_eq_false, hm, h]
  have hF2 : badAt l s legs 0 = none → walkF l p s day legs = goS l p s day day legs 0 [] := fun h => by
    simp only [walkF, ha, hr, ne_eq, not_true_eq_false, if_false, Bool.true_eq_false, hm, h]
  simp only [Bool.and_eq_true, inR, decide_eq_true_eq] at hr
  obtain ⟨hr1, hd⟩ := hr
  refine loopO (fun q : Nat × Int × List Int => [(15, I q.1), (14, I q.2.1)]) (fun _ => [])
    (fun q => q.1 ≤ legs.length ∧ W1 l s legs q.1 q.2.1 q.2.2) (fun q => legs.length - q.1) (0, s, []) ⟨Nat.zero_le _, W1.start (by omega)⟩ ?_ ?_
  · (refine ent_id ?_ ?_ ?_ rfl rfl <;> dsimp only [spanL, wellL, legL, gateL, intL, id, go_sem, Nat.reduceAdd, Nat.reduceMul, Nat.reduceSub] <;> simp [spanL, wellL, legL, gateL, intL, KFR_iff, KFR_app, KFR, KFL, KF, mtL_same, mtO, Nat.beq_refl])
  rintro ⟨j, well, ends⟩ ⟨hj, hI⟩
  simp only at hj hI
  dsimp only [go_sem, Nat.reduceAdd, Nat.reduceMul, Nat.reduceSub]
  simp only [List.length_map]
  by_cases hlt : j < legs.length
  · refine br_t (by simpa using hlt) ?_
    dsimp only [go_sem, Nat.reduceAdd, Nat.reduceMul, Nat.reduceSub]
    refine ixs_map j hlt rfl ?_
    dsimp only [intL, go_sem, Nat.reduceAdd, Nat.reduceMul, Nat.reduceSub]
    simp only [List.length_map]
    rw [w64_in (n := (l.legs.length : Int) - 1) (by omega) (by omega)]
    refine call (within_ok legs[j] 0 (l.legs.length - 1)) ?_
    dsimp only [go_sem, Nat.reduceAdd, Nat.reduceMul, Nat.reduceSub]
    by_cases hin : inR 0 (l.legs.length - 1) legs[j] = true
    case neg =>
      rw [Bool.not_eq_true] at hin
      rw [hin]
      repeat (refine gb ?_; dsimp only [go_sem, Nat.reduceAdd, Nat.reduceMul, Nat.reduceSub])
      refine ixs_map j hlt rfl ?_
      dsimp only [intL, go_sem, Nat.reduceAdd, Nat.reduceMul, Nat.reduceSub]
      repeat (refine gb ?_; dsimp only [go_sem, Nat.reduceAdd, Nat.reduceMul, Nat.reduceSub])
      refine ixs_v 0 (legL ⟨0, 0, ⟨0, 0⟩, []⟩) rfl (fun h => by cases h) ?_
      dsimp only [legL, go_sem, Nat.reduceAdd, Nat.reduceMul, Nat.reduceSub]
      repeat (refine gb ?_; dsimp only [go_sem, Nat.reduceAdd, Nat.reduceMul, Nat.reduceSub])
      refine call (otherR_ok ⟨0, 0, ⟨0, 0⟩, []⟩ well) ?_
      dsimp only [go_sem, Nat.reduceAdd, Nat.reduceMul, Nat.reduceSub]
      repeat (refine gb ?_; dsimp only [go_sem, Nat.reduceAdd, Nat.reduceMul, Nat.reduceSub])
      refine br_t (by simp) ?_
      dsimp only [go_sem, Nat.reduceAdd, Nat.reduceMul, Nat.reduceSub]
      have hn : endF l legs[j] well < 0 := by
        simp only [inR, decide_eq_false_iff_not] at hin
        rw [endF_le (by omega)]; decide
      rw [hF1 j (hI.stop hlt hn)]
      simp [walkR, rowsZ]
    rw [hin]
    simp only [inR, decide_eq_true_eq] at hin
    obtain ⟨k, hk, hlk⟩ : ∃ k : Nat, k < l.legs.length ∧ legs[j] = (k : Int) := ⟨legs[j].toNat, by omega, by omega⟩
    have hend : endF l legs[j] well = otherF l.legs[k] well := by rw [hlk]; exact endF_at hk
    repeat (refine gb ?_; dsimp only [go_sem, Nat.reduceAdd, Nat.reduceMul, Nat.reduceSub])
    refine ixs_map j hlt rfl ?_
    dsimp only [intL, go_sem, Nat.reduceAdd, Nat.reduceMul, Nat.reduceSub]
    repeat (refine gb ?_; dsimp only [go_sem, Nat.reduceAdd, Nat.reduceMul, Nat.reduceSub])
    refine ixs_map k hk hlk ?_
    dsimp only [legL, go_sem, Nat.reduceAdd, Nat.reduceMul, Nat.reduceSub]
    repeat (refine gb ?_; dsimp only [go_sem, Nat.reduceAdd, Nat.reduceMul, Nat.reduceSub])
    refine call (otherR_ok l.legs[k] well) ?_
    dsimp only [go_sem, Nat.reduceAdd, Nat.reduceMul, Nat.reduceSub]
    repeat (refine gb ?_; dsimp only [go_sem, Nat.reduceAdd, Nat.reduceMul, Nat.reduceSub])
    by_cases hn : otherF l.legs[k] well < 0
    · refine br_t (by simpa using hn) ?_
      dsimp only [go_sem, Nat.reduceAdd, Nat.reduceMul, Nat.reduceSub]
      rw [hF1 j (hI.stop hlt (by omega))]
      simp [walkR, rowsZ]
    refine br_f (by simpa using hn) ?_
    dsimp only [go_sem, Nat.reduceAdd, Nat.reduceMul, Nat.reduceSub]
    refine ixs_map j hlt rfl ?_
    dsimp only [intL, go_sem, Nat.reduceAdd, Nat.reduceMul, Nat.reduceSub]
    refine ixs_map k hk hlk ?_
    dsimp only [legL, go_sem, Nat.reduceAdd, Nat.reduceMul, Nat.reduceSub]
    refine call (otherR_ok l.legs[k] well) ?_
    dsimp only [go_sem, Nat.reduceAdd, Nat.reduceMul, Nat.reduceSub]
    have hst := hI.step hok hlt (by omega)
    rw [hend] at hst
    rw [w64_in (n := (j : Int) + 1) (by omega) (by omega)]
    refine ⟨(j + 1, otherF l.legs[k] well, _), ⟨hlt, hst⟩, by simp only; omega, ?_⟩
    (refine ent_id ?_ ?_ ?_ rfl rfl <;> dsimp only [spanL, wellL, legL, gateL, intL, id, go_sem, Nat.reduceAdd, Nat.reduceMul, Nat.reduceSub] <;> simp [spanL, wellL, legL, gateL, intL, KFR_iff, KFR_app, KFR, KFL, KF, mtL_same, mtO, Nat.beq_refl])
  refine br_f (by simp; omega) ?_
  dsimp only [go_sem, Nat.reduceAdd, Nat.reduceMul, Nat.reduceSub]
  have hje : j = legs.length := by omega
  subst hje
  obtain ⟨hbad, hends⟩ := hI.done
  subst hends
  have hF := hF2 hbad
  have hlen := endsW_len hbad
  have h2 := W2.start (p := p) hbad (by omega) hd
  clear hI
  refine loopG (ent_nilslot 16 6 92 rfl rfl) (fun q : Nat × Nat × Int × Int × Int × List Stop => [(18, I q.1), (16, .mr 3 q.2.1), (14, I q.2.2.1)]) (fun q => [(3, .row q.2.1 6 (q.2.2.2.2.2.map stopL) 92), (2, .cells [I q.2.2.2.1, I q.2.2.2.2.1] 29)])
    (fun q => q.1 ≤ legs.length ∧ W2 l p s day legs q.1 q.2.2.1 q.2.2.2.1 q.2.2.2.2.1 q.2.2.2.2.2) (fun q => legs.length - q.1) (0, 0, s, day, day, []) ⟨Nat.zero_le _, h2⟩ ?_ ?_
  · (refine ent_id ?_ ?_ ?_ rfl rfl <;> dsimp only [spanL, wellL, legL, gateL, intL, stopL, id, go_sem, Nat.reduceAdd, Nat.reduceMul, Nat.reduceSub] <;> simp [spanL, wellL, legL, gateL, intL, stopL, KFR_iff, KFR_app, KFR, KFL, KF, mtL_same, mtO, Nat.beq_refl])
  clear h2
  rintro ⟨j, u, wl, a, b, acc⟩ ⟨hj, hI⟩
  simp only at hj hI
  dsimp only [go_sem, Nat.reduceAdd, Nat.reduceMul, Nat.reduceSub]
  simp only [List.length_map]
  by_cases hlt : j < legs.length
  · refine br_t (by simpa using hlt) ?_
    dsimp only [go_sem, Nat.reduceAdd, Nat.reduceMul, Nat.reduceSub]
    refine ixs_map j hlt rfl ?_
    dsimp only [intL, go_sem, Nat.reduceAdd, Nat.reduceMul, Nat.reduceSub]
    obtain ⟨k, hk, hlk, _, ho, hej⟩ := hI.at hlt
    have hgl : GoodLeg l.legs[k] := okLand_leg hok.land _ (List.getElem_mem _)
    have hda := hI.da
    have hdb := hI.db
    have q0 : inR 0 100001 a = true := by simp only [inR, decide_eq_true_eq]; omega
    have q1 : inR 0 100001 b = true := by simp only [inR, decide_eq_true_eq]; omega
    have hbd := arrK_bd (k := true) (t := b) hgl hok.pace (by omega)
    refine ixs_map k hk hlk ?_
    dsimp only [legL, go_sem, Nat.reduceAdd, Nat.reduceMul, Nat.reduceSub]
    refine call (arrives_ok l.legs[k] p a b hgl hok.pace q0 q1) ?_
    dsimp only [go_sem, Nat.reduceAdd, Nat.reduceMul, Nat.reduceSub]
    by_cases hR : arrK true l.legs[k] p b > 100000
    · refine br_t (by simp; omega) ?_
      dsimp only [go_sem, Nat.reduceAdd, Nat.reduceMul, Nat.reduceSub]
      rw [hF, hI.stop hlt hk hlk hR]
      simp [walkR, rowsZ]
    refine br_f (by simp; omega) ?_
    dsimp only [go_sem, Nat.reduceAdd, Nat.reduceMul, Nat.reduceSub]
    refine call (otherR_ok l.legs[k] wl) ?_
    dsimp only [go_sem, Nat.reduceAdd, Nat.reduceMul, Nat.reduceSub]
    refine ixs_map j hlt rfl ?_
    dsimp only [intL, go_sem, Nat.reduceAdd, Nat.reduceMul, Nat.reduceSub]
    refine call (may_ok l.legs[k] a p hgl hok.pace q0) ?_
    dsimp only [go_sem, Nat.reduceAdd, Nat.reduceMul, Nat.reduceSub]
    refine call (can_ok l.legs[k] b p hgl hok.pace q1) ?_
    dsimp only [go_sem, Nat.reduceAdd, Nat.reduceMul, Nat.reduceSub]
    simp only [Nat.beq_refl]
    dsimp only [go_sem, Nat.reduceAdd, Nat.reduceMul, Nat.reduceSub]
    have hst := hI.step hok hlt hk hlk hR ho
    refine ⟨(by intro c hc; simp only [List.mem_singleton] at hc; subst hc; rfl), by have := hI.len; simp; omega, ?_⟩
    dsimp only [go_sem, Nat.reduceAdd, Nat.reduceMul, Nat.reduceSub]
    rw [w64_in (n := (j : Int) + 1) (by omega) (by omega), hlk]
    have e : acc.map stopL ++ [[SV.v (.int .i64 (k : Int)), SV.v (.int .i64 (otherF l.legs[k] wl)), SV.v (.int .i64 (mayF l.legs[k] p a)), SV.v (.int .i64 (canF l.legs[k] p b)), SV.v (.int .i64 (arrK false l.legs[k] p a)), SV.v (.int .i64 (arrK true l.legs[k] p b))]] =
      (acc ++ [(⟨(k : Int), otherF l.legs[k] wl, ⟨leK false l.legs[k] p a, leK true l.legs[k] p b⟩, ⟨arrK false l.legs[k] p a, arrK true l.legs[k] p b⟩⟩ : Stop)]).map stopL := by simp [stopL, leK]
    rw [e]
    refine ⟨(j + 1, u + 1, otherF l.legs[k] wl, arrK false l.legs[k] p a, arrK true l.legs[k] p b, _), ⟨hlt, hst⟩, by simp only; omega, ?_⟩
    (refine ent_id ?_ ?_ ?_ rfl rfl <;> dsimp only [spanL, wellL, legL, gateL, intL, stopL, id, go_sem, Nat.reduceAdd, Nat.reduceMul, Nat.reduceSub] <;> simp [spanL, wellL, legL, gateL, intL, stopL, KFR_iff, KFR_app, KFR, KFL, KF, mtL_same, mtO, Nat.beq_refl])
  refine br_f (by simp; omega) ?_
  dsimp only [go_sem, Nat.reduceAdd, Nat.reduceMul, Nat.reduceSub]
  have hje : j = legs.length := by omega
  subst hje
  simp only [Nat.beq_refl]
  dsimp only [go_sem, Nat.reduceAdd, Nat.reduceMul, Nat.reduceSub]
  rw [hF, hI.done]
  simp [walkR, rowsZ, vwN]
end Go.Proofs.Ytkjldleglbbkeaa
namespace Go.Sx
open Go Go.RowKit
/-- what one word says, another one says too -/
def Weak (s s' : SV) : Prop := ∀ (w : World) (E : Env) (n ok : Nat → Prop) (y : Value), R w E n ok s y → R w E n ok s' y
theorem Weak.rfl {s : SV} : Weak s s := fun _ _ _ _ _ h => h
theorem weak_nil {c : Bool} {m : Nat} : Weak (.v (.slice none 0 0)) (.sl c m []) := fun w E n ok y h => by
  simp only [R] at h ⊢
  exact ⟨none, 0, 0, h, by simp, ⟨Nat.le_refl _, fun _ => Eq.refl _⟩, by simp, by simp⟩
theorem weak_cons {s s' : SV} {l l' : List SV} (h1 : Weak s s') (h2 : ∀ (w : World) (E : Env) (n ok : Nat → Prop) (ys : List Value), RL w E n ok l ys → RL w E n ok l' ys) : ∀ (w : World) (E : Env) (n ok : Nat → Prop) (ys : List Value), RL w E n ok (s :: l) ys → RL w E n ok (s' :: l') ys := fun w E n ok ys h => by
  simp only [RL] at h ⊢
  obtain ⟨y, r, q1, q2, q3⟩ := h
  exact ⟨y, r, q1, h1 _ _ _ _ _ q2, h2 _ _ _ _ _ q3⟩
def retW (rs : List RV) (res : SV) : Ex → St → Prop
  | .ex _, _ => False
  | .n, σ => ∃ s, rvR rs σ = some s ∧ Weak s res
  | .ret, σ => ∃ s, rvR rs σ = some s ∧ Weak s res
  | .pan _, _ => False
theorem retW_n (rs : List RV) (res : SV) (σ : St) : retW rs res .n σ = ∃ s, rvR rs σ = some s ∧ Weak s res := rfl
theorem retW_ret (rs : List RV) (res : SV) (σ : St) : retW rs res .ret σ = ∃ s, rvR rs σ = some s ∧ Weak s res := rfl
attribute [go_sem] retW_n retW_ret
section
variable {P : Program}
theorem ct_introW {f : FuncId} {fn : Func} {code : Code} {ir : SC} {args : List SV} {res : SV} {rs : List RV} {N : Nat} (hf : P.funcs[f]? = some fn) (hb : fn.body = some code) (hnm : bodyB P f = true) (hc : cmpC P ir code = true)
    (hr : cmpR P rs fn.results.toList = true) (hN : fn.ntmps = N) (hA : args.length ≤ N) (ka : KFL args) (kr : KF res) (h : sx P Y0 0 ir (st0 args N) (retW rs res)) : Ct P f args res := by
  refine ⟨hnm, ka, kr, fun w ok vs hR => ?_⟩
  let C : Cx := ⟨w, ok, fun _ _ => False, [], none, E0, 0⟩
  have hok : ∀ b, ok b → okS C E0 [] b := fun b hb => ⟨.inl hb, fun _ h => h⟩
  refine body_calls (C := C) (E := E0) (hp0 := []) (n0 := 0) hf hb hc hN hA rfl rfl ⟨Nat.le_refl _, fun _ _ h => h.elim⟩
    ⟨fun k _ => rfl, fun k => trivial, fun k k' b h => h.elim, fun k b h => h.elim, ⟨rfl, rfl, rfl, Nat.le_refl _, fun _ _ _ => rfl⟩, fun k hk => absurd hk (Nat.not_lt_zero k)⟩
    (RL_mono (fun b hb _ => ⟨hok b hb, rfl⟩) (fun _ h => Ele.rfl) (fun _ h => h.elim) _ _ hR) hdOK0 h fun e σ hk C' E a w' c1 c2 c3 c4 c5 hs => ?_
  have hpass : ∀ k b, ¬ C'.pass k b := fun k b => by rw [c3]; exact fun h => h
  have hend : (∃ s, rvR rs σ = some s ∧ Weak s res) → ∃ v, (results fn a.tmps).run P w' = .ok v w' ∧ ∃ y, Ending.returned v = .returned y ∧ R w' E0 (fun _ => False) (fun b => ok b ∨ w.heap.size ≤ b) res y ∧ Below w.heap.size w w' := fun ⟨s, hrr, hw⟩ => by
    obtain ⟨v, h1, h2⟩ := results_R (P := P) (fn := fn) (a := a) (w := w') (E := E) (n := ltn σ.n) (ok := okF C') hrr fun l hl => rvs_ok hs hpass rs _ l hr hl
    have hkp := hs.hs.kp
    have e1 : okF C' = fun b => ok b ∨ w.heap.size ≤ b := by funext b; simp only [okF, c1, c2]; rfl
    rw [e1] at h2
    have e0 : C'.w0 = w := c1
    refine ⟨v, h1, v, rfl, R_kf res v kr (hw _ _ _ _ _ h2), ?_⟩
    have q := hkp
    exact ⟨by rw [← e0]; exact q.os, by rw [← e0]; exact q.tape, by rw [← e0]; exact q.output, by rw [← e0]; exact q.size, fun b hb => by rw [← e0]; exact q.block b (by rw [e0]; exact hb) (fun k => hpass k b)⟩
  cases e with
  | ex i => exact hk.elim
  | pan s => exact hk.elim
  | n => exact hend hk
  | ret => exact hend hk
end
/-- a struct of two numbers is a key of a map -/
def two64 (P : Program) (kt t1 : TypeId) : Bool :=
  match P.underlying kt with
  | some (.struct fs) => match fs.toList with
    | [f1, f2] => f1.type == t1 && f2.type == t1 && f1.offset == 0 && f2.offset == 1 && f1.name != "_" && f2.name != "_"
    | _ => false
  | _ => false
theorem key64 {P : Program} {kt t1 : TypeId} (h : two64 P kt t1 = true) (hu1 : P.underlying t1 = some (.int .i64)) (hs : szOf P t1 = some 1) (ha : agOf P t1 = some false) (hag : agOf P kt = some true) (hq : eqT P 5 kt = some [1, 1]) :
    KeyT P kt (fun n : Int × Int => .agg #[.int .i64 n.1, .int .i64 n.2]) (fun n => .agg [.v (.int .i64 n.1), .v (.int .i64 n.2)]) := by
  unfold two64 at h
  split at h
  · rename_i fs hu
    split at h
    · rename_i f1 f2 hf
      have hfs : fs = #[f1, f2] := by apply Array.toList_inj.1; simp [hf]
      subst hfs
      simp only [Bool.and_eq_true, beq_iff_eq, bne_iff_ne] at h
      obtain ⟨⟨⟨⟨⟨h1, h2⟩, h3⟩, h4⟩, h5⟩, h6⟩ := h
      refine keyInt2 hu hu1 h1 h2 h3 h4 hs ha h5 h6 fun a b c d w => ?_
      obtain ⟨ag, g1, g2, g3⟩ := eqT_run 5 kt [1, 1] hq 10000 (by decide)
      rw [hag] at g1
      cases g1
      exact g3 w [.int .i64 a, .int .i64 b] [.int .i64 c, .int .i64 d] (a == c && b == d) (by simp [eqLV, eqCV, eqA, kbq])
    · cases h
  · cases h
/-- a contract holds of arguments that say more -/
theorem Ct.args {P : Program} {f : FuncId} {args args0 : List SV} {res : SV} (h : Ct P f args res) (ka : KFL args0) (hw : ∀ (w : World) (E : Env) (n ok : Nat → Prop) (ys : List Value), RL w E n ok args0 ys → RL w E n ok args ys) : Ct P f args0 res :=
  ⟨h.1, ka, h.3, fun w ok vs hR => h.4 w ok vs (hw _ _ _ _ _ hR)⟩
end Go.Sx
set_option maxRecDepth 100000
set_option maxHeartbeats 4000000
namespace Go.Proofs.Ytkjldleglbbkeaa
open Go Go.Sx Go.Azalai
def natL (n : Nat) : List SV := [I (n : Int)]
def wayS (a : List Nat) : SV := .sl false 1 (a.map natL)
theorem nan_ok (a : Int) : Ct Try.prog 106 [I a] (B false) := by
  refine t106 (by simp [KFR, KFL, KF]) (by simp [KFL, KF]) ?_
  dsimp only [c106, r106, go_sem, Nat.reduceAdd, Nat.reduceMul, Nat.reduceSub]
  simp
def cmpZ (a b : Int) : Int := if a < b then -1 else if a > b then 1 else 0
theorem cmpc_ok (a b : Int) : Ct Try.prog 100 [I a, I b] (I (cmpZ a b)) := by
  refine t100 (by simp [KFR, KFL, KF]) (by simp [KFL, KF]) ?_
  dsimp only [c100, r100, go_sem, Nat.reduceAdd, Nat.reduceMul, Nat.reduceSub]
  refine call (nan_ok a) ?_
  dsimp only [go_sem, Nat.reduceAdd, Nat.reduceMul, Nat.reduceSub]
  refine call (nan_ok b) ?_
  dsimp only [go_sem, Nat.reduceAdd, Nat.reduceMul, Nat.reduceSub]
  refine br_f rfl ?_
  dsimp only [go_sem, Nat.reduceAdd, Nat.reduceMul, Nat.reduceSub]
  refine br_f rfl ?_
  dsimp only [go_sem, Nat.reduceAdd, Nat.reduceMul, Nat.reduceSub]
  by_cases h : a < b
  · refine br_t (by simpa using h) ?_
    dsimp only [go_sem, Nat.reduceAdd, Nat.reduceMul, Nat.reduceSub]
    simp [cmpZ, h]
  refine br_f (by simpa using h) ?_
  dsimp only [go_sem, Nat.reduceAdd, Nat.reduceMul, Nat.reduceSub]
  by_cases h' : a > b
  · refine br_t (by simpa using h') ?_
    dsimp only [go_sem, Nat.reduceAdd, Nat.reduceMul, Nat.reduceSub]
    simp only [cmpZ, if_neg h, if_pos h']
  refine br_f (by simpa using h') ?_
  dsimp only [go_sem, Nat.reduceAdd, Nat.reduceMul, Nat.reduceSub]
  simp only [cmpZ, if_neg h, if_neg h']
def cmpL : List Nat → List Nat → Int
  | [], [] => 0
  | [], _ :: _ => -1
  | _ :: _, [] => 1
  | x :: a, y :: b => if x < y then -1 else if x > y then 1 else cmpL a b
theorem cmpL_lex : ∀ {a b : List Nat}, decide (cmpL a b < 0) = lexB a b
  | [], [] => rfl
  | [], _ :: _ => rfl
  | _ :: _, [] => rfl
  | x :: a, y :: b => by
    have ih := cmpL_lex (a := a) (b := b)
    have e : cmpL (x :: a) (y :: b) = if x < y then -1 else if x > y then 1 else cmpL a b := rfl
    generalize cmpL (x :: a) (y :: b) = c at e
    subst e
    simp only [lexB]
    by_cases h : x < y
    · simp [h]
    · by_cases h' : x > y
      · have : (x == y) = false := by simp; omega
        rw [this]; simp [h, h']
      · have : (x == y) = true := by simp; omega
        rw [this]; simp [h, h', ← ih]
theorem compare_ok (a b : List Nat) (ha : a.length ≤ 1000000) (hb : b.length ≤ 1000000) : Ct Try.prog 87 [wayS a, wayS b] (I (cmpL a b)) := by
  refine t87 (by simp [KFR_iff, wayS, natL, KFL, KF]) (by simp [KFL, KF]) ?_
  dsimp only [c87, r87, wayS, go_sem, Nat.reduceAdd, Nat.reduceMul, Nat.reduceSub]
  simp only [List.length_map]
  refine loopO (fun j : Nat => [(11, I j)]) (fun _ => []) (fun j => j ≤ a.length ∧ cmpL (a.drop j) (b.drop j) = cmpL a b ∧ j ≤ b.length) (fun j => a.length - j) 0 ⟨Nat.zero_le _, rfl, Nat.zero_le _⟩ ?_ ?_
  · (refine ent_id ?_ ?_ ?_ rfl rfl <;> dsimp only [natL, id, go_sem, Nat.reduceAdd, Nat.reduceMul, Nat.reduceSub] <;> simp [natL, KFR_iff, KFR_app, KFR, KFL, KF, mtL_same, mtO, Nat.beq_refl])
  rintro j ⟨hj, hi, hjb⟩
  dsimp only [go_sem, Nat.reduceAdd, Nat.reduceMul, Nat.reduceSub]
  by_cases hlt : j < a.length
  · refine br_t (by simpa using hlt) ?_
    dsimp only [go_sem, Nat.reduceAdd, Nat.reduceMul, Nat.reduceSub]
    refine ixs_map j hlt rfl ?_
    dsimp only [natL, go_sem, Nat.reduceAdd, Nat.reduceMul, Nat.reduceSub]
    simp only [List.length_map]
    rw [List.drop_eq_getElem_cons hlt] at hi
    by_cases hb : j < b.length
    · refine br_f (by simpa using hb) ?_
      dsimp only [go_sem, Nat.reduceAdd, Nat.reduceMul, Nat.reduceSub]
      refine ixs_map j hb rfl ?_
      dsimp only [natL, go_sem, Nat.reduceAdd, Nat.reduceMul, Nat.reduceSub]
      refine call (cmpc_ok _ _) ?_
      dsimp only [go_sem, Nat.reduceAdd, Nat.reduceMul, Nat.reduceSub]
      rw [List.drop_eq_getElem_cons hb] at hi
      simp only [cmpL] at hi
      by_cases h : a[j] < b[j]
      · rw [if_pos h] at hi
        have e : cmpZ (a[j] : Int) (b[j] : Int) = -1 := by simp only [cmpZ]; rw [if_pos (by omega)]
        rw [e]
        refine br_t rfl ?_
        dsimp only [go_sem, Nat.reduceAdd, Nat.reduceMul, Nat.reduceSub]
        rw [← hi]
      rw [if_neg h] at hi
      by_cases h' : a[j] > b[j]
      · rw [if_pos h'] at hi
        have e : cmpZ (a[j] : Int) (b[j] : Int) = 1 := by simp only [cmpZ]; rw [if_neg (by omega), if_pos (by omega)]
        rw [e]
        refine br_t rfl ?_
        dsimp only [go_sem, Nat.reduceAdd, Nat.reduceMul, Nat.reduceSub]
        rw [← hi]
      rw [if_neg h'] at hi
      have e : cmpZ (a[j] : Int) (b[j] : Int) = 0 := by simp only [cmpZ]; rw [if_neg (by omega), if_neg (by omega)]
      rw [e]
      refine br_f rfl ?_
      dsimp only [go_sem, Nat.reduceAdd, Nat.reduceMul, Nat.reduceSub]
      rw [w64_in (n := (j : Int) + 1) (by omega) (by omega)]
      refine ⟨j + 1, ⟨hlt, hi, hb⟩, by omega, ?_⟩
      (refine ent_id ?_ ?_ ?_ rfl rfl <;> dsimp only [natL, id, go_sem, Nat.reduceAdd, Nat.reduceMul, Nat.reduceSub] <;> simp [natL, KFR_iff, KFR_app, KFR, KFL, KF, mtL_same, mtO, Nat.beq_refl])
    · refine br_t (by simp; omega) ?_
      dsimp only [go_sem, Nat.reduceAdd, Nat.reduceMul, Nat.reduceSub]
      rw [List.drop_of_length_le (l := b) (i := j) (by omega)] at hi
      simp only [cmpL] at hi
      rw [← hi]
  refine br_f (by simp; omega) ?_
  dsimp only [go_sem, Nat.reduceAdd, Nat.reduceMul, Nat.reduceSub]
  simp only [List.length_map]
  rw [List.drop_of_length_le (by omega)] at hi
  have hje : j = a.length := by omega
  subst hje
  by_cases hb : a.length < b.length
  · refine br_t (by simpa using hb) ?_
    dsimp only [go_sem, Nat.reduceAdd, Nat.reduceMul, Nat.reduceSub]
    rw [List.drop_eq_getElem_cons hb] at hi
    simp only [cmpL] at hi
    rw [← hi]
  · refine br_f (by simpa using hb) ?_
    dsimp only [go_sem, Nat.reduceAdd, Nat.reduceMul, Nat.reduceSub]
    rw [List.drop_of_length_le (by omega)] at hi
    simp only [cmpL] at hi
    rw [← hi]
theorem u78 {args : List SV} {res : SV} (ka : KFL args) (kr : KF res) (h : sx Try.prog Y0 0 c78 (st0 args 8) (retW r78 res)) (hA : Nat.ble args.length 8 = true := by rfl) : Ct Try.prog 78 args res := ct_introW Try.func78 rfl b78 c78_ok r78_ok n78 (Nat.le_of_ble_eq_true hA) ka kr h
theorem clonev_ok (a : List Nat) (ha : a.length ≤ 1000000) : Ct Try.prog 78 [wayS a] (wayS a) := by
  refine u78 (by simp [KFR_iff, wayS, natL, KFL, KF]) (by simp [KFR_iff, wayS, natL, KFL, KF]) ?_
  dsimp only [c78, r78, wayS, go_sem, Nat.reduceAdd, Nat.reduceMul, Nat.reduceSub]
  intro b hb
  dsimp only [go_sem, Nat.reduceAdd, Nat.reduceMul, Nat.reduceSub]
  refine br ?_ ?_
  · intro h
    have := hb h
    dsimp only [go_sem, Nat.reduceAdd, Nat.reduceMul, Nat.reduceSub]
    rw [List.map_eq_nil_iff.1 this]
    exact ⟨_, rfl, weak_nil⟩
  · intro h
    dsimp only [go_sem, Nat.reduceAdd, Nat.reduceMul, Nat.reduceSub]
    refine app0 (by simp; omega) ?_
    dsimp only [go_sem, Nat.reduceAdd, Nat.reduceMul, Nat.reduceSub]
    exact ⟨_, rfl, Weak.rfl⟩
theorem clip_ok (a : List Nat) (ha : a.length ≤ 1000000) : Ct Try.prog 98 [wayS a] (.sl true 1 (a.map natL)) := by
  refine t98 (by simp [KFR_iff, wayS, natL, KFL, KF]) (by simp [KFR_iff, wayS, natL, KFL, KF]) ?_
  dsimp only [c98, r98, wayS, go_sem, Nat.reduceAdd, Nat.reduceMul, Nat.reduceSub]
  refine ⟨impP_iff.2 fun _ => ⟨rfl, rfl⟩, ?_⟩
  dsimp only [go_sem, Nat.reduceAdd, Nat.reduceMul, Nat.reduceSub]
theorem more_ok (a : List Nat) (i : Nat) (ha : a.length ≤ 1000000) : Ct Try.prog 81 [wayS a, I i] (wayS (a ++ [i])) := by
  refine t81 (by simp [KFR_iff, wayS, natL, KFL, KF]) (by simp [KFL, KF, wayS, KFR_iff, natL, KFR_app, KFR]) ?_
  dsimp only [c81, r81, go_sem, Nat.reduceAdd, Nat.reduceMul, Nat.reduceSub]
  refine call (clonev_ok a ha) ?_
  dsimp only [go_sem, Nat.reduceAdd, Nat.reduceMul, Nat.reduceSub]
  refine call (clip_ok a ha) ?_
  dsimp only [go_sem, Nat.reduceAdd, Nat.reduceMul, Nat.reduceSub]
  refine app0 (by simp; omega) ?_
  dsimp only [wayS, go_sem, Nat.reduceAdd, Nat.reduceMul, Nat.reduceSub]
  simp [natL]
end Go.Proofs.Ytkjldleglbbkeaa
set_option maxRecDepth 100000
set_option maxHeartbeats 4000000
namespace Go.Proofs.Ytkjldleglbbkeaa
open Go Go.Sx Go.Azalai
theorem u147 : Try.prog.underlying 147 = some (.map 136 59) := by kernel_rfl
abbrev kS : Int × Int → Value := fun n => .agg #[.int .i64 n.1, .int .i64 n.2]
abbrev sS : Int × Int → SV := fun n => .agg [.v (.int .i64 n.1), .v (.int .i64 n.2)]
theorem key136 : KeyT Try.prog 136 kS sS := key64 (t1 := 3) (by kernel_rfl) u3 (by kernel_rfl) (by kernel_rfl) (by kernel_rfl) (by kernel_rfl)
noncomputable def sureE (l : Land) (p : Span) (s to day : Int) : Int := if askF l p ≠ 0 then askF l p else if (inR 0 (l.wells.length - 1) s && inR 0 (l.wells.length - 1) to && inR 0 100000 day) = false then 2 else if reachV true l p s day to > 100000 then 6 else 0
noncomputable def sureR (l : Land) (p : Span) (s to day : Int) : SV := .tup [rowsZ (sureE l p s to day) 1 ((sureL l p s to day).map natL), I (sureE l p s to day)]
/-- there is a way of so many legs until the day on which one is there first -/
theorem sure_some {l : Land} {p : Span} {s to day G : Int} (h : reachV true l p s day to = G) (hG : ¬ G > 100000) : ∃ N a, WayN l p s day N (to, G) a := by
  rcases reachV_real (k := true) (l := l) (p := p) (s := s) (day := day) (v := to) with e | ⟨a, e⟩
  · omega
  · exact ⟨a.length, a, rfl, by rw [← h]; exact e⟩
theorem mpS_nil {K V : Type} {key : K → Value} {val : V → SV} : mpS key val ([] : List (Nat × K × V)) = [] := rfl
theorem natS_kf (a : List Nat) : KF (wayS a) := by simp [wayS, KF, KFR_iff, KFL, natL]
theorem wsurest_ok (l : Land) (hs : Small l) (s to day : Int) (p : Span) : Ct Try.prog 36 [.agg (landL l), I s, I to, I day, .agg (spanL p)] (sureR l p s to day) := by
  have hw := hs.1
  have hleg := hs.2.1
  refine t36 (by simp [landL, wellL, legL, gateL, spanL, KFR_iff, KFL, KF]) (by unfold sureR rowsZ; split <;> simp [KFL, KF, KFR_iff, natL]) ?_
  dsimp only [c36, r36, landL, spanL, go_sem, Nat.reduceAdd, Nat.reduceMul, Nat.reduceSub]
  by_cases ha : askF l p = 0
  case neg =>
    refine call (open_err l hs p ha) ?_
    dsimp only [go_sem, Nat.reduceAdd, Nat.reduceMul, Nat.reduceSub]
    refine br_t (by simpa using ha) ?_
    dsimp only [go_sem, Nat.reduceAdd, Nat.reduceMul, Nat.reduceSub]
    simp [sureR, sureE, ha, rowsZ]
  have hok := ask_ok ha
  refine call (open_ok l hs p ha) ?_
  dsimp only [carL, go_sem, Nat.reduceAdd, Nat.reduceMul, Nat.reduceSub]
  refine br_f (by decide) ?_
  dsimp only [go_sem, Nat.reduceAdd, Nat.reduceMul, Nat.reduceSub]
  simp only [List.length_map]
  have h1 := okLand_len hok.land
  rw [w64_in (n := (l.wells.length : Int) - 1) (by omega) (by omega)]
  refine call (from2 0 (l.wells.length - 1) s to true) ?_
  dsimp only [go_sem, Nat.reduceAdd, Nat.reduceMul, Nat.reduceSub]
  repeat (first | (refine gb ?_; dsimp only [go_sem, Nat.reduceAdd, Nat.reduceMul, Nat.reduceSub]) | (refine call (from1 0 100000 day true) ?_; dsimp only [go_sem, Nat.reduceAdd, Nat.reduceMul, Nat.reduceSub]))
  by_cases hr : (inR 0 (l.wells.length - 1) s && inR 0 (l.wells.length - 1) to && inR 0 100000 day) = true
  case neg =>
    refine br_t (by simpa [Bool.and_eq_true, ← Bool.not_and] using hr) ?_
    dsimp only [go_sem, Nat.reduceAdd, Nat.reduceMul, Nat.reduceSub]
    simp [sureR, sureE, ha, rowsZ, hr]
  refine br_f (by simpa [← Bool.not_and] using hr) ?_
  dsimp only [go_sem, Nat.reduceAdd, Nat.reduceMul, Nat.reduceSub]
  have he : sureE l p s to day = if reachV true l p s day to > 100000 then 6 else 0 := by simp [sureE, ha, hr]
  simp only [Bool.and_eq_true] at hr
  obtain ⟨⟨hr1, hr3⟩, hr2⟩ := hr
  obtain ⟨s0, hs0, rfl⟩ : ∃ s0 : Nat, s0 < l.wells.length ∧ s = (s0 : Int) := by
    simp only [inR, decide_eq_true_eq] at hr1
    exact ⟨s.toNat, by omega, by omega⟩
  obtain ⟨t0, ht0, rfl⟩ : ∃ t0 : Nat, t0 < l.wells.length ∧ to = (t0 : Int) := by
    simp only [inR, decide_eq_true_eq] at hr3
    exact ⟨to.toNat, by omega, by omega⟩
  refine call (reach_ok l p hs hok s0 hs0 day hr2 true) ?_
  dsimp only [go_sem, Nat.reduceAdd, Nat.reduceMul, Nat.reduceSub]
  simp only [inR, decide_eq_true_eq] at hr2
  have htl : t0 < (reachF true l p s0 day).length := by rw [reachF_len]; exact ht0
  refine ixs_map t0 htl rfl ?_
  dsimp only [intL, go_sem, Nat.reduceAdd, Nat.reduceMul, Nat.reduceSub]
  have hG : (reachF true l p s0 day)[t0] = reachV true l p s0 day t0 := by simp [reachF]
  simp only [hG]
  have hGb := reachV_bd (k := true) (v := (t0 : Int)) hok hr2.1 hr2.2 (s := (s0 : Int)) (by omega) (by omega)
  generalize hGe : reachV true l p s0 day t0 = G at he hGb ⊢
  by_cases hbig : G > 100000
  · refine br_t (by simpa using hbig) ?_
    dsimp only [go_sem, Nat.reduceAdd, Nat.reduceMul, Nat.reduceSub]
    simp [sureR, he, hbig, rowsZ]
  refine br_f (by simpa using hbig) ?_
  dsimp only [go_sem, Nat.reduceAdd, Nat.reduceMul, Nat.reduceSub]
  refine raw_mkmap rfl rfl rfl ?_
  dsimp only [go_sem, Nat.reduceAdd, Nat.reduceMul, Nat.reduceSub]
  refine raw_setG (ins := true) (key := kS) (val := wayS) (L := []) (k := ((s0 : Int), day)) (v := []) (s := .v (.slice none 0 0)) rfl rfl u147 key136 rfl rfl (by simp) (fun _ _ _ _ _ h => weak_nil _ _ _ _ _ h) ?_
  dsimp only [go_sem, Nat.reduceAdd, Nat.reduceMul, Nat.reduceSub]
  obtain ⟨N0, a0, hN0⟩ := sure_some hGe hbig
  refine loopO (fun q : Nat × List (Nat × (Int × Int) × List Nat) × Nat => [(15, .mp 4), (65, .any), (69, .any)]) (fun q => [(4, .map (mpS kS wayS q.2.1) q.2.2)])
    (fun q => q.1 ≤ N0 ∧ MW q.2.1 q.2.2 ∧ Rd l p s0 day G q.1 (fun u => mget u q.2.1) ∧ ∀ m, m < q.1 → ∀ b, ¬ WayN l p s0 day m (t0, G) b) (fun q => N0 - q.1)
    (0, mset 0 ((s0 : Int), day) [] [], mclk 0 ((s0 : Int), day) ([] : List (Nat × (Int × Int) × List Nat))) ⟨Nat.zero_le _, MW.set MW.nil _, Rd.start hGb.1 (fun u => by rw [mget_set]; rfl), fun m hm => absurd hm (Nat.not_lt_zero m)⟩ ?_ ?_
  · (refine ent_id ?_ ?_ ?_ rfl rfl <;> dsimp only [carL, wellL, legL, gateL, intL, mpS_nil, mpS_kf, mpS_kf3, natS_kf, natL, id, go_sem, Nat.reduceAdd, Nat.reduceMul, Nat.reduceSub] <;> simp [carL, wellL, legL, gateL, intL, mpS_nil, mpS_kf, mpS_kf3, natS_kf, natL, KFR_iff, KFR_app, KFR, KFL, KF, mtL_same, mtO, Nat.beq_refl])
  rintro ⟨n, L, clk⟩ ⟨hn, hM, hR, hnot⟩
  simp only at hn hM hR hnot
  dsimp only [go_sem, Nat.reduceAdd, Nat.reduceMul, Nat.reduceSub]
  refine raw_get (key := kS) (sv := sS) (val := wayS) (L := L) (k := ((t0 : Int), G)) (z := .slice none 0 0) (zs := wayS []) rfl rfl u147 key136 rfl (by kernel_rfl) (fun w E n ok => weak_nil w E n ok _ (by simp only [R])) ?_ ?_
  · intro a hget
    dsimp only [wayS, go_sem, Nat.reduceAdd, Nat.reduceMul, Nat.reduceSub]
    refine br_t rfl ?_
    dsimp only [wayS, go_sem, Nat.reduceAdd, Nat.reduceMul, Nat.reduceSub]
    have hsure := hR.sure hGe.symm hget hnot
    simp only [sureR, he, hbig, if_false, rowsZ, if_true, sureL_eq hsure, wayS]
  intro hget
  dsimp only [wayS, go_sem, Nat.reduceAdd, Nat.reduceMul, Nat.reduceSub]
  refine br_f rfl ?_
  dsimp only [wayS, go_sem, Nat.reduceAdd, Nat.reduceMul, Nat.reduceSub]
  have hnot' := hR.not hget hnot
  have hlt : n < N0 := by
    by_cases h : n < N0
    · exact h
    · exact absurd hN0 (hnot' N0 (by omega) a0)
  refine raw_mkmap rfl rfl rfl ?_
  dsimp only [go_sem, Nat.reduceAdd, Nat.reduceMul, Nat.reduceSub]
  refine raw_range rfl rfl u147 rfl rfl ?_
  dsimp only [go_sem, Nat.reduceAdd, Nat.reduceMul, Nat.reduceSub]
  have hent : ∀ e ∈ L, e.2.2.length = n ∧ goW true l p s0 day e.2.2 = some e.2.1 ∧ 0 ≤ e.2.1.1 ∧ e.2.1.1 < l.wells.length ∧ 0 ≤ e.2.1.2 ∧ e.2.1.2 ≤ 100000 ∧ e.2.2.length ≤ 100000 := fun e he => by
    have h1 := hR e.2.1
    simp only [mget_of hM.kn he] at h1
    have hb := goW_bd hok (v' := e.2.1.1) (t' := e.2.1.2) h1.1.2.2 hr2.2 (by omega) (by omega)
    exact ⟨h1.1.2.1, h1.1.2.2, by omega, by omega, by omega, by omega, by omega⟩
  refine loopO (fun _ : List Nat × List (Nat × (Int × Int) × List Nat) × Nat => []) (fun q => [(5, .map (mpS kS wayS q.2.1) q.2.2), (7, .it 4 clk q.1 clk)])
    (fun q => MW q.2.1 q.2.2 ∧ Nxt l p G (fun u => mget u L) (fun u => mget u q.2.1) (fun u _ => ∃ e ∈ L, e.2.1 = u ∧ e.1 ∈ q.1))
    (fun q => leftN L q.1) ([], [], 0) ⟨MW.nil, Nxt.congr (Nxt.start (N := fun u => mget u ([] : List (Nat × (Int × Int) × List Nat))) fun _ => rfl) (fun _ => rfl) (fun u w i _ _ => by simp)⟩ ?_ ?_
  · (refine ent_id ?_ ?_ ?_ rfl rfl <;> dsimp only [carL, wellL, legL, gateL, intL, mpS_nil, mpS_kf, mpS_kf3, natS_kf, natL, id, go_sem, Nat.reduceAdd, Nat.reduceMul, Nat.reduceSub] <;> simp [carL, wellL, legL, gateL, intL, mpS_nil, mpS_kf, mpS_kf3, natS_kf, natL, KFR_iff, KFR_app, KFR, KFL, KF, mtL_same, mtO, Nat.beq_refl])
  rintro ⟨seen, N, c2⟩ ⟨hMN, hX⟩
  simp only at hMN hX
  dsimp only [go_sem, Nat.reduceAdd, Nat.reduceMul, Nat.reduceSub]
  refine raw_next (key := kS) (sv := sS) (val := wayS) (L := L) (c := clk) rfl rfl rfl hM.bl (Nat.le_refl _) key136 ?_ ?_
  · intro hall
    dsimp only [go_sem, Nat.reduceAdd, Nat.reduceMul, Nat.reduceSub]
    refine br_f rfl ?_
    dsimp only [go_sem, Nat.reduceAdd, Nat.reduceMul, Nat.reduceSub]
    refine ⟨(n + 1, N, c2), ⟨hlt, hMN, hR.next hok hX (fun u w i hu hi => ?_) (by omega) hr2.2 (by omega) (by omega), hnot'⟩, by simp only; omega, ?_⟩
    · obtain ⟨b, hb⟩ := mget_mem hu
      exact ⟨_, hb, rfl, hall _ hb⟩
    refine ent (rho [0, 1, 2, 3, 5]) ?_ ?_ ?_ (show ∀ i, i < 5 → ∀ j, j < 5 → rho [0, 1, 2, 3, 5] i = rho [0, 1, 2, 3, 5] j → i = j by decide) rfl rfl (fun i hi => absurd hi (Nat.not_lt_zero i)) <;> dsimp only [rho, go_sem, Nat.reduceAdd, Nat.reduceMul, Nat.reduceSub] <;> simp [mpS_kf, mpS_kf3, natS_kf, natL, KFR_iff, KFR_app, KFR, KFL, KF, mtL_same, mtO, Nat.beq_refl, carL, wellL, legL, gateL, intL, spanL]
  intro e he' hse
  dsimp only [go_sem, Nat.reduceAdd, Nat.reduceMul, Nat.reduceSub]
  refine br_t rfl ?_
  dsimp only [go_sem, Nat.reduceAdd, Nat.reduceMul, Nat.reduceSub]
  obtain ⟨g1, g2, g3, g4, g5, g6, g7⟩ := hent e he'
  refine raw_entry (key := kS) (sv := sS) (val := wayS) (L := L) (c := clk) (e := e) rfl rfl rfl he' hM.bn key136 ?_
  dsimp only [wayS, go_sem, Nat.reduceAdd, Nat.reduceMul, Nat.reduceSub]
  have hmeas := leftN_lt he' hse
  have hget' := mget_of hM.kn he'
  obtain ⟨v0, hv0⟩ : ∃ v0 : Nat, e.2.1.1 = (v0 : Int) := ⟨e.2.1.1.toNat, by omega⟩
  refine callmL [] (leads_ok l p e.2.1.1) rfl rfl rfl ?_ ?_ ?_
  · exact mtL_same (by simp [carL, wellL, legL, gateL, KFR_iff, KFL, KF])
  · trivial
  dsimp only [leadsO, carL, go_sem, Nat.reduceAdd, Nat.reduceMul, Nat.reduceSub]
  refine gh ent_refl ?_
  dsimp only [go_sem, Nat.reduceAdd, Nat.reduceMul, Nat.reduceSub]
  refine ⟨b97, fun rec => ?_⟩
  refine y97 ?_
  dsimp only [c97, r97, go_sem, Nat.reduceAdd, Nat.reduceMul, Nat.reduceSub]
  refine loopO (fun q : Nat × List (Nat × (Int × Int) × List Nat) × Nat => [(10, I q.1)]) (fun q => [(5, .map (mpS kS wayS q.2.1) q.2.2)])
    (fun q => q.1 ≤ l.legs.length ∧ MW q.2.1 q.2.2 ∧ Nxt l p G (fun u => mget u L) (fun u => mget u q.2.1) (fun u i => (∃ e ∈ L, e.2.1 = u ∧ e.1 ∈ seen) ∨ u = e.2.1 ∧ i < q.1)) (fun q => l.legs.length - q.1) (0, N, c2)
    ⟨Nat.zero_le _, hMN, hX.congr (fun _ => rfl) (fun u w i _ _ => by simp)⟩ ?_ ?_
  · (refine ent_id ?_ ?_ ?_ rfl rfl <;> dsimp only [carL, wellL, legL, gateL, intL, mpS_nil, mpS_kf, mpS_kf3, natS_kf, natL, id, go_sem, Nat.reduceAdd, Nat.reduceMul, Nat.reduceSub] <;> simp [carL, wellL, legL, gateL, intL, mpS_nil, mpS_kf, mpS_kf3, natS_kf, natL, KFR_iff, KFR_app, KFR, KFL, KF, mtL_same, mtO, Nat.beq_refl])
  clear hMN hX
  rintro ⟨j, N, c2⟩ ⟨hj, hMN, hX⟩
  simp only at hj hMN hX
  dsimp only [go_sem, Nat.reduceAdd, Nat.reduceMul, Nat.reduceSub]
  simp only [List.length_map]
  by_cases hlt2 : j < l.legs.length
  · refine br_t (by simpa using hlt2) ?_
    dsimp only [go_sem, Nat.reduceAdd, Nat.reduceMul, Nat.reduceSub]
    refine ixs_map j hlt2 rfl ?_
    dsimp only [legL, go_sem, Nat.reduceAdd, Nat.reduceMul, Nat.reduceSub]
    have hgl : GoodLeg l.legs[j] := okLand_leg hok.land _ (List.getElem_mem _)
    have hends := hok.ends (List.getElem_mem hlt2)
    have hxj : l.legs[j]? = some l.legs[j] := List.getElem?_eq_getElem hlt2
    have hin : inR 0 100001 e.2.1.2 = true := by simp only [inR, decide_eq_true_eq]; omega
    have hab := arrK_bd (k := true) (t := e.2.1.2) hgl hok.pace (by omega)
    have hNlen : ∀ q a, mget q N = some a → a.length ≤ 1000000 := fun q a hq => by
      have h := hX q
      simp only [hq] at h
      obtain ⟨u, w, i, x, k1, _, _, _, _, _, rfl⟩ := h.1
      obtain ⟨b, hb⟩ := mget_mem k1
      have := (hent _ hb).2.2.2.2.2.2
      simp only at this
      simp; omega
    have hdone : ∀ u i, (((∃ e ∈ L, e.2.1 = u ∧ e.1 ∈ seen) ∨ u = e.2.1 ∧ i < j + 1) ↔ ((∃ e ∈ L, e.2.1 = u ∧ e.1 ∈ seen) ∨ u = e.2.1 ∧ i < j) ∨ u = e.2.1 ∧ i = j) := fun u i => by
      rw [or_assoc, ← and_or_left, show (i < j + 1) = (i < j ∨ i = j) from propext (by omega)]
    by_cases hca : e.2.1.1 = l.legs[j].a
    · refine br_t (by simpa using hca) ?_
      dsimp only [go_sem, Nat.reduceAdd, Nat.reduceMul, Nat.reduceSub]
      refine ⟨rfl, rfl, ?_⟩
      refine call (arrive_ok l p j hlt2 e.2.1.2 e.2.1.2 hgl hok.pace hin hin) ?_
      dsimp only [go_sem, Nat.reduceAdd, Nat.reduceMul, Nat.reduceSub]
      refine ixa 1 rfl (by decide) ?_
      dsimp only [go_sem, Nat.reduceAdd, Nat.reduceMul, Nat.reduceSub]
      have hoth : otherF l.legs[j] e.2.1.1 = l.legs[j].b := by rw [otherF, if_pos hca.symm]
      by_cases hbg : arrK true l.legs[j] p e.2.1.2 > G
      · refine br_t (by simpa using hbg) ?_
        dsimp only [go_sem, Nat.reduceAdd, Nat.reduceMul, Nat.reduceSub]
        refine ⟨rfl, ?_⟩
        refine br_f (by decide) ?_
        dsimp only [go_sem, Nat.reduceAdd, Nat.reduceMul, Nat.reduceSub]
        rw [w64_in (n := (j : Int) + 1) (by omega) (by omega)]
        refine ⟨(j + 1, N, c2), ⟨hlt2, hMN, (hX.skip (u := e.2.1) hxj (by omega)).congr (fun _ => rfl) (fun u w i _ _ => hdone u i)⟩, by simp only; omega, ?_⟩
        (refine ent_id ?_ ?_ ?_ rfl rfl <;> dsimp only [carL, wellL, legL, gateL, intL, mpS_nil, mpS_kf, mpS_kf3, natS_kf, natL, id, go_sem, Nat.reduceAdd, Nat.reduceMul, Nat.reduceSub] <;> simp [carL, wellL, legL, gateL, intL, mpS_nil, mpS_kf, mpS_kf3, natS_kf, natL, KFR_iff, KFR_app, KFR, KFL, KF, mtL_same, mtO, Nat.beq_refl])
      refine br_f (by simpa using hbg) ?_
      dsimp only [go_sem, Nat.reduceAdd, Nat.reduceMul, Nat.reduceSub]
      refine call (more_ok e.2.2 j (by omega)) ?_
      dsimp only [wayS, go_sem, Nat.reduceAdd, Nat.reduceMul, Nat.reduceSub]
      refine raw_get (key := kS) (sv := sS) (val := wayS) (L := N) (k := (l.legs[j].b, arrK true l.legs[j] p e.2.1.2)) (z := .slice none 0 0) (zs := wayS []) rfl rfl u147 key136 rfl (by kernel_rfl) (fun w E n ok => weak_nil w E n ok _ (by simp only [R])) ?_ ?_
      · intro old hold
        dsimp only [wayS, go_sem, Nat.reduceAdd, Nat.reduceMul, Nat.reduceSub]
        repeat (refine gb ?_; dsimp only [go_sem, Nat.reduceAdd, Nat.reduceMul, Nat.reduceSub])
        refine call (compare_ok (e.2.2 ++ [j]) old (by simp; omega) (hNlen _ _ hold)) ?_
        dsimp only [go_sem, Nat.reduceAdd, Nat.reduceMul, Nat.reduceSub]
        repeat (refine gb ?_; dsimp only [go_sem, Nat.reduceAdd, Nat.reduceMul, Nat.reduceSub])
        rw [cmpL_lex]
        by_cases hlx : lexB (e.2.2 ++ [j]) old = true
        · refine br_t (by simpa using hlx) ?_
          dsimp only [go_sem, Nat.reduceAdd, Nat.reduceMul, Nat.reduceSub]
          refine raw_setG (ins := false) (key := kS) (val := wayS) (L := N) (k := (l.legs[j].b, arrK true l.legs[j] p e.2.1.2)) (v := e.2.2 ++ [j]) (s := wayS (e.2.2 ++ [j])) rfl rfl u147 key136 rfl rfl (by simp [wayS]) (fun _ _ _ _ _ h => h) ?_
          dsimp only [go_sem, Nat.reduceAdd, Nat.reduceMul, Nat.reduceSub]
          refine ⟨rfl, ?_⟩
          refine br_f (by decide) ?_
          dsimp only [go_sem, Nat.reduceAdd, Nat.reduceMul, Nat.reduceSub]
          rw [w64_in (n := (j : Int) + 1) (by omega) (by omega)]
          refine ⟨(j + 1, _, _), ⟨hlt2, hMN.set (k := (l.legs[j].b, arrK true l.legs[j] p e.2.1.2)) (e.2.2 ++ [j]), ?_⟩, by simp only; omega, ?_⟩
          · refine (hX.step (N' := fun u => mget u (mset c2 (l.legs[j].b, arrK true l.legs[j] p e.2.1.2) (e.2.2 ++ [j]) N)) (u := e.2.1) hget' hxj (by omega) (by omega) (fun q => ?_)).congr (fun _ => rfl) (fun u w i _ _ => hdone u i)
            simp only [mget_set, hoth]
            split
            · rename_i hq
              subst hq
              simp only [hold, bestU, if_pos hlx]
            · rfl
          (refine ent_id ?_ ?_ ?_ rfl rfl <;> dsimp only [carL, wellL, legL, gateL, intL, mpS_nil, mpS_kf, mpS_kf3, natS_kf, natL, id, go_sem, Nat.reduceAdd, Nat.reduceMul, Nat.reduceSub] <;> simp [carL, wellL, legL, gateL, intL, mpS_nil, mpS_kf, mpS_kf3, natS_kf, natL, KFR_iff, KFR_app, KFR, KFL, KF, mtL_same, mtO, Nat.beq_refl])
          rfl
        refine br_f (by simpa using hlx) ?_
        dsimp only [go_sem, Nat.reduceAdd, Nat.reduceMul, Nat.reduceSub]
        refine ⟨rfl, ?_⟩
        refine br_f (by decide) ?_
        dsimp only [go_sem, Nat.reduceAdd, Nat.reduceMul, Nat.reduceSub]
        rw [w64_in (n := (j : Int) + 1) (by omega) (by omega)]
        refine ⟨(j + 1, N, c2), ⟨hlt2, hMN, ?_⟩, by simp only; omega, ?_⟩
        · refine (hX.step (N' := fun u => mget u N) (u := e.2.1) hget' hxj (by omega) (by omega) (fun q => ?_)).congr (fun _ => rfl) (fun u w i _ _ => hdone u i)
          simp only [hoth]
          split
          · rename_i hq
            subst hq
            simp only [hold, bestU, if_neg hlx]
          · rfl
        (refine ent_id ?_ ?_ ?_ rfl rfl <;> dsimp only [carL, wellL, legL, gateL, intL, mpS_nil, mpS_kf, mpS_kf3, natS_kf, natL, id, go_sem, Nat.reduceAdd, Nat.reduceMul, Nat.reduceSub] <;> simp [carL, wellL, legL, gateL, intL, mpS_nil, mpS_kf, mpS_kf3, natS_kf, natL, KFR_iff, KFR_app, KFR, KFL, KF, mtL_same, mtO, Nat.beq_refl])
      intro hold
      dsimp only [wayS, go_sem, Nat.reduceAdd, Nat.reduceMul, Nat.reduceSub]
      repeat (refine gb ?_; dsimp only [go_sem, Nat.reduceAdd, Nat.reduceMul, Nat.reduceSub])
      refine call (compare_ok (e.2.2 ++ [j]) [] (by simp; omega) (by simp)) ?_
      dsimp only [go_sem, Nat.reduceAdd, Nat.reduceMul, Nat.reduceSub]
      repeat (refine gb ?_; dsimp only [go_sem, Nat.reduceAdd, Nat.reduceMul, Nat.reduceSub])
      refine br_t (by simp) ?_
      dsimp only [go_sem, Nat.reduceAdd, Nat.reduceMul, Nat.reduceSub]
      refine raw_setG (ins := false) (key := kS) (val := wayS) (L := N) (k := (l.legs[j].b, arrK true l.legs[j] p e.2.1.2)) (v := e.2.2 ++ [j]) (s := wayS (e.2.2 ++ [j])) rfl rfl u147 key136 rfl rfl (by simp [wayS]) (fun _ _ _ _ _ h => h) ?_
      dsimp only [go_sem, Nat.reduceAdd, Nat.reduceMul, Nat.reduceSub]
      refine ⟨rfl, ?_⟩
      refine br_f (by decide) ?_
      dsimp only [go_sem, Nat.reduceAdd, Nat.reduceMul, Nat.reduceSub]
      rw [w64_in (n := (j : Int) + 1) (by omega) (by omega)]
      refine ⟨(j + 1, _, _), ⟨hlt2, hMN.set (k := (l.legs[j].b, arrK true l.legs[j] p e.2.1.2)) (e.2.2 ++ [j]), ?_⟩, by simp only; omega, ?_⟩
      · refine (hX.step (N' := fun u => mget u (mset c2 (l.legs[j].b, arrK true l.legs[j] p e.2.1.2) (e.2.2 ++ [j]) N)) (u := e.2.1) hget' hxj (by omega) (by omega) (fun q => ?_)).congr (fun _ => rfl) (fun u w i _ _ => hdone u i)
        simp only [mget_set, hoth]
        split
        · rename_i hq
          subst hq
          simp only [hold, bestU]
        · rfl
      (refine ent_id ?_ ?_ ?_ rfl rfl <;> dsimp only [carL, wellL, legL, gateL, intL, mpS_nil, mpS_kf, mpS_kf3, natS_kf, natL, id, go_sem, Nat.reduceAdd, Nat.reduceMul, Nat.reduceSub] <;> simp [carL, wellL, legL, gateL, intL, mpS_nil, mpS_kf, mpS_kf3, natS_kf, natL, KFR_iff, KFR_app, KFR, KFL, KF, mtL_same, mtO, Nat.beq_refl])
      rfl
    refine br_f (by simpa using hca) ?_
    dsimp only [go_sem, Nat.reduceAdd, Nat.reduceMul, Nat.reduceSub]
    by_cases hcb : e.2.1.1 = l.legs[j].b
    · refine br_t (by simpa using hcb) ?_
      dsimp only [go_sem, Nat.reduceAdd, Nat.reduceMul, Nat.reduceSub]
      refine ⟨rfl, rfl, ?_⟩
      refine call (arrive_ok l p j hlt2 e.2.1.2 e.2.1.2 hgl hok.pace hin hin) ?_
      dsimp only [go_sem, Nat.reduceAdd, Nat.reduceMul, Nat.reduceSub]
      refine ixa 1 rfl (by decide) ?_
      dsimp only [go_sem, Nat.reduceAdd, Nat.reduceMul, Nat.reduceSub]
      have hoth : otherF l.legs[j] e.2.1.1 = l.legs[j].a := by rw [otherF, if_neg (fun h => hca h.symm), if_pos hcb.symm]
      by_cases hbg : arrK true l.legs[j] p e.2.1.2 > G
      · refine br_t (by simpa using hbg) ?_
        dsimp only [go_sem, Nat.reduceAdd, Nat.reduceMul, Nat.reduceSub]
        refine ⟨rfl, ?_⟩
        refine br_f (by decide) ?_
        dsimp only [go_sem, Nat.reduceAdd, Nat.reduceMul, Nat.reduceSub]
        rw [w64_in (n := (j : Int) + 1) (by omega) (by omega)]
        refine ⟨(j + 1, N, c2), ⟨hlt2, hMN, (hX.skip (u := e.2.1) hxj (by omega)).congr (fun _ => rfl) (fun u w i _ _ => hdone u i)⟩, by simp only; omega, ?_⟩
        (refine ent_id ?_ ?_ ?_ rfl rfl <;> dsimp only [carL, wellL, legL, gateL, intL, mpS_nil, mpS_kf, mpS_kf3, natS_kf, natL, id, go_sem, Nat.reduceAdd, Nat.reduceMul, Nat.reduceSub] <;> simp [carL, wellL, legL, gateL, intL, mpS_nil, mpS_kf, mpS_kf3, natS_kf, natL, KFR_iff, KFR_app, KFR, KFL, KF, mtL_same, mtO, Nat.beq_refl])
      refine br_f (by simpa using hbg) ?_
      dsimp only [go_sem, Nat.reduceAdd, Nat.reduceMul, Nat.reduceSub]
      refine call (more_ok e.2.2 j (by omega)) ?_
      dsimp only [wayS, go_sem, Nat.reduceAdd, Nat.reduceMul, Nat.reduceSub]
      refine raw_get (key := kS) (sv := sS) (val := wayS) (L := N) (k := (l.legs[j].a, arrK true l.legs[j] p e.2.1.2)) (z := .slice none 0 0) (zs := wayS []) rfl rfl u147 key136 rfl (by kernel_rfl) (fun w E n ok => weak_nil w E n ok _ (by simp only [R])) ?_ ?_
      · intro old hold
        dsimp only [wayS, go_sem, Nat.reduceAdd, Nat.reduceMul, Nat.reduceSub]
        repeat (refine gb ?_; dsimp only [go_sem, Nat.reduceAdd, Nat.reduceMul, Nat.reduceSub])
        refine call (compare_ok (e.2.2 ++ [j]) old (by simp; omega) (hNlen _ _ hold)) ?_
        dsimp only [go_sem, Nat.reduceAdd, Nat.reduceMul, Nat.reduceSub]
        repeat (refine gb ?_; dsimp only [go_sem, Nat.reduceAdd, Nat.reduceMul, Nat.reduceSub])
        rw [cmpL_lex]
        by_cases hlx : lexB (e.2.2 ++ [j]) old = true
        · refine br_t (by simpa using hlx) ?_
          dsimp only [go_sem, Nat.reduceAdd, Nat.reduceMul, Nat.reduceSub]
          refine raw_setG (ins := false) (key := kS) (val := wayS) (L := N) (k := (l.legs[j].a, arrK true l.legs[j] p e.2.1.2)) (v := e.2.2 ++ [j]) (s := wayS (e.2.2 ++ [j])) rfl rfl u147 key136 rfl rfl (by simp [wayS]) (fun _ _ _ _ _ h => h) ?_
          dsimp only [go_sem, Nat.reduceAdd, Nat.reduceMul, Nat.reduceSub]
          refine ⟨rfl, ?_⟩
          refine br_f (by decide) ?_
          dsimp only [go_sem, Nat.reduceAdd, Nat.reduceMul, Nat.reduceSub]
          rw [w64_in (n := (j : Int) + 1) (by omega) (by omega)]
          refine ⟨(j + 1, _, _), ⟨hlt2, hMN.set (k := (l.legs[j].a, arrK true l.legs[j] p e.2.1.2)) (e.2.2 ++ [j]), ?_⟩, by simp only; omega, ?_⟩
          · refine (hX.step (N' := fun u => mget u (mset c2 (l.legs[j].a, arrK true l.legs[j] p e.2.1.2) (e.2.2 ++ [j]) N)) (u := e.2.1) hget' hxj (by omega) (by omega) (fun q => ?_)).congr (fun _ => rfl) (fun u w i _ _ => hdone u i)
            simp only [mget_set, hoth]
            split
            · rename_i hq
              subst hq
              simp only [hold, bestU, if_pos hlx]
            · rfl
          (refine ent_id ?_ ?_ ?_ rfl rfl <;> dsimp only [carL, wellL, legL, gateL, intL, mpS_nil, mpS_kf, mpS_kf3, natS_kf, natL, id, go_sem, Nat.reduceAdd, Nat.reduceMul, Nat.reduceSub] <;> simp [carL, wellL, legL, gateL, intL, mpS_nil, mpS_kf, mpS_kf3, natS_kf, natL, KFR_iff, KFR_app, KFR, KFL, KF, mtL_same, mtO, Nat.beq_refl])
          rfl
        refine br_f (by simpa using hlx) ?_
        dsimp only [go_sem, Nat.reduceAdd, Nat.reduceMul, Nat.reduceSub]
        refine ⟨rfl, ?_⟩
        refine br_f (by decide) ?_
        dsimp only [go_sem, Nat.reduceAdd, Nat.reduceMul, Nat.reduceSub]
        rw [w64_in (n := (j : Int) + 1) (by omega) (by omega)]
        refine ⟨(j + 1, N, c2), ⟨hlt2, hMN, ?_⟩, by simp only; omega, ?_⟩
        · refine (hX.step (N' := fun u => mget u N) (u := e.2.1) hget' hxj (by omega) (by omega) (fun q => ?_)).congr (fun _ => rfl) (fun u w i _ _ => hdone u i)
          simp only [hoth]
          split
          · rename_i hq
            subst hq
            simp only [hold, bestU, if_neg hlx]
          · rfl
        (refine ent_id ?_ ?_ ?_ rfl rfl <;> dsimp only [carL, wellL, legL, gateL, intL, mpS_nil, mpS_kf, mpS_kf3, natS_kf, natL, id, go_sem, Nat.reduceAdd, Nat.reduceMul, Nat.reduceSub] <;> simp [carL, wellL, legL, gateL, intL, mpS_nil, mpS_kf, mpS_kf3, natS_kf, natL, KFR_iff, KFR_app, KFR, KFL, KF, mtL_same, mtO, Nat.beq_refl])
      intro hold
      dsimp only [wayS, go_sem, Nat.reduceAdd, Nat.reduceMul, Nat.reduceSub]
      repeat (refine gb ?_; dsimp only [go_sem, Nat.reduceAdd, Nat.reduceMul, Nat.reduceSub])
      refine call (compare_ok (e.2.2 ++ [j]) [] (by simp; omega) (by simp)) ?_
      dsimp only [go_sem, Nat.reduceAdd, Nat.reduceMul, Nat.reduceSub]
      repeat (refine gb ?_; dsimp only [go_sem, Nat.reduceAdd, Nat.reduceMul, Nat.reduceSub])
      refine br_t (by simp) ?_
      dsimp only [go_sem, Nat.reduceAdd, Nat.reduceMul, Nat.reduceSub]
      refine raw_setG (ins := false) (key := kS) (val := wayS) (L := N) (k := (l.legs[j].a, arrK true l.legs[j] p e.2.1.2)) (v := e.2.2 ++ [j]) (s := wayS (e.2.2 ++ [j])) rfl rfl u147 key136 rfl rfl (by simp [wayS]) (fun _ _ _ _ _ h => h) ?_
      dsimp only [go_sem, Nat.reduceAdd, Nat.reduceMul, Nat.reduceSub]
      refine ⟨rfl, ?_⟩
      refine br_f (by decide) ?_
      dsimp only [go_sem, Nat.reduceAdd, Nat.reduceMul, Nat.reduceSub]
      rw [w64_in (n := (j : Int) + 1) (by omega) (by omega)]
      refine ⟨(j + 1, _, _), ⟨hlt2, hMN.set (k := (l.legs[j].a, arrK true l.legs[j] p e.2.1.2)) (e.2.2 ++ [j]), ?_⟩, by simp only; omega, ?_⟩
      · refine (hX.step (N' := fun u => mget u (mset c2 (l.legs[j].a, arrK true l.legs[j] p e.2.1.2) (e.2.2 ++ [j]) N)) (u := e.2.1) hget' hxj (by omega) (by omega) (fun q => ?_)).congr (fun _ => rfl) (fun u w i _ _ => hdone u i)
        simp only [mget_set, hoth]
        split
        · rename_i hq
          subst hq
          simp only [hold, bestU]
        · rfl
      (refine ent_id ?_ ?_ ?_ rfl rfl <;> dsimp only [carL, wellL, legL, gateL, intL, mpS_nil, mpS_kf, mpS_kf3, natS_kf, natL, id, go_sem, Nat.reduceAdd, Nat.reduceMul, Nat.reduceSub] <;> simp [carL, wellL, legL, gateL, intL, mpS_nil, mpS_kf, mpS_kf3, natS_kf, natL, KFR_iff, KFR_app, KFR, KFL, KF, mtL_same, mtO, Nat.beq_refl])
      rfl
    refine br_f (by simpa using hcb) ?_
    dsimp only [go_sem, Nat.reduceAdd, Nat.reduceMul, Nat.reduceSub]
    rw [w64_in (n := (j : Int) + 1) (by omega) (by omega)]
    have hoth : otherF l.legs[j] e.2.1.1 = -1 := by rw [otherF, if_neg (fun h => hca h.symm), if_neg (fun h => hcb h.symm)]
    refine ⟨(j + 1, N, c2), ⟨hlt2, hMN, (hX.skip (u := e.2.1) hxj (by omega)).congr (fun _ => rfl) (fun u w i _ _ => hdone u i)⟩, by simp only; omega, ?_⟩
    (refine ent_id ?_ ?_ ?_ rfl rfl <;> dsimp only [carL, wellL, legL, gateL, intL, mpS_nil, mpS_kf, mpS_kf3, natS_kf, natL, id, go_sem, Nat.reduceAdd, Nat.reduceMul, Nat.reduceSub] <;> simp [carL, wellL, legL, gateL, intL, mpS_nil, mpS_kf, mpS_kf3, natS_kf, natL, KFR_iff, KFR_app, KFR, KFL, KF, mtL_same, mtO, Nat.beq_refl])
  refine br_f (by simp; omega) ?_
  dsimp only [go_sem, Nat.reduceAdd, Nat.reduceMul, Nat.reduceSub]
  refine ⟨(seen ++ [e.1], N, c2), ⟨hMN, hX.congr (fun _ => rfl) (fun u w i hu hi => ?_)⟩, hmeas, ?_⟩
  · obtain ⟨b, hb⟩ := mget_mem hu
    constructor
    · rintro ⟨e', h1, h2, h3⟩
      rcases List.mem_append.1 h3 with h3 | h3
      · exact .inl ⟨e', h1, h2, h3⟩
      · simp only [List.mem_singleton] at h3
        have : e' = e := inj_of_nodup hM.bn h1 he' h3
        subst this
        exact .inr ⟨h2.symm, by omega⟩
    · rintro (⟨e', h1, h2, h3⟩ | ⟨h1, _⟩)
      · exact ⟨e', h1, h2, List.mem_append.2 (.inl h3)⟩
      · exact ⟨e, he', h1.symm, by simp⟩
  (refine ent_id ?_ ?_ ?_ rfl rfl <;> dsimp only [carL, wellL, legL, gateL, intL, mpS_nil, mpS_kf, mpS_kf3, natS_kf, natL, id, go_sem, Nat.reduceAdd, Nat.reduceMul, Nat.reduceSub] <;> simp [carL, wellL, legL, gateL, intL, mpS_nil, mpS_kf, mpS_kf3, natS_kf, natL, KFR_iff, KFR_app, KFR, KFL, KF, mtL_same, mtO, Nat.beq_refl])
end Go.Proofs.Ytkjldleglbbkeaa
set_option maxRecDepth 100000
set_option maxHeartbeats 4000000
namespace Go.Proofs.Ytkjldleglbbkeaa
open Go Go.Sx Go.Azalai
theorem fill_set (n j : Nat) (a : Int) (h : j < n) : (List.replicate j a ++ List.replicate (n - j) 0).set j a = List.replicate (j + 1) a ++ List.replicate (n - (j + 1)) 0 := by
  rw [List.set_append, if_neg (by simp), List.length_replicate, Nat.sub_self, show n - j = (n - (j + 1)) + 1 from by omega, List.replicate_succ, List.set_cons_zero, List.replicate_succ' (n := j)]
  simp
theorem least_ok (l : Land) (p : Span) (hs : Small l) (hg : OkLP l p) (v t to : Nat) (hv : v < l.wells.length) (ht : t ≤ 100000) (hto : to < l.wells.length) (n : Nat) (hn : n ≤ 100000) :
    Ct Try.prog 88 [.agg (landL l), I v, I to, I t, I n, .agg (spanL p)] (I (leastV l p v t n to)) := by
  have hw := hs.1
  have hleg := hs.2.1
  refine t88 (by simp [landL, wellL, legL, gateL, spanL, KFR_iff, KFL, KF]) (by simp [KFR, KFL, KF]) ?_
  dsimp only [c88, r88, landL, spanL, go_sem, Nat.reduceAdd, Nat.reduceMul, Nat.reduceSub]
  simp only [List.length_map]
  refine ⟨l.wells.length, rfl, by omega, ?_⟩
  dsimp only [go_sem, Nat.reduceAdd, Nat.reduceMul, Nat.reduceSub]
  rw [show List.replicate l.wells.length [SV.v (Value.int IntKind.i64 0)] = (List.replicate 0 (100001 : Int) ++ List.replicate (l.wells.length - 0) 0).map intL by simp [intL]]
  refine loopO (fun j : Nat => [(14, I j)]) (fun j => [(2, .row 0 1 ((List.replicate j (100001 : Int) ++ List.replicate (l.wells.length - j) 0).map intL) 3)]) (fun j => j ≤ l.wells.length) (fun j => l.wells.length - j) 0 (Nat.zero_le _) ?_ ?_
  · have hz := kfr_rep (r := [I 0]) (by simp [KFL, KF]) l.wells.length
    (refine ent_id ?_ ?_ ?_ rfl rfl <;> dsimp only [carL, wellL, legL, gateL, intL, hz, id, go_sem, Nat.reduceAdd, Nat.reduceMul, Nat.reduceSub] <;> simp [carL, wellL, legL, gateL, intL, hz, KFR_iff, KFR_app, KFR, KFL, KF, mtL_same, mtO, Nat.beq_refl])
  rintro j hj
  dsimp only [go_sem, Nat.reduceAdd, Nat.reduceMul, Nat.reduceSub]
  have hjl : (List.replicate j (100001 : Int) ++ List.replicate (l.wells.length - j) 0).length = l.wells.length := by simp; omega
  simp only [List.length_map, hjl]
  by_cases hlt : j < l.wells.length
  · refine br_t (by simpa using hlt) ?_
    dsimp only [go_sem, Nat.reduceAdd, Nat.reduceMul, Nat.reduceSub]
    simp only [List.length_map, hjl]
    refine ixrm j rfl hlt ?_
    dsimp only [go_sem, Nat.reduceAdd, Nat.reduceMul, Nat.reduceSub]
    refine strm (100001 : Int) (by rw [hjl]; exact hlt) (by simp [intL]) (by simp [intL, splice]) ?_
    dsimp only [go_sem, Nat.reduceAdd, Nat.reduceMul, Nat.reduceSub]
    rw [fill_set _ _ _ hlt, w64_in (n := (j : Int) + 1) (by omega) (by omega)]
    refine ⟨j + 1, hlt, by omega, ?_⟩
    generalize List.replicate (j + 1) (100001 : Int) ++ List.replicate (l.wells.length - (j + 1)) 0 = R
    (refine ent_id ?_ ?_ ?_ rfl rfl <;> dsimp only [carL, wellL, legL, gateL, intL, id, go_sem, Nat.reduceAdd, Nat.reduceMul, Nat.reduceSub] <;> simp [carL, wellL, legL, gateL, intL, KFR_iff, KFR_app, KFR, KFL, KF, mtL_same, mtO, Nat.beq_refl])
  refine br_f (by simp; omega) ?_
  dsimp only [go_sem, Nat.reduceAdd, Nat.reduceMul, Nat.reduceSub]
  have hje : j = l.wells.length := by omega
  subst hje
  simp only [Nat.sub_self, List.replicate_zero, List.append_nil]
  simp only [List.length_map, List.length_replicate]
  refine ixrm v rfl hv ?_
  dsimp only [go_sem, Nat.reduceAdd, Nat.reduceMul, Nat.reduceSub]
  refine strm (t : Int) (by simpa using hv) (by simp [intL]) (by simp [intL, splice]) ?_
  dsimp only [go_sem, Nat.reduceAdd, Nat.reduceMul, Nat.reduceSub]
  rw [leastR_0 hg (by omega) (by omega) hv]
  refine loopO (fun k : Nat => [(15, I k), (13, .mr 2 0), (23, .any), (25, .any), (30, .any), (32, .any), (33, .any), (36, .any)]) (fun k => [(2, .row 0 1 ((leastR l p v t k).map intL) 3)]) (fun k => k ≤ n) (fun k => n - k) 0 (Nat.zero_le _) ?_ ?_
  · (refine ent_id ?_ ?_ ?_ rfl rfl <;> dsimp only [carL, wellL, legL, gateL, intL, id, go_sem, Nat.reduceAdd, Nat.reduceMul, Nat.reduceSub] <;> simp [carL, wellL, legL, gateL, intL, KFR_iff, KFR_app, KFR, KFL, KF, mtL_same, mtO, Nat.beq_refl])
  intro k hk
  dsimp only [go_sem, Nat.reduceAdd, Nat.reduceMul, Nat.reduceSub]
  by_cases hkn : k < n
  · refine br_t (by simpa using hkn) ?_
    dsimp only [go_sem, Nat.reduceAdd, Nat.reduceMul, Nat.reduceSub]
    simp only [List.length_map, leastR_len]
    refine ⟨l.wells.length, rfl, by omega, ?_⟩
    dsimp only [go_sem, Nat.reduceAdd, Nat.reduceMul, Nat.reduceSub]
    rw [show List.replicate l.wells.length [SV.v (Value.int IntKind.i64 0)] = (List.replicate 0 (100001 : Int) ++ List.replicate (l.wells.length - 0) 0).map intL by simp [intL]]
    refine loopO (fun j : Nat => [(17, I j)]) (fun j => [(3, .row 0 1 ((List.replicate j (100001 : Int) ++ List.replicate (l.wells.length - j) 0).map intL) 3)]) (fun j => j ≤ l.wells.length) (fun j => l.wells.length - j) 0 (Nat.zero_le _) ?_ ?_
    · have hz := kfr_rep (r := [I 0]) (by simp [KFL, KF]) l.wells.length
      (refine ent_id ?_ ?_ ?_ rfl rfl <;> dsimp only [carL, wellL, legL, gateL, intL, hz, id, go_sem, Nat.reduceAdd, Nat.reduceMul, Nat.reduceSub] <;> simp [carL, wellL, legL, gateL, intL, hz, KFR_iff, KFR_app, KFR, KFL, KF, mtL_same, mtO, Nat.beq_refl])
    rintro j hj
    dsimp only [go_sem, Nat.reduceAdd, Nat.reduceMul, Nat.reduceSub]
    have hjl : (List.replicate j (100001 : Int) ++ List.replicate (l.wells.length - j) 0).length = l.wells.length := by simp; omega
    simp only [List.length_map, hjl]
    by_cases hlt : j < l.wells.length
    · refine br_t (by simpa using hlt) ?_
      dsimp only [go_sem, Nat.reduceAdd, Nat.reduceMul, Nat.reduceSub]
      simp only [List.length_map, hjl]
      refine ixrm j rfl hlt ?_
      dsimp only [go_sem, Nat.reduceAdd, Nat.reduceMul, Nat.reduceSub]
      refine strm (100001 : Int) (by rw [hjl]; exact hlt) (by simp [intL]) (by simp [intL, splice]) ?_
      dsimp only [go_sem, Nat.reduceAdd, Nat.reduceMul, Nat.reduceSub]
      rw [fill_set _ _ _ hlt, w64_in (n := (j : Int) + 1) (by omega) (by omega)]
      refine ⟨j + 1, hlt, by omega, ?_⟩
      generalize List.replicate (j + 1) (100001 : Int) ++ List.replicate (l.wells.length - (j + 1)) 0 = R
      (refine ent_id ?_ ?_ ?_ rfl rfl <;> dsimp only [carL, wellL, legL, gateL, intL, id, go_sem, Nat.reduceAdd, Nat.reduceMul, Nat.reduceSub] <;> simp [carL, wellL, legL, gateL, intL, KFR_iff, KFR_app, KFR, KFL, KF, mtL_same, mtO, Nat.beq_refl])
    refine br_f (by simp; omega) ?_
    dsimp only [go_sem, Nat.reduceAdd, Nat.reduceMul, Nat.reduceSub]
    have hje : j = l.wells.length := by omega
    subst hje
    simp only [Nat.sub_self, List.replicate_zero, List.append_nil]
    have hL0 := Lst.start (l := l) (p := p) (c := leastR l p v t k)
    generalize List.replicate l.wells.length (100001 : Int) = d0 at hL0
    refine loopO (fun q : Nat × List Int => [(18, I q.1)]) (fun q => [(3, .row 0 1 (q.2.map intL) 3)]) (fun q => q.1 ≤ l.legs.length ∧ Lst l p (leastR l p v t k) q.2 q.1) (fun q => l.legs.length - q.1) (0, d0) ⟨Nat.zero_le _, hL0⟩ ?_ ?_
    · (refine ent_id ?_ ?_ ?_ rfl rfl <;> dsimp only [carL, wellL, legL, gateL, intL, id, go_sem, Nat.reduceAdd, Nat.reduceMul, Nat.reduceSub] <;> simp [carL, wellL, legL, gateL, intL, KFR_iff, KFR_app, KFR, KFL, KF, mtL_same, mtO, Nat.beq_refl])
    clear hL0
    rintro ⟨i, d⟩ ⟨hi, hL⟩
    simp only at hi hL
    dsimp only [go_sem, Nat.reduceAdd, Nat.reduceMul, Nat.reduceSub]
    simp only [List.length_map]
    by_cases hil : i < l.legs.length
    · refine br_t (by simpa using hil) ?_
      dsimp only [go_sem, Nat.reduceAdd, Nat.reduceMul, Nat.reduceSub]
      refine ixs_map i hil rfl ?_
      dsimp only [legL, go_sem, Nat.reduceAdd, Nat.reduceMul, Nat.reduceSub]
      have hgl : GoodLeg l.legs[i] := okLand_leg hg.land _ (List.getElem_mem _)
      have hends := hg.ends (List.getElem_mem hil)
      obtain ⟨wa, hwae⟩ : ∃ w : Nat, l.legs[i].a = (w : Int) := ⟨l.legs[i].a.toNat, by omega⟩
      obtain ⟨wb, hwbe⟩ : ∃ w : Nat, l.legs[i].b = (w : Int) := ⟨l.legs[i].b.toNat, by omega⟩
      have hx : l.legs[i]? = some l.legs[i] := List.getElem?_eq_getElem hil
      have hdl := hL.len
      have hbd := fun w : Int => leastV_bd (n := k) (w := w) hg (v := (v : Int)) (t := (t : Int)) (by omega) (by omega) (by omega) (by omega)
      have hwa : wa < d.length := by omega
      have hwb : wb < d.length := by omega
      have hca : wa < (leastR l p v t k).length := by rw [leastR_len]; omega
      have hcb : wb < (leastR l p v t k).length := by rw [leastR_len]; omega
      have hst := hL.step hg hx hwae hwbe
      rw [dv_get hca, dv_get hcb, dv_get hwb] at hst
      have ea : (leastR l p v t k)[wa] = leastV l p v t k wa := by simp [leastR]
      have eb : (leastR l p v t k)[wb] = leastV l p v t k wb := by simp [leastR]
      have ha := hbd wa
      have hb := hbd wb
      rw [← ea] at ha
      rw [← eb] at hb
      have inn : ∀ y : Int, (t : Int) ≤ y ∧ y ≤ 100001 → inR 0 100001 y = true := fun y hy => by simp only [inR, decide_eq_true_eq]; omega
      have har1 := arrives_ok l.legs[i] p _ _ hgl hg.pace (inn _ ha) (inn _ ha)
      have har2 := arrives_ok l.legs[i] p _ _ hgl hg.pace (inn _ hb) (inn _ hb)
      simp only [legL, hwae, hwbe] at har1 har2
      simp only [hwae, hwbe, List.length_map]
      refine ixrm wb rfl hwb ?_
      dsimp only [go_sem, Nat.reduceAdd, Nat.reduceMul, Nat.reduceSub]
      refine ldrm hwb ?_
      dsimp only [intL, go_sem, Nat.reduceAdd, Nat.reduceMul, Nat.reduceSub]
      simp only [List.length_map]
      refine ixrm wa rfl hca ?_
      dsimp only [go_sem, Nat.reduceAdd, Nat.reduceMul, Nat.reduceSub]
      refine ldrm hca ?_
      dsimp only [intL, go_sem, Nat.reduceAdd, Nat.reduceMul, Nat.reduceSub]
      simp only [List.length_map]
      refine ixrm wa rfl hca ?_
      dsimp only [go_sem, Nat.reduceAdd, Nat.reduceMul, Nat.reduceSub]
      refine ldrm hca ?_
      dsimp only [intL, go_sem, Nat.reduceAdd, Nat.reduceMul, Nat.reduceSub]
      refine call har1 ?_
      dsimp only [go_sem, Nat.reduceAdd, Nat.reduceMul, Nat.reduceSub]
      simp only [List.length_map]
      refine ixrm wb rfl hwb ?_
      dsimp only [go_sem, Nat.reduceAdd, Nat.reduceMul, Nat.reduceSub]
      refine strm (min d[wb] (arrK true l.legs[i] p (leastR l p v t k)[wa])) hwb (by simp [intL]) (by simp [intL, splice]) ?_
      dsimp only [go_sem, Nat.reduceAdd, Nat.reduceMul, Nat.reduceSub]
      have hl1 : (d.set wb (min d[wb] (arrK true l.legs[i] p (leastR l p v t k)[wa]))).length = d.length := List.length_set
      generalize d.set wb (min d[wb] (arrK true l.legs[i] p (leastR l p v t k)[wa])) = d1 at hst hl1 ⊢
      have hwa1 : wa < d1.length := by omega
      rw [dv_get hwa1] at hst
      simp only [List.length_map]
      refine ixrm wa rfl hwa1 ?_
      dsimp only [go_sem, Nat.reduceAdd, Nat.reduceMul, Nat.reduceSub]
      refine ldrm hwa1 ?_
      dsimp only [intL, go_sem, Nat.reduceAdd, Nat.reduceMul, Nat.reduceSub]
      simp only [List.length_map]
      refine ixrm wb rfl hcb ?_
      dsimp only [go_sem, Nat.reduceAdd, Nat.reduceMul, Nat.reduceSub]
      refine ldrm hcb ?_
      dsimp only [intL, go_sem, Nat.reduceAdd, Nat.reduceMul, Nat.reduceSub]
      simp only [List.length_map]
      refine ixrm wb rfl hcb ?_
      dsimp only [go_sem, Nat.reduceAdd, Nat.reduceMul, Nat.reduceSub]
      refine ldrm hcb ?_
      dsimp only [intL, go_sem, Nat.reduceAdd, Nat.reduceMul, Nat.reduceSub]
      refine call har2 ?_
      dsimp only [go_sem, Nat.reduceAdd, Nat.reduceMul, Nat.reduceSub]
      simp only [List.length_map]
      refine ixrm wa rfl hwa1 ?_
      dsimp only [go_sem, Nat.reduceAdd, Nat.reduceMul, Nat.reduceSub]
      refine strm (min d1[wa] (arrK true l.legs[i] p (leastR l p v t k)[wb])) hwa1 (by simp [intL]) (by simp [intL, splice]) ?_
      dsimp only [go_sem, Nat.reduceAdd, Nat.reduceMul, Nat.reduceSub]
      rw [w64_in (n := (i : Int) + 1) (by omega) (by omega)]
      generalize d1.set wa (min d1[wa] (arrK true l.legs[i] p (leastR l p v t k)[wb])) = d2 at hst ⊢
      refine ⟨(i + 1, d2), ⟨hil, hst⟩, by simp only; omega, ?_⟩
      (refine ent_id ?_ ?_ ?_ rfl rfl <;> dsimp only [carL, wellL, legL, gateL, intL, id, go_sem, Nat.reduceAdd, Nat.reduceMul, Nat.reduceSub] <;> simp [carL, wellL, legL, gateL, intL, KFR_iff, KFR_app, KFR, KFL, KF, mtL_same, mtO, Nat.beq_refl])
    refine br_f (by simp; omega) ?_
    dsimp only [go_sem, Nat.reduceAdd, Nat.reduceMul, Nat.reduceSub]
    have hie : i = l.legs.length := by omega
    subst hie
    have := hL.done hg (by omega) (by omega) (by omega) (by omega)
    subst this
    rw [w64_in (n := (k : Int) + 1) (by omega) (by omega)]
    refine ⟨k + 1, hkn, by omega, ?_⟩
    refine ent (rho [0, 1, 3]) ?_ ?_ ?_ (show ∀ i, i < 3 → ∀ j, j < 3 → rho [0, 1, 3] i = rho [0, 1, 3] j → i = j by decide) rfl rfl (fun i hi => absurd hi (Nat.not_lt_zero i)) <;> dsimp only [rho, go_sem, Nat.reduceAdd, Nat.reduceMul, Nat.reduceSub] <;> simp [KFR_iff, KFR_app, KFR, KFL, KF, mtL_same, mtO, Nat.beq_refl, carL, wellL, legL, gateL, intL, spanL]
  refine br_f (by simp; omega) ?_
  dsimp only [go_sem, Nat.reduceAdd, Nat.reduceMul, Nat.reduceSub]
  have hke : k = n := by omega
  subst hke
  have hl : to < (leastR l p v t k).length := by rw [leastR_len]; exact hto
  simp only [List.length_map]
  refine ixrm to rfl hl ?_
  dsimp only [go_sem, Nat.reduceAdd, Nat.reduceMul, Nat.reduceSub]
  refine ldrm hl ?_
  dsimp only [intL, go_sem, Nat.reduceAdd, Nat.reduceMul, Nat.reduceSub]
  simp [leastR]
end Go.Proofs.Ytkjldleglbbkeaa
set_option maxRecDepth 100000
set_option maxHeartbeats 4000000
namespace Go.Proofs.Ytkjldleglbbkeaa
open Go Go.Sx Go.Azalai
theorem rreach_ok (l : Land) (hs : Small l) (s day : Int) (p : Span) : Ct Try.prog 33 [.agg (landL l), I s, I day, .agg (spanL p)] (.tup [rowsZ (reachE l p s day) 2 ((reachL l p s day).map spanL), I (reachE l p s day)]) := by
  have hw := hs.1
  have hleg := hs.2.1
  refine t33 (by simp [landL, wellL, legL, gateL, spanL, KFR_iff, KFL, KF]) (by unfold rowsZ; split <;> simp [KFL, KF, KFR_iff, spanL]) ?_
  dsimp only [c33, r33, landL, spanL, go_sem, Nat.reduceAdd, Nat.reduceMul, Nat.reduceSub]
  refine call (asked_ok l hs p) ?_
  dsimp only [go_sem, Nat.reduceAdd, Nat.reduceMul, Nat.reduceSub]
  by_cases ha : askF l p = 0
  case neg =>
    refine br_t (by simpa using ha) ?_
    dsimp only [go_sem, Nat.reduceAdd, Nat.reduceMul, Nat.reduceSub]
    simp [reachE, ha, rowsZ]
  have hok := ask_ok ha
  refine br_f (by simpa using ha) ?_
  dsimp only [go_sem, Nat.reduceAdd, Nat.reduceMul, Nat.reduceSub]
  simp only [List.length_map]
  have h1 := okLand_len hok.land
  rw [w64_in (n := (l.wells.length : Int) - 1) (by omega) (by omega)]
  refine call (within_ok s 0 (l.wells.length - 1)) ?_
  dsimp only [go_sem, Nat.reduceAdd, Nat.reduceMul, Nat.reduceSub]
  repeat (first | (refine gb ?_; dsimp only [go_sem, Nat.reduceAdd, Nat.reduceMul, Nat.reduceSub]) | (refine call (within_ok day 0 100000) ?_; dsimp only [go_sem, Nat.reduceAdd, Nat.reduceMul, Nat.reduceSub]))
  by_cases hr : (inR 0 (l.wells.length - 1) s && inR 0 100000 day) = true
  case neg =>
    refine br_t (by simpa [Bool.and_eq_true, ← Bool.not_and] using hr) ?_
    dsimp only [go_sem, Nat.reduceAdd, Nat.reduceMul, Nat.reduceSub]
    simp [reachE, ha, rowsZ, hr]
  refine br_f (by simpa [← Bool.not_and] using hr) ?_
  dsimp only [go_sem, Nat.reduceAdd, Nat.reduceMul, Nat.reduceSub]
  have he : reachE l p s day = 0 := by simp [reachE, ha, hr]
  rw [he]
  simp only [Bool.and_eq_true, inR, decide_eq_true_eq] at hr
  obtain ⟨hr1, hd⟩ := hr
  obtain ⟨s0, hs0, rfl⟩ : ∃ s0 : Nat, s0 < l.wells.length ∧ s = (s0 : Int) := ⟨s.toNat, by omega, by omega⟩
  have hgs : ∀ k, Gone k l p s0 day ((List.replicate l.wells.length (100001 : Int)).set s0 day) := fun k => gone_start (k := k) (l := l) (p := p) (s := s0) (day := day) hs0 hd.2
  refine loopG (ent_nilslot 11 2 29 rfl rfl) (fun q : Nat × Nat => [(12, I q.1), (11, .mr 2 q.2)]) (fun q => [(2, .row q.2 2 ((List.replicate q.1 (⟨100001, 100001⟩ : Span)).map spanL) 29)]) (fun q => q.1 ≤ l.wells.length) (fun q => l.wells.length - q.1) (0, 0) (Nat.zero_le _) ?_ ?_
  · (refine ent_id ?_ ?_ ?_ rfl rfl <;> dsimp only [spanL, wellL, legL, gateL, intL, id, go_sem, Nat.reduceAdd, Nat.reduceMul, Nat.reduceSub] <;> simp [spanL, wellL, legL, gateL, intL, KFR_iff, KFR_app, KFR, KFL, KF, mtL_same, mtO, Nat.beq_refl])
  rintro ⟨j, v⟩ hj
  simp only at hj
  dsimp only [go_sem, Nat.reduceAdd, Nat.reduceMul, Nat.reduceSub]
  simp only [List.length_map]
  by_cases hlt : j < l.wells.length
  · refine br_t (by simpa using hlt) ?_
    dsimp only [go_sem, Nat.reduceAdd, Nat.reduceMul, Nat.reduceSub]
    simp only [Nat.beq_refl]
    dsimp only [go_sem, Nat.reduceAdd, Nat.reduceMul, Nat.reduceSub]
    refine ⟨(by intro c hc; simp only [List.mem_singleton] at hc; subst hc; rfl), by simp; omega, ?_⟩
    dsimp only [go_sem, Nat.reduceAdd, Nat.reduceMul, Nat.reduceSub]
    rw [w64_in (n := (j : Int) + 1) (by omega) (by omega)]
    have e : (List.replicate j (⟨100001, 100001⟩ : Span)).map spanL ++ [[SV.v (.int .i64 100001), SV.v (.int .i64 100001)]] = (List.replicate (j + 1) (⟨100001, 100001⟩ : Span)).map spanL := by
      rw [List.replicate_succ', List.map_append]; rfl
    rw [e]
    refine ⟨(j + 1, v + 1), hlt, by simp only; omega, ?_⟩
    have hk := kfr_rep (r := [I 100001, I 100001]) (by simp [KFL, KF]) (j + 1)
    (refine ent_id ?_ ?_ ?_ rfl rfl <;> dsimp only [spanL, wellL, legL, gateL, intL, hk, id, go_sem, Nat.reduceAdd, Nat.reduceMul, Nat.reduceSub] <;> simp [spanL, wellL, legL, gateL, intL, hk, KFR_iff, KFR_app, KFR, KFL, KF, mtL_same, mtO, Nat.beq_refl])
  refine br_f (by simp; omega) ?_
  dsimp only [go_sem, Nat.reduceAdd, Nat.reduceMul, Nat.reduceSub]
  have hje : j = l.wells.length := by omega
  subst hje
  simp only [Nat.beq_refl]
  dsimp only [go_sem, Nat.reduceAdd, Nat.reduceMul, Nat.reduceSub]
  refine ixrm s0 rfl (by simpa using hs0) ?_
  dsimp only [go_sem, Nat.reduceAdd, Nat.reduceMul, Nat.reduceSub]
  simp only [Nat.beq_refl]
  dsimp only [go_sem, Nat.reduceAdd, Nat.reduceMul, Nat.reduceSub]
  refine strm (⟨day, day⟩ : Span) (by simpa using hs0) (by simp [spanL]) (by simp [spanL, splice]) ?_
  dsimp only [go_sem, Nat.reduceAdd, Nat.reduceMul, Nat.reduceSub]
  have hR0 : RI l p s0 day ((List.replicate l.wells.length (⟨100001, 100001⟩ : Span)).set s0 ⟨day, day⟩) ((List.replicate l.wells.length (⟨100001, 100001⟩ : Span)).set s0 ⟨day, day⟩) false 0 :=
    .start (by simpa [losS, List.map_set] using hgs false) (by simpa [hisS, List.map_set] using hgs true)
  generalize (List.replicate l.wells.length (⟨100001, 100001⟩ : Span)).set s0 ⟨day, day⟩ = S0 at hR0
  have hS0len := hR0.len
  refine loopO (fun q : Bool × List Span => [(13, B q.1)]) (fun q => [(2, .row v 2 (q.2.map spanL) 29)])
    (fun q => RI l p s0 day q.2 q.2 false 0 ∧ (q.1 = false → q.2 = reachL l p s0 day)) (fun q => 2 * sumS q.2 + (if q.1 = true then 1 else 0)) (true, S0) ⟨hR0, fun h => by cases h⟩ ?_ ?_
  · (refine ent_id ?_ ?_ ?_ rfl rfl <;> dsimp only [spanL, wellL, legL, gateL, intL, id, go_sem, Nat.reduceAdd, Nat.reduceMul, Nat.reduceSub] <;> simp [spanL, wellL, legL, gateL, intL, KFR_iff, KFR_app, KFR, KFL, KF, mtL_same, mtO, Nat.beq_refl])
  rintro ⟨go, S0⟩ ⟨hR0, hgo⟩
  simp only at hR0 hgo
  dsimp only [go_sem, Nat.reduceAdd, Nat.reduceMul, Nat.reduceSub]
  cases go with
  | false =>
    refine br_f rfl ?_
    dsimp only [go_sem, Nat.reduceAdd, Nat.reduceMul, Nat.reduceSub]
    simp only [Nat.beq_refl]
    dsimp only [go_sem, Nat.reduceAdd, Nat.reduceMul, Nat.reduceSub]
    rw [hgo rfl]
    simp [rowsZ, vwN]
  | true =>
  refine br_t rfl ?_
  dsimp only [go_sem, Nat.reduceAdd, Nat.reduceMul, Nat.reduceSub]
  refine loopO (fun q : Nat × Bool × List Span => [(14, I q.1), (13, B q.2.1)]) (fun q => [(2, .row v 2 (q.2.2.map spanL) 29)])
    (fun q => q.1 ≤ l.legs.length ∧ RI l p s0 day S0 q.2.2 q.2.1 (2 * q.1)) (fun q => l.legs.length - q.1) (0, false, S0) ⟨Nat.zero_le _, hR0⟩ ?_ ?_
  · (refine ent_id ?_ ?_ ?_ rfl rfl <;> dsimp only [spanL, wellL, legL, gateL, intL, id, go_sem, Nat.reduceAdd, Nat.reduceMul, Nat.reduceSub] <;> simp [spanL, wellL, legL, gateL, intL, KFR_iff, KFR_app, KFR, KFL, KF, mtL_same, mtO, Nat.beq_refl])
  rintro ⟨i, ch, S⟩ ⟨hi, hI⟩
  simp only at hi hI
  dsimp only [go_sem, Nat.reduceAdd, Nat.reduceMul, Nat.reduceSub]
  simp only [List.length_map]
  by_cases hlt : i < l.legs.length
  · refine br_t (by simpa using hlt) ?_
    dsimp only [go_sem, Nat.reduceAdd, Nat.reduceMul, Nat.reduceSub]
    refine ixs_map i hlt rfl ?_
    dsimp only [legL, go_sem, Nat.reduceAdd, Nat.reduceMul, Nat.reduceSub]
    have hgl : GoodLeg l.legs[i] := okLand_leg hok.land _ (List.getElem_mem _)
    have hends := hok.ends (List.getElem_mem hlt)
    obtain ⟨wa, hwae⟩ : ∃ w : Nat, l.legs[i].a = (w : Int) := ⟨l.legs[i].a.toNat, by omega⟩
    obtain ⟨wb, hwbe⟩ : ∃ w : Nat, l.legs[i].b = (w : Int) := ⟨l.legs[i].b.toNat, by omega⟩
    have hx : l.legs[i]? = some l.legs[i] := List.getElem?_eq_getElem hlt
    have howawb : otherF l.legs[i] wa = wb := by rw [otherF, if_pos hwae, hwbe]
    have howbwa : otherF l.legs[i] wb = wa := by rw [otherF, if_neg (by omega), if_pos hwbe, hwae]
    refine loopO (fun q : Nat × Bool × List Span => [(16, I q.1), (13, B q.2.1)]) (fun q => [(2, .row v 2 (q.2.2.map spanL) 29)])
      (fun q => q.1 ≤ 2 ∧ RI l p s0 day S0 q.2.2 q.2.1 (2 * i + q.1)) (fun q => 2 - q.1) (0, ch, S) ⟨by omega, hI⟩ ?_ ?_
    · (refine ent_id ?_ ?_ ?_ rfl rfl <;> dsimp only [spanL, wellL, legL, gateL, intL, id, go_sem, Nat.reduceAdd, Nat.reduceMul, Nat.reduceSub] <;> simp [spanL, wellL, legL, gateL, intL, KFR_iff, KFR_app, KFR, KFL, KF, mtL_same, mtO, Nat.beq_refl])
    clear hI
    rintro ⟨side, ch, S⟩ ⟨hsd, hI⟩
    simp only at hsd hI
    dsimp only [go_sem, Nat.reduceAdd, Nat.reduceMul, Nat.reduceSub]
    have hSl := hI.len
    have hwa : wa < S.length := by omega
    have hwb : wb < S.length := by omega
    have ina := hI.in hok hd.1 hd.2 (by omega) (by omega) hwa
    have inb := hI.in hok hd.1 hd.2 (by omega) (by omega) hwb
    have hx : l.legs[(2 * i + side) / 2]? = some l.legs[i] ∨ side = 2 := by
      by_cases h2 : side = 2
      · exact .inr h2
      · rw [show (2 * i + side) / 2 = i by omega]; exact .inl hx
    by_cases h2 : side = 2
    · subst h2
      refine br_f (by decide) ?_
      dsimp only [go_sem, Nat.reduceAdd, Nat.reduceMul, Nat.reduceSub]
      rw [w64_in (n := (i : Int) + 1) (by omega) (by omega)]
      refine ⟨(i + 1, ch, S), ⟨hlt, hI⟩, by simp only; omega, ?_⟩
      (refine ent_id ?_ ?_ ?_ rfl rfl <;> dsimp only [spanL, wellL, legL, gateL, intL, id, go_sem, Nat.reduceAdd, Nat.reduceMul, Nat.reduceSub] <;> simp [spanL, wellL, legL, gateL, intL, KFR_iff, KFR_app, KFR, KFL, KF, mtL_same, mtO, Nat.beq_refl])
    have hx := hx.resolve_right h2
    rcases (show side = 0 ∨ side = 1 by omega) with rfl | rfl
    · refine br_t (by decide) ?_
      dsimp only [go_sem, Nat.reduceAdd, Nat.reduceMul, Nat.reduceSub]
      refine br_f (by decide) ?_
      dsimp only [go_sem, Nat.reduceAdd, Nat.reduceMul, Nat.reduceSub]
      simp only [hwae, hwbe, Nat.beq_refl]
      dsimp only [go_sem, Nat.reduceAdd, Nat.reduceMul, Nat.reduceSub]
      try simp only [List.length_map]
      refine ixrm wa rfl hwa ?_
      ((try dsimp only [go_sem, Nat.reduceAdd, Nat.reduceMul, Nat.reduceSub]); repeat (simp only [Nat.beq_refl]; try dsimp only [go_sem, Nat.reduceAdd, Nat.reduceMul, Nat.reduceSub]))
      refine ldrm hwa ?_
      ((try dsimp only [spanL, go_sem, Nat.reduceAdd, Nat.reduceMul, Nat.reduceSub]); repeat (simp only [Nat.beq_refl]; try dsimp only [go_sem, Nat.reduceAdd, Nat.reduceMul, Nat.reduceSub]))
      have harr := arrives_ok l.legs[i] p S[wa].lo S[wa].hi hgl hok.pace (by simp only [inR, decide_eq_true_eq]; omega) (by simp only [inR, decide_eq_true_eq]; omega)
      simp only [legL, hwae, hwbe] at harr
      refine call harr ?_
      ((try dsimp only [go_sem, Nat.reduceAdd, Nat.reduceMul, Nat.reduceSub]); repeat (simp only [Nat.beq_refl]; try dsimp only [go_sem, Nat.reduceAdd, Nat.reduceMul, Nat.reduceSub]))
      try simp only [List.length_map]
      refine ixrm wb rfl hwb ?_
      ((try dsimp only [go_sem, Nat.reduceAdd, Nat.reduceMul, Nat.reduceSub]); repeat (simp only [Nat.beq_refl]; try dsimp only [go_sem, Nat.reduceAdd, Nat.reduceMul, Nat.reduceSub]))
      refine ldrm hwb ?_
      ((try dsimp only [spanL, go_sem, Nat.reduceAdd, Nat.reduceMul, Nat.reduceSub]); repeat (simp only [Nat.beq_refl]; try dsimp only [go_sem, Nat.reduceAdd, Nat.reduceMul, Nat.reduceSub]))
      repeat (refine gb ?_; ((try dsimp only [go_sem, Nat.reduceAdd, Nat.reduceMul, Nat.reduceSub]); repeat (simp only [Nat.beq_refl]; try dsimp only [go_sem, Nat.reduceAdd, Nat.reduceMul, Nat.reduceSub])))
      try simp only [List.length_map]
      refine ixrm wb rfl hwb ?_
      ((try dsimp only [go_sem, Nat.reduceAdd, Nat.reduceMul, Nat.reduceSub]); repeat (simp only [Nat.beq_refl]; try dsimp only [go_sem, Nat.reduceAdd, Nat.reduceMul, Nat.reduceSub]))
      repeat (refine gb ?_; ((try dsimp only [go_sem, Nat.reduceAdd, Nat.reduceMul, Nat.reduceSub]); repeat (simp only [Nat.beq_refl]; try dsimp only [go_sem, Nat.reduceAdd, Nat.reduceMul, Nat.reduceSub])))
      refine ldrm hwb ?_
      ((try dsimp only [spanL, go_sem, Nat.reduceAdd, Nat.reduceMul, Nat.reduceSub]); repeat (simp only [Nat.beq_refl]; try dsimp only [go_sem, Nat.reduceAdd, Nat.reduceMul, Nat.reduceSub]))
      repeat (refine gb ?_; ((try dsimp only [go_sem, Nat.reduceAdd, Nat.reduceMul, Nat.reduceSub]); repeat (simp only [Nat.beq_refl]; try dsimp only [go_sem, Nat.reduceAdd, Nat.reduceMul, Nat.reduceSub])))
      by_cases hn : arrK false l.legs[i] p S[wa].lo < S[wb].lo ∨ arrK true l.legs[i] p S[wa].hi < S[wb].hi
      · refine br_t (by simpa [Bool.or_eq_true] using hn) ?_
        ((try dsimp only [go_sem, Nat.reduceAdd, Nat.reduceMul, Nat.reduceSub]); repeat (simp only [Nat.beq_refl]; try dsimp only [go_sem, Nat.reduceAdd, Nat.reduceMul, Nat.reduceSub]))
        try simp only [List.length_map]
        refine ixrm wb rfl hwb ?_
        ((try dsimp only [go_sem, Nat.reduceAdd, Nat.reduceMul, Nat.reduceSub]); repeat (simp only [Nat.beq_refl]; try dsimp only [go_sem, Nat.reduceAdd, Nat.reduceMul, Nat.reduceSub]))
        refine ldrm hwb ?_
        ((try dsimp only [spanL, go_sem, Nat.reduceAdd, Nat.reduceMul, Nat.reduceSub]); repeat (simp only [Nat.beq_refl]; try dsimp only [go_sem, Nat.reduceAdd, Nat.reduceMul, Nat.reduceSub]))
        try simp only [List.length_map]
        refine ixrm wb rfl hwb ?_
        ((try dsimp only [go_sem, Nat.reduceAdd, Nat.reduceMul, Nat.reduceSub]); repeat (simp only [Nat.beq_refl]; try dsimp only [go_sem, Nat.reduceAdd, Nat.reduceMul, Nat.reduceSub]))
        refine ldrm hwb ?_
        ((try dsimp only [spanL, go_sem, Nat.reduceAdd, Nat.reduceMul, Nat.reduceSub]); repeat (simp only [Nat.beq_refl]; try dsimp only [go_sem, Nat.reduceAdd, Nat.reduceMul, Nat.reduceSub]))
        try simp only [List.length_map]
        refine ixrm wb rfl hwb ?_
        ((try dsimp only [go_sem, Nat.reduceAdd, Nat.reduceMul, Nat.reduceSub]); repeat (simp only [Nat.beq_refl]; try dsimp only [go_sem, Nat.reduceAdd, Nat.reduceMul, Nat.reduceSub]))
        refine strm (⟨min S[wb].lo (arrK false l.legs[i] p S[wa].lo), min S[wb].hi (arrK true l.legs[i] p S[wa].hi)⟩ : Span) hwb (by simp [spanL]) (by simp [spanL, splice]) ?_
        ((try dsimp only [go_sem, Nat.reduceAdd, Nat.reduceMul, Nat.reduceSub]); repeat (simp only [Nat.beq_refl]; try dsimp only [go_sem, Nat.reduceAdd, Nat.reduceMul, Nat.reduceSub]))
        have hst := hI.improve hok hd.1 hd.2 (by omega) (by omega) hx (v := wa) (w := wb) howawb hwa hwb hn
        generalize S.set wb ⟨min S[wb].lo (arrK false l.legs[i] p S[wa].lo), min S[wb].hi (arrK true l.legs[i] p S[wa].hi)⟩ = S2 at hst ⊢
        rw [w64_in (n := ((0 : Nat) : Int) + 1) (by omega) (by omega)]
        refine ⟨(0 + 1, true, S2), ⟨by simp only; omega, hst⟩, by simp only; omega, ?_⟩
        (refine ent_id ?_ ?_ ?_ rfl rfl <;> dsimp only [spanL, wellL, legL, gateL, intL, id, go_sem, Nat.reduceAdd, Nat.reduceMul, Nat.reduceSub] <;> simp [spanL, wellL, legL, gateL, intL, KFR_iff, KFR_app, KFR, KFL, KF, mtL_same, mtO, Nat.beq_refl])
      · refine br_f (by simpa [Bool.or_eq_false_iff, not_or] using hn) ?_
        ((try dsimp only [go_sem, Nat.reduceAdd, Nat.reduceMul, Nat.reduceSub]); repeat (simp only [Nat.beq_refl]; try dsimp only [go_sem, Nat.reduceAdd, Nat.reduceMul, Nat.reduceSub]))
        have hst := hI.calm hx (v := wa) (w := wb) (by simp [sideV, hwae]) howawb hwa hwb hn
        rw [w64_in (n := ((0 : Nat) : Int) + 1) (by omega) (by omega)]
        refine ⟨(0 + 1, ch, S), ⟨by simp only; omega, hst⟩, by simp only; omega, ?_⟩
        (refine ent_id ?_ ?_ ?_ rfl rfl <;> dsimp only [spanL, wellL, legL, gateL, intL, id, go_sem, Nat.reduceAdd, Nat.reduceMul, Nat.reduceSub] <;> simp [spanL, wellL, legL, gateL, intL, KFR_iff, KFR_app, KFR, KFL, KF, mtL_same, mtO, Nat.beq_refl])
    · refine br_t (by decide) ?_
      dsimp only [go_sem, Nat.reduceAdd, Nat.reduceMul, Nat.reduceSub]
      refine br_t (by decide) ?_
      dsimp only [go_sem, Nat.reduceAdd, Nat.reduceMul, Nat.reduceSub]
      simp only [hwae, hwbe, Nat.beq_refl]
      dsimp only [go_sem, Nat.reduceAdd, Nat.reduceMul, Nat.reduceSub]
      try simp only [List.length_map]
      refine ixrm wb rfl hwb ?_
      ((try dsimp only [go_sem, Nat.reduceAdd, Nat.reduceMul, Nat.reduceSub]); repeat (simp only [Nat.beq_refl]; try dsimp only [go_sem, Nat.reduceAdd, Nat.reduceMul, Nat.reduceSub]))
      refine ldrm hwb ?_
      ((try dsimp only [spanL, go_sem, Nat.reduceAdd, Nat.reduceMul, Nat.reduceSub]); repeat (simp only [Nat.beq_refl]; try dsimp only [go_sem, Nat.reduceAdd, Nat.reduceMul, Nat.reduceSub]))
      have harr := arrives_ok l.legs[i] p S[wb].lo S[wb].hi hgl hok.pace (by simp only [inR, decide_eq_true_eq]; omega) (by simp only [inR, decide_eq_true_eq]; omega)
      simp only [legL, hwae, hwbe] at harr
      refine call harr ?_
      ((try dsimp only [go_sem, Nat.reduceAdd, Nat.reduceMul, Nat.reduceSub]); repeat (simp only [Nat.beq_refl]; try dsimp only [go_sem, Nat.reduceAdd, Nat.reduceMul, Nat.reduceSub]))
      try simp only [List.length_map]
      refine ixrm wa rfl hwa ?_
      ((try dsimp only [go_sem, Nat.reduceAdd, Nat.reduceMul, Nat.reduceSub]); repeat (simp only [Nat.beq_refl]; try dsimp only [go_sem, Nat.reduceAdd, Nat.reduceMul, Nat.reduceSub]))
      refine ldrm hwa ?_
      ((try dsimp only [spanL, go_sem, Nat.reduceAdd, Nat.reduceMul, Nat.reduceSub]); repeat (simp only [Nat.beq_refl]; try dsimp only [go_sem, Nat.reduceAdd, Nat.reduceMul, Nat.reduceSub]))
      repeat (refine gb ?_; ((try dsimp only [go_sem, Nat.reduceAdd, Nat.reduceMul, Nat.reduceSub]); repeat (simp only [Nat.beq_refl]; try dsimp only [go_sem, Nat.reduceAdd, Nat.reduceMul, Nat.reduceSub])))
      try simp only [List.length_map]
      refine ixrm wa rfl hwa ?_
      ((try dsimp only [go_sem, Nat.reduceAdd, Nat.reduceMul, Nat.reduceSub]); repeat (simp only [Nat.beq_refl]; try dsimp only [go_sem, Nat.reduceAdd, Nat.reduceMul, Nat.reduceSub]))
      repeat (refine gb ?_; ((try dsimp only [go_sem, Nat.reduceAdd, Nat.reduceMul, Nat.reduceSub]); repeat (simp only [Nat.beq_refl]; try dsimp only [go_sem, Nat.reduceAdd, Nat.reduceMul, Nat.reduceSub])))
      refine ldrm hwa ?_
      ((try dsimp only [spanL, go_sem, Nat.reduceAdd, Nat.reduceMul, Nat.reduceSub]); repeat (simp only [Nat.beq_refl]; try dsimp only [go_sem, Nat.reduceAdd, Nat.reduceMul, Nat.reduceSub]))
      repeat (refine gb ?_; ((try dsimp only [go_sem, Nat.reduceAdd, Nat.reduceMul, Nat.reduceSub]); repeat (simp only [Nat.beq_refl]; try dsimp only [go_sem, Nat.reduceAdd, Nat.reduceMul, Nat.reduceSub])))
      by_cases hn : arrK false l.legs[i] p S[wb].lo < S[wa].lo ∨ arrK true l.legs[i] p S[wb].hi < S[wa].hi
      · refine br_t (by simpa [Bool.or_eq_true] using hn) ?_
        ((try dsimp only [go_sem, Nat.reduceAdd, Nat.reduceMul, Nat.reduceSub]); repeat (simp only [Nat.beq_refl]; try dsimp only [go_sem, Nat.reduceAdd, Nat.reduceMul, Nat.reduceSub]))
        try simp only [List.length_map]
        refine ixrm wa rfl hwa ?_
        ((try dsimp only [go_sem, Nat.reduceAdd, Nat.reduceMul, Nat.reduceSub]); repeat (simp only [Nat.beq_refl]; try dsimp only [go_sem, Nat.reduceAdd, Nat.reduceMul, Nat.reduceSub]))
        refine ldrm hwa ?_
        ((try dsimp only [spanL, go_sem, Nat.reduceAdd, Nat.reduceMul, Nat.reduceSub]); repeat (simp only [Nat.beq_refl]; try dsimp only [go_sem, Nat.reduceAdd, Nat.reduceMul, Nat.reduceSub]))
        try simp only [List.length_map]
        refine ixrm wa rfl hwa ?_
        ((try dsimp only [go_sem, Nat.reduceAdd, Nat.reduceMul, Nat.reduceSub]); repeat (simp only [Nat.beq_refl]; try dsimp only [go_sem, Nat.reduceAdd, Nat.reduceMul, Nat.reduceSub]))
        refine ldrm hwa ?_
        ((try dsimp only [spanL, go_sem, Nat.reduceAdd, Nat.reduceMul, Nat.reduceSub]); repeat (simp only [Nat.beq_refl]; try dsimp only [go_sem, Nat.reduceAdd, Nat.reduceMul, Nat.reduceSub]))
        try simp only [List.length_map]
        refine ixrm wa rfl hwa ?_
        ((try dsimp only [go_sem, Nat.reduceAdd, Nat.reduceMul, Nat.reduceSub]); repeat (simp only [Nat.beq_refl]; try dsimp only [go_sem, Nat.reduceAdd, Nat.reduceMul, Nat.reduceSub]))
        refine strm (⟨min S[wa].lo (arrK false l.legs[i] p S[wb].lo), min S[wa].hi (arrK true l.legs[i] p S[wb].hi)⟩ : Span) hwa (by simp [spanL]) (by simp [spanL, splice]) ?_
        ((try dsimp only [go_sem, Nat.reduceAdd, Nat.reduceMul, Nat.reduceSub]); repeat (simp only [Nat.beq_refl]; try dsimp only [go_sem, Nat.reduceAdd, Nat.reduceMul, Nat.reduceSub]))
        have hst := hI.improve hok hd.1 hd.2 (by omega) (by omega) hx (v := wb) (w := wa) howbwa hwb hwa hn
        generalize S.set wa ⟨min S[wa].lo (arrK false l.legs[i] p S[wb].lo), min S[wa].hi (arrK true l.legs[i] p S[wb].hi)⟩ = S2 at hst ⊢
        rw [w64_in (n := ((1 : Nat) : Int) + 1) (by omega) (by omega)]
        refine ⟨(1 + 1, true, S2), ⟨by simp only; omega, hst⟩, by simp only; omega, ?_⟩
        (refine ent_id ?_ ?_ ?_ rfl rfl <;> dsimp only [spanL, wellL, legL, gateL, intL, id, go_sem, Nat.reduceAdd, Nat.reduceMul, Nat.reduceSub] <;> simp [spanL, wellL, legL, gateL, intL, KFR_iff, KFR_app, KFR, KFL, KF, mtL_same, mtO, Nat.beq_refl])
      · refine br_f (by simpa [Bool.or_eq_false_iff, not_or] using hn) ?_
        ((try dsimp only [go_sem, Nat.reduceAdd, Nat.reduceMul, Nat.reduceSub]); repeat (simp only [Nat.beq_refl]; try dsimp only [go_sem, Nat.reduceAdd, Nat.reduceMul, Nat.reduceSub]))
        have hst := hI.calm hx (v := wb) (w := wa) (by simp [sideV, hwbe]) howbwa hwb hwa hn
        rw [w64_in (n := ((1 : Nat) : Int) + 1) (by omega) (by omega)]
        refine ⟨(1 + 1, ch, S), ⟨by simp only; omega, hst⟩, by simp only; omega, ?_⟩
        (refine ent_id ?_ ?_ ?_ rfl rfl <;> dsimp only [spanL, wellL, legL, gateL, intL, id, go_sem, Nat.reduceAdd, Nat.reduceMul, Nat.reduceSub] <;> simp [spanL, wellL, legL, gateL, intL, KFR_iff, KFR_app, KFR, KFL, KF, mtL_same, mtO, Nat.beq_refl])
  refine br_f (by simp; omega) ?_
  dsimp only [go_sem, Nat.reduceAdd, Nat.reduceMul, Nat.reduceSub]
  have hie : i = l.legs.length := by omega
  subst hie
  refine ⟨(ch, S), ⟨hI.again, fun h => ?_⟩, ?_, ?_⟩
  · simp only at h
    subst h
    exact hI.done (by omega) hok hd.1 hd.2 (by omega) (by omega)
  · simp only
    cases ch with
    | true => have := hI.dec rfl; simp; omega
    | false => rw [(hI.same rfl).1]; simp
  (refine ent_id ?_ ?_ ?_ rfl rfl <;> dsimp only [spanL, wellL, legL, gateL, intL, id, go_sem, Nat.reduceAdd, Nat.reduceMul, Nat.reduceSub] <;> simp [spanL, wellL, legL, gateL, intL, KFR_iff, KFR_app, KFR, KFL, KF, mtL_same, mtO, Nat.beq_refl])
end Go.Proofs.Ytkjldleglbbkeaa
set_option maxRecDepth 100000
set_option maxHeartbeats 4000000
namespace Go.Proofs.Ytkjldleglbbkeaa
open Go Go.Sx Go.Azalai
theorem least_okI (l : Land) (p : Span) (hs : Small l) (hg : OkLP l p) (v t to : Int) (h1 : 0 ≤ v ∧ v < l.wells.length) (h2 : 0 ≤ t ∧ t ≤ 100000) (h3 : 0 ≤ to ∧ to < l.wells.length) (m : Int) (n : Nat) (hm : m = (n : Int)) (hn : n ≤ 100000) :
    Ct Try.prog 88 [.agg (landL l), I v, I to, I t, I m, .agg (spanL p)] (I (leastV l p v t n to)) := by
  subst hm
  have := least_ok l p hs hg v.toNat t.toNat to.toNat (by omega) (by omega) (by omega) n hn
  rw [show ((v.toNat : Nat) : Int) = v by omega, show ((t.toNat : Nat) : Int) = t by omega, show ((to.toNat : Nat) : Int) = to by omega] at this
  exact this
theorem rsurest_ok (l : Land) (hs : Small l) (s to day : Int) (p : Span) : Ct Try.prog 37 [.agg (landL l), I s, I to, I day, .agg (spanL p)] (sureR l p s to day) := by
  have hw := hs.1
  have hleg := hs.2.1
  refine t37 (by simp [landL, wellL, legL, gateL, spanL, KFR_iff, KFL, KF]) (by unfold sureR rowsZ; split <;> simp [KFL, KF, KFR_iff, natL]) ?_
  dsimp only [c37, r37, landL, spanL, go_sem, Nat.reduceAdd, Nat.reduceMul, Nat.reduceSub]
  refine call (asked_ok l hs p) ?_
  dsimp only [go_sem, Nat.reduceAdd, Nat.reduceMul, Nat.reduceSub]
  by_cases ha : askF l p = 0
  case neg =>
    refine br_t (by simpa using ha) ?_
    dsimp only [go_sem, Nat.reduceAdd, Nat.reduceMul, Nat.reduceSub]
    simp [sureR, sureE, ha, rowsZ]
  have hok := ask_ok ha
  refine br_f (by simpa using ha) ?_
  dsimp only [go_sem, Nat.reduceAdd, Nat.reduceMul, Nat.reduceSub]
  simp only [List.length_map]
  have h1 := okLand_len hok.land
  rw [w64_in (n := (l.wells.length : Int) - 1) (by omega) (by omega)]
  refine call (within_ok s 0 (l.wells.length - 1)) ?_
  dsimp only [go_sem, Nat.reduceAdd, Nat.reduceMul, Nat.reduceSub]
  repeat (first | (refine gb ?_; dsimp only [go_sem, Nat.reduceAdd, Nat.reduceMul, Nat.reduceSub]) | (refine call (within_ok to 0 (l.wells.length - 1)) ?_; dsimp only [go_sem, Nat.reduceAdd, Nat.reduceMul, Nat.reduceSub]) | (refine call (within_ok day 0 100000) ?_; dsimp only [go_sem, Nat.reduceAdd, Nat.reduceMul, Nat.reduceSub]) | (simp only [List.length_map]; rw [w64_in (n := (l.wells.length : Int) - 1) (by omega) (by omega)]))
  by_cases hr : (inR 0 (l.wells.length - 1) s && inR 0 (l.wells.length - 1) to && inR 0 100000 day) = true
  case neg =>
    refine br_t (by simpa [Bool.and_eq_true, ← Bool.not_and] using hr) ?_
    dsimp only [go_sem, Nat.reduceAdd, Nat.reduceMul, Nat.reduceSub]
    simp [sureR, sureE, ha, rowsZ, hr]
  refine br_f (by simpa [← Bool.not_and] using hr) ?_
  dsimp only [go_sem, Nat.reduceAdd, Nat.reduceMul, Nat.reduceSub]
  have he : sureE l p s to day = if reachV true l p s day to > 100000 then 6 else 0 := by simp [sureE, ha, hr]
  have hrz : reachE l p s day = 0 := by
    simp only [Bool.and_eq_true] at hr
    simp [reachE, ha, hr]
  simp only [Bool.and_eq_true, inR, decide_eq_true_eq] at hr
  obtain ⟨⟨hr1, hr3⟩, hd⟩ := hr
  obtain ⟨t0, ht0, rfl⟩ : ∃ t0 : Nat, t0 < l.wells.length ∧ to = (t0 : Int) := ⟨to.toNat, by omega, by omega⟩
  have hreach := rreach_ok l hs s day p
  rw [hrz] at hreach
  simp only [rowsZ, if_true] at hreach
  refine call hreach ?_
  dsimp only [go_sem, Nat.reduceAdd, Nat.reduceMul, Nat.reduceSub]
  have htl : t0 < (reachL l p s day).length := by rw [reachL_len]; exact ht0
  refine ixs_map t0 htl rfl ?_
  dsimp only [spanL, go_sem, Nat.reduceAdd, Nat.reduceMul, Nat.reduceSub]
  have hG : (reachL l p s day)[t0].hi = reachV true l p s day t0 := by simp [reachL, reachF]
  simp only [hG]
  have hGb := reachV_bd (k := true) (v := (t0 : Int)) hok hd.1 hd.2 (s := s) (by omega) (by omega)
  generalize hGe : reachV true l p s day t0 = G at he hGb ⊢
  by_cases hbig : G > 100000
  · refine br_t (by simp; omega) ?_
    dsimp only [go_sem, Nat.reduceAdd, Nat.reduceMul, Nat.reduceSub]
    simp [sureR, he, hbig, rowsZ]
  refine br_f (by simp; omega) ?_
  dsimp only [go_sem, Nat.reduceAdd, Nat.reduceMul, Nat.reduceSub]
  obtain ⟨N, hN, hN1, hN2⟩ := least_some (to := (t0 : Int)) hok hd.1 hd.2 (s := s) (by omega) (by omega) (by omega)
  rw [hGe] at hN1 hN2
  refine loopO (fun n : Nat => [(16, I n)]) (fun _ => []) (fun n => n ≤ N) (fun n => N - n) 0 (Nat.zero_le _) ?_ ?_
  · (refine ent_id ?_ ?_ ?_ rfl rfl <;> dsimp only [landL, wellL, legL, gateL, spanL, id, go_sem, Nat.reduceAdd, Nat.reduceMul, Nat.reduceSub] <;> simp [landL, wellL, legL, gateL, spanL, KFR_iff, KFR_app, KFR, KFL, KF, mtL_same, mtO, Nat.beq_refl])
  intro n hn
  dsimp only [go_sem, Nat.reduceAdd, Nat.reduceMul, Nat.reduceSub]
  refine call (least_okI l p hs hok s day t0 (by omega) hd (by omega) n n rfl (by omega)) ?_
  dsimp only [go_sem, Nat.reduceAdd, Nat.reduceMul, Nat.reduceSub]
  by_cases hnN : n < N
  · refine br_t (by simpa using hN2 n hnN) ?_
    dsimp only [go_sem, Nat.reduceAdd, Nat.reduceMul, Nat.reduceSub]
    rw [w64_in (n := (n : Int) + 1) (by omega) (by omega)]
    refine ⟨n + 1, hnN, by omega, ?_⟩
    (refine ent_id ?_ ?_ ?_ rfl rfl <;> dsimp only [landL, wellL, legL, gateL, spanL, id, go_sem, Nat.reduceAdd, Nat.reduceMul, Nat.reduceSub] <;> simp [landL, wellL, legL, gateL, spanL, KFR_iff, KFR_app, KFR, KFL, KF, mtL_same, mtO, Nat.beq_refl])
  have hne : n = N := by omega
  subst hne
  refine br_f (by simpa using hN1) ?_
  dsimp only [go_sem, Nat.reduceAdd, Nat.reduceMul, Nat.reduceSub]
  refine loopG (ent_nilslot 17 1 3 rfl rfl) (fun q : Nat × Nat × Int × Int × List Nat => [(16, I q.1), (17, .mr 2 q.2.1), (18, I q.2.2.1), (3, I q.2.2.2.1)]) (fun q => [(2, .row q.2.1 1 (q.2.2.2.2.map natL) 3)])
    (fun q => q.1 ≤ n ∧ Gr l p s day t0 G n q.1 q.2.2.1 q.2.2.2.1 q.2.2.2.2) (fun q => q.1) (n, 0, s, day, []) ⟨Nat.le_refl _, Gr.start hN1⟩ ?_ ?_
  · (refine ent_id ?_ ?_ ?_ rfl rfl <;> dsimp only [landL, wellL, legL, gateL, spanL, natL, id, go_sem, Nat.reduceAdd, Nat.reduceMul, Nat.reduceSub] <;> simp [landL, wellL, legL, gateL, spanL, natL, KFR_iff, KFR_app, KFR, KFL, KF, mtL_same, mtO, Nat.beq_refl])
  rintro ⟨m, ver, v, t, out⟩ ⟨hm, hI⟩
  simp only at hm hI
  dsimp only [go_sem, Nat.reduceAdd, Nat.reduceMul, Nat.reduceSub]
  have hgb := goW_bd hok hI.go hd.2 (by omega) (by omega)
  by_cases hm0 : m = 0
  · subst hm0
    refine br_f (by decide) ?_
    dsimp only [go_sem, Nat.reduceAdd, Nat.reduceMul, Nat.reduceSub]
    simp only [Nat.beq_refl]
    dsimp only [go_sem, Nat.reduceAdd, Nat.reduceMul, Nat.reduceSub]
    have hsure := hI.done hok hd.1 hd.2 (by omega) (by omega) hGe.symm (by omega) hN2
    simp only [sureR, he, hbig, if_false, rowsZ, if_true, sureL_eq hsure, vwN, cond_true]
  obtain ⟨m, rfl⟩ : ∃ m', m = m' + 1 := ⟨m - 1, by omega⟩
  refine br_t (by simp) ?_
  dsimp only [go_sem, Nat.reduceAdd, Nat.reduceMul, Nat.reduceSub]
  refine loopO (fun i : Nat => [(19, I i)]) (fun _ => []) (fun i => i ≤ l.legs.length ∧ ∀ j, j < i → ¬ Fit l p t0 G m v t j) (fun i => l.legs.length - i) 0 ⟨Nat.zero_le _, fun j hj => absurd hj (Nat.not_lt_zero j)⟩ ?_ ?_
  · (refine ent_id ?_ ?_ ?_ rfl rfl <;> dsimp only [landL, wellL, legL, gateL, spanL, natL, id, go_sem, Nat.reduceAdd, Nat.reduceMul, Nat.reduceSub] <;> simp [landL, wellL, legL, gateL, spanL, natL, KFR_iff, KFR_app, KFR, KFL, KF, mtL_same, mtO, Nat.beq_refl])
  rintro i ⟨hi, hnf⟩
  dsimp only [go_sem, Nat.reduceAdd, Nat.reduceMul, Nat.reduceSub]
  simp only [List.length_map]
  by_cases hil : i < l.legs.length
  · refine br_t (by simpa using hil) ?_
    dsimp only [go_sem, Nat.reduceAdd, Nat.reduceMul, Nat.reduceSub]
    refine ixs_map i hil rfl ?_
    dsimp only [legL, go_sem, Nat.reduceAdd, Nat.reduceMul, Nat.reduceSub]
    have hgl : GoodLeg l.legs[i] := okLand_leg hok.land _ (List.getElem_mem _)
    have hx : l.legs[i]? = some l.legs[i] := List.getElem?_eq_getElem hil
    refine call (otherR_ok l.legs[i] v) ?_
    dsimp only [go_sem, Nat.reduceAdd, Nat.reduceMul, Nat.reduceSub]
    have again : ¬ Fit l p t0 G m v t i → ∀ j, j < i + 1 → ¬ Fit l p t0 G m v t j := fun h j hj => by
      by_cases hji : j = i
      · subst hji; exact h
      · exact hnf j (by omega)
    by_cases hn0 : otherF l.legs[i] v < 0
    · refine br_t (by simpa using hn0) ?_
      dsimp only [go_sem, Nat.reduceAdd, Nat.reduceMul, Nat.reduceSub]
      rw [w64_in (n := (i : Int) + 1) (by omega) (by omega)]
      refine ⟨i + 1, ⟨hil, again fun ⟨x, k1, k2, _⟩ => ?_⟩, by omega, ?_⟩
      · rw [hx] at k1; cases k1; omega
      (refine ent_id ?_ ?_ ?_ rfl rfl <;> dsimp only [landL, wellL, legL, gateL, spanL, natL, id, go_sem, Nat.reduceAdd, Nat.reduceMul, Nat.reduceSub] <;> simp [landL, wellL, legL, gateL, spanL, natL, KFR_iff, KFR_app, KFR, KFL, KF, mtL_same, mtO, Nat.beq_refl])
    refine br_f (by simpa using hn0) ?_
    dsimp only [go_sem, Nat.reduceAdd, Nat.reduceMul, Nat.reduceSub]
    have hin : inR 0 100001 t = true := by simp only [inR, decide_eq_true_eq]; omega
    have hab := arrK_bd (k := true) (t := t) hgl hok.pace (by omega)
    have hot := otherF_in hok hx hn0
    refine call (arrives_ok l.legs[i] p t t hgl hok.pace hin hin) ?_
    dsimp only [go_sem, Nat.reduceAdd, Nat.reduceMul, Nat.reduceSub]
    by_cases hA : arrK true l.legs[i] p t < 100001
    case neg =>
      repeat (refine gb ?_; dsimp only [go_sem, Nat.reduceAdd, Nat.reduceMul, Nat.reduceSub])
      refine ⟨I 0, .inl (imp_v (b := decide (arrK true l.legs[i] p t < 100001)) rfl fun h => absurd (of_decide_eq_true h) hA), ?_⟩
      dsimp only [go_sem, Nat.reduceAdd, Nat.reduceMul, Nat.reduceSub]
      repeat (refine gb ?_; dsimp only [go_sem, Nat.reduceAdd, Nat.reduceMul, Nat.reduceSub])
      refine br_f (by simp; omega) ?_
      dsimp only [go_sem, Nat.reduceAdd, Nat.reduceMul, Nat.reduceSub]
      rw [w64_in (n := (i : Int) + 1) (by omega) (by omega)]
      refine ⟨i + 1, ⟨hil, again fun ⟨x, k1, k2, k3, _⟩ => ?_⟩, by omega, ?_⟩
      · rw [hx] at k1; cases k1; omega
      (refine ent_id ?_ ?_ ?_ rfl rfl <;> dsimp only [landL, wellL, legL, gateL, spanL, natL, id, go_sem, Nat.reduceAdd, Nat.reduceMul, Nat.reduceSub] <;> simp [landL, wellL, legL, gateL, spanL, natL, KFR_iff, KFR_app, KFR, KFL, KF, mtL_same, mtO, Nat.beq_refl])
    repeat (refine gb ?_; dsimp only [go_sem, Nat.reduceAdd, Nat.reduceMul, Nat.reduceSub])
    rw [w64_in (n := ((m + 1 : Nat) : Int) - 1) (by omega) (by omega)]
    refine call (least_okI l p hs hok (otherF l.legs[i] v) (arrK true l.legs[i] p t) t0 hot.1 (by omega) (by omega) _ m (by omega) (by omega)) ?_
    dsimp only [go_sem, Nat.reduceAdd, Nat.reduceMul, Nat.reduceSub]
    repeat (refine gb ?_; dsimp only [go_sem, Nat.reduceAdd, Nat.reduceMul, Nat.reduceSub])
    by_cases hF : leastV l p (otherF l.legs[i] v) (arrK true l.legs[i] p t) m t0 = G
    case neg =>
      refine br_f (by simp [hF]) ?_
      dsimp only [go_sem, Nat.reduceAdd, Nat.reduceMul, Nat.reduceSub]
      rw [w64_in (n := (i : Int) + 1) (by omega) (by omega)]
      refine ⟨i + 1, ⟨hil, again fun ⟨x, k1, k2, k3, k4⟩ => ?_⟩, by omega, ?_⟩
      · rw [hx] at k1; cases k1; exact hF k4
      (refine ent_id ?_ ?_ ?_ rfl rfl <;> dsimp only [landL, wellL, legL, gateL, spanL, natL, id, go_sem, Nat.reduceAdd, Nat.reduceMul, Nat.reduceSub] <;> simp [landL, wellL, legL, gateL, spanL, natL, KFR_iff, KFR_app, KFR, KFL, KF, mtL_same, mtO, Nat.beq_refl])
    refine br_t (by simp [hF, hA]) ?_
    dsimp only [go_sem, Nat.reduceAdd, Nat.reduceMul, Nat.reduceSub]
    simp only [Nat.beq_refl]
    dsimp only [go_sem, Nat.reduceAdd, Nat.reduceMul, Nat.reduceSub]
    have hst := hI.step hok hd.1 hd.2 (by omega) (by omega) hGe.symm hx (by omega) hA hF hnf
    have hlen := hI.len
    refine ⟨(by intro c hc; simp only [List.mem_singleton] at hc; subst hc; rfl), by simp; omega, ?_⟩
    dsimp only [go_sem, Nat.reduceAdd, Nat.reduceMul, Nat.reduceSub]
    rw [w64_in (n := ((m + 1 : Nat) : Int) - 1) (by omega) (by omega)]
    have e : out.map natL ++ [[SV.v (.int .i64 (i : Int))]] = (out ++ [i]).map natL := by simp [natL]
    rw [e, show ((m + 1 : Nat) : Int) - 1 = (m : Int) by omega]
    generalize otherF l.legs[i] v = v2 at hst ⊢
    generalize arrK true l.legs[i] p t = t2 at hst ⊢
    refine ⟨(m, ver + 1, v2, t2, out ++ [i]), ⟨by omega, hst⟩, by simp only; omega, ?_⟩
    (refine ent_id ?_ ?_ ?_ rfl rfl <;> dsimp only [landL, wellL, legL, gateL, spanL, natL, id, go_sem, Nat.reduceAdd, Nat.reduceMul, Nat.reduceSub] <;> simp [landL, wellL, legL, gateL, spanL, natL, KFR_iff, KFR_app, KFR, KFL, KF, mtL_same, mtO, Nat.beq_refl])
  exfalso
  obtain ⟨j, hj, hf⟩ := hI.ex hok hd.1 hd.2 (by omega) (by omega) hGe.symm (by omega)
  exact hnf j (by omega) hf
end Go.Proofs.Ytkjldleglbbkeaa
set_option maxRecDepth 100000
namespace Go.Proofs.Ytkjldleglbbkeaa
open Go Go.Sx
def c6 : SC := (.seq (.reg [
  ⟨some 6, .box (.t 0) 0 25, none, []⟩,
  ⟨some 10, .box (.t 4) 0 29, none, []⟩,
  ⟨some 12, .mv (.c (.bool false)), none, []⟩])
  (.seq (.seq (.reg [
  ⟨some 29, .ld (.t 6) 2 true, none, []⟩,
  ⟨some 30, .call 16 [.t 29], none, []⟩,
  ⟨some 31, .mv (.t 30), none, []⟩,
  ⟨some 32, .mv (.t 5), some (31, false), []⟩,
  ⟨some 33, .len (.t 32), some (31, false), []⟩,
  ⟨some 34, .bin .gtr (.t 33) (.c (.int .i64 40)), some (31, false), []⟩,
  ⟨some 35, .pick (.t 31) (.c (.bool true)) (.t 34), none, []⟩])
  (.cond (.t 35)
  (.seq (.reg [
   ⟨some 12, .mv (.c (.bool true)), none, []⟩])
   .ret)
  .skip))
  (.seq (.reg [
  ⟨some 36, .ld (.t 6) 2 true, none, []⟩,
  ⟨some 37, .call 21 [.t 36], none, []⟩,
  ⟨some 38, .bsl 1 3 [], none, []⟩,
  ⟨some 39, .mv (.t 5), none, []⟩,
  ⟨some 40, .app 1 8 3 (.t 38) (.t 39), none, []⟩,
  ⟨some 13, .alloc [.slice none 0 0, .slice none 0 0] 25, none, []⟩,
  ⟨none, .st (.t 13) (.t 37) 2, none, []⟩,
  ⟨some 14, .mv (.t 40), none, []⟩])
  (.seq (.reg [
  ⟨some 42, .ld (.t 13) 2 true, none, []⟩,
  ⟨some 43, .mv (.t 1), none, []⟩,
  ⟨some 44, .mv (.t 3), none, []⟩,
  ⟨some 45, .ld (.t 10) 2 true, none, []⟩,
  ⟨some 46, .call 32 [.t 42, .t 43, .t 44, .t 45], none, []⟩,
  ⟨some 41, .mv (.t 46), none, []⟩,
  ⟨some 47, .ext (.t 41) 0, none, []⟩,
  ⟨some 48, .ext (.t 41) 1, none, []⟩,
  ⟨some 15, .mv (.t 47), none, []⟩,
  ⟨some 16, .mv (.t 48), none, []⟩])
  (.seq (.reg [
  ⟨some 50, .ld (.t 6) 2 true, none, []⟩,
  ⟨some 51, .mv (.t 1), none, []⟩,
  ⟨some 52, .mv (.t 3), none, []⟩,
  ⟨some 53, .ld (.t 10) 2 true, none, []⟩,
  ⟨some 54, .call 33 [.t 50, .t 51, .t 52, .t 53], none, []⟩,
  ⟨some 49, .mv (.t 54), none, []⟩,
  ⟨some 55, .ext (.t 49) 0, none, []⟩,
  ⟨some 56, .ext (.t 49) 1, none, []⟩,
  ⟨some 17, .mv (.t 55), none, []⟩,
  ⟨some 18, .mv (.t 56), none, []⟩])
  (.seq (.reg [
  ⟨some 58, .ld (.t 13) 2 true, none, []⟩,
  ⟨some 59, .mv (.t 1), none, []⟩,
  ⟨some 60, .mv (.t 3), none, []⟩,
  ⟨some 61, .ld (.t 10) 2 true, none, []⟩,
  ⟨some 62, .mv (.t 14), none, []⟩,
  ⟨some 63, .call 34 [.t 58, .t 59, .t 60, .t 61, .t 62], none, []⟩,
  ⟨some 57, .mv (.t 63), none, []⟩,
  ⟨some 64, .ext (.t 57) 0, none, []⟩,
  ⟨some 65, .ext (.t 57) 1, none, []⟩,
  ⟨some 66, .ext (.t 57) 2, none, []⟩,
  ⟨some 19, .mv (.t 64), none, []⟩,
  ⟨some 20, .mv (.t 65), none, []⟩,
  ⟨some 21, .mv (.t 66), none, []⟩])
  (.seq (.reg [
  ⟨some 68, .ld (.t 6) 2 true, none, []⟩,
  ⟨some 69, .mv (.t 1), none, []⟩,
  ⟨some 70, .mv (.t 3), none, []⟩,
  ⟨some 71, .ld (.t 10) 2 true, none, []⟩,
  ⟨some 72, .mv (.t 5), none, []⟩,
  ⟨some 73, .call 35 [.t 68, .t 69, .t 70, .t 71, .t 72], none, []⟩,
  ⟨some 67, .mv (.t 73), none, []⟩,
  ⟨some 74, .ext (.t 67) 0, none, []⟩,
  ⟨some 75, .ext (.t 67) 1, none, []⟩,
  ⟨some 76, .ext (.t 67) 2, none, []⟩,
  ⟨some 22, .mv (.t 74), none, []⟩,
  ⟨some 23, .mv (.t 75), none, []⟩,
  ⟨some 24, .mv (.t 76), none, []⟩])
  (.seq (.reg [
  ⟨some 78, .ld (.t 13) 2 true, none, []⟩,
  ⟨some 79, .mv (.t 1), none, []⟩,
  ⟨some 80, .mv (.t 2), none, []⟩,
  ⟨some 81, .mv (.t 3), none, []⟩,
  ⟨some 82, .ld (.t 10) 2 true, none, []⟩,
  ⟨some 83, .call 36 [.t 78, .t 79, .t 80, .t 81, .t 82], none, []⟩,
  ⟨some 77, .mv (.t 83), none, []⟩,
  ⟨some 84, .ext (.t 77) 0, none, []⟩,
  ⟨some 85, .ext (.t 77) 1, none, []⟩,
  ⟨some 25, .mv (.t 84), none, []⟩,
  ⟨some 26, .mv (.t 85), none, []⟩])
  (.seq (.reg [
  ⟨some 87, .ld (.t 6) 2 true, none, []⟩,
  ⟨some 88, .mv (.t 1), none, []⟩,
  ⟨some 89, .mv (.t 2), none, []⟩,
  ⟨some 90, .mv (.t 3), none, []⟩,
  ⟨some 91, .ld (.t 10) 2 true, none, []⟩,
  ⟨some 92, .call 37 [.t 87, .t 88, .t 89, .t 90, .t 91], none, []⟩,
  ⟨some 86, .mv (.t 92), none, []⟩,
  ⟨some 93, .ext (.t 86) 0, none, []⟩,
  ⟨some 94, .ext (.t 86) 1, none, []⟩,
  ⟨some 27, .mv (.t 93), none, []⟩,
  ⟨some 28, .mv (.t 94), none, []⟩])
  (.seq (.reg [
  ⟨some 95, .mv (.t 15), none, []⟩,
  ⟨some 96, .mv (.t 17), none, []⟩,
  ⟨some 97, .call 38 [.t 95, .t 96], none, []⟩,
  ⟨some 98, .mv (.t 97), none, []⟩,
  ⟨some 99, .mv (.t 16), some (98, true), []⟩,
  ⟨some 100, .mv (.t 18), some (98, true), []⟩,
  ⟨some 101, .bin .eql (.t 99) (.t 100), some (98, true), []⟩,
  ⟨some 102, .pick (.t 98) (.t 101) (.c (.bool false)), none, []⟩,
  ⟨some 103, .mv (.t 102), none, []⟩,
  ⟨some 104, .mv (.t 19), some (103, true), []⟩,
  ⟨some 105, .mv (.t 22), some (103, true), []⟩,
  ⟨some 106, .call 39 [.t 104, .t 105], some (103, true), []⟩,
  ⟨some 107, .pick (.t 103) (.t 106) (.c (.bool false)), none, []⟩,
  ⟨some 108, .mv (.t 107), none, []⟩,
  ⟨some 109, .mv (.t 20), some (108, true), []⟩,
  ⟨some 110, .mv (.t 23), some (108, true), []⟩,
  ⟨some 111, .bin .eql (.t 109) (.t 110), some (108, true), []⟩,
  ⟨some 112, .pick (.t 108) (.t 111) (.c (.bool false)), none, []⟩,
  ⟨some 113, .mv (.t 112), none, []⟩,
  ⟨some 114, .mv (.t 21), some (113, true), []⟩,
  ⟨some 115, .mv (.t 24), some (113, true), []⟩,
  ⟨some 116, .bin .eql (.t 114) (.t 115), some (113, true), []⟩,
  ⟨some 117, .pick (.t 113) (.t 116) (.c (.bool false)), none, []⟩,
  ⟨some 118, .mv (.t 117), none, []⟩,
  ⟨some 119, .mv (.t 25), some (118, true), []⟩,
  ⟨some 120, .mv (.t 27), some (118, true), []⟩,
  ⟨some 121, .call 40 [.t 119, .t 120], some (118, true), []⟩,
  ⟨some 122, .pick (.t 118) (.t 121) (.c (.bool false)), none, []⟩,
  ⟨some 123, .mv (.t 122), none, []⟩,
  ⟨some 124, .mv (.t 26), some (123, true), []⟩,
  ⟨some 125, .mv (.t 28), some (123, true), []⟩,
  ⟨some 126, .bin .eql (.t 124) (.t 125), some (123, true), []⟩,
  ⟨some 127, .pick (.t 123) (.t 126) (.c (.bool false)), none, []⟩,
  ⟨some 128, .mv (.t 127), none, []⟩,
  ⟨some 129, .ld (.t 13) 2 true, some (128, true), []⟩,
  ⟨some 130, .ld (.t 6) 2 true, some (128, true), []⟩,
  ⟨some 131, .call 28 [.t 129, .t 130], some (128, true), []⟩,
  ⟨some 132, .pick (.t 128) (.t 131) (.c (.bool false)), none, []⟩,
  ⟨some 133, .mv (.t 132), none, []⟩,
  ⟨some 134, .mv (.t 14), some (133, true), []⟩,
  ⟨some 135, .mv (.t 5), some (133, true), []⟩,
  ⟨some 136, .call 40 [.t 134, .t 135], some (133, true), []⟩,
  ⟨some 137, .pick (.t 133) (.t 136) (.c (.bool false)), none, []⟩,
  ⟨some 12, .mv (.t 137), none, []⟩])
  .ret))))))))))
def r6 : List RV := [.tmp 12]
theorem n6 : Try.f6.ntmps = 138 := by kernel_rfl
theorem b6 : bodyB Try.prog 6 = true := by kernel_rfl
theorem c6_ok : cmpC Try.prog c6 ((Try.f6.body).getD .skip) = true := by kernel_rfl
theorem r6_ok : cmpR Try.prog r6 Try.f6.results.toList = true := by kernel_rfl
theorem t6 {args : List SV} {res : SV} (ka : KFL args) (kr : KF res) (h : sx Try.prog Y0 0 c6 (st0 args 138) (retK r6 res)) (hA : Nat.ble args.length 138 = true := by rfl) : Ct Try.prog 6 args res := ct_intro Try.func6 rfl b6 c6_ok r6_ok n6 (Nat.le_of_ble_eq_true hA) ka kr h
end Go.Proofs.Ytkjldleglbbkeaa
set_option maxRecDepth 100000
set_option maxHeartbeats 4000000
namespace Go.Proofs.Ytkjldleglbbkeaa
open Go Go.Sx Go.Azalai
theorem span_ext {a b : Span} (h1 : a.lo = b.lo) (h2 : a.hi = b.hi) : a = b := by
  obtain ⟨_, _⟩ := a
  obtain ⟨_, _⟩ := b
  simp_all
theorem stop_ext {a b : Stop} (h1 : a.leg = b.leg) (h2 : a.well = b.well) (h3 : a.leaves.lo = b.leaves.lo) (h4 : a.leaves.hi = b.leaves.hi) (h5 : a.arrives.lo = b.arrives.lo) (h6 : a.arrives.hi = b.arrives.hi) : a = b := by
  obtain ⟨_, _, ⟨_, _⟩, ⟨_, _⟩⟩ := a
  obtain ⟨_, _, ⟨_, _⟩, ⟨_, _⟩⟩ := b
  simp_all
theorem same38_ok (a b : List Span) (ha : a.length ≤ 1000000) (hb : b.length ≤ 1000000) (c c' : Bool) : Ct Try.prog 38 [.sl c 2 (a.map spanL), .sl c' 2 (b.map spanL)] (B (decide (a = b))) := by
  refine t38 (by simp [KFR_iff, spanL, KFL, KF]) (by simp [KFL, KF]) ?_
  dsimp only [c38, r38, go_sem, Nat.reduceAdd, Nat.reduceMul, Nat.reduceSub]
  simp only [List.length_map]
  by_cases hl : a.length = b.length
  case neg =>
    refine br_t (by simp; omega) ?_
    dsimp only [go_sem, Nat.reduceAdd, Nat.reduceMul, Nat.reduceSub]
    have : a ≠ b := fun e => hl (by rw [e])
    simp [this]
  refine br_f (by simp; omega) ?_
  dsimp only [go_sem, Nat.reduceAdd, Nat.reduceMul, Nat.reduceSub]
  refine loopO (fun j : Nat => [(5, I j)]) (fun _ => []) (fun j => j ≤ a.length ∧ a.take j = b.take j) (fun j => a.length - j) 0 ⟨Nat.zero_le _, rfl⟩ ?_ ?_
  · (refine ent_id ?_ ?_ ?_ rfl rfl <;> dsimp only [spanL, id, go_sem, Nat.reduceAdd, Nat.reduceMul, Nat.reduceSub] <;> simp [spanL, KFR_iff, KFR_app, KFR, KFL, KF, mtL_same, mtO, Nat.beq_refl])
  rintro j ⟨hj, ht⟩
  dsimp only [go_sem, Nat.reduceAdd, Nat.reduceMul, Nat.reduceSub]
  simp only [List.length_map]
  by_cases hlt : j < a.length
  · refine br_t (by simpa using hlt) ?_
    dsimp only [go_sem, Nat.reduceAdd, Nat.reduceMul, Nat.reduceSub]
    have hltb : j < b.length := by omega
    refine ixs_map j hlt rfl ?_
    dsimp only [go_sem, Nat.reduceAdd, Nat.reduceMul, Nat.reduceSub]
    refine ixs_map j hltb rfl ?_
    dsimp only [spanL, go_sem, Nat.reduceAdd, Nat.reduceMul, Nat.reduceSub]
    by_cases he : a[j] = b[j]
    · refine br_f (by rw [he]; simp [ngB]) ?_
      dsimp only [go_sem, Nat.reduceAdd, Nat.reduceMul, Nat.reduceSub]
      rw [w64_in (n := (j : Int) + 1) (by omega) (by omega)]
      refine ⟨j + 1, ⟨hlt, ?_⟩, by omega, ?_⟩
      · rw [List.take_succ_eq_append_getElem hlt, List.take_succ_eq_append_getElem hltb, ht, he]
      (refine ent_id ?_ ?_ ?_ rfl rfl <;> dsimp only [spanL, id, go_sem, Nat.reduceAdd, Nat.reduceMul, Nat.reduceSub] <;> simp [spanL, KFR_iff, KFR_app, KFR, KFL, KF, mtL_same, mtO, Nat.beq_refl])
    · refine br_t ?_ ?_
      · apply Decidable.byContradiction; intro hq; simp at hq; exact he (span_ext hq.1 hq.2)
      dsimp only [go_sem, Nat.reduceAdd, Nat.reduceMul, Nat.reduceSub]
      have : a ≠ b := fun e => he (by subst e; rfl)
      simp [this]
  refine br_f (by simp; omega) ?_
  dsimp only [go_sem, Nat.reduceAdd, Nat.reduceMul, Nat.reduceSub]
  have : a = b := by
    rw [List.take_of_length_le (by omega), List.take_of_length_le (by omega)] at ht
    exact ht
  simp [this]
theorem same38_nil : Ct Try.prog 38 [.v (.slice none 0 0), .v (.slice none 0 0)] (B true) :=
  (same38_ok [] [] (by simp) (by simp) false false).args (by simp [KFL, KF]) (weak_cons weak_nil (weak_cons weak_nil (fun _ _ _ _ _ h => h)))
theorem same38_z (a : List Span) (ha : a.length ≤ 1000000) (e : Int) : Ct Try.prog 38 [rowsZ e 2 (a.map spanL), rowsZ e 2 (a.map spanL)] (B true) := by
  unfold rowsZ
  split
  · have := same38_ok a a ha ha false false
    simpa using this
  · exact same38_nil

theorem same39_ok (a b : List Stop) (ha : a.length ≤ 1000000) (hb : b.length ≤ 1000000) (c c' : Bool) : Ct Try.prog 39 [.sl c 6 (a.map stopL), .sl c' 6 (b.map stopL)] (B (decide (a = b))) := by
  refine t39 (by simp [KFR_iff, stopL, KFL, KF]) (by simp [KFL, KF]) ?_
  dsimp only [c39, r39, go_sem, Nat.reduceAdd, Nat.reduceMul, Nat.reduceSub]
  simp only [List.length_map]
  by_cases hl : a.length = b.length
  case neg =>
    refine br_t (by simp; omega) ?_
    dsimp only [go_sem, Nat.reduceAdd, Nat.reduceMul, Nat.reduceSub]
    have : a ≠ b := fun e => hl (by rw [e])
    simp [this]
  refine br_f (by simp; omega) ?_
  dsimp only [go_sem, Nat.reduceAdd, Nat.reduceMul, Nat.reduceSub]
  refine loopO (fun j : Nat => [(5, I j)]) (fun _ => []) (fun j => j ≤ a.length ∧ a.take j = b.take j) (fun j => a.length - j) 0 ⟨Nat.zero_le _, rfl⟩ ?_ ?_
  · (refine ent_id ?_ ?_ ?_ rfl rfl <;> dsimp only [stopL, id, go_sem, Nat.reduceAdd, Nat.reduceMul, Nat.reduceSub] <;> simp [stopL, KFR_iff, KFR_app, KFR, KFL, KF, mtL_same, mtO, Nat.beq_refl])
  rintro j ⟨hj, ht⟩
  dsimp only [go_sem, Nat.reduceAdd, Nat.reduceMul, Nat.reduceSub]
  simp only [List.length_map]
  by_cases hlt : j < a.length
  · refine br_t (by simpa using hlt) ?_
    dsimp only [go_sem, Nat.reduceAdd, Nat.reduceMul, Nat.reduceSub]
    have hltb : j < b.length := by omega
    refine ixs_map j hlt rfl ?_
    dsimp only [go_sem, Nat.reduceAdd, Nat.reduceMul, Nat.reduceSub]
    refine ixs_map j hltb rfl ?_
    dsimp only [stopL, go_sem, Nat.reduceAdd, Nat.reduceMul, Nat.reduceSub]
    by_cases he : a[j] = b[j]
    · refine br_f (by rw [he]; simp [ngB]) ?_
      dsimp only [go_sem, Nat.reduceAdd, Nat.reduceMul, Nat.reduceSub]
      rw [w64_in (n := (j : Int) + 1) (by omega) (by omega)]
      refine ⟨j + 1, ⟨hlt, ?_⟩, by omega, ?_⟩
      · rw [List.take_succ_eq_append_getElem hlt, List.take_succ_eq_append_getElem hltb, ht, he]
      (refine ent_id ?_ ?_ ?_ rfl rfl <;> dsimp only [stopL, id, go_sem, Nat.reduceAdd, Nat.reduceMul, Nat.reduceSub] <;> simp [stopL, KFR_iff, KFR_app, KFR, KFL, KF, mtL_same, mtO, Nat.beq_refl])
    · refine br_t ?_ ?_
      · apply Decidable.byContradiction; intro hq; simp at hq; exact he (stop_ext hq.1 hq.2.1 hq.2.2.1 hq.2.2.2.1 hq.2.2.2.2.1 hq.2.2.2.2.2)
      dsimp only [go_sem, Nat.reduceAdd, Nat.reduceMul, Nat.reduceSub]
      have : a ≠ b := fun e => he (by subst e; rfl)
      simp [this]
  refine br_f (by simp; omega) ?_
  dsimp only [go_sem, Nat.reduceAdd, Nat.reduceMul, Nat.reduceSub]
  have : a = b := by
    rw [List.take_of_length_le (by omega), List.take_of_length_le (by omega)] at ht
    exact ht
  simp [this]
theorem same39_nil : Ct Try.prog 39 [.v (.slice none 0 0), .v (.slice none 0 0)] (B true) :=
  (same39_ok [] [] (by simp) (by simp) false false).args (by simp [KFL, KF]) (weak_cons weak_nil (weak_cons weak_nil (fun _ _ _ _ _ h => h)))
theorem same39_z (a : List Stop) (ha : a.length ≤ 1000000) (e : Int) : Ct Try.prog 39 [rowsZ e 6 (a.map stopL), rowsZ e 6 (a.map stopL)] (B true) := by
  unfold rowsZ
  split
  · have := same39_ok a a ha ha false false
    simpa using this
  · exact same39_nil

theorem same40_ok (a b : List Int) (ha : a.length ≤ 1000000) (hb : b.length ≤ 1000000) (c c' : Bool) : Ct Try.prog 40 [.sl c 1 (a.map intL), .sl c' 1 (b.map intL)] (B (decide (a = b))) := by
  refine t40 (by simp [KFR_iff, intL, KFL, KF]) (by simp [KFL, KF]) ?_
  dsimp only [c40, r40, go_sem, Nat.reduceAdd, Nat.reduceMul, Nat.reduceSub]
  simp only [List.length_map]
  by_cases hl : a.length = b.length
  case neg =>
    refine br_t (by simp; omega) ?_
    dsimp only [go_sem, Nat.reduceAdd, Nat.reduceMul, Nat.reduceSub]
    have : a ≠ b := fun e => hl (by rw [e])
    simp [this]
  refine br_f (by simp; omega) ?_
  dsimp only [go_sem, Nat.reduceAdd, Nat.reduceMul, Nat.reduceSub]
  refine loopO (fun j : Nat => [(5, I j)]) (fun _ => []) (fun j => j ≤ a.length ∧ a.take j = b.take j) (fun j => a.length - j) 0 ⟨Nat.zero_le _, rfl⟩ ?_ ?_
  · (refine ent_id ?_ ?_ ?_ rfl rfl <;> dsimp only [intL, id, go_sem, Nat.reduceAdd, Nat.reduceMul, Nat.reduceSub] <;> simp [intL, KFR_iff, KFR_app, KFR, KFL, KF, mtL_same, mtO, Nat.beq_refl])
  rintro j ⟨hj, ht⟩
  dsimp only [go_sem, Nat.reduceAdd, Nat.reduceMul, Nat.reduceSub]
  simp only [List.length_map]
  by_cases hlt : j < a.length
  · refine br_t (by simpa using hlt) ?_
    dsimp only [go_sem, Nat.reduceAdd, Nat.reduceMul, Nat.reduceSub]
    have hltb : j < b.length := by omega
    refine ixs_map j hlt rfl ?_
    dsimp only [go_sem, Nat.reduceAdd, Nat.reduceMul, Nat.reduceSub]
    refine ixs_map j hltb rfl ?_
    dsimp only [intL, go_sem, Nat.reduceAdd, Nat.reduceMul, Nat.reduceSub]
    by_cases he : a[j] = b[j]
    · refine br_f (by rw [he]; simp [ngB]) ?_
      dsimp only [go_sem, Nat.reduceAdd, Nat.reduceMul, Nat.reduceSub]
      rw [w64_in (n := (j : Int) + 1) (by omega) (by omega)]
      refine ⟨j + 1, ⟨hlt, ?_⟩, by omega, ?_⟩
      · rw [List.take_succ_eq_append_getElem hlt, List.take_succ_eq_append_getElem hltb, ht, he]
      (refine ent_id ?_ ?_ ?_ rfl rfl <;> dsimp only [intL, id, go_sem, Nat.reduceAdd, Nat.reduceMul, Nat.reduceSub] <;> simp [intL, KFR_iff, KFR_app, KFR, KFL, KF, mtL_same, mtO, Nat.beq_refl])
    · refine br_t ?_ ?_
      · simpa using he
      dsimp only [go_sem, Nat.reduceAdd, Nat.reduceMul, Nat.reduceSub]
      have : a ≠ b := fun e => he (by subst e; rfl)
      simp [this]
  refine br_f (by simp; omega) ?_
  dsimp only [go_sem, Nat.reduceAdd, Nat.reduceMul, Nat.reduceSub]
  have : a = b := by
    rw [List.take_of_length_le (by omega), List.take_of_length_le (by omega)] at ht
    exact ht
  simp [this]
theorem same40_nil : Ct Try.prog 40 [.v (.slice none 0 0), .v (.slice none 0 0)] (B true) :=
  (same40_ok [] [] (by simp) (by simp) false false).args (by simp [KFL, KF]) (weak_cons weak_nil (weak_cons weak_nil (fun _ _ _ _ _ h => h)))
theorem same40_z (a : List Int) (ha : a.length ≤ 1000000) (e : Int) : Ct Try.prog 40 [rowsZ e 1 (a.map intL), rowsZ e 1 (a.map intL)] (B true) := by
  unfold rowsZ
  split
  · have := same40_ok a a ha ha false false
    simpa using this
  · exact same40_nil

end Go.Proofs.Ytkjldleglbbkeaa
set_option maxRecDepth 100000
set_option maxHeartbeats 4000000
namespace Go.Azalai
open Go.Sx
theorem goS_len {l : Land} {p : Span} : ∀ {legs : List Int} {v a b : Int} {k : Nat} {acc : List Stop}, acc.length = k → k + legs.length ≤ 1000 → (goS l p v a b legs k acc).1.length ≤ 1000
  | [], v, a, b, k, acc, h, h' => by simp only [goS]; simp at h'; omega
  | i :: r, v, a, b, k, acc, h, h' => by
    simp only [goS]
    split
    · simp
    · split
      · simp
      · exact goS_len (by simp [h]) (by simp at h'; omega)
theorem walkF_len {l : Land} {p : Span} {s day : Int} {legs : List Int} (h : legs.length ≤ 1000) : (walkF l p s day legs).1.length ≤ 1000 := by
  unfold walkF
  split
  · simp
  · split
    · simp
    · split
      · simp
      · split
        · simp
        · exact goS_len rfl (by omega)
theorem sureL_len {l : Land} {p : Span} (hg : OkLP l p) {s to day : Int} (hd' : day ≤ 100000) (hd : 0 ≤ day) (h0 : 0 ≤ s) (h1 : s < l.wells.length) : (sureL l p s to day).length ≤ 100000 := by
  unfold sureL
  split
  · rename_i h
    have := goW_bd hg h.choose_spec.1 hd' h0 h1
    omega
  · simp
end Go.Azalai
namespace Go.Proofs.Ytkjldleglbbkeaa
open Go Go.Sx Go.Azalai
theorem natL_int (a : List Nat) : a.map natL = (a.map fun n : Nat => (n : Int)).map intL := by simp [natL, intL, Function.comp_def]
theorem sure_same (l : Land) (p : Span) (s to day : Int) : Ct Try.prog 40 [rowsZ (sureE l p s to day) 1 ((sureL l p s to day).map natL), rowsZ (sureE l p s to day) 1 ((sureL l p s to day).map natL)] (B true) := by
  rw [natL_int]
  by_cases he : sureE l p s to day = 0
  · refine same40_z _ ?_ _
    rw [List.length_map]
    unfold sureE at he
    split at he
    · omega
    · rename_i ha
      split at he
      · omega
      · rename_i hr
        have hok := ask_ok (l := l) (p := p) (by omega)
        simp only [Bool.not_eq_false, Bool.and_eq_true, inR, decide_eq_true_eq] at hr
        have := sureL_len (to := to) hok hr.2.2 hr.2.1 hr.1.1.1 (by omega)
        omega
  · simp only [rowsZ, if_neg he]
    exact same40_nil
theorem rowsZ_two (e : Int) (m : Nat) (xs : List (List SV)) : rowsZ e m xs = .sl false m xs ∨ rowsZ e m xs = .v (.slice none 0 0) := by
  unfold rowsZ; split
  · exact .inl rfl
  · exact .inr rfl
theorem goes_ok (l : Land) (s to day : Int) (p : Span) (legs : List Int) (c : Bool) (hlen : legs.length ≤ 9223372036854775807) : Ct Try.prog 6 [.agg (landL l), I s, I to, I day, .agg (spanL p), .sl c 1 (legs.map intL)] (B true) := by
  refine t6 (by simp [landL, wellL, legL, gateL, spanL, intL, KFR_iff, KFL, KF]) (by simp [KFL, KF]) ?_
  dsimp only [c6, r6, landL, spanL, go_sem, Nat.reduceAdd, Nat.reduceMul, Nat.reduceSub]
  refine call (great_ok l) ?_
  dsimp only [go_sem, Nat.reduceAdd, Nat.reduceMul, Nat.reduceSub]
  repeat (refine gb ?_; dsimp only [go_sem, Nat.reduceAdd, Nat.reduceMul, Nat.reduceSub])
  simp only [List.length_map]
  by_cases h : (greatF l || decide ((legs.length : Int) > 40)) = true
  · refine br_t (by simpa using h) ?_
    dsimp only [go_sem, Nat.reduceAdd, Nat.reduceMul, Nat.reduceSub]
  refine br_f (by simpa using h) ?_
  dsimp only [go_sem, Nat.reduceAdd, Nat.reduceMul, Nat.reduceSub]
  simp only [Bool.or_eq_true, not_or, Bool.not_eq_true, decide_eq_true_eq] at h
  obtain ⟨hgr, hl40⟩ := h
  have hs : Small l := by
    simp only [greatF, Bool.or_eq_false_iff, decide_eq_false_iff_not, List.any_eq_false, decide_eq_true_eq] at hgr
    exact ⟨by omega, by omega, fun x hx => by have := hgr.2 x hx; omega⟩
  have k1 := wreach_ok l hs s day p
  have k2 := rreach_ok l hs s day p
  have k3 := same38_z (reachL l p s day) (by rw [reachL_len]; have := hs.1; omega) (reachE l p s day)
  have k4 := wwalk_ok l hs s day p legs (by omega) false
  have k5 := rwalk_ok l hs s day p legs (by omega) c
  have k6 := same39_z (walkF l p s day legs).1 (by have := walkF_len (l := l) (p := p) (s := s) (day := day) (legs := legs) (by omega); omega) (walkF l p s day legs).2.2
  have k7 := wsurest_ok l hs s to day p
  have k8 := rsurest_ok l hs s to day p
  have k9 := sure_same l p s to day
  unfold walkR at k4 k5
  unfold sureR at k7 k8
  have z1 := rowsZ_two (reachE l p s day) 2 ((reachL l p s day).map spanL)
  have z2 := rowsZ_two (walkF l p s day legs).2.2 6 ((walkF l p s day legs).1.map stopL)
  have z3 := rowsZ_two (sureE l p s to day) 1 ((sureL l p s to day).map natL)
  generalize rowsZ (reachE l p s day) 2 ((reachL l p s day).map spanL) = r1 at k1 k2 k3 z1
  generalize rowsZ (walkF l p s day legs).2.2 6 ((walkF l p s day legs).1.map stopL) = r2 at k4 k5 k6 z2
  generalize rowsZ (sureE l p s to day) 1 ((sureL l p s to day).map natL) = r3 at k7 k8 k9 z3
  have k10 := twin_ok l hs
  have k11 := same_ok l hs
  have k12 := same40_ok legs legs (by omega) (by omega) false c
  have h40 : (([] : List (List SV)).length + (legs.map intL).length) * 8 ≤ 140737488355328 := by simp; omega
  rcases z1 with rfl | rfl <;> rcases z2 with rfl | rfl <;> rcases z3 with rfl | rfl <;> (
    refine call k10 ?_
    dsimp only [landL, go_sem, Nat.reduceAdd, Nat.reduceMul, Nat.reduceSub]
    refine app0 h40 ?_
    dsimp only [go_sem, Nat.reduceAdd, Nat.reduceMul, Nat.reduceSub]
    refine call k1 ?_
    dsimp only [go_sem, Nat.reduceAdd, Nat.reduceMul, Nat.reduceSub]
    refine call k2 ?_
    dsimp only [go_sem, Nat.reduceAdd, Nat.reduceMul, Nat.reduceSub]
    refine call k4 ?_
    dsimp only [go_sem, Nat.reduceAdd, Nat.reduceMul, Nat.reduceSub]
    refine call k5 ?_
    dsimp only [go_sem, Nat.reduceAdd, Nat.reduceMul, Nat.reduceSub]
    refine call k7 ?_
    dsimp only [go_sem, Nat.reduceAdd, Nat.reduceMul, Nat.reduceSub]
    refine call k8 ?_
    dsimp only [go_sem, Nat.reduceAdd, Nat.reduceMul, Nat.reduceSub]
    refine call k3 ?_
    dsimp only [go_sem, Nat.reduceAdd, Nat.reduceMul, Nat.reduceSub]
    repeat (first | (refine gb ?_; dsimp only [go_sem, Nat.reduceAdd, Nat.reduceMul, Nat.reduceSub]) | (refine call k6 ?_; dsimp only [go_sem, Nat.reduceAdd, Nat.reduceMul, Nat.reduceSub]) | (refine call k9 ?_; dsimp only [go_sem, Nat.reduceAdd, Nat.reduceMul, Nat.reduceSub]) | (refine call k11 ?_; dsimp only [go_sem, Nat.reduceAdd, Nat.reduceMul, Nat.reduceSub]) | (refine call k12 ?_; dsimp only [go_sem, Nat.reduceAdd, Nat.reduceMul, Nat.reduceSub]))
    simp)
end Go.Proofs.Ytkjldleglbbkeaa
