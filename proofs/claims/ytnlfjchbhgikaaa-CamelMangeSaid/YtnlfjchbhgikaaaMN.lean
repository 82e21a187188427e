import Derived.Test.YtnlfjchbhgikaaaMM
import Derived.Test.YtnlfjchbhgikaaaBr
import Derived.Test.YtnlfjchbhgikaaaRows
set_option maxRecDepth 100000
set_option maxHeartbeats 4000000
namespace Go.Proofs.Ytnlfjchbhgikaaa
open Go Go.Sx Go.Azalai Go.ChangeShapes Go.WideShapes Go.RowKit
theorem lift_map {α : Type} {rep : α → List SV} {q : List SV → Prop} (hq : ∀ r, q r → ∃ a, r = rep a) : ∀ {xs : List (List SV)}, (∀ r ∈ xs, q r) → ∃ l : List α, xs = l.map rep
  | [], _ => ⟨[], rfl⟩
  | x :: xs, h => by
    obtain ⟨a, rfl⟩ := hq x (h x (by simp))
    obtain ⟨l, rfl⟩ := lift_map (xs := xs) hq (fun r hr => h r (by simp [hr]))
    exact ⟨a :: l, rfl⟩
theorem shp3 {f : Nat} {l : List SV} (h : Shp Try.prog (f + 1) 3 l) : ∃ n : Int, l = [.v (.int .i64 n)] ∧ (Lit.int .i64 n).wf = true := by
  rw [Shp, Try.underlying3] at h
  exact h
theorem cells3 : Try.prog.cellsOf 3 = 1 := by kernel_rfl
theorem shp65 {f : Nat} {l : List SV} (h : Shp Try.prog (f + 2) 65 l) : ∃ ds : List Int, l = [.sl false 1 (ds.map intL)] ∧ ds.length ≤ 9223372036854775807 := by
  rw [Shp, Try.underlying65] at h
  obtain ⟨xs, rfl, hl, hx⟩ := h
  obtain ⟨ws, rfl⟩ := lift_map (rep := intL) (fun r h => by obtain ⟨n, rfl, _⟩ := shp3 (f := f) h.2; exact ⟨n, rfl⟩) hx
  rw [cells3]
  exact ⟨ws, rfl, by simpa using hl⟩
theorem shp4 {f : Nat} {l : List SV} (h : Shp Try.prog (f + 1) 4 l) : ∃ n : Bool, l = [B n] := by
  rw [Shp, Try.underlying4] at h
  exact h
theorem shp73 {f : Nat} {l : List SV} (h : Shp Try.prog (f + 2) 73 l) : ∃ w : Meet, l = meetL w := by
  rw [Shp, Try.underlying73] at h
  simp only [ShpF] at h
  obtain ⟨_, _, rfl, _, h0, _, _, rfl, _, h1, _, _, rfl, _, h2, _, _, rfl, _, h3, rfl⟩ := h
  obtain ⟨a0, rfl, _⟩ := shp3 (f := f + 0) h0
  obtain ⟨a1, rfl, _⟩ := shp3 (f := f + 0) h1
  obtain ⟨a2, rfl, _⟩ := shp3 (f := f + 0) h2
  obtain ⟨a3, rfl⟩ := shp4 (f := f + 0) h3
  exact ⟨⟨a0, a1, a2, a3⟩, rfl⟩
theorem cells73 : Try.prog.cellsOf 73 = 4 := by kernel_rfl
theorem shp66 {f : Nat} {l : List SV} (h : Shp Try.prog (f + 3) 66 l) : ∃ ds : List Meet, l = [.sl false 4 (ds.map meetL)] ∧ ds.length ≤ 9223372036854775807 := by
  rw [Shp, Try.underlying66] at h
  obtain ⟨xs, rfl, hl, hx⟩ := h
  obtain ⟨ws, rfl⟩ := lift_map (rep := meetL) (fun r h => shp73 (f := f) h.2) hx
  rw [cells73]
  exact ⟨ws, rfl, by simpa using hl⟩
theorem shp23 {f : Nat} {l : List SV} (h : Shp Try.prog (f + 2) 23 l) : ∃ w : Span, l = spanL w := by
  rw [Shp, Try.underlying23] at h
  simp only [ShpF] at h
  obtain ⟨_, _, rfl, _, h0, _, _, rfl, _, h1, rfl⟩ := h
  obtain ⟨a0, rfl, _⟩ := shp3 (f := f + 0) h0
  obtain ⟨a1, rfl, _⟩ := shp3 (f := f + 0) h1
  exact ⟨⟨a0, a1⟩, rfl⟩
theorem Try.own : ownKnob Try.prog.godebug = none := by kernel_rfl
theorem Try.laidOut : laidOutB Try.prog = true := by kernel_rfl
theorem tyB3 : tyB Try.prog 20 3 = true := by kernel_rfl
theorem tyB65 : tyB Try.prog 20 65 = true := by kernel_rfl
theorem tyB66 : tyB Try.prog 20 66 = true := by kernel_rfl
theorem tyB23 : tyB Try.prog 20 23 = true := by kernel_rfl
theorem camelMange_lifted (os : Os) (started : os.Started) (H : Type) (enc : TypeId × Value → H) :
    ReturnsInHanded {} Try.checked os 6 .any (Rows.camelMangeSpec.pre6 enc Try.prog Try.f6 Rows.camelMangeRow.domain false) (Rows.camelMangeSpec.post enc Try.prog Try.f6 false true false false) := by
  refine returnsInHanded_of_change (C := Try.checked) Try.own started (by kernel_rfl) Try.func6
    (ChangeSpec.witness6 (enc := enc) (C := Try.checked) false ⟨#[], #[.int .i64 0, .slice none 0 0, .slice none 0 0, .agg #[.int .i64 0, .int .i64 0], .int .i64 0], []⟩ 8 (by kernel_rfl) (by kernel_rfl) (by kernel_rfl) (by kernel_rfl)) ?_
  intro W base args ds gs before hval0 hW hcnd _
  have hval : ∀ (j : Nat) t v, Try.f6.params[j]? = some t → args[j]? = some v → Value.okWide Try.prog W .any base t v := hval0
  have hW' := hW
  obtain ⟨p, q, hA0, hV, rfl, hfz, hnd⟩ := hW
  have hA : DataW.TrodAll enc Try.prog W 0 (fun _ => true) true Try.f6.params.toList args.toList ds p := hA0
  rw [Try.params6] at hA hval
  obtain ⟨v0, vs0, d0, ds0, p0, q0, ea0, rfl, rfl, h0, hA⟩ := trodAll_cons hA
  obtain ⟨v1, vs1, d1, ds1, p1, q1, rfl, rfl, rfl, h1, hA⟩ := trodAll_cons hA
  obtain ⟨v2, vs2, d2, ds2, p2, q2, rfl, rfl, rfl, h2, hA⟩ := trodAll_cons hA
  obtain ⟨v3, vs3, d3, ds3, p3, q3, rfl, rfl, rfl, h3, hA⟩ := trodAll_cons hA
  obtain ⟨v4, vs4, d4, ds4, p4, q4, rfl, rfl, rfl, h4, hA⟩ := trodAll_cons hA
  obtain ⟨rfl, rfl, rfl⟩ := trodAll_nil hA
  obtain ⟨rfl, rfl⟩ := trodVars_none hV
  have hargs : args = #[v0, v1, v2, v3, v4] := Array.toList_inj.1 ea0
  subst hargs
  obtain ⟨l0, r0, s0⟩ := trod_arg tyB3 (hval 0 3 v0 rfl rfl) h0
  obtain ⟨l1, r1, s1⟩ := trod_arg tyB65 (hval 1 65 v1 rfl rfl) h1
  obtain ⟨l2, r2, s2⟩ := trod_arg tyB66 (hval 2 66 v2 rfl rfl) h2
  obtain ⟨l3, r3, s3⟩ := trod_arg tyB23 (hval 3 23 v3 rfl rfl) h3
  obtain ⟨l4, r4, s4⟩ := trod_arg tyB3 (hval 4 3 v4 rfl rfl) h4
  obtain ⟨x0, rfl, b0⟩ := shp3 s0
  obtain ⟨x1, rfl, b1⟩ := shp65 s1
  obtain ⟨x2, rfl, b2⟩ := shp66 s2
  obtain ⟨x3, rfl⟩ := shp23 s3
  obtain ⟨x4, rfl, b4⟩ := shp3 s4
  simp only [argV, Try.underlying3, Try.underlying65, Try.underlying66, Try.underlying23, List.headD_cons] at r0 r1 r2 r3 r4
  refine ((mangeLaw_ok x0 x1 x2 x3 x4).run W Tr [v0, v1, v2, v3, v4] (by simp only [RL]; exact ⟨_, _, rfl, r0, _, _, rfl, r1, _, _, rfl, r2, _, _, rfl, r3, _, _, rfl, r4, rfl⟩)).mono fun e W' ⟨y, he, hy, hb⟩ => ?_
  simp only [R] at hy
  subst hy
  exact ⟨_, he, post_law (P := Try.prog) Try.laidOut (by kernel_rfl) (by kernel_rfl) Try.underlying4 rfl rfl hW' hb⟩
theorem camelMange_holds : Rows.CamelMangeSaid :=
  OpenClaim.holds_of_wide 6 Try.f6 rfl rfl rfl rfl rfl rfl rfl ⟨rfl, rfl, rfl, rfl, rfl⟩ rfl rfl rfl rfl rfl (by kernel_rfl) Try.func6 (by kernel_rfl)
    (of_decide_eq_true (by kernel_rfl)) (by unfold Func.isWrapper; first | (rw [if_pos (by decide +kernel)]; kernel_rfl) | (rw [if_neg (by decide +kernel)]; exact ⟨rfl, rfl⟩))
    (fun os started H enc _ => camelMange_lifted os started H enc)
end Go.Proofs.Ytnlfjchbhgikaaa
