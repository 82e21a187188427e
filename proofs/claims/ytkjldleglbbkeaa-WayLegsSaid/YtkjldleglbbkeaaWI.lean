import Derived.Test.YtkjldleglbbkeaaWH
import Derived.Test.YtkjldleglbbkeaaBr
import Derived.Test.YtkjldleglbbkeaaRows
set_option maxRecDepth 100000
set_option maxHeartbeats 4000000
namespace Go.Proofs.Ytkjldleglbbkeaa
open Go Go.Sx Go.Azalai Go.ChangeShapes Go.WideShapes Go.RowKit
theorem lift_map {α : Type} {rep : α → List SV} {q : List SV → Prop} (hq : ∀ r, q r → ∃ a, r = rep a) : ∀ {xs : List (List SV)}, (∀ r ∈ xs, q r) → ∃ l : List α, xs = l.map rep
  | [], _ => ⟨[], rfl⟩
  | x :: xs, h => by
    obtain ⟨a, rfl⟩ := hq x (h x (by simp))
    obtain ⟨l, rfl⟩ := lift_map (xs := xs) hq (fun r hr => h r (by simp [hr]))
    exact ⟨a :: l, rfl⟩
theorem shp3 {f : Nat} {l : List SV} (h : Shp Try.prog (f + 1) 3 l) : ∃ n : Int, l = [.v (.int .i64 n)] ∧ (Lit.int .i64 n).wf = true := by
  rw [Shp, Try.underlying3] at h
  exact h
theorem shp29 {f : Nat} {l : List SV} (h : Shp Try.prog (f + 2) 29 l) : ∃ w : Span, l = spanL w := by
  rw [Shp, Try.underlying29] at h
  simp only [ShpF] at h
  obtain ⟨_, _, rfl, _, h0, _, _, rfl, _, h1, rfl⟩ := h
  obtain ⟨a0, rfl, _⟩ := shp3 (f := f + 0) h0
  obtain ⟨a1, rfl, _⟩ := shp3 (f := f + 0) h1
  exact ⟨⟨a0, a1⟩, rfl⟩
theorem shp109 {f : Nat} {l : List SV} (h : Shp Try.prog (f + 3) 109 l) : ∃ w : Well, l = wellL w := by
  rw [Shp, Try.underlying109] at h
  simp only [ShpF] at h
  obtain ⟨_, _, rfl, _, h0, _, _, rfl, _, h1, _, _, rfl, _, h2, _, _, rfl, _, h3, _, _, rfl, _, h4, _, _, rfl, _, h5, _, _, rfl, _, h6, rfl⟩ := h
  obtain ⟨a0, rfl, _⟩ := shp3 (f := f + 1) h0
  obtain ⟨a1, rfl, _⟩ := shp3 (f := f + 1) h1
  obtain ⟨a2, rfl, _⟩ := shp3 (f := f + 1) h2
  obtain ⟨a3, rfl⟩ := shp29 (f := f + 0) h3
  obtain ⟨a4, rfl, _⟩ := shp3 (f := f + 1) h4
  obtain ⟨a5, rfl⟩ := shp29 (f := f + 0) h5
  obtain ⟨a6, rfl, _⟩ := shp3 (f := f + 1) h6
  exact ⟨⟨a0, a1, a2, a3, a4, a5, a6⟩, rfl⟩
theorem cells109 : Try.prog.cellsOf 109 = 9 := by kernel_rfl
theorem shp22 {f : Nat} {l : List SV} (h : Shp Try.prog (f + 4) 22 l) : ∃ ds : List Well, l = [.sl false 9 (ds.map wellL)] ∧ ds.length ≤ 9223372036854775807 := by
  rw [Shp, Try.underlying22] at h
  obtain ⟨xs, rfl, hl, hx⟩ := h
  obtain ⟨ws, rfl⟩ := lift_map (rep := wellL) (fun r h => shp109 (f := f) h.2) hx
  rw [cells109]
  exact ⟨ws, rfl, by simpa using hl⟩
theorem shp95 {f : Nat} {l : List SV} (h : Shp Try.prog (f + 3) 95 l) : ∃ w : Gate, l = gateL w := by
  rw [Shp, Try.underlying95] at h
  simp only [ShpF] at h
  obtain ⟨_, _, rfl, _, h0, _, _, rfl, _, h1, rfl⟩ := h
  obtain ⟨a0, rfl⟩ := shp29 (f := f + 0) h0
  obtain ⟨a1, rfl⟩ := shp29 (f := f + 0) h1
  exact ⟨⟨a0, a1⟩, rfl⟩
theorem cells95 : Try.prog.cellsOf 95 = 4 := by kernel_rfl
theorem shp84 {f : Nat} {l : List SV} (h : Shp Try.prog (f + 4) 84 l) : ∃ ds : List Gate, l = [.sl false 4 (ds.map gateL)] ∧ ds.length ≤ 9223372036854775807 := by
  rw [Shp, Try.underlying84] at h
  obtain ⟨xs, rfl, hl, hx⟩ := h
  obtain ⟨ws, rfl⟩ := lift_map (rep := gateL) (fun r h => shp95 (f := f) h.2) hx
  rw [cells95]
  exact ⟨ws, rfl, by simpa using hl⟩
theorem shp86 {f : Nat} {l : List SV} (h : Shp Try.prog (f + 5) 86 l) : ∃ w : Leg, l = legL w := by
  rw [Shp, Try.underlying86] at h
  simp only [ShpF] at h
  obtain ⟨_, _, rfl, _, h0, _, _, rfl, _, h1, _, _, rfl, _, h2, _, _, rfl, _, h3, rfl⟩ := h
  obtain ⟨a0, rfl, _⟩ := shp3 (f := f + 3) h0
  obtain ⟨a1, rfl, _⟩ := shp3 (f := f + 3) h1
  obtain ⟨a2, rfl⟩ := shp29 (f := f + 2) h2
  obtain ⟨a3, rfl, _⟩ := shp84 (f := f + 0) h3
  exact ⟨⟨a0, a1, a2, a3⟩, rfl⟩
theorem cells86 : Try.prog.cellsOf 86 = 5 := by kernel_rfl
theorem shp23 {f : Nat} {l : List SV} (h : Shp Try.prog (f + 6) 23 l) : ∃ ds : List Leg, l = [.sl false 5 (ds.map legL)] ∧ ds.length ≤ 9223372036854775807 := by
  rw [Shp, Try.underlying23] at h
  obtain ⟨xs, rfl, hl, hx⟩ := h
  obtain ⟨ws, rfl⟩ := lift_map (rep := legL) (fun r h => shp86 (f := f) h.2) hx
  rw [cells86]
  exact ⟨ws, rfl, by simpa using hl⟩
theorem shp25 {f : Nat} {l : List SV} (h : Shp Try.prog (f + 7) 25 l) : ∃ w : Land, l = landL w := by
  rw [Shp, Try.underlying25] at h
  simp only [ShpF] at h
  obtain ⟨_, _, rfl, _, h0, _, _, rfl, _, h1, rfl⟩ := h
  obtain ⟨a0, rfl, _⟩ := shp22 (f := f + 2) h0
  obtain ⟨a1, rfl, _⟩ := shp23 (f := f + 0) h1
  exact ⟨⟨a0, a1⟩, rfl⟩
theorem Try.own : ownKnob Try.prog.godebug = none := by kernel_rfl
theorem Try.laidOut : laidOutB Try.prog = true := by kernel_rfl
theorem tyB25 : tyB Try.prog 20 25 = true := by kernel_rfl
theorem tyB3 : tyB Try.prog 20 3 = true := by kernel_rfl
theorem tyB29 : tyB Try.prog 20 29 = true := by kernel_rfl
theorem wayLegs_lifted (os : Os) (started : os.Started) (H : Type) (enc : TypeId × Value → H) :
    ReturnsInHanded {} Try.checked os 4 .any (Rows.wayLegsSpec.pre6 enc Try.prog Try.f4 Rows.wayLegsRow.domain false) (Rows.wayLegsSpec.post enc Try.prog Try.f4 false true false false) := by
  refine returnsInHanded_of_change (C := Try.checked) Try.own started (by kernel_rfl) Try.func4
    (ChangeSpec.witness6 (enc := enc) (C := Try.checked) false ⟨#[], #[.agg #[.slice none 0 0, .slice none 0 0], .int .i64 0, .int .i64 0, .agg #[.int .i64 0, .int .i64 0]], []⟩ 8 (by kernel_rfl) (by kernel_rfl) (by kernel_rfl) (by kernel_rfl)) ?_
  intro W base args ds gs before hval0 hW hcnd _
  have hval : ∀ (j : Nat) t v, Try.f4.params[j]? = some t → args[j]? = some v → Value.okWide Try.prog W .any base t v := hval0
  have hW' := hW
  obtain ⟨p, q, hA0, hV, rfl, hfz, hnd⟩ := hW
  have hA : DataW.TrodAll enc Try.prog W 0 (fun _ => true) true Try.f4.params.toList args.toList ds p := hA0
  rw [Try.params4] at hA hval
  obtain ⟨v0, vs0, d0, ds0, p0, q0, ea0, rfl, rfl, h0, hA⟩ := trodAll_cons hA
  obtain ⟨v1, vs1, d1, ds1, p1, q1, rfl, rfl, rfl, h1, hA⟩ := trodAll_cons hA
  obtain ⟨v2, vs2, d2, ds2, p2, q2, rfl, rfl, rfl, h2, hA⟩ := trodAll_cons hA
  obtain ⟨v3, vs3, d3, ds3, p3, q3, rfl, rfl, rfl, h3, hA⟩ := trodAll_cons hA
  obtain ⟨rfl, rfl, rfl⟩ := trodAll_nil hA
  obtain ⟨rfl, rfl⟩ := trodVars_none hV
  have hargs : args = #[v0, v1, v2, v3] := Array.toList_inj.1 ea0
  subst hargs
  obtain ⟨l0, r0, s0⟩ := trod_arg tyB25 (hval 0 25 v0 rfl rfl) h0
  obtain ⟨l1, r1, s1⟩ := trod_arg tyB3 (hval 1 3 v1 rfl rfl) h1
  obtain ⟨l2, r2, s2⟩ := trod_arg tyB3 (hval 2 3 v2 rfl rfl) h2
  obtain ⟨l3, r3, s3⟩ := trod_arg tyB29 (hval 3 29 v3 rfl rfl) h3
  obtain ⟨x0, rfl⟩ := shp25 s0
  obtain ⟨x1, rfl, b1⟩ := shp3 s1
  obtain ⟨x2, rfl, b2⟩ := shp3 s2
  obtain ⟨x3, rfl⟩ := shp29 s3
  simp only [argV, Try.underlying25, Try.underlying3, Try.underlying29, List.headD_cons] at r0 r1 r2 r3
  refine ((legs_ok x0 x1 x2 x3).run W Tr [v0, v1, v2, v3] (by simp only [RL]; exact ⟨_, _, rfl, r0, _, _, rfl, r1, _, _, rfl, r2, _, _, rfl, r3, rfl⟩)).mono fun e W' ⟨y, he, hy, hb⟩ => ?_
  simp only [R] at hy
  subst hy
  exact ⟨_, he, post_law (P := Try.prog) Try.laidOut (by kernel_rfl) (by kernel_rfl) Try.underlying4 rfl rfl hW' hb⟩
theorem wayLegs_holds : Rows.WayLegsSaid :=
  OpenClaim.holds_of_wide 4 Try.f4 rfl rfl rfl rfl rfl rfl rfl ⟨rfl, rfl, rfl, rfl, rfl⟩ rfl rfl rfl rfl rfl (by kernel_rfl) Try.func4 (by kernel_rfl)
    (of_decide_eq_true (by kernel_rfl)) (by unfold Func.isWrapper; first | (rw [if_pos (by decide +kernel)]; kernel_rfl) | (rw [if_neg (by decide +kernel)]; exact ⟨rfl, rfl⟩))
    (fun os started H enc _ => wayLegs_lifted os started H enc)
end Go.Proofs.Ytkjldleglbbkeaa
