import Derived.Test.YtkjldleglbbkeaaWD
import Derived.Test.YtkjldleglbbkeaaBr
import Derived.Test.YtkjldleglbbkeaaRows
set_option maxRecDepth 100000
set_option maxHeartbeats 4000000
namespace Go.Proofs.Ytkjldleglbbkeaa
open Go Go.Sx Go.Azalai Go.ChangeShapes Go.WideShapes Go.RowKit
theorem lift_map {α : Type} {rep : α → List SV} {q : List SV → Prop} (hq : ∀ r, q r → ∃ a, r = rep a) : ∀ {xs : List (List SV)}, (∀ r ∈ xs, q r) → ∃ l : List α, xs = l.map rep
  | [], _ => ⟨[], rfl⟩
  | x :: xs, h => by
    obtain ⟨a, rfl⟩ := hq x (h x (by simp))
    obtain ⟨l, rfl⟩ := lift_map (xs := xs) hq (fun r hr => h r (by simp [hr]))
    exact ⟨a :: l, rfl⟩
theorem shp_span {f : Nat} {l : List SV} (h : Shp Try.prog (f + 2) 29 l) : ∃ s, l = spanL s := by
  simp only [Shp, Try.underlying29, ShpF, Try.underlying3] at h
  obtain ⟨a, b, rfl, _, ⟨n, rfl, _⟩, c, d, rfl, _, ⟨m, rfl, _⟩, rfl⟩ := h
  exact ⟨⟨n, m⟩, rfl⟩
theorem shp_int {f : Nat} {l : List SV} (h : Shp Try.prog (f + 1) 3 l) : ∃ n, l = [I n] := by
  simp only [Shp, Try.underlying3] at h
  obtain ⟨n, rfl, _⟩ := h
  exact ⟨n, rfl⟩
theorem shp_well {f : Nat} {l : List SV} (h : Shp Try.prog (f + 3) 109 l) : ∃ w, l = wellL w := by
  rw [Shp, Try.underlying109] at h
  simp only [ShpF] at h
  obtain ⟨_, _, rfl, _, h1, _, _, rfl, _, h2, _, _, rfl, _, h3, _, _, rfl, _, h4, _, _, rfl, _, h5, _, _, rfl, _, h6, _, _, rfl, _, h7, rfl⟩ := h
  obtain ⟨a1, rfl⟩ := shp_int h1
  obtain ⟨a2, rfl⟩ := shp_int h2
  obtain ⟨a3, rfl⟩ := shp_int h3
  obtain ⟨a4, rfl⟩ := shp_span h4
  obtain ⟨a5, rfl⟩ := shp_int h5
  obtain ⟨a6, rfl⟩ := shp_span h6
  obtain ⟨a7, rfl⟩ := shp_int h7
  exact ⟨⟨a1, a2, a3, a4, a5, a6, a7⟩, rfl⟩
theorem shp_gate {f : Nat} {l : List SV} (h : Shp Try.prog (f + 3) 95 l) : ∃ w, l = gateL w := by
  rw [Shp, Try.underlying95] at h
  simp only [ShpF] at h
  obtain ⟨_, _, rfl, _, h1, _, _, rfl, _, h2, rfl⟩ := h
  obtain ⟨a1, rfl⟩ := shp_span h1
  obtain ⟨a2, rfl⟩ := shp_span h2
  exact ⟨⟨a1, a2⟩, rfl⟩
theorem cells95 : Try.prog.cellsOf 95 = 4 := by kernel_rfl
theorem cells109 : Try.prog.cellsOf 109 = 9 := by kernel_rfl
theorem cells86 : Try.prog.cellsOf 86 = 5 := by kernel_rfl
theorem cells40 : Try.prog.cellsOf 40 = 3 := by kernel_rfl
theorem shp_leg {f : Nat} {l : List SV} (h : Shp Try.prog (f + 5) 86 l) : ∃ w, l = legL w := by
  rw [Shp, Try.underlying86] at h
  simp only [ShpF] at h
  obtain ⟨_, _, rfl, _, h1, _, _, rfl, _, h2, _, _, rfl, _, h3, _, _, rfl, _, h4, rfl⟩ := h
  obtain ⟨a1, rfl⟩ := shp_int h1
  obtain ⟨a2, rfl⟩ := shp_int h2
  obtain ⟨a3, rfl⟩ := shp_span h3
  rw [Shp, Try.underlying84] at h4
  obtain ⟨xs, rfl, _, hx⟩ := h4
  obtain ⟨gs, rfl⟩ := lift_map (fun r h => shp_gate (f := f) h.2) hx
  rw [cells95]
  exact ⟨⟨a1, a2, a3, gs⟩, rfl⟩
theorem shp_land {f : Nat} {l : List SV} (h : Shp Try.prog (f + 7) 25 l) : ∃ w, l = landL w := by
  rw [Shp, Try.underlying25] at h
  simp only [ShpF] at h
  obtain ⟨_, _, rfl, _, h1, _, _, rfl, _, h2, rfl⟩ := h
  rw [Shp, Try.underlying22] at h1
  rw [Shp, Try.underlying23] at h2
  obtain ⟨xs, rfl, _, hx⟩ := h1
  obtain ⟨ys, rfl, _, hy⟩ := h2
  obtain ⟨ws, rfl⟩ := lift_map (fun r h => shp_well (f := f + 2) h.2) hx
  obtain ⟨ls, rfl⟩ := lift_map (fun r h => shp_leg (f := f) h.2) hy
  rw [cells109, cells86]
  exact ⟨⟨ws, ls⟩, rfl⟩
theorem shp_draw {f : Nat} {l : List SV} (h : Shp Try.prog (f + 2) 40 l) : ∃ w, l = drawL w := by
  rw [Shp, Try.underlying40] at h
  simp only [ShpF] at h
  obtain ⟨_, _, rfl, _, h1, _, _, rfl, _, h2, _, _, rfl, _, h3, rfl⟩ := h
  obtain ⟨a1, rfl⟩ := shp_int h1
  obtain ⟨a2, rfl⟩ := shp_int h2
  obtain ⟨a3, rfl⟩ := shp_int h3
  exact ⟨⟨a1, a2, a3⟩, rfl⟩
theorem shp_draws {f : Nat} {l : List SV} (h : Shp Try.prog (f + 3) 26 l) : ∃ ds : List Draw, l = [.sl false 3 (ds.map drawL)] := by
  rw [Shp, Try.underlying26] at h
  obtain ⟨xs, rfl, _, hx⟩ := h
  obtain ⟨ws, rfl⟩ := lift_map (fun r h => shp_draw (f := f) h.2) hx
  rw [cells40]
  exact ⟨ws, rfl⟩
theorem Try.own : ownKnob Try.prog.godebug = none := by kernel_rfl
theorem Try.laidOut : laidOutB Try.prog = true := by kernel_rfl
theorem tyB25 : tyB Try.prog 20 25 = true := by kernel_rfl
theorem tyB26 : tyB Try.prog 20 26 = true := by kernel_rfl
theorem tyB3 : tyB Try.prog 20 3 = true := by kernel_rfl
theorem wells_lifted (os : Os) (started : os.Started) (H : Type) (enc : TypeId × Value → H) :
    ReturnsInHanded {} Try.checked os 3 .any (Rows.wayWellsSpec.pre6 enc Try.prog Try.f3 Rows.wayWellsRow.domain false) (Rows.wayWellsSpec.post enc Try.prog Try.f3 false true false false) := by
  refine returnsInHanded_of_change (C := Try.checked) Try.own started (by kernel_rfl) Try.func3
    (ChangeSpec.witness6 (enc := enc) (C := Try.checked) false ⟨#[], #[.agg #[.slice none 0 0, .slice none 0 0], .int .i64 0, .slice none 0 0, .int .i64 0, .int .i64 0, .int .i64 0], []⟩ 8 (by kernel_rfl) (by kernel_rfl) (by kernel_rfl) (by kernel_rfl)) ?_
  intro W base args ds gs before hval0 hW hcnd _
  have hval : ∀ (j : Nat) t v, Try.f3.params[j]? = some t → args[j]? = some v → Value.okWide Try.prog W .any base t v := hval0
  have hW' := hW
  obtain ⟨p, q, hA0, hV, rfl, hfz, hnd⟩ := hW
  have hA : DataW.TrodAll enc Try.prog W 0 (fun _ => true) true Try.f3.params.toList args.toList ds p := hA0
  rw [Try.params3] at hA hval
  obtain ⟨v0, vs0, d0, ds0, p0, q0, ea0, rfl, rfl, h0, hA⟩ := trodAll_cons hA
  obtain ⟨v1, vs1, d1, ds1, p1, q1, rfl, rfl, rfl, h1, hA⟩ := trodAll_cons hA
  obtain ⟨v2, vs2, d2, ds2, p2, q2, rfl, rfl, rfl, h2, hA⟩ := trodAll_cons hA
  obtain ⟨v3, vs3, d3, ds3, p3, q3, rfl, rfl, rfl, h3, hA⟩ := trodAll_cons hA
  obtain ⟨v4, vs4, d4, ds4, p4, q4, rfl, rfl, rfl, h4, hA⟩ := trodAll_cons hA
  obtain ⟨v5, vs5, d5, ds5, p5, q5, rfl, rfl, rfl, h5, hA⟩ := trodAll_cons hA
  obtain ⟨rfl, rfl, rfl⟩ := trodAll_nil hA
  obtain ⟨rfl, rfl⟩ := trodVars_none hV
  have hargs : args = #[v0, v1, v2, v3, v4, v5] := Array.toList_inj.1 ea0
  subst hargs
  obtain ⟨l0, r0, s0⟩ := trod_arg tyB25 (hval 0 25 v0 rfl rfl) h0
  obtain ⟨l1, r1, s1⟩ := trod_arg tyB3 (hval 1 3 v1 rfl rfl) h1
  obtain ⟨l2, r2, s2⟩ := trod_arg tyB26 (hval 2 26 v2 rfl rfl) h2
  obtain ⟨l3, r3, s3⟩ := trod_arg tyB3 (hval 3 3 v3 rfl rfl) h3
  obtain ⟨l4, r4, s4⟩ := trod_arg tyB3 (hval 4 3 v4 rfl rfl) h4
  obtain ⟨l5, r5, s5⟩ := trod_arg tyB3 (hval 5 3 v5 rfl rfl) h5
  obtain ⟨x0, rfl⟩ := shp_land s0
  obtain ⟨x1, rfl⟩ := shp_int s1
  obtain ⟨x2, rfl⟩ := shp_draws s2
  obtain ⟨x3, rfl⟩ := shp_int s3
  obtain ⟨x4, rfl⟩ := shp_int s4
  obtain ⟨x5, rfl⟩ := shp_int s5
  simp only [argV, Try.underlying25, Try.underlying3, Try.underlying26, List.headD_cons] at r0 r1 r2 r3 r4 r5
  refine ((law_ok x0 x1 x3 x4 x5 x2).run W Tr [v0, v1, v2, v3, v4, v5] (by simp only [RL]; exact ⟨_, _, rfl, r0, _, _, rfl, r1, _, _, rfl, r2, _, _, rfl, r3, _, _, rfl, r4, _, _, rfl, r5, rfl⟩)).mono fun e W' ⟨y, he, hy, hb⟩ => ?_
  simp only [R] at hy
  subst hy
  exact ⟨_, he, post_law (P := Try.prog) Try.laidOut (by kernel_rfl) (by kernel_rfl) Try.underlying4 rfl rfl hW' hb⟩
theorem wells_holds : Rows.WayWellsSaid :=
  OpenClaim.holds_of_wide 3 Try.f3 rfl rfl rfl rfl rfl rfl rfl ⟨rfl, rfl, rfl, rfl, rfl⟩ rfl rfl rfl rfl rfl (by kernel_rfl) Try.func3 (by kernel_rfl)
    (of_decide_eq_true (by kernel_rfl)) (by unfold Func.isWrapper; first | (rw [if_pos (by decide +kernel)]; kernel_rfl) | (rw [if_neg (by decide +kernel)]; exact ⟨rfl, rfl⟩))
    (fun os started H enc _ => wells_lifted os started H enc)
end Go.Proofs.Ytkjldleglbbkeaa
