import Derived.Test.YtnlfjchbhgikaaaCS
import Derived.Test.YtnlfjchbhgikaaaBr
import Derived.Test.YtnlfjchbhgikaaaRows
set_option maxRecDepth 100000
set_option maxHeartbeats 4000000
namespace Go.Proofs.Ytnlfjchbhgikaaa
open Go Go.Sx Go.Azalai Go.ChangeShapes Go.WideShapes Go.RowKit
theorem lift_map {α : Type} {rep : α → List SV} {q : List SV → Prop} (hq : ∀ r, q r → ∃ a, r = rep a) : ∀ {xs : List (List SV)}, (∀ r ∈ xs, q r) → ∃ l : List α, xs = l.map rep
  | [], _ => ⟨[], rfl⟩
  | x :: xs, h => by
    obtain ⟨a, rfl⟩ := hq x (h x (by simp))
    obtain ⟨l, rfl⟩ := lift_map (xs := xs) hq (fun r hr => h r (by simp [hr]))
    exact ⟨a :: l, rfl⟩
theorem shp3 {f : Nat} {l : List SV} (h : Shp Try.prog (f + 1) 3 l) : ∃ n : Int, l = [.v (.int .i64 n)] ∧ (Lit.int .i64 n).wf = true := by
  rw [Shp, Try.underlying3] at h
  exact h
theorem shp23 {f : Nat} {l : List SV} (h : Shp Try.prog (f + 2) 23 l) : ∃ w : Span, l = spanL w := by
  rw [Shp, Try.underlying23] at h
  simp only [ShpF] at h
  obtain ⟨_, _, rfl, _, h0, _, _, rfl, _, h1, rfl⟩ := h
  obtain ⟨a0, rfl, _⟩ := shp3 (f := f + 0) h0
  obtain ⟨a1, rfl, _⟩ := shp3 (f := f + 0) h1
  exact ⟨⟨a0, a1⟩, rfl⟩
theorem shp25 {f : Nat} {l : List SV} (h : Shp Try.prog (f + 3) 25 l) : ∃ w : Breed, l = breedL w := by
  rw [Shp, Try.underlying25] at h
  simp only [ShpF] at h
  obtain ⟨_, _, rfl, _, h0, _, _, rfl, _, h1, _, _, rfl, _, h2, _, _, rfl, _, h3, _, _, rfl, _, h4, _, _, rfl, _, h5, _, _, rfl, _, h6, _, _, rfl, _, h7, _, _, rfl, _, h8, _, _, rfl, _, h9, rfl⟩ := h
  obtain ⟨a0, rfl, _⟩ := shp3 (f := f + 1) h0
  obtain ⟨a1, rfl, _⟩ := shp3 (f := f + 1) h1
  obtain ⟨a2, rfl⟩ := shp23 (f := f + 0) h2
  obtain ⟨a3, rfl⟩ := shp23 (f := f + 0) h3
  obtain ⟨a4, rfl⟩ := shp23 (f := f + 0) h4
  obtain ⟨a5, rfl⟩ := shp23 (f := f + 0) h5
  obtain ⟨a6, rfl⟩ := shp23 (f := f + 0) h6
  obtain ⟨a7, rfl⟩ := shp23 (f := f + 0) h7
  obtain ⟨a8, rfl, _⟩ := shp3 (f := f + 1) h8
  obtain ⟨a9, rfl⟩ := shp23 (f := f + 0) h9
  exact ⟨⟨a0, a1, a2, a3, a4, a5, a6, a7, a8, a9⟩, rfl⟩
theorem shp4 {f : Nat} {l : List SV} (h : Shp Try.prog (f + 1) 4 l) : ∃ n : Bool, l = [B n] := by
  rw [Shp, Try.underlying4] at h
  exact h
theorem shp27 {f : Nat} {l : List SV} (h : Shp Try.prog (f + 3) 27 l) : ∃ w : Camel, l = camelL w := by
  rw [Shp, Try.underlying27] at h
  simp only [ShpF] at h
  obtain ⟨_, _, rfl, _, h0, _, _, rfl, _, h1, _, _, rfl, _, h2, _, _, rfl, _, h3, rfl⟩ := h
  obtain ⟨a0, rfl⟩ := shp23 (f := f + 0) h0
  obtain ⟨a1, rfl⟩ := shp23 (f := f + 0) h1
  obtain ⟨a2, rfl⟩ := shp23 (f := f + 0) h2
  obtain ⟨a3, rfl⟩ := shp4 (f := f + 1) h3
  exact ⟨⟨a0, a1, a2, a3⟩, rfl⟩
theorem shp29 {f : Nat} {l : List SV} (h : Shp Try.prog (f + 3) 29 l) : ∃ w : March, l = marchL w := by
  rw [Shp, Try.underlying29] at h
  simp only [ShpF] at h
  obtain ⟨_, _, rfl, _, h0, _, _, rfl, _, h1, _, _, rfl, _, h2, _, _, rfl, _, h3, _, _, rfl, _, h4, rfl⟩ := h
  obtain ⟨a0, rfl, _⟩ := shp3 (f := f + 1) h0
  obtain ⟨a1, rfl, _⟩ := shp3 (f := f + 1) h1
  obtain ⟨a2, rfl⟩ := shp23 (f := f + 0) h2
  obtain ⟨a3, rfl⟩ := shp23 (f := f + 0) h3
  obtain ⟨a4, rfl⟩ := shp23 (f := f + 0) h4
  exact ⟨⟨a0, a1, a2, a3, a4⟩, rfl⟩
theorem cells29 : Try.prog.cellsOf 29 = 8 := by kernel_rfl
theorem shp44 {f : Nat} {l : List SV} (h : Shp Try.prog (f + 4) 44 l) : ∃ ds : List March, l = [.sl false 8 (ds.map marchL)] ∧ ds.length ≤ 9223372036854775807 := by
  rw [Shp, Try.underlying44] at h
  obtain ⟨xs, rfl, hl, hx⟩ := h
  obtain ⟨ws, rfl⟩ := lift_map (rep := marchL) (fun r h => shp29 (f := f) h.2) hx
  rw [cells29]
  exact ⟨ws, rfl, by simpa using hl⟩
theorem Try.own : ownKnob Try.prog.godebug = none := by kernel_rfl
theorem Try.laidOut : laidOutB Try.prog = true := by kernel_rfl
theorem tyB25 : tyB Try.prog 20 25 = true := by kernel_rfl
theorem tyB27 : tyB Try.prog 20 27 = true := by kernel_rfl
theorem tyB44 : tyB Try.prog 20 44 = true := by kernel_rfl
theorem tyB29 : tyB Try.prog 20 29 = true := by kernel_rfl
theorem camelDays_lifted (os : Os) (started : os.Started) (H : Type) (enc : TypeId × Value → H) :
    ReturnsInHanded {} Try.checked os 5 .any (Rows.camelDaysSpec.pre6 enc Try.prog Try.f5 Rows.camelDaysRow.domain false) (Rows.camelDaysSpec.post enc Try.prog Try.f5 false true false false) := by
  refine returnsInHanded_of_change (C := Try.checked) Try.own started (by kernel_rfl) Try.func5
    (ChangeSpec.witness6 (enc := enc) (C := Try.checked) false ⟨#[], #[.agg #[.int .i64 0, .int .i64 0, .int .i64 0, .int .i64 0, .int .i64 0, .int .i64 0, .int .i64 0, .int .i64 0, .int .i64 0, .int .i64 0, .int .i64 0, .int .i64 0, .int .i64 0, .int .i64 0, .int .i64 0, .int .i64 0, .int .i64 0], .agg #[.int .i64 0, .int .i64 0, .int .i64 0, .int .i64 0, .int .i64 0, .int .i64 0, .bool false], .slice none 0 0, .agg #[.int .i64 0, .int .i64 0, .int .i64 0, .int .i64 0, .int .i64 0, .int .i64 0, .int .i64 0, .int .i64 0]], []⟩ 8 (by kernel_rfl) (by kernel_rfl) (by kernel_rfl) (by kernel_rfl)) ?_
  intro W base args ds gs before hval0 hW hcnd _
  have hval : ∀ (j : Nat) t v, Try.f5.params[j]? = some t → args[j]? = some v → Value.okWide Try.prog W .any base t v := hval0
  have hW' := hW
  obtain ⟨p, q, hA0, hV, rfl, hfz, hnd⟩ := hW
  have hA : DataW.TrodAll enc Try.prog W 0 (fun _ => true) true Try.f5.params.toList args.toList ds p := hA0
  rw [Try.params5] at hA hval
  obtain ⟨v0, vs0, d0, ds0, p0, q0, ea0, rfl, rfl, h0, hA⟩ := trodAll_cons hA
  obtain ⟨v1, vs1, d1, ds1, p1, q1, rfl, rfl, rfl, h1, hA⟩ := trodAll_cons hA
  obtain ⟨v2, vs2, d2, ds2, p2, q2, rfl, rfl, rfl, h2, hA⟩ := trodAll_cons hA
  obtain ⟨v3, vs3, d3, ds3, p3, q3, rfl, rfl, rfl, h3, hA⟩ := trodAll_cons hA
  obtain ⟨rfl, rfl, rfl⟩ := trodAll_nil hA
  obtain ⟨rfl, rfl⟩ := trodVars_none hV
  have hargs : args = #[v0, v1, v2, v3] := Array.toList_inj.1 ea0
  subst hargs
  obtain ⟨l0, r0, s0⟩ := trod_arg tyB25 (hval 0 25 v0 rfl rfl) h0
  obtain ⟨l1, r1, s1⟩ := trod_arg tyB27 (hval 1 27 v1 rfl rfl) h1
  obtain ⟨l2, r2, s2⟩ := trod_arg tyB44 (hval 2 44 v2 rfl rfl) h2
  obtain ⟨l3, r3, s3⟩ := trod_arg tyB29 (hval 3 29 v3 rfl rfl) h3
  obtain ⟨x0, rfl⟩ := shp25 s0
  obtain ⟨x1, rfl⟩ := shp27 s1
  obtain ⟨x2, rfl, b2⟩ := shp44 s2
  obtain ⟨x3, rfl⟩ := shp29 s3
  simp only [argV, Try.underlying25, Try.underlying27, Try.underlying44, Try.underlying29, List.headD_cons] at r0 r1 r2 r3
  refine ((daysLaw_ok x0 x1 x2 x3).run W Tr [v0, v1, v2, v3] (by simp only [RL]; exact ⟨_, _, rfl, r0, _, _, rfl, r1, _, _, rfl, r2, _, _, rfl, r3, rfl⟩)).mono fun e W' ⟨y, he, hy, hb⟩ => ?_
  simp only [R] at hy
  subst hy
  exact ⟨_, he, post_law (P := Try.prog) Try.laidOut (by kernel_rfl) (by kernel_rfl) Try.underlying4 rfl rfl hW' hb⟩
theorem camelDays_holds : Rows.CamelDaysSaid :=
  OpenClaim.holds_of_wide 5 Try.f5 rfl rfl rfl rfl rfl rfl rfl ⟨rfl, rfl, rfl, rfl, rfl⟩ rfl rfl rfl rfl rfl (by kernel_rfl) Try.func5 (by kernel_rfl)
    (of_decide_eq_true (by kernel_rfl)) (by unfold Func.isWrapper; first | (rw [if_pos (by decide +kernel)]; kernel_rfl) | (rw [if_neg (by decide +kernel)]; exact ⟨rfl, rfl⟩))
    (fun os started H enc _ => camelDays_lifted os started H enc)
end Go.Proofs.Ytnlfjchbhgikaaa
