import Derived.Test.YtnlfjchbhgikaaaFIs
import Derived.Laws.BytesString
namespace Go.Sx
open Go
def byS (ns : List Int) : ByteArray := ns.foldl (fun r n => r.push (UInt8.ofNat n.toNat)) ByteArray.empty
theorem RL_vals {w : World} {E : Env} {n ok : Nat → Prop} : ∀ {l ys : List Value}, RL w E n ok (l.map SV.v) ys → ys = l
  | [], ys, h => by simpa [RL] using h
  | x :: l, ys, h => by
    simp only [List.map_cons, RL] at h
    obtain ⟨y, r, rfl, h1, h2⟩ := h
    simp only [R] at h1
    rw [h1, RL_vals h2]
theorem flat1 {α β : Type} (f : α → β) : ∀ l : List α, (l.map fun n => [f n]).flatten = l.map f
  | [] => rfl
  | x :: l => by simp only [List.map_cons, List.flatten_cons, flat1 f l]; rfl
/-- a row of bytes as a string -/
theorem raw_str {P : Program} {d : Option Nat} {u src dst ty e : Nat} {ns : List Int} {s : SV} {σ : St} {r : KT} {K : RK} (hl : lk u σ.fr = s) (hng : ∀ j b u, s ≠ .gd j b u) (hs : sprV 1 s = some (ns.map fun n => [SV.v (.int .u8 n)]))
    (hsrc : P.underlying src = some (.slice e)) (hdst : P.underlying dst = some .string) (he : P.underlying e = some (.int .u8)) (hk : putK d (.v (.string (byS ns))) none σ r K) : RAW P d (.convert src dst (.tmp u)) ty σ r K := by
  intro o C E a w next Q h1 h2 h3 hS hn hq
  have hR := FR_R (hS.fr u) (fun j b u' e => hng j b u' (hl ▸ e))
  rw [hl] at hR
  obtain ⟨cs, ⟨ad, cap, y0, y1, y2, y3⟩, hcs, _⟩ := sprV_shows hR hs
  have hflat : (ns.map fun n => [SV.v (.int .u8 n)]).flatten = (ns.map (Value.int .u8)).map SV.v := by rw [flat1 (fun n => SV.v (.int .u8 n)), List.map_map]; rfl
  rw [hflat] at hcs
  have hcs := RL_vals hcs
  subst hcs
  have hrun : (convert src dst (a.tmps.getD u undef)).run P w = .ok (.string (byS ns)) w := by
    rw [y0, run_convert_bytes_string w src dst e ad _ cap hsrc he hdst]
    cases ad with
    | none =>
      have : ns = [] := by
        rcases y3 with h | ⟨b, off, h, _⟩
        · simpa using h
        · cases h
      subst this
      simp [Conv.bytesToString, Sem.run_pure, byS]
    | some ad =>
      refine run_bytesToString w ad _ cap ns ?_
      rcases y3 with h | ⟨b, off, h, hc⟩
      · have : ns = [] := by simpa using h
        subst this
        simp [loadCells, loadCellsFrom, Sem.run_pure]
      · cases h
        have hlen : (ns.map fun n => [SV.v (.int .u8 n)]).length = (ns.map (Value.int .u8)).length := by simp
        rw [hlen]
        exact run_loadCells_list w _ _ (fun j v hv => by rw [addr_add]; exact hc j v hv)
  have hx : (execOp a.eval o).run P w = .ok (.value (.string (byS ns))) w := by
    obtain ⟨dst', op', ty', pos, after, guard⟩ := o
    simp only at h2; subst h2
    simp only [Array.getD_eq_getD_getElem?] at hrun
    simp only [execOp, Act.eval]
    simp [Sem.run_bind, hrun]
  refine wpq_res hx (by simp) ?_
  show next (a.put o.dst _) w
  rcases putK_ex hk with ⟨g1, g2⟩ | ⟨t, g1, g2, g3, g4, g5⟩
  · rw [h1, g1]; exact hn _ E _ _ g2 hS
  · rw [h1, g1]
    exact hn _ E _ _ g5 (Sim_put hS (fun b hb _ => ⟨hb, rfl⟩) (fun _ _ => Ele.rfl) (Nat.le_refl _) hS.hs g2 g3 (fun j b u e => by rw [e] at g4; cases g4) (by simp only [R]))
/-- two strings, the same or not -/
theorem raw_seq {P : Program} {d : Option Nat} {u v t t' ty : Nat} {x y : ByteArray} {σ : St} {r : KT} {K : RK} (hu : lk u σ.fr = .v (.string x)) (hv : lk v σ.fr = .v (.string y)) 
    (hk : putK d (.v (.bool (x.toList == y.toList))) none σ r K) : RAW P d (.binOp .eql t (.tmp u) (.tmp v) t') ty σ r K := by
  intro o C E a w next Q h1 h2 h3 hS hn hq
  have hx : a.eval (.tmp u) = .string x := by
    have := hS.fr u
    rw [hu] at this
    simp only [FR, R] at this
    exact this
  have hy : a.eval (.tmp v) = .string y := by
    have := hS.fr v
    rw [hv] at this
    simp only [FR, R] at this
    exact this
  have hrun : (execOp a.eval o).run P w =   .ok (.value (.bool (x.toList == y.toList))) w := by
    obtain ⟨dst', op', ty', pos, after, guard⟩ := o
    simp only at h2; subst h2
    simp only [execOp, hx, hy]
    simp [Sem.run_bind, eqGuard, binOp, Op.stringOp, Sem.run_pure]
  refine wpq_res hrun (by simp) ?_
  show next (a.put o.dst _) w
  rcases putK_ex hk with ⟨g1, g2⟩ | ⟨t, g1, g2, g3, g4, g5⟩
  · rw [h1, g1]; exact hn _ E _ _ g2 hS
  · rw [h1, g1]
    exact hn _ E _ _ g5 (Sim_put hS (fun b hb _ => ⟨hb, rfl⟩) (fun _ _ => Ele.rfl) (Nat.le_refl _) hS.hs g2 g3 (fun j b u e => by rw [e] at g4; cases g4) (by simp only [R]))
end Go.Sx
