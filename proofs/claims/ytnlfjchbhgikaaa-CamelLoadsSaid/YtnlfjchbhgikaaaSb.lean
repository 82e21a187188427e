/- The executor's second part: regions that draw their order, code, functions, states that say what other states say, equations of evaluation. -/
import Derived.Test.YtnlfjchbhgikaaaSa
namespace Go.Sx
open Go Go.RowKit

/-! ## regions that draw their order -/
def extH : Option (Nat × HB) → List (Nat × HB) → List (Nat × HB)
  | none, hp => hp
  | some q, hp => q :: hp
def extN : Option (Nat × HB) → (Nat → Prop) → Nat → Prop
  | none, n => n
  | some q, n => fun k => n k ∨ k = q.1
def HExt (hp hp' : List (Nat × HB)) : Prop := ∀ k, lkh k hp = .gone ∨ lkh k hp' = lkh k hp
/-- the tmps that an operation looks at -/
def rdX : X → List Nat
  | .t t => [t]
  | _ => []
def rdIO (io : Ins) : List Nat :=
  (opX io.i).flatMap rdX ++ (match io.g with | some (j, _) => [j] | none => [])
/-- what an operation of the free part does, wherever in the order it stands -/
def DynS (P : Program) (os : Array Oper) (o : Oper) (io : Ins) (fr : List (Nat × SV)) (hp0 : List (Nat × HB)) (ko : Option (Nat × HB)) : Prop :=
  ∀ C E hpX nX a w (next : Act → World → Prop) (Q : Exit → Act → World → Prop), HExt hp0 hpX → HSim C E hpX nX w → (∀ q, ko = some q → ¬ nX q.1) →
    (∀ t ∈ rdIO io, FR w E nX (okS C E hpX) fr (lk t fr) (a.tmps.getD t undef)) →
    (∀ E' w' y, (∀ k, nX k → E'.β k = E.β k ∧ E'.hv k = E.hv k) → HSim C E' (extH ko hpX) (extN ko nX) w' → Stays w w' (okS C E hpX) (okS C E' (extH ko hpX)) →
      (∀ t, io.d = some t → FR w' E' (extN ko nX) (okS C E' (extH ko hpX)) fr (lk t fr) y) → next (a.put o.dst y) w') →
    if Region.wanted o (yielded os a.tmps) then o.wp P a w next Q else next (a.put o.dst undef) w
section
variable {P : Program} {C : Cx} {E : Env} {hp hpX : List (Nat × HB)} {n : Nat → Prop} {w w' : World} {a : Act}
def C2 (C : Cx) (E : Env) (hpX : List (Nat × HB)) (w : World) : Cx := ⟨w, okS C E hpX, fun _ => True, C.ds⟩
theorem okS_C2 (hx : HExt hp hpX) (hh : HSim C E hpX n w) (b : Nat) : okS (C2 C E hpX w) E hp b ↔ okS C E hpX b := by
  constructor
  · rintro ⟨h1 | h1, h2⟩
    · exact h1
    · exact okS_fresh hh h1
  · intro h
    refine ⟨.inl h, fun k ho => ?_⟩
    rcases hx k with hk | hk
    · rw [hk] at ho; exact ho
    · rw [← hk] at ho; exact h.2 k ho
theorem HSim_C2 (hx : HExt hp hpX) (hh : HSim C E hpX n w) : HSim (C2 C E hpX w) E hp n w := by
  have hoc : ∀ k b, occ E k (lkh k hp) b → occ E k (lkh k hpX) b := fun k b ho => by
    rcases hx k with hk | hk
    · rw [hk] at ho; exact ho.elim
    · rw [hk]; exact ho
  refine ⟨fun k hk => ?_, fun k => ?_, fun k k' b h1 h2 => hh.dj k k' b (hoc k b h1) (hoc k' b h2), fun k b ho => .inr trivial, ⟨rfl, rfl, rfl, Nat.le_refl _, fun _ _ _ => rfl⟩⟩
  · rcases hx k with h | h
    · exact h
    · rw [← h]; exact hh.kn k hk
  · rcases hx k with h | h
    · rw [h]; trivial
    · rw [← h]
      refine HBok_mono (fun b hb _ => ⟨(okS_C2 hx hh b).2 hb, rfl⟩) (fun _ _ => ⟨rfl, rfl⟩) (fun _ h => h) ?_ (fun _ _ => rfl) (hh.bk k)
      rcases Classical.em (n k) with hk | hk
      · exact .inr hk
      · exact .inl (hh.kn k hk)
theorem R_iff {ok ok' : Nat → Prop} (h : ∀ b, ok b ↔ ok' b) {s : SV} {y : Value} : R w E n ok s y ↔ R w E n ok' s y := by
  rw [show ok = ok' from funext fun b => propext (h b)]
/-- an operation that yields a value does so beside blocks that are newer than its heap -/
theorem good_at {o : Oper} {i : SI} {g : Option (Nat × Bool)} {σ : St} {s : SV} (hG : Good P o i g σ s) (hx : HExt σ.hp hpX) (hh : HSim C E hpX n w)
    (hρ : ∀ p ∈ opG g i, geP p.1 σ.fr → R w E n (okS C E hpX) (rdG p.1 σ.fr p.2) (evX a p.2)) (hg : geP g σ.fr) : Yld P o a w (Post C E hpX n w s) := by
  refine yld_mono (hG (C2 C E hpX w) E n a w (HSim_C2 hx hh) (fun p hp hg => (R_iff (okS_C2 hx hh)).2 (hρ p hp hg)) hg) fun y w' ⟨h1, h2⟩ => ⟨(R_iff (okS_C2 hx hh)).1 h1, h2⟩
end
def isV : SI → Bool
  | .st _ _ _ => false
  | .raw _ _ => false
  | .box _ _ _ => false
  | .alloc _ _ => false
  | .cln _ _ _ _ _ => false
  | .mks _ _ _ _ _ => false
  | .isn _ => false
  | _ => true
def gsOK (σ : St) : Prop := ∀ t j b s, lk t σ.fr = .gd j b s → j ∈ σ.gs
/-- as 'DynS', with the frame before and the frame after -/
def DynT (P : Program) (os : Array Oper) (o : Oper) (io : Ins) (fr fr1 : List (Nat × SV)) (hp0 : List (Nat × HB)) (ko : Option (Nat × HB)) : Prop :=
  ∀ C E hpX nX a w (next : Act → World → Prop) (Q : Exit → Act → World → Prop), HExt hp0 hpX → HSim C E hpX nX w → (∀ q, ko = some q → ¬ nX q.1) →
    (∀ t ∈ rdIO io, FR w E nX (okS C E hpX) fr (lk t fr) (a.tmps.getD t undef)) →
    (∀ E' w' y, (∀ k, nX k → E'.β k = E.β k ∧ E'.hv k = E.hv k) → HSim C E' (extH ko hpX) (extN ko nX) w' → Stays w w' (okS C E hpX) (okS C E' (extH ko hpX)) →
      (∀ t, io.d = some t → FR w' E' (extN ko nX) (okS C E' (extH ko hpX)) fr1 (lk t fr1) y) → next (a.put o.dst y) w') →
    if Region.wanted o (yielded os a.tmps) then o.wp P a w next Q else next (a.put o.dst undef) w
def bas : Option (Nat × HB) → List (Nat × HB) → List (Nat × HB)
  | none, hp => hp
  | some _, _ => []
structure SStep (P : Program) (os : Array Oper) (o : Oper) (io : Ins) (σ σ1 : St) (ko : Option (Nat × HB)) : Prop where
  hp : σ1.hp = extH ko σ.hp
  n : (ko = none ∧ σ1.n = σ.n) ∨ ∃ hb, ko = some (σ.n, hb) ∧ σ1.n = σ.n + 1
  N : σ1.N = σ.N
  gs : ∀ j ∈ σ.gs, j ∈ σ1.gs
  gsOK : gsOK σ1
  fr : (io.d = none ∧ σ1.fr = σ.fr) ∨ ∃ t s, io.d = some t ∧ t ∉ σ1.gs ∧ t < σ.N ∧ σ1.fr = (t, s) :: σ.fr
  dyn : DynT P os o io σ.fr σ1.fr (bas ko σ.hp) ko
section
variable {P : Program} {os : Array Oper} {o : Oper} {io : Ins} {σ : St} {r : KT} {K : St → Prop}
theorem rdG_at {w : World} {E : Env} {n ok : Nat → Prop} {fr : List (Nat × SV)} {a : Act} {g : Option (Nat × Bool)} {x : X} (h : ∀ t ∈ rdX x, FR w E n ok fr (lk t fr) (a.tmps.getD t undef)) (hg : geP g fr) : R w E n ok (rdG g fr x) (evX a x) := by
  cases x with
  | t t => exact strip_ok (h t (by simp [rdX])) hg
  | c x => exact strip_ok (fr := fr) (s := .v x) (show R w E n ok (.v x) x by simp [R]) hg
  | f i => exact strip_ok (fr := fr) (s := .cl i []) (show R w E n ok (.cl i []) _ by simp [R, RL, evX]) hg
theorem opG_opX {g : Option (Nat × Bool)} {i : SI} {p : Option (Nat × Bool) × X} (h : p ∈ opG g i) : p.2 ∈ opX i := by
  cases i <;> simp only [opG] at h <;> try (obtain ⟨x, h1, rfl⟩ := List.mem_map.1 h; exact h1)
  rename_i c x y
  split at h <;> simp at h
  · rcases h with rfl | rfl | rfl <;> simp [opX]
  · subst h; simp [opX]
theorem putK_ex {d : Option Nat} {s : SV} (h : putK d s none σ r K) : (d = none ∧ r σ K) ∨ ∃ t, d = some t ∧ t ∉ σ.gs ∧ t < σ.N ∧ gdS s = false ∧ r ⟨(t, s) :: σ.fr, σ.hp, σ.n, σ.N, σ.gs⟩ K := by
  cases d with
  | none => exact .inl ⟨rfl, h⟩
  | some t =>
    refine .inr ⟨t, rfl, ?_⟩
    simp only [putK] at h
    cases hm : memb t σ.gs <;> cases hN : Nat.blt t σ.N <;> cases hs : gdS s <;> rw [hm, hN, hs] at h <;> first | exact h.elim | skip
    exact ⟨fun hh => (by rw [memb_iff.2 hh] at hm; cases hm), by simpa [Nat.blt_eq] using hN, rfl, h⟩
theorem putK_exg {d : Option Nat} {s : SV} {j : Nat} {b : Bool} (h : putK d s (some (j, b)) σ r K) : ∃ t, d = some t ∧ t ∉ σ.gs ∧ t < σ.N ∧ t ≠ j ∧ r ⟨(t, .gd j b s) :: σ.fr, σ.hp, σ.n, σ.N, j :: σ.gs⟩ K := by
  cases d with
  | none => exact h.elim
  | some t =>
    refine ⟨t, rfl, ?_⟩
    simp only [putK] at h
    cases hm : memb t σ.gs <;> cases hN : Nat.blt t σ.N <;> cases hj : Nat.beq t j <;> rw [hm, hN, hj] at h <;> first | exact h.elim | skip
    exact ⟨fun hh => (by rw [memb_iff.2 hh] at hm; cases hm), by simpa [Nat.blt_eq] using hN, fun e => (by subst e; rw [Nat.beq_refl] at hj; cases hj), h⟩
theorem gsOK_put {t : Nat} {s : SV} (h : gsOK σ) (hs : ∀ j b u, s ≠ .gd j b u) (hp : List (Nat × HB)) (n : Nat) : gsOK ⟨(t, s) :: σ.fr, hp, n, σ.N, σ.gs⟩ := by
  intro u j b v hu
  simp only [lk_cons] at hu
  split at hu
  · exact absurd hu (hs _ _ _)
  · exact h u j b v hu
theorem gsOK_putg {t j : Nat} {b : Bool} {s : SV} (h : gsOK σ) : gsOK ⟨(t, .gd j b s) :: σ.fr, σ.hp, σ.n, σ.N, j :: σ.gs⟩ := by
  intro u j' b' v hu
  simp only [lk_cons] at hu
  split at hu
  · cases hu; simp
  · simp [h u j' b' v hu]
/-- an operation that runs unguarded, or whose guard is known to hold -/
theorem sstep_run {d : Option Nat} {i : SI} {s : SV} (hgs : gsOK σ) (hdo : io.d = o.dst) (hd : io.d = d) (hi : io.i = i) (hp : putK d s none σ r K) (hG : Good P o i none σ s)
    (hw : ∀ (a : Act) w E n ok, (∀ t ∈ rdIO io, FR w E n ok σ.fr (lk t σ.fr) (a.tmps.getD t undef)) → Region.wanted o (yielded os a.tmps) = true) : ∃ σ1, r σ1 K ∧ SStep P os o io σ σ1 none := by
  have key : ∀ C E hpX nX a w (next : Act → World → Prop) (Q : Exit → Act → World → Prop), HExt σ.hp hpX → HSim C E hpX nX w →
    (∀ t ∈ rdIO io, FR w E nX (okS C E hpX) σ.fr (lk t σ.fr) (a.tmps.getD t undef)) →
    (∀ w' y, HSim C E hpX nX w' → Below w.heap.size w w' → R w' E nX (okS C E hpX) s y → next (a.put o.dst y) w') → if Region.wanted o (yielded os a.tmps) then o.wp P a w next Q else next (a.put o.dst undef) w := by
    intro C E hpX nX a w next Q hx hh hr hn
    rw [if_pos (hw a w E nX _ hr)]
    refine good_at hG hx hh (fun p hp' hg => rdG_at (fun t ht => hr t ?_) hg) trivial next Q fun y w' ⟨h1, h2⟩ => hn w' y (HSim_below hh h2) h2 h1
    simp only [rdIO, List.mem_append, List.mem_flatMap]
    exact .inl ⟨_, by rw [hi]; exact opG_opX hp', ht⟩
  rcases putK_ex hp with ⟨rfl, h⟩ | ⟨t, rfl, h1, h2, h4, h3⟩
  · exact ⟨σ, h, ⟨rfl, .inl ⟨rfl, rfl⟩, rfl, fun _ h => h, hgs, .inl ⟨hd, rfl⟩, fun C E hpX nX a w next Q hx hh _ hr hn => key C E hpX nX a w next Q hx hh hr fun w' y k1 k2 k3 =>
      hn E w' y (fun _ _ => ⟨rfl, rfl⟩) k1 (stays_below k2) (fun t ht => by rw [hd] at ht; cases ht)⟩⟩
  · have hs := gdS_ne h4
    refine ⟨_, h3, ⟨rfl, .inl ⟨rfl, rfl⟩, rfl, fun _ h => h, gsOK_put hgs hs _ _, .inr ⟨t, s, hd, h1, h2, rfl⟩, fun C E hpX nX a w next Q hx hh _ hr hn => key C E hpX nX a w next Q hx hh hr fun w' y k1 k2 k3 =>
      hn E w' y (fun _ _ => ⟨rfl, rfl⟩) k1 (stays_below k2) (fun u hu => ?_)⟩⟩
    rw [hd] at hu; cases hu
    simp only [lk_cons, if_true, extN, extH]
    cases s <;> first | exact k3 | exact absurd rfl (hs _ _ _)
/-- an operation whose guard is known not to hold -/
theorem sstep_skip (hgs : gsOK σ) (hdo : io.d = o.dst) (hp : putK io.d (.v undef) none σ r K)
    (hw : ∀ (a : Act) w E n ok, (∀ t ∈ rdIO io, FR w E n ok σ.fr (lk t σ.fr) (a.tmps.getD t undef)) → Region.wanted o (yielded os a.tmps) = false) : ∃ σ1, r σ1 K ∧ SStep P os o io σ σ1 none := by
  rcases putK_ex hp with ⟨hd, h⟩ | ⟨t, hd, h1, h2, h4, h3⟩
  · refine ⟨σ, h, ⟨rfl, .inl ⟨rfl, rfl⟩, rfl, fun _ h => h, hgs, .inl ⟨hd, rfl⟩, fun C E hpX nX a w next Q hx hh _ hr hn => ?_⟩⟩
    rw [if_neg (by rw [hw a w E nX _ hr]; simp)]
    exact hn E w undef (fun _ _ => ⟨rfl, rfl⟩) hh (stays_below (Below.refl _ _)) (fun t ht => by rw [hd] at ht; cases ht)
  · refine ⟨_, h3, ⟨rfl, .inl ⟨rfl, rfl⟩, rfl, fun _ h => h, gsOK_put hgs (fun _ _ _ e => by cases e) _ _, .inr ⟨t, _, hd, h1, h2, rfl⟩, fun C E hpX nX a w next Q hx hh _ hr hn => ?_⟩⟩
    rw [if_neg (by rw [hw a w E nX _ hr]; simp)]
    refine hn E w undef (fun _ _ => ⟨rfl, rfl⟩) hh (stays_below (Below.refl _ _)) (fun u hu => ?_)
    rw [hd] at hu; cases hu
    simp only [lk_cons, if_true]
    exact (by simp [R] : R w E nX (okS C E hpX) (.v undef) undef)
/-- whether a guarded operation is wanted -/
theorem wanted_of {fr : List (Nat × SV)} {w : World} {E : Env} {n ok : Nat → Prop} {a : Act} {j : Nat} {wt : Bool}
    (hgd : ∃ j', o.guard = some (j', wt) ∧ (os[j']?).bind (·.dst) = some j) (hFR : FR w E n ok fr (lk j fr) (a.tmps.getD j undef))
    (hb : (∃ b, lk j fr = .v (.bool b)) ∨ ∃ j' b' b, lk j fr = .gd j' b' (.v (.bool b))) : Region.wanted o (yielded os a.tmps) = true ↔ ge fr j wt := by
  obtain ⟨j', h2, hdst⟩ := hgd
  simp only [Region.wanted, h2, yielded, hdst, Option.bind_some]
  rcases hb with ⟨b, hb⟩ | ⟨j0, b0, b, hb⟩
  · rw [hb] at hFR
    have hv : a.tmps.getD j undef = .bool b := hFR
    have hv' : a.tmps[j]? = some (.bool b) := by
      cases hq : a.tmps[j]? <;> simp [hq] at hv
      · cases hv
      · exact congrArg some hv
    simp only [hv', beq_iff_eq, Option.some.injEq]
    exact ⟨fun e => .base (by rw [hb, e]), fun e => GE_v e hb⟩
  · rw [hb] at hFR
    obtain ⟨f1, f2⟩ := hFR
    by_cases hge : ge fr j0 b0
    · have hv : a.tmps.getD j undef = .bool b := by have := f1 hge; simpa only [R] using this
      have hv' : a.tmps[j]? = some (.bool b) := by
        cases hq : a.tmps[j]? <;> simp [hq] at hv
        · cases hv
        · exact congrArg some hv
      simp only [hv', beq_iff_eq, Option.some.injEq]
      exact ⟨fun e => .step (by rw [hb, e]) hge, fun e => by have := (GE_gd e hb).2; simpa using this⟩
    · have hv := f2 hge
      have hv' : a.tmps[j]? = none ∨ a.tmps[j]? = some undef := by
        cases hq : a.tmps[j]? <;> simp [hq] at hv
        · exact .inl rfl
        · exact .inr (congrArg some hv)
      constructor
      · intro e; rcases hv' with hv' | hv' <;> simp [hv', undef] at e
      · intro e; exact absurd (GE_gd e hb).1 hge
/-- a guarded operation, its guard not known -/
theorem sstep_guard {s : SV} {j : Nat} {wt : Bool} (hgs : gsOK σ) (hdo : io.d = o.dst) (hg : io.g = some (j, wt)) (hp : putK io.d s (some (j, wt)) σ r K) (hG : Good P o io.i (some (j, wt)) σ s)
    (hgd : ∃ j', o.guard = some (j', wt) ∧ (os[j']?).bind (·.dst) = some j) (hb : (∃ b, lk j σ.fr = .v (.bool b)) ∨ ∃ j' b' b, lk j σ.fr = .gd j' b' (.v (.bool b))) : ∃ σ1, r σ1 K ∧ SStep P os o io σ σ1 none := by
  obtain ⟨t, hd, h1, h2, h5, h3⟩ := putK_exg hp
  have htg : t ∉ j :: σ.gs := by simp [h5, h1]
  refine ⟨_, h3, ⟨rfl, .inl ⟨rfl, rfl⟩, rfl, fun k hk => by simp [hk], gsOK_putg hgs, .inr ⟨t, _, hd, htg, h2, rfl⟩, fun C E hpX nX a w next Q hx hh _ hr hn => ?_⟩⟩
  have hwant := wanted_of (os := os) (o := o) (fr := σ.fr) (w := w) (E := E) (n := nX) (ok := okS C E hpX) (a := a) hgd (hr j (by simp [rdIO, hg])) hb
  have hge : ∀ b, ge ((t, .gd j wt s) :: σ.fr) j b ↔ ge σ.fr j b := fun b => GE_push (gs := j :: σ.gs) (fun u j' b' v hu => by simp [hgs u j' b' v hu]) htg (by simp)
  split
  · rename_i hw
    have hg1 := hwant.1 hw
    refine good_at hG hx hh (fun p hp' hg' => rdG_at (fun t ht => hr t ?_) hg') hg1 next Q fun y w' ⟨k1, k2⟩ => hn E w' y (fun _ _ => ⟨rfl, rfl⟩) (HSim_below hh k2) (stays_below k2) (fun u hu => ?_)
    · simp only [rdIO, List.mem_append, List.mem_flatMap]
      exact .inl ⟨_, opG_opX hp', ht⟩
    · rw [hd] at hu; cases hu
      simp only [lk_cons, if_true]
      exact ⟨fun _ => k1, fun hh => absurd ((hge wt).2 hg1) hh⟩
  · rename_i hw
    have hg1 : ¬ ge σ.fr j wt := fun h => hw (hwant.2 h)
    refine hn E w undef (fun _ _ => ⟨rfl, rfl⟩) hh (stays_below (Below.refl _ _)) (fun u hu => ?_)
    rw [hd] at hu; cases hu
    simp only [lk_cons, if_true]
    exact ⟨fun h => absurd ((hge wt).1 h) hg1, fun _ => rfl⟩
theorem cmpO_guard {j : Nat} {wt : Bool} (hc : cmpO P os io o = true) (hg : io.g = some (j, wt)) : ∃ j', o.guard = some (j', wt) ∧ (os[j']?).bind (·.dst) = some j := by
  simp only [cmpO, Bool.and_eq_true, decide_eq_true_eq] at hc
  have h3 := hc.2
  rw [hg] at h3
  cases hq : o.guard with
  | none => rw [hq] at h3; cases h3
  | some q =>
    obtain ⟨j', w'⟩ := q
    rw [hq] at h3
    simp only [Bool.and_eq_true, beq_iff_eq] at h3
    obtain ⟨rfl, h3⟩ := h3
    refine ⟨j', rfl, ?_⟩
    split at h3
    · rename_i t' ht'; simp at h3; subst h3; exact ht'
    · cases h3
theorem cmpO_none (hc : cmpO P os io o = true) (hg : io.g = none) : o.guard = none := by
  simp only [cmpO, Bool.and_eq_true, decide_eq_true_eq] at hc
  have h3 := hc.2
  rw [hg] at h3
  cases hq : o.guard <;> simp [hq] at h3 ⊢
theorem cmpI_V {i : SI} (hv : isV i = true) (h : cmpI P i o = true) : cmpOp P i o.op = true := by
  cases i <;> first | exact h | (simp [isV] at hv)
theorem stp_V {i : SI} {d : Option Nat} (hv : isV i = true) (h : stp P d i σ r K) : stpV P none d i σ r K := by
  cases i <;> first | exact h | (simp [isV] at hv)
theorem vstep (hc : cmpO P os io o = true) (hv : isV io.i = true) (hgs : gsOK σ) (h : st1 P io σ r K) : ∃ σ1, r σ1 K ∧ SStep P os o io σ σ1 none := by
  have hc' := hc
  simp only [cmpO, Bool.and_eq_true, decide_eq_true_eq] at hc'
  obtain ⟨⟨hd, hci⟩, _⟩ := hc'
  have hci := cmpI_V hv hci
  obtain ⟨d, i, g, af⟩ := io
  rcases g with _ | ⟨j, wt⟩
  · simp only [st1] at h
    obtain ⟨s, h1, h2⟩ := stpV_sound hci (stp_V hv h)
    have hg := cmpO_none hc rfl
    exact sstep_run hgs hd rfl rfl h1 h2 (fun a w E n ok _ => by simp [Region.wanted, hg])
  · simp only [st1, gK] at h
    have hg := cmpO_guard (j := j) (wt := wt) hc rfl
    split at h
    · rename_i b hb
      have hw : ∀ (a : Act) w E n ok, (∀ t ∈ rdIO ⟨d, i, some (j, wt), af⟩, FR w E n ok σ.fr (lk t σ.fr) (a.tmps.getD t undef)) → (Region.wanted o (yielded os a.tmps) = true ↔ ge σ.fr j wt) := fun a w E n ok hr =>
        wanted_of hg (hr j (by simp [rdIO])) (.inl ⟨b, hb⟩)
      rcases h with ⟨rfl, h⟩ | ⟨hne, h⟩ | h
      · obtain ⟨s, h1, h2⟩ := stpV_sound hci (stp_V hv h)
        exact sstep_run hgs hd rfl rfl h1 h2 (fun a w E n ok hr => (hw a w E n ok hr).2 (.base hb))
      · refine sstep_skip hgs hd h (fun a w E n ok hr => ?_)
        rw [Bool.eq_false_iff]
        intro hh
        exact hne (GE_v ((hw a w E n ok hr).1 hh) hb)
      · obtain ⟨s, h1, h2⟩ := stpV_sound hci h
        exact sstep_guard hgs hd rfl h1 h2 hg (.inl ⟨b, hb⟩)
    · rename_i j' b' b hb
      obtain ⟨s, h1, h2⟩ := stpV_sound hci h
      exact sstep_guard hgs hd rfl h1 h2 hg (.inr ⟨j', b', b, hb⟩)
    · cases h
def isA (io : Ins) : Bool :=
  match io.g with
  | some _ => false
  | none => match io.i with
    | .box _ _ _ => true
    | .alloc _ _ => true
    | .cln _ _ _ _ _ => true
    | .mks _ _ _ _ _ => true
    | _ => false
theorem rowK_ex {d : Option Nat} {m : Nat} {xs : List (List SV)} {T : TypeId} (h : rowK d m xs T σ r K) : ∃ t, d = some t ∧ t ∉ σ.gs ∧ t < σ.N ∧ r ⟨(t, .mr σ.n) :: σ.fr, (σ.n, .row m xs T) :: σ.hp, σ.n + 1, σ.N, σ.gs⟩ K := by
  unfold rowK at h
  split at h
  · rename_i t
    refine ⟨t, rfl, ?_⟩
    cases hm : memb t σ.gs <;> cases hN : Nat.blt t σ.N <;> rw [hm, hN] at h <;> first | exact h.elim | skip
    exact ⟨fun hh => (by rw [memb_iff.2 hh] at hm; cases hm), by simpa [Nat.blt_eq] using hN, h⟩
  · exact h.elim
theorem newK_ex {d : Option Nat} {c : Option (List SV)} {T : TypeId} (h : newK d c T σ r K) : ∃ t l, d = some t ∧ c = some l ∧ t ∉ σ.gs ∧ t < σ.N ∧ r ⟨(t, .p σ.n 0) :: σ.fr, (σ.n, .cells l T) :: σ.hp, σ.n + 1, σ.N, σ.gs⟩ K := by
  unfold newK at h
  split at h
  · rename_i t l
    refine ⟨t, l, rfl, rfl, ?_⟩
    cases hm : memb t σ.gs <;> cases hN : Nat.blt t σ.N <;> rw [hm, hN] at h <;> first | exact h.elim | skip
    exact ⟨fun hh => (by rw [memb_iff.2 hh] at hm; cases hm), by simpa [Nat.blt_eq] using hN, h⟩
  · exact h.elim
theorem astep (hc : cmpO P os io o = true) (ha : isA io = true) (hgs : gsOK σ) (h : st1 P io σ r K) : ∃ σ1 hb, r σ1 K ∧ SStep P os o io σ σ1 (some (σ.n, hb)) ∧ ∀ t, io.d = some t → lk t σ1.fr = .p σ.n 0 ∨ lk t σ1.fr = .mr σ.n := by
  have hc' := hc
  simp only [cmpO, Bool.and_eq_true, decide_eq_true_eq] at hc'
  obtain ⟨⟨hd, hci⟩, _⟩ := hc'
  obtain ⟨d, i, g, af⟩ := io
  cases g with
  | some q => simp [isA] at ha
  | none =>
    have hgn := cmpO_none hc rfl
    simp only [st1] at h
    have fin : ∀ (c : Option (List SV)) (T : TypeId), newK d c T σ r K → (∀ (C : Cx) (E : Env) hpX nX (a : Act) (w : World) (l : List SV), c = some l → HSim C E hpX nX w → (∀ t ∈ rdIO ⟨d, i, none, af⟩, FR w E nX (okS C E hpX) σ.fr (lk t σ.fr) (a.tmps.getD t undef)) →
        ∃ cs : Array Value, (execOp a.eval o).run P w = .ok (.value (.pointer (some ⟨w.heap.size, 0, none⟩))) (w.alloc (.cells cs T)) ∧ RL w E nX (okS C E hpX) l cs.toList) →
        ∃ σ1 hb, r σ1 K ∧ SStep P os o ⟨d, i, none, af⟩ σ σ1 (some (σ.n, hb)) ∧ ∀ t, d = some t → lk t σ1.fr = .p σ.n 0 ∨ lk t σ1.fr = .mr σ.n := by
      intro c T hn hrun
      obtain ⟨t, l, h1, h2, h3, h4, h5⟩ := newK_ex hn
      refine ⟨_, .cells l T, h5, ⟨rfl, .inr ⟨_, rfl, rfl⟩, rfl, fun _ h => h, gsOK_put hgs (fun _ _ _ e => by cases e) _ _, .inr ⟨t, _, h1, h3, h4, rfl⟩, fun C E hpX nX a w next Q hx hh hq hr hn => ?_⟩, fun u hu => by rw [h1] at hu; cases hu; simp [lk_cons]⟩
      rw [if_pos (by simp [Region.wanted, hgn])]
      obtain ⟨cs, e1, e2⟩ := hrun C E hpX nX a w l h2 hh hr
      obtain ⟨E', k1, k2, k3, k4⟩ := HSim_new (T := T) hh (hq _ rfl) e2
      unfold Oper.wp
      rw [e1]
      refine hn E' _ _ k1 k3 k4 (fun u hu => ?_)
      simp only at hu; rw [h1] at hu; cases hu
      simp only [lk_cons, if_true, extN]
      simp [FR, R, k2]
    have finr : ∀ (m : Nat) (xs : List (List SV)) (T : TypeId), rowK d m xs T σ r K → (∀ (C : Cx) (E : Env) hpX nX (a : Act) (w : World), HSim C E hpX nX w → (∀ t ∈ rdIO ⟨d, i, none, af⟩, FR w E nX (okS C E hpX) σ.fr (lk t σ.fr) (a.tmps.getD t undef)) →
        ∃ v w', (execOp a.eval o).run P w = .ok (.value v) w' ∧ Below w.heap.size w w' ∧ RowV C E hpX nX w w' m xs T v) →
        ∃ σ1 hb, r σ1 K ∧ SStep P os o ⟨d, i, none, af⟩ σ σ1 (some (σ.n, hb)) ∧ ∀ t, d = some t → lk t σ1.fr = .p σ.n 0 ∨ lk t σ1.fr = .mr σ.n := by
      intro m xs T hn hrun
      obtain ⟨t, h1, h3, h4, h5⟩ := rowK_ex hn
      refine ⟨_, .row m xs T, h5, ⟨rfl, .inr ⟨_, rfl, rfl⟩, rfl, fun _ h => h, gsOK_put hgs (fun _ _ _ e => by cases e) _ _, .inr ⟨t, _, h1, h3, h4, rfl⟩, fun C E hpX nX a w next Q hx hh hq hr hn => ?_⟩, fun u hu => by rw [h1] at hu; cases hu; simp [lk_cons]⟩
      rw [if_pos (by simp [Region.wanted, hgn])]
      obtain ⟨v, w', e1, e2, e3⟩ := hrun C E hpX nX a w hh hr
      obtain ⟨E', k1, k2, k3, k4⟩ := HSim_newrow (T := T) hh (hq _ rfl) e2 e3
      unfold Oper.wp
      rw [e1]
      refine hn E' _ _ k1 k3 k4 (fun u hu => ?_)
      simp only at hu; rw [h1] at hu; cases hu
      simp only [lk_cons, if_true, extN]
      simp only [FR, R, k2]
      refine ⟨by simp, trivial, ?_⟩
      rcases e3 with ⟨_, a0, rfl⟩ | ⟨cap, cs, rfl, _⟩ <;> rfl
    cases i <;> try (simp [isA] at ha; done)
    case cln m b T x y _ =>
      simp only [stp, clnK] at h
      split at h
      case h_2 => cases h
      case h_3 => cases h
      case h_4 => cases h
      rename_i ys hxs hys
      obtain ⟨hlim, h⟩ := h
      refine finr _ _ _ h fun C E hpX nX a w hh hr => ?_
      exact cln_run hci (rdG_at (fr := σ.fr) (g := none) (x := x) (fun t ht => hr t (by simp [rdIO, opX, ht])) trivial) (rdG_at (fr := σ.fr) (g := none) (x := y) (fun t ht => hr t (by simp [rdIO, opX, ht])) trivial) hxs hys hlim
    case mks m b z T x _ =>
      simp only [stp, mksK] at h
      split at h
      case h_2 => cases h
      rename_i kd n hx
      obtain ⟨k, rfl, hlim, h⟩ := h
      refine finr _ _ _ h fun C E hpX nX a w hh hr => ?_
      have hRx := rdG_at (fr := σ.fr) (g := none) (x := x) (fun t ht => hr t (by simp [rdIO, opX, ht])) trivial
      rw [hx] at hRx; simp only [R] at hRx
      exact mks_run hci hRx hlim
    case box x m T _ =>
      refine fin _ _ h fun C E hpX nX a w l hl hh hr => ?_
      obtain ⟨dst, op, ty, pos, after, guard⟩ := o
      simp only [cmpI] at hci
      cases op <;> simp [cmpOp] at hci
      obtain ⟨rfl, hx⟩ := hci
      have hR := rdG_at (fr := σ.fr) (g := none) (x := x) (fun t ht => hr t (by simp [rdIO, opX, ht])) trivial
      exact ⟨_, by simp [execOp, cmpX_sound hx a, Instr.box, newVar, newRow], R_cells hR hl⟩
    case alloc z T _ =>
      refine fin _ _ h fun C E hpX nX a w l hl hh hr => ?_
      obtain ⟨dst, op, ty, pos, after, guard⟩ := o
      simp only [cmpI] at hci
      cases op <;> simp [cmpOp] at hci
      obtain ⟨rfl, hz⟩ := hci
      split at hz
      · rename_i zv hzv
        have hzl := eqVs_sound hz
        simp only [Option.some.injEq] at hl; subst hl
        exact ⟨zv.cells, by simp [execOp, Instr.alloc, Sem.run_bind, run_zeroOf hzv, newVar, newRow], by rw [hzl, lit_eq]; exact RL_v z⟩
      · cases hz
end
abbrev It := Nat × Ins × Oper
def Down (listed : Array Bool) (all : List It) : Prop :=
  ∀ x ∈ all, listed.getD x.1 false = true → ∀ e ∈ x.2.2.after, Region.binds .any e = true → listed.getD e.on false = true
def PrL (listed : Array Bool) (x : It) : Prop := ∀ e ∈ x.2.2.after, Region.binds .any e = true → listed.getD e.on false = true
def Needs (all : List It) (y : It) (j : Nat) : Prop := ∀ listed : Array Bool, Down listed all → PrL listed y → listed.getD j false = true
def TOk (sz : Nat) (all : List It) : List It → Prop
  | [] => True
  | x :: T => (∀ e ∈ x.2.2.after, Region.binds .any e = true → e.on < sz ∧ e.on ∉ (x :: T).map (·.1)) ∧ (∀ y ∈ T, Needs all y x.1) ∧ TOk sz all T
section
variable {P : Program} {os : Array Oper} {K : St → Prop} {C : Cx} {Q : Exit → Act → World → Prop}
theorem getD_set {listed : Array Bool} {i j : Nat} (hi : i < listed.size) : (listed.setIfInBounds i true).getD j false = if j = i then true else listed.getD j false := by
  by_cases h : j = i
  · subst h; simp [hi]
  · simp [h, Ne.symm h]
theorem down_set {listed : Array Bool} {all : List It} {x : It} (hx : x ∈ all) (hos : ∀ y ∈ all, os[y.1]? = some y.2.2) (hi : x.1 < listed.size) (hd : Down listed all) (hp : PrL listed x) : Down (listed.setIfInBounds x.1 true) all := by
  intro y hy hl e he hb
  rw [getD_set hi] at hl ⊢
  split
  · rfl
  · split at hl
    · rename_i h
      have : y.2.2 = x.2.2 := by
        have h1 := hos y hy; have h2 := hos x hx
        rw [h] at h1; rw [h1] at h2; exact Option.some.inj h2
      rw [this] at he
      exact hp e he hb
    · exact hd y hy hl e he hb
theorem tphase {all : List It} (hos : ∀ y ∈ all, os[y.1]? = some y.2.2) (hco : ∀ y ∈ all, cmpO P os y.2.1 y.2.2 = true) (hK : ∀ σ, K σ → ∀ E a w, Sim C E σ a w → Q .normal a w) :
    ∀ (T : List It) (listed : Array Bool) (σ : St) E a w, listed.size = os.size → (∀ j, j < os.size → (listed.getD j false = false ↔ j ∈ T.map (·.1))) → Down listed all → TOk os.size all T → (∀ x ∈ T, x ∈ all) → (T.map (·.1)).Nodup →
      rx P (T.map (·.2.1)) σ K → Sim C E σ a w → wpAny P .any os Q T.length listed a w
  | [], listed, σ, E, a, w, hsz, hun, hd, hT, hall, hnd, hr, hs => by
    refine ⟨?_, hK σ hr E a w hs⟩
    rw [List.eq_nil_iff_forall_not_mem]
    intro j hj
    obtain ⟨h1, o, h2, _⟩ := mem_ready.1 hj
    have hlt : j < os.size := (Array.getElem?_eq_some_iff.1 h2).1
    have := (hun j hlt).1 (by simp [Array.getD, hsz, hlt] at h1 ⊢; exact h1)
    simp at this
  | x :: T, listed, σ, E, a, w, hsz, hun, hd, hT, hall, hnd, hr, hs => by
    obtain ⟨t1, t2, t3⟩ := hT
    have hxa := hall x (List.mem_cons_self ..)
    have hox := hos x hxa
    have hlt : x.1 < os.size := (Array.getElem?_eq_some_iff.1 hox).1
    have hpx : PrL listed x := fun e he hb => by
      obtain ⟨q1, q2⟩ := t1 e he hb
      cases hq : listed.getD e.on false
      · exact absurd ((hun _ q1).1 hq) q2
      · rfl
    have hgd : ∀ j, j < os.size → listed.getD j true = listed.getD j false := fun j hj => by simp [Array.getD, hsz, hj]
    have hux : listed.getD x.1 false = false := (hun _ hlt).2 (by simp)
    have hready : x.1 ∈ Region.ready .any os listed := mem_ready.2 ⟨by rw [hgd _ hlt]; exact hux, x.2.2, hox, hpx⟩
    refine ⟨fun h => by rw [h] at hready; simp at hready, fun i hi => ?_⟩
    obtain ⟨h1, o, h2, h3⟩ := mem_ready.1 hi
    have hilt : i < os.size := (Array.getElem?_eq_some_iff.1 h2).1
    rw [hgd _ hilt] at h1
    have hiT := (hun i hilt).1 h1
    have hix : i = x.1 := by
      rw [List.map_cons, List.mem_cons] at hiT
      rcases hiT with h | h
      · exact h
      · obtain ⟨y, hy, rfl⟩ := List.mem_map.1 h
        have hoy := hos y (hall y (by simp [hy]))
        rw [hoy] at h2; cases h2
        have := t2 y hy listed hd h3
        rw [hux] at this; cases this
    subst hix
    unfold wpOp
    rw [hox]
    simp only
    have hx2 : x.1 < listed.size := by rw [hsz]; exact hlt
    have hnd' := hnd
    rw [List.map_cons, List.nodup_cons] at hnd'
    have key := st1_sound (next := wpAny P .any os Q T.length (listed.setIfInBounds x.1 true)) (Q := Q) (hco x hxa) (show st1 P x.2.1 σ (rx P (T.map (·.2.1))) K from hr) hs (fun σ' E' a' w' k1 k2 =>
      tphase hos hco hK T (listed.setIfInBounds x.1 true) σ' E' a' w' (by simp [hsz]) (fun j hj => by
        rw [getD_set hx2]
        by_cases hjx : j = x.1
        · simp only [if_pos hjx]
          subst hjx
          exact ⟨fun h => (by cases h), fun h => absurd h hnd'.1⟩
        · rw [if_neg hjx, hun j hj, List.map_cons, List.mem_cons]
          exact ⟨fun h => h.resolve_left hjx, .inr⟩) (down_set hxa hos hx2 hd hpx) t3 (fun y hy => hall y (by simp [hy])) hnd'.2 k1 k2)
    split
    · rename_i hw; rw [if_pos hw] at key; exact .inl key
    · rename_i hw; rw [if_neg hw] at key; exact key
end

/-! ## stores among the operations whose order is drawn -/
inductive Kd where
  | v (hp : List (Nat × HB))
  | a (k : Nat) (hb : HB)
  | b (k : Nat) (h0 h1 : HB)
def Kd.pre (hpX : List (Nat × HB)) (nX : Nat → Prop) : Kd → Prop
  | .v hp => HExt hp hpX
  | .a k _ => ¬ nX k
  | .b k h0 _ => lkh k hpX = h0
def Kd.eff (hpX : List (Nat × HB)) : Kd → List (Nat × HB)
  | .v _ => hpX
  | .a k hb => (k, hb) :: hpX
  | .b k _ hb => (k, hb) :: hpX
def Kd.neff (nX : Nat → Prop) : Kd → (Nat → Prop)
  | .v _ => nX
  | .a k _ => fun j => nX j ∨ j = k
  | .b _ _ _ => nX
def Kd.key : Kd → Option Nat
  | .v _ => none
  | .a k _ => some k
  | .b k _ _ => some k
def Kd.upd (f : Nat → HB) : Kd → (Nat → HB)
  | .v _ => f
  | .a k hb => fun j => if j = k then hb else f j
  | .b k _ hb => fun j => if j = k then hb else f j
/-- what an operation does wherever in the order it stands: read in the frame 'fr', its value told in the frame 'fr1' -/
def DynG (P : Program) (os : Array Oper) (o : Oper) (io : Ins) (fr fr1 : List (Nat × SV)) (kd : Kd) : Prop :=
  ∀ C E hpX nX a w (next : Act → World → Prop) (Q : Exit → Act → World → Prop), kd.pre hpX nX → HSim C E hpX nX w →
    (∀ t ∈ rdIO io, FR w E nX (okS C E hpX) fr (lk t fr) (a.tmps.getD t undef)) →
    (∀ E' w' y, (∀ k, nX k → E'.β k = E.β k ∧ E'.hv k = E.hv k) → HSim C E' (kd.eff hpX) (kd.neff nX) w' → Stays w w' (okS C E hpX) (okS C E' (kd.eff hpX)) →
      (∀ t, io.d = some t → FR w' E' (kd.neff nX) (okS C E' (kd.eff hpX)) fr1 (lk t fr1) y) → next (a.put o.dst y) w') →
    if Region.wanted o (yielded os a.tmps) then o.wp P a w next Q else next (a.put o.dst undef) w
theorem dynG_v {P : Program} {os : Array Oper} {o : Oper} {io : Ins} {fr fr1 : List (Nat × SV)} {hp : List (Nat × HB)} (h : DynT P os o io fr fr1 hp none) : DynG P os o io fr fr1 (.v hp) :=
  fun C E hpX nX a w next Q h1 h2 h3 h4 => h C E hpX nX a w next Q h1 h2 (fun q hq => by cases hq) h3 h4
theorem dynG_a {P : Program} {os : Array Oper} {o : Oper} {io : Ins} {fr fr1 : List (Nat × SV)} {k : Nat} {hb : HB} (h : DynT P os o io fr fr1 [] (some (k, hb))) : DynG P os o io fr fr1 (.a k hb) :=
  fun C E hpX nX a w next Q h1 h2 h3 h4 => h C E hpX nX a w next Q (fun _ => .inl rfl) h2 (fun q hq => by cases hq; exact h1) h3 h4
def isB (io : Ins) : Bool :=
  match io.d, io.g, io.i with
  | none, none, .st _ _ _ => true
  | _, _, _ => false
def bX (io : Ins) : X :=
  match io.i with
  | .st x _ _ => x
  | _ => .t 0
def keyX : SV → Option Nat
  | .p k _ => some k
  | .pr k _ _ _ => some k
  | _ => none
section
variable {P : Program} {os : Array Oper} {o : Oper} {io : Ins} {σ : St} {r : KT} {K : St → Prop}
theorem bstep (hc : cmpO P os io o = true) (hb : isB io = true) (h : st1 P io σ r K) : ∃ k hb', keyX (rdG none σ.fr (bX io)) = some k ∧ r ⟨σ.fr, (k, hb') :: σ.hp, σ.n, σ.N, σ.gs⟩ K ∧ DynG P os o io σ.fr σ.fr (.b k (lkh k σ.hp) hb') := by
  have hgo := fun hg => cmpO_none (io := io) hc hg
  have hc' := hc
  simp only [cmpO, Bool.and_eq_true, decide_eq_true_eq] at hc'
  obtain ⟨⟨hd, hci⟩, _⟩ := hc'
  obtain ⟨d, i, g, af⟩ := io
  unfold isB at hb
  split at hb
  · rename_i x y m e1 e2 e3
    simp only at e1 e2 e3 hd hci
    subst e1; subst e2; subst e3
    have hgn := hgo rfl
    simp only [st1, stp, storeK] at h
    simp only [cmpI] at hci
    split at h
    · rename_i c _ hcy
      cases hk : chk c m
      · rw [hk] at h; exact h.elim
      · cases ho : allOne c
        · rw [hk, ho] at h; exact h.elim
        · rw [hk, ho] at h; simp only [storeB, stX] at h
          have hop : ∃ t xa yv, o.op = .store t xa yv ∧ cmpX x xa = true ∧ cmpX y yv = true ∧ szOf P t = some m := by
            cases hq : o.op <;> rw [hq] at hci <;> simp [cmpOp] at hci
            exact ⟨_, _, _, rfl, hci.1.1, hci.1.2, hci.2⟩
          obtain ⟨t, xa, yv, hoo, hx, hy, hsz⟩ := hop
          have fin : ∀ (k : Nat) (hb' : HB), (∀ (C : Cx) E hpX nX (a : Act) (w : World), lkh k hpX = lkh k σ.hp → HSim C E hpX nX w → R w E nX (okS C E hpX) (rdG none σ.fr x) (evX a x) → RL w E nX (okS C E hpX) c (evX a y).cells.toList → (evX a y).cells.size = m →
              (∀ u ∈ (evX a y).cells.toList, u.oneCell' = true) → ∃ w', (execOp a.eval o).run P w = .ok .skip w' ∧ HSim C E ((k, hb') :: hpX) nX w' ∧ Stays w w' (okS C E hpX) (okS C E ((k, hb') :: hpX))) →
              DynG P os o ⟨none, .st x y m, none, af⟩ σ.fr σ.fr (.b k (lkh k σ.hp) hb') := by
            intro k hb' hrun C E hpX nX a w next Q hpre hh hr hn
            rw [if_pos (by simp [Region.wanted, hgn])]
            have hRx := rdG_at (fr := σ.fr) (g := none) (x := x) (fun t ht => hr t (by simp [rdIO, opX, ht])) trivial
            have hRy := rdG_at (fr := σ.fr) (g := none) (x := y) (fun t ht => hr t (by simp [rdIO, opX, ht])) trivial
            have hRc := R_cells hRy hcy
            have hlen : (evX a y).cells.size = m := by
              have := RL_length hRc; rw [← Array.length_toList, this]; exact chk_eq hk
            obtain ⟨w', q1, q2, q3⟩ := hrun C E hpX nX a w hpre hh hRx hRc hlen (allOne_sound ho hRc)
            unfold Oper.wp
            rw [q1]
            exact hn E w' undef (fun _ _ => ⟨rfl, rfl⟩) q2 q3 (fun t ht => by cases ht)
          split at h
          · rename_i k off hkx
            unfold stC at h
            split at h
            · rename_i l T hkk
              cases hle : Nat.ble (off + m) l.length
              · rw [hle] at h; exact h.elim
              · rw [hle] at h; simp only [stCB] at h
                refine ⟨k, _, by simp [bX, hkx, keyX], h, fin k _ fun C E hpX nX a w hpre hh hRx hRc hlen h1 => ?_⟩
                rw [hkk] at hpre
                rw [hkx] at hRx; simp only [R] at hRx
                have hb := hh.bk k
                rw [hpre] at hb; simp only [HBok] at hb
                obtain ⟨cs, e1, e2⟩ := hb
                have hcl := RL_length e2
                have hle' : off + m ≤ l.length := Nat.le_of_ble_eq_true hle
                obtain ⟨w', q1, q2⟩ := run_storeVar (P := P) (t := t) (m := m) (v := evX a y) (o := off) (cs := cs.toList) (T := T) hsz hlen (by simpa using e1) (by omega) h1
                have hocc : ∀ b, occ E k (.cells (splice l off c) T) b ↔ occ E k (lkh k hpX) b := fun b => by rw [hpre]; rfl
                obtain ⟨s1, s2⟩ := HSim_store hh (hb := .cells (splice l off c) T) hocc (by rw [hpre]; rfl) q2 (fun hst => by
                  simp only [HBok]
                  exact ⟨_, q2.here, by simpa using RL_splice off (RL_mono hst (fun _ _ => ⟨rfl, rfl⟩) (fun _ h => h) _ _ e2) (RL_mono hst (fun _ _ => ⟨rfl, rfl⟩) (fun _ h => h) _ _ hRc)⟩)
                exact ⟨w', by simp only [execOp, hoo, cmpX_sound hx a, cmpX_sound hy a, hRx.2, Instr.storeAt, Instr.sureAddr, Sem.run_bind, Sem.run_pure, Result.andThen_ok, q1], s1, s2⟩
            · cases h
          · rename_i k m' j off hkx
            unfold stR at h
            split at h
            · rename_i m'' xs T hkk
              cases hm : Nat.beq m' m''
              · rw [hm] at h; exact h.elim
              · rw [hm] at h; simp only [stRB] at h
                have := Nat.eq_of_beq_eq_true hm; subst this
                obtain ⟨row, r1, r2, r3⟩ := h
                refine ⟨k, _, by simp [bX, hkx, keyX], r3, fin k _ fun C E hpX nX a w hpre hh hRx hRc hlen h1 => ?_⟩
                rw [hkk] at hpre
                rw [hkx] at hRx; simp only [R] at hRx
                obtain ⟨_, b, len, cap, g1, g2⟩ := hRx
                have hb := hh.bk k
                rw [hpre] at hb; simp only [HBok] at hb
                rcases hb with ⟨hb, _⟩ | ⟨b', cap', cs, q1, q2, q3, ⟨q4, q4'⟩, q5, q6, q7⟩
                · rw [hb] at r1; simp at r1
                · rw [g1] at q1; simp at q1; obtain ⟨rfl, rfl, rfl⟩ := q1
                  have hjl : j < xs.length := (List.getElem?_eq_some_iff.1 r1).1
                  have hrow : row.length = m' := q6 row (List.mem_of_getElem? r1)
                  have hcm := chk_eq hk
                  have hjm : j * m' + m' ≤ xs.length * m' := by
                    have := Nat.mul_le_mul_right m' (show j + 1 ≤ xs.length from hjl)
                    rw [Nat.add_mul, Nat.one_mul] at this; exact this
                  have hcapm : xs.length * m' ≤ cap * m' := Nat.mul_le_mul_right m' q4
                  obtain ⟨w', p1, p2⟩ := run_storeVar (P := P) (t := t) (m := m) (v := evX a y) (o := j * m' + off) (cs := cs.toList) (T := T) hsz hlen (by simpa using q2) (by simp only [Array.length_toList, q3]; omega) h1
                  have hocc : ∀ b', occ E k (.row m' (xs.set j (splice row off c)) T) b' ↔ occ E k (lkh k hpX) b' := fun b' => by rw [hpre]; rfl
                  obtain ⟨s1, s2⟩ := HSim_store hh (hb := .row m' (xs.set j (splice row off c)) T) hocc (by rw [hpre]; exact ⟨_, _, g1, q4'⟩) p2 (fun hst => by
                    simp only [HBok]
                    refine .inr ⟨b, cap, _, by simpa using g1, p2.here, ?_, by simpa using ⟨q4, q4'⟩, by simpa using q5, fun rr hrr => ?_, ?_⟩
                    · simp [spliceV_length, q3]
                    · rcases List.mem_or_eq_of_mem_set hrr with hrr | rfl
                      · exact q6 rr hrr
                      · rw [splice_length, hrow]
                    · rw [flatten_set r1 q6 (by omega), List.length_set]
                      rw [take_spliceV (by rw [show (evX a y).cells.toList.length = m from by simpa using hlen]; omega) (by simp [q3]; omega)]
                      exact RL_splice _ (RL_mono hst (fun _ _ => ⟨rfl, rfl⟩) (fun _ h => h) _ _ q7) (RL_mono hst (fun _ _ => ⟨rfl, rfl⟩) (fun _ h => h) _ _ hRc))
                  exact ⟨w', by simp only [execOp, hoo, cmpX_sound hx a, cmpX_sound hy a, g2, Instr.storeAt, Instr.sureAddr, Sem.run_bind, Sem.run_pure, Result.andThen_ok, p1], s1, s2⟩
            · cases h
          · cases h
    · cases h
  · cases hb
end
inductive VI where
  | op (io : Ins)
  | hide (x : X)
def hideK (s : SV) (σ : St) (r : KT) (K : St → Prop) : Prop :=
  match s with
  | .p k _ => r ⟨σ.fr, (k, .gone) :: σ.hp, σ.n, σ.N, σ.gs⟩ K
  | .pr k _ _ _ => r ⟨σ.fr, (k, .gone) :: σ.hp, σ.n, σ.N, σ.gs⟩ K
  | _ => False
def rxv (P : Program) (r : KT) : List VI → KT
  | [], σ, K => r σ K
  | .op io :: l, σ, K => st1 P io σ (rxv P r l) K
  | .hide x :: l, σ, K => hideK (rdG none σ.fr x) σ (rxv P r l) K
def backK (hp : List (Nat × HB)) (r : KT) (σ : St) (K : St → Prop) : Prop := r ⟨σ.fr, hp, σ.n, σ.N, σ.gs⟩ K
structure El where
  ix : Nat
  io : Ins
  o : Oper
  kd : Kd
  hx : List X
def El.it (e : El) : It := (e.ix, e.io, e.o)
structure Stp (P : Program) (os : Array Oper) (σ : St) (e : El) (σ1 : St) : Prop where
  N : σ1.N = σ.N
  gs : ∀ j ∈ σ.gs, j ∈ σ1.gs
  gsOK : gsOK σ1
  fr : (e.io.d = none ∧ σ1.fr = σ.fr) ∨ ∃ t s, e.io.d = some t ∧ t ∉ σ1.gs ∧ t < σ.N ∧ σ1.fr = (t, s) :: σ.fr
  v : ∀ hp, e.kd = .v hp → σ1.hp = σ.hp ∧ σ1.n = σ.n ∧ HExt hp σ.hp ∧ ∀ x ∈ e.hx, ∃ k, keyX (rdG none σ.fr x) = some k ∧ lkh k hp = .gone
  a : ∀ k hb, e.kd = .a k hb → k = σ.n ∧ σ1.hp = (k, hb) :: σ.hp ∧ σ1.n = σ.n + 1 ∧ e.hx = [] ∧ ∀ t, e.io.d = some t → lk t σ1.fr = .p k 0 ∨ lk t σ1.fr = .mr k
  b : ∀ k h0 hb, e.kd = .b k h0 hb → h0 = lkh k σ.hp ∧ σ1.hp = (k, hb) :: σ.hp ∧ σ1.n = σ.n ∧ keyX (rdG none σ.fr (bX e.io)) = some k ∧ e.hx = [] ∧ isB e.io = true
  dyn : DynG P os e.o e.io σ.fr σ1.fr e.kd
def Run (P : Program) (os : Array Oper) : List El → St → St → Prop
  | [], σ, σF => σF = σ
  | e :: es, σ, σF => ∃ σ1, Stp P os σ e σ1 ∧ Run P os es σ1 σF
def SRule : List El → Prop
  | [] => True
  | e :: r => ((∃ hp, e.kd = .v hp) ∨ ∀ y ∈ r, ∀ hp, y.kd ≠ .v hp) ∧ (∀ t ∈ rdIO e.io, e.io.d ≠ some t ∧ ∀ y ∈ r, y.io.d ≠ some t) ∧ (∀ t, e.io.d = some t → ∀ y ∈ r, y.io.d ≠ some t) ∧ (∀ x ∈ e.hx, ∀ t ∈ rdX x, e.io.d ≠ some t ∧ ∀ y ∈ r, y.io.d ≠ some t) ∧ SRule r
def curF (f : Nat → HB) : List El → (El → Bool) → Nat → HB
  | [], _ => f
  | e :: es, d => curF (if d e = true then e.kd.upd f else f) es d
structure Facts (P : Program) (os : Array Oper) (hp0 : List (Nat × HB)) (es : List El) (σ σF : St) : Prop where
  N : σF.N = σ.N
  gs : ∀ j ∈ σ.gs, j ∈ σF.gs
  gsOK : gsOK σF
  n : σ.n ≤ σF.n
  lo : ∀ e ∈ es, ∀ k hb, e.kd = .a k hb → σ.n ≤ k ∧ k < σF.n
  al : ∀ k, σ.n ≤ k → k < σF.n → ∃ e ∈ es, ∃ hb, e.kd = .a k hb
  df : es.Pairwise fun e e' => ∀ k hb hb', e.kd = .a k hb → e'.kd ≠ .a k hb'
  heap : ∀ k, lkh k σF.hp = curF (fun k => lkh k σ.hp) es (fun _ => true) k
  b0 : ∀ l1 e l2, es = l1 ++ e :: l2 → ∀ k h0 h1, e.kd = .b k h0 h1 → h0 = curF (fun k => lkh k σ.hp) l1 (fun _ => true) k
  vh : ∀ e ∈ es, ∀ hp, e.kd = .v hp → HExt hp hp0
  hid : ∀ e ∈ es, ∀ hp, e.kd = .v hp → ∀ x ∈ e.hx, ∃ k, keyX (rdG none σF.fr x) = some k ∧ lkh k hp = .gone
  av : ∀ e ∈ es, ∀ k hb, e.kd = .a k hb → ∀ t, e.io.d = some t → lk t σF.fr = .p k 0 ∨ lk t σF.fr = .mr k
  bk : ∀ e ∈ es, ∀ k h0 hb, e.kd = .b k h0 hb → keyX (rdG none σF.fr (bX e.io)) = some k
  fr : ∀ t, (∀ e ∈ es, e.io.d ≠ some t) → lk t σF.fr = lk t σ.fr
  ge : ∀ j ∈ σ.gs, ∀ b, GE σF.fr j b ↔ GE σ.fr j b
  dn : ∀ e ∈ es, ∀ t, e.io.d = some t → t < σ.N
  dyn : ∀ e ∈ es, DynG P os e.o e.io σF.fr σF.fr e.kd
section
variable {P : Program} {os : Array Oper} {K : St → Prop}
theorem dynG_move {o : Oper} {io : Ins} {fr fr1 frF : List (Nat × SV)} {kd : Kd} (h : DynG P os o io fr fr1 kd) (hr : ∀ t ∈ rdIO io, lk t frF = lk t fr) (hg : ∀ t j b s, lk t fr = .gd j b s → ∀ b, GE frF j b ↔ GE fr j b) (hd : ∀ t, io.d = some t → lk t frF = lk t fr1)
    (hg1 : ∀ t j b s, lk t fr1 = .gd j b s → ∀ b, GE frF j b ↔ GE fr1 j b) : DynG P os o io frF frF kd := by
  intro C E hpX nX a w next Q h1 h2 h4 h5
  refine h C E hpX nX a w next Q h1 h2 (fun t ht => ?_) (fun E' w' y k1 k2 k3 k4 => h5 E' w' y k1 k2 k3 (fun t ht => ?_))
  · have := h4 t ht
    rw [hr t ht] at this
    exact FR_mono (fun _ hb _ => ⟨hb, rfl⟩) (fun _ _ => ⟨rfl, rfl⟩) (fun _ h => h) (fun j b s e => (hg t j b s e b).symm) this
  · have := k4 t ht
    rw [hd t ht]
    exact FR_mono (fun _ hb _ => ⟨hb, rfl⟩) (fun _ _ => ⟨rfl, rfl⟩) (fun _ h => h) (fun j b s e => hg1 t j b s e b) this
theorem rdG_none {fr fr' : List (Nat × SV)} {x : X} (h : ∀ t ∈ rdX x, lk t fr' = lk t fr) : rdG none fr' x = rdG none fr x := by
  cases x with
  | t t =>
    simp only [rdG, rd]; rw [h t (by simp [rdX])]
    cases lk t fr <;> rfl
  | c x => rfl
  | f i => rfl
theorem bX_rd {io : Ins} {t : Nat} (h : isB io = true) (ht : t ∈ rdX (bX io)) : t ∈ rdIO io := by
  obtain ⟨d, i, g, af⟩ := io
  unfold isB at h
  split at h
  · rename_i x y m e1 e2 e3
    simp only at e1 e2 e3; subst e3
    simp only [bX] at ht
    simp [rdIO, opX, ht]
  · cases h
theorem curF_key : ∀ {es : List El} {f : Nat → HB} {d : El → Bool} {k : Nat}, (∀ e ∈ es, d e = true → e.kd.key ≠ some k) → curF f es d k = f k
  | [], _, _, _, _ => rfl
  | e :: es, f, d, k, h => by
    simp only [curF]
    rw [curF_key (fun e' he' hd => h e' (by simp [he']) hd)]
    split
    · rename_i hd
      have := h e (by simp) hd
      cases hk : e.kd <;> simp only [Kd.upd] <;> rw [hk] at this <;> simp only [Kd.key, ne_eq, Option.some.injEq] at this
      · rw [if_neg (fun e => this e.symm)]
      · rw [if_neg (fun e => this e.symm)]
    · rfl
theorem curF_app : ∀ (l1 l2 : List El) (f : Nat → HB) (d : El → Bool), curF f (l1 ++ l2) d = curF (curF f l1 d) l2 d
  | [], _, _, _ => rfl
  | e :: l1, l2, f, d => by simp only [List.cons_append, curF]; exact curF_app l1 l2 _ d
theorem curF_congr : ∀ {es : List El} {f g : Nat → HB} {d d' : El → Bool} {k : Nat}, f k = g k → (∀ e ∈ es, e.kd.key = some k → d e = d' e) → curF f es d k = curF g es d' k
  | [], _, _, _, _, _, h, _ => h
  | e :: es, f, g, d, d', k, h, hd => by
    simp only [curF]
    refine curF_congr ?_ (fun e' he' => hd e' (by simp [he']))
    cases hk : e.kd.key with
    | none =>
      have : ∀ f : Nat → HB, e.kd.upd f = f := fun f => by cases h : e.kd <;> rw [h] at hk <;> simp [Kd.key] at hk; rfl
      rw [this, this]; simp only [ite_self]; exact h
    | some j =>
      by_cases hj : j = k
      · subst hj
        rw [hd e (by simp) hk]
        split
        · cases h' : e.kd <;> rw [h'] at hk <;> simp [Kd.key] at hk <;> simp [Kd.upd, hk]
        · exact h
      · have : ∀ f : Nat → HB, e.kd.upd f k = f k := fun f => by
          cases h' : e.kd <;> rw [h'] at hk <;> simp [Kd.key] at hk <;> simp only [Kd.upd] <;> rw [if_neg (by rintro rfl; exact hj hk.symm)]
        have h2 : ∀ (f : Nat → HB) (b : Bool), (if b = true then e.kd.upd f else f) k = f k := fun f b => by split; exact this f; rfl
        rw [h2, h2]; exact h
theorem curF_at {l1 l2 : List El} {e : El} {f : Nat → HB} {d : El → Bool} {k : Nat} (h : ∀ x ∈ l2, d x = true → x.kd.key ≠ some k) (hd : d e = true) : curF f (l1 ++ e :: l2) d k = e.kd.upd (curF f l1 d) k := by
  rw [curF_app]; simp only [curF, hd, if_true]
  exact curF_key h
theorem runS {hp0 : List (Nat × HB)} : ∀ (es : List El) (σ σF : St), SRule es → gsOK σ → (σ.hp = hp0 ∨ ∀ e ∈ es, ∀ hp, e.kd ≠ .v hp) → Run P os es σ σF → Facts P os hp0 es σ σF
  | [], σ, σF, _, hgs, _, h => by
    have : σF = σ := h
    subst this
    exact ⟨rfl, fun _ h => h, hgs, Nat.le_refl _, fun e he => by simp at he, fun k h1 h2 => by omega, .nil, fun _ => rfl, fun l1 e l2 h => by simp at h, fun e he => by simp at he, fun e he => by simp at he, fun e he => by simp at he, fun e he => by simp at he, fun _ _ => rfl, fun _ _ _ => Iff.rfl, fun e he => by simp at he, fun e he => by simp at he⟩
  | e :: es, σ, σF, hR, hgs, hhp, h => by
    obtain ⟨hR0, hR2, hR3, hRx, hR4⟩ := hR
    obtain ⟨σ1, S, hrun⟩ := h
    have hhp1 : σ1.hp = hp0 ∨ ∀ e ∈ es, ∀ hp, e.kd ≠ .v hp := by
      rcases hR0 with ⟨hp, hv⟩ | hv
      · rcases hhp with hh | hh
        · exact .inl ((S.v hp hv).1.trans hh)
        · exact absurd hv (hh e (by simp) hp)
      · exact .inr hv
    have F := runS (hp0 := hp0) es σ1 σF hR4 S.gsOK hhp1 hrun
    have frs : ∀ t, e.io.d ≠ some t → lk t σ1.fr = lk t σ.fr := fun t ht => by
      rcases S.fr with ⟨_, h⟩ | ⟨u, s, h, _, _, h'⟩
      · rw [h]
      · rw [h', lk_cons, if_neg (by rintro rfl; exact ht h)]
    have ges : ∀ j ∈ σ1.gs, ∀ b, GE σ1.fr j b ↔ GE σ.fr j b := fun j hj b => by
      rcases S.fr with ⟨_, h⟩ | ⟨u, s, _, h, _, h'⟩
      · rw [h]
      · rw [h']; exact GE_push (fun t j b s ht => S.gs _ (hgs t j b s ht)) h hj
    have hn1 : σ.n ≤ σ1.n := by
      cases hk : e.kd with
      | v hp => have := (S.v hp hk).2.1; omega
      | a k hb => have := (S.a k hb hk).2.2.1; omega
      | b k h0 hb => have := (S.b k h0 hb hk).2.2.1; omega
    have hupd : ∀ k, lkh k σ1.hp = e.kd.upd (fun k => lkh k σ.hp) k := fun k => by
      cases hk : e.kd with
      | v hp => rw [(S.v hp hk).1]; rfl
      | a j hb => rw [(S.a j hb hk).2.1, lkh_cons]; rfl
      | b j h0 hb => rw [(S.b j h0 hb hk).2.1, lkh_cons]; rfl
    have hfun : (fun k => lkh k σ1.hp) = e.kd.upd (fun k => lkh k σ.hp) := funext hupd
    have hF1 : ∀ t, (e.io.d ≠ some t ∧ ∀ y ∈ es, y.io.d ≠ some t) → lk t σF.fr = lk t σ.fr := fun t h => by rw [F.fr t h.2, frs t h.1]
    refine ⟨F.N.trans S.N, fun j hj => F.gs j (S.gs j hj), F.gsOK, Nat.le_trans hn1 F.n, fun e' he k hb hk => ?_, fun k k1 k2 => ?_, ?_, fun k => ?_, fun l1 e' l2 hs k h0 hb hk => ?_, fun e' he hp hk => ?_, fun e' he hp hk x hx => ?_, fun e' he k hb hk t ht => ?_, fun e' he k h0 hb hk => ?_, fun t ht => ?_, fun j hj b => ?_, fun e' he t ht => ?_, fun e' he => ?_⟩
    · rcases List.mem_cons.1 he with rfl | he
      · obtain ⟨q1, _, q3, _⟩ := S.a k hb hk
        have := F.n; omega
      · obtain ⟨q1, q2⟩ := F.lo e' he k hb hk
        exact ⟨Nat.le_trans hn1 q1, q2⟩
    · by_cases hq : σ1.n ≤ k
      · obtain ⟨e', he, q⟩ := F.al k hq k2
        exact ⟨e', by simp [he], q⟩
      · cases hk : e.kd with
        | v hp => have := (S.v hp hk).2.1; omega
        | a j hb => have := S.a j hb hk; exact ⟨e, List.mem_cons_self .., hb, by rw [hk]; congr 1; omega⟩
        | b j h0 hb => have := (S.b j h0 hb hk).2.2.1; omega
    · refine List.pairwise_cons.2 ⟨fun e' he k hb hb' hk hk' => ?_, F.df⟩
      have := (F.lo e' he k hb' hk').1
      have := S.a k hb hk
      omega
    · rw [F.heap k, hfun]; simp [curF]
    · cases l1 with
      | nil => simp at hs; obtain ⟨rfl, rfl⟩ := hs; exact (S.b k h0 hb hk).1
      | cons z l1 =>
        simp at hs; obtain ⟨rfl, rfl⟩ := hs
        rw [F.b0 l1 e' l2 rfl k h0 hb hk, hfun]; simp [curF]
    · rcases List.mem_cons.1 he with rfl | he
      · rcases hhp with hh | hh
        · rw [← hh]; exact (S.v hp hk).2.2.1
        · exact absurd hk (hh _ (by simp) hp)
      · exact F.vh e' he hp hk
    · rcases List.mem_cons.1 he with rfl | he
      · obtain ⟨k, k1, k2⟩ := (S.v hp hk).2.2.2 x hx
        exact ⟨k, by rw [rdG_none (fr := σ.fr) (fun t ht => hF1 t (hRx x hx t ht))]; exact k1, k2⟩
      · exact F.hid e' he hp hk x hx
    · rcases List.mem_cons.1 he with rfl | he
      · rw [F.fr t (fun e he => hR3 t ht e he)]; exact (S.a k hb hk).2.2.2.2 t ht
      · exact F.av e' he k hb hk t ht
    · rcases List.mem_cons.1 he with rfl | he
      · have hb1 := (S.b k h0 hb hk).2.2.2.1
        rw [rdG_none (fr := σ.fr) (fun t ht => hF1 t (hR2 t (bX_rd (S.b k h0 hb hk).2.2.2.2.2 ht)))]; exact hb1
      · exact F.bk e' he k h0 hb hk
    · rw [F.fr t (fun e' he => ht e' (by simp [he])), frs t (ht _ (List.mem_cons_self ..))]
    · exact (F.ge j (S.gs j hj) b).trans (ges j (S.gs j hj) b)
    · rcases List.mem_cons.1 he with rfl | he
      · rcases S.fr with ⟨h, _⟩ | ⟨u, s, h, _, h', _⟩
        · rw [h] at ht; cases ht
        · rw [h] at ht; cases ht; exact h'
      · rw [← S.N]; exact F.dn e' he t ht
    · rcases List.mem_cons.1 he with rfl | he
      · refine dynG_move S.dyn (fun t ht => hF1 t (hR2 t ht)) (fun t j b s hl b' => ?_) (fun t ht => F.fr t (fun e he => hR3 t ht e he)) (fun t j b s hl b' => F.ge j (S.gsOK t j b s hl) b')
        have hj := S.gs j (hgs t j b s hl)
        exact (F.ge j hj b').trans (ges j hj b')
      · exact F.dyn e' he
end
section
variable {P : Program} {os : Array Oper} {K : St → Prop} {C : Cx} {Q : Exit → Act → World → Prop}
theorem HSim_congr {E : Env} {hp hp' : List (Nat × HB)} {n n' : Nat → Prop} {w : World} (h : ∀ k, lkh k hp' = lkh k hp) (hn : ∀ k, n' k ↔ n k) (hh : HSim C E hp n w) : HSim C E hp' n' w ∧ okS C E hp' = okS C E hp ∧ n' = n := by
  have e1 : okS C E hp' = okS C E hp := by funext b; simp only [okS, h]
  have e2 : n' = n := funext fun k => propext (hn k)
  subst e2
  refine ⟨⟨fun k hk => by rw [h]; exact hh.kn k hk, fun k => by rw [h, e1]; exact hh.bk k, fun k k' b => by rw [h, h]; exact hh.dj k k' b, fun k b => by rw [h]; exact hh.lo k b, hh.kp⟩, e1, rfl⟩
theorem first_of {α : Type} (p : α → Bool) : ∀ (l : List α), (∃ x ∈ l, p x = true) → ∃ l1 e l2, l = l1 ++ e :: l2 ∧ p e = true ∧ ∀ x ∈ l1, p x = false
  | [], h => by obtain ⟨x, h, _⟩ := h; simp at h
  | x :: l, h => by
    cases hp : p x
    · obtain ⟨y, hy, hpy⟩ := h
      have : y ∈ l := by
        rcases List.mem_cons.1 hy with rfl | h
        · rw [hp] at hpy; cases hpy
        · exact h
      obtain ⟨l1, e, l2, h1, h2, h3⟩ := first_of p l ⟨y, this, hpy⟩
      exact ⟨x :: l1, e, l2, by simp [h1], h2, fun z hz => by
        rcases List.mem_cons.1 hz with rfl | hz
        · exact hp
        · exact h3 z hz⟩
    · exact ⟨[], x, l, rfl, hp, fun _ h => by simp at h⟩
theorem cnt_set {listed : Array Bool} : ∀ (es : List El) (e : El), (es.map (·.ix)).Nodup → e ∈ es → listed.getD e.ix false = false → e.ix < listed.size →
    (es.filter fun e' => !(listed.setIfInBounds e.ix true).getD e'.ix false).length + 1 = (es.filter fun e' => !listed.getD e'.ix false).length
  | [], e, _, h, _, _ => by simp at h
  | x :: es, e, hnd, he, hl, hs => by
    rw [List.map_cons, List.nodup_cons] at hnd
    by_cases hx : x.ix = e.ix
    · have hsame : (es.filter fun e' => !(listed.setIfInBounds e.ix true).getD e'.ix false) = (es.filter fun e' => !listed.getD e'.ix false) := by
        apply List.filter_congr
        intro y hy
        rw [getD_set hs, if_neg]
        rintro h
        exact hnd.1 (by rw [hx, ← h]; exact List.mem_map.2 ⟨y, hy, rfl⟩)
      rw [List.filter_cons, List.filter_cons, hsame, getD_set hs, if_pos hx, hx, hl]
      simp
    · have he' : e ∈ es := by
        rcases List.mem_cons.1 he with rfl | h
        · exact absurd rfl hx
        · exact h
      have ih := cnt_set es e hnd.2 he' hl hs
      rw [List.filter_cons, List.filter_cons, getD_set hs, if_neg hx]
      split
      · simp only [List.length_cons]; omega
      · exact ih
def Un (es : List El) (listed : Array Bool) (k : Nat) : Prop := ∃ e ∈ es, listed.getD e.ix false = false ∧ ∃ hb, e.kd = .a k hb
theorem cmpO_d {io : Ins} {o : Oper} (hc : cmpO P os io o = true) : io.d = o.dst := by
  simp only [cmpO, Bool.and_eq_true, decide_eq_true_eq] at hc; exact hc.1.1
structure Free (P : Program) (os : Array Oper) (all T : List It) (es : List El) (σ0 σF : St) : Prop where
  hos : ∀ y ∈ all, os[y.1]? = some y.2.2
  hco : ∀ y ∈ all, cmpO P os y.2.1 y.2.2 = true
  hall : all = es.map El.it ++ T
  nd : (all.map (·.1)).Nodup
  cov : ∀ j, j < os.size → j ∈ all.map (·.1)
  ord : ∀ l1 e l2, es = l1 ++ e :: l2 → ∀ d ∈ e.o.after, Region.binds .any d = true → d.on ∈ l1.map (·.ix)
  rd : ∀ e ∈ es, ∀ t ∈ rdIO e.io, ∀ e' ∈ es, e'.io.d = some t → Needs all e.it e'.ix
  hT : ∀ y ∈ T, ∀ e ∈ es, Needs all y e.ix
  hTOk : TOk os.size all T
  dd : ∀ e ∈ es, ∀ e' ∈ es, ∀ t, e.io.d = some t → e'.io.d = some t → e.ix = e'.ix
  F : Facts P os σ0.hp es σ0 σF
  hid : ∀ e ∈ es, ∀ b ∈ es, ∀ hp k h0 h1, e.kd = .v hp → b.kd = .b k h0 h1 → Needs all b.it e.ix ∨ lkh k hp = .gone
  ch : ∀ l1 e l2, es = l1 ++ e :: l2 → ∀ e' ∈ l2, ∀ k, e.kd.key = some k → e'.kd.key = some k → Needs all e'.it e.ix
  h0 : ∀ k, ¬ k < σ0.n → lkh k σ0.hp = .gone
structure SInv (C : Cx) (all T : List It) (es : List El) (σ0 σF : St) (sz : Nat) (listed : Array Bool) (E : Env) (a : Act) (w : World) (hpX : List (Nat × HB)) : Prop where
  hsz : listed.size = sz
  hT : ∀ y ∈ T, listed.getD y.1 false = false
  dn : Down listed all
  hp : ∀ k, lkh k hpX = curF (fun k => lkh k σ0.hp) es (fun e => listed.getD e.ix false) k
  hs : HSim C E hpX (fun k => k < σF.n ∧ ¬ Un es listed k) w
  fr : ∀ t, (∃ e ∈ es, listed.getD e.ix false = false ∧ e.io.d = some t) ∨ FR w E (fun k => k < σF.n ∧ ¬ Un es listed k) (okS C E hpX) σF.fr (lk t σF.fr) (a.tmps.getD t undef)
  N : a.tmps.size = σF.N
  df : a.defers = C.ds
theorem sphase {all T : List It} {es : List El} {σ0 σF : St} (H : Free P os all T es σ0 σF) (hK : ∀ σ, K σ → ∀ E a w, Sim C E σ a w → Q .normal a w) (hr : rx P (T.map (·.2.1)) σF K) :
    ∀ (m : Nat) (listed : Array Bool) E a w hpX, (es.filter fun e => !listed.getD e.ix false).length = m → SInv C all T es σ0 σF os.size listed E a w hpX → wpAny P .any os Q (m + T.length) listed a w
  | 0, listed, E, a, w, hpX, hm, I => by
    have hl : ∀ e ∈ es, listed.getD e.ix false = true := fun e he => by
      have := List.eq_nil_of_length_eq_zero hm
      rw [List.filter_eq_nil_iff] at this
      simpa using this e he
    have hU : ∀ k, ¬ Un es listed k := by rintro k ⟨e, he, h, _⟩; rw [hl e he] at h; cases h
    obtain ⟨h1, h2, h3⟩ := HSim_congr (hp' := σF.hp) (n' := ltn σF.n) (fun k => by rw [I.hp k, H.F.heap k]; exact curF_congr rfl (fun e he _ => (hl e he).symm)) (fun k => ⟨fun h => ⟨h, hU k⟩, fun h => h.1⟩) I.hs
    have hnd := H.nd
    rw [H.hall, List.map_append, List.nodup_append] at hnd
    rw [Nat.zero_add]
    refine tphase H.hos H.hco hK T listed σF E a w I.hsz (fun j hj => ⟨fun h => ?_, fun h => ?_⟩) I.dn H.hTOk (fun x hx => by rw [H.hall]; simp [hx]) hnd.2.1 hr ⟨fun t => ?_, I.N, I.df, H.F.gsOK, h1⟩
    · have := H.cov j hj
      rw [H.hall, List.map_append, List.mem_append] at this
      rcases this with h' | h'
      · rw [List.map_map] at h'
        obtain ⟨e, he, rfl⟩ := List.mem_map.1 h'
        have := hl e he
        simp only [Function.comp, El.it] at h
        rw [this] at h; cases h
      · exact h'
    · obtain ⟨y, hy, rfl⟩ := List.mem_map.1 h
      exact I.hT y hy
    · rw [h2, h3]
      rcases I.fr t with ⟨e, he, h, _⟩ | h
      · rw [hl e he] at h; cases h
      · exact h
  | m + 1, listed, E, a, w, hpX, hm, I => by
    have hex : ∃ x ∈ es, (!listed.getD x.ix false) = true := by
      cases hq : (es.filter fun e => !listed.getD e.ix false) with
      | nil => rw [hq] at hm; simp at hm
      | cons x l =>
        have : x ∈ es.filter fun e => !listed.getD e.ix false := by rw [hq]; simp
        exact ⟨x, (List.mem_filter.1 this).1, (List.mem_filter.1 this).2⟩
    have hnd := H.nd
    rw [H.hall, List.map_append, List.nodup_append] at hnd
    have hnde : (es.map (·.ix)).Nodup := by have := hnd.1; rw [List.map_map] at this; exact this
    have hin : ∀ e ∈ es, e.it ∈ all := fun e he => by rw [H.hall]; simp only [List.mem_append]; exact .inl (List.mem_map.2 ⟨e, he, rfl⟩)
    have hoe : ∀ e ∈ es, os[e.ix]? = some e.o := fun e he => H.hos _ (hin e he)
    have hlt : ∀ e ∈ es, e.ix < os.size := fun e he => (Array.getElem?_eq_some_iff.1 (hoe e he)).1
    have hgd : ∀ j, j < os.size → listed.getD j true = listed.getD j false := fun j hj => by simp [Array.getD, I.hsz, hj]
    obtain ⟨l1, e0, l2, q1, q2, q3⟩ := first_of _ es hex
    have he0 : e0 ∈ es := by rw [q1]; simp
    have hu0 : listed.getD e0.ix false = false := by simpa using q2
    have hready : e0.ix ∈ Region.ready .any os listed := mem_ready.2 ⟨by rw [hgd _ (hlt e0 he0)]; exact hu0, e0.o, hoe e0 he0, fun d hd hb => by
      obtain ⟨x, hx, hxe⟩ := List.mem_map.1 (H.ord l1 e0 l2 q1 d hd hb)
      rw [← hxe]; simpa using q3 x hx⟩
    rw [show m + 1 + T.length = (m + T.length) + 1 from by omega]
    refine ⟨fun h => by rw [h] at hready; simp at hready, fun i hi => ?_⟩
    obtain ⟨h1, o, h2, h3⟩ := mem_ready.1 hi
    have hilt : i < os.size := (Array.getElem?_eq_some_iff.1 h2).1
    rw [hgd _ hilt] at h1
    have hmem : ∃ e ∈ es, e.ix = i := by
      have := H.cov i hilt
      rw [H.hall, List.map_append, List.mem_append] at this
      rcases this with h | h
      · rw [List.map_map] at h
        obtain ⟨e, he, rfl⟩ := List.mem_map.1 h
        exact ⟨e, he, rfl⟩
      · obtain ⟨y, hy, rfl⟩ := List.mem_map.1 h
        have hoy := H.hos y (by rw [H.hall]; simp [hy])
        rw [hoy] at h2; cases h2
        have := H.hT y hy e0 he0 listed I.dn h3
        rw [hu0] at this; cases this
    obtain ⟨e, he, rfl⟩ := hmem
    have hoe' := hoe e he
    rw [hoe'] at h2; cases h2
    have hlisz : e.ix < listed.size := by rw [I.hsz]; exact hilt
    have hxpr : PrL listed e.it := h3
    unfold wpOp
    rw [hoe']
    simp only
    have hsame : ∀ e' ∈ es, e'.ix = e.ix → e' = e := fun e' he' hix => by
      have : ∀ (l : List El), (l.map (·.ix)).Nodup → e ∈ l → e' ∈ l → e' = e := by
        intro l
        induction l with
        | nil => intro _ h; simp at h
        | cons x l ih =>
          intro hp m1 m2
          rw [List.map_cons, List.nodup_cons] at hp
          rcases List.mem_cons.1 m1 with n1 | n1
          · rcases List.mem_cons.1 m2 with n2 | n2
            · rw [n1, n2]
            · exact absurd (List.mem_map.2 ⟨e', n2, by rw [hix, n1]⟩) hp.1
          · rcases List.mem_cons.1 m2 with n2 | n2
            · exact absurd (List.mem_map.2 ⟨e, n1, by rw [← hix, n2]⟩) hp.1
            · exact ih hp.2 n1 n2
      exact this es hnde he he'
    have hset : ∀ e' ∈ es, (listed.setIfInBounds e.ix true).getD e'.ix false = true ↔ e' = e ∨ listed.getD e'.ix false = true := fun e' he' => by
      rw [getD_set hlisz]
      by_cases hix : e'.ix = e.ix
      · rw [if_pos hix]; simp [hsame e' he' hix]
      · rw [if_neg hix]
        exact ⟨.inr, fun h => h.resolve_left (by rintro rfl; exact hix rfl)⟩
    obtain ⟨la, lb, hsplit⟩ := List.append_of_mem he
    -- what lies behind it in the order, on the same key, is not done
    have hafter : ∀ e' ∈ lb, ∀ k, e.kd.key = some k → e'.kd.key = some k → listed.getD e'.ix false = false := fun e' he' k k1 k2 => by
      have he'' : e' ∈ es := by rw [hsplit]; simp [he']
      cases hq : listed.getD e'.ix false
      · rfl
      · have := H.ch la e lb hsplit e' he' k k1 k2 listed I.dn (fun d hd hb => I.dn e'.it (hin e' he'') hq d hd hb)
        rw [h1] at this; cases this
    have hbefore : ∀ e' ∈ la, ∀ k, e.kd.key = some k → e'.kd.key = some k → listed.getD e'.ix false = true := fun e' he' k k1 k2 => by
      obtain ⟨l1', l2', h⟩ := List.append_of_mem he'
      exact H.ch l1' e' (l2' ++ e :: lb) (by rw [hsplit, h]; simp) e (by simp) k k2 k1 listed I.dn hxpr
    have hkeyA : ∀ k hb, e.kd = .a k hb → ∀ e' ∈ es, ∀ hb', e'.kd = .a k hb' → e' = e := fun k hb hk e' he' hb' hk' => by
      apply Classical.byContradiction
      intro hne
      have : ∀ (l : List El), l.Pairwise (fun e e' => ∀ k hb hb', e.kd = .a k hb → e'.kd ≠ .a k hb') → e ∈ l → e' ∈ l → False := by
        intro l
        induction l with
        | nil => intro _ h; simp at h
        | cons x l ih =>
          intro hp m1 m2
          rw [List.pairwise_cons] at hp
          rcases List.mem_cons.1 m1 with n1 | n1
          · rcases List.mem_cons.1 m2 with n2 | n2
            · exact hne (by rw [n1, n2])
            · exact hp.1 e' n2 k hb hb' (by rw [← n1]; exact hk) hk'
          · rcases List.mem_cons.1 m2 with n2 | n2
            · exact hp.1 e n1 k hb' hb (by rw [← n2]; exact hk') hk
            · exact ih hp.2 n1 n2
      exact this es H.F.df he he'
    have hun : ∀ k, Un es (listed.setIfInBounds e.ix true) k ↔ Un es listed k ∧ ∀ hb, e.kd ≠ .a k hb := fun k => by
      constructor
      · rintro ⟨e', he', hl, hb, hk⟩
        have hne : ¬ (e' = e ∨ listed.getD e'.ix false = true) := fun h => by rw [(hset e' he').2 h] at hl; cases hl
        refine ⟨⟨e', he', ?_, hb, hk⟩, fun hb' hk' => hne (.inl (hkeyA k hb' hk' e' he' hb hk))⟩
        cases hq : listed.getD e'.ix false
        · rfl
        · exact absurd (.inr hq) hne
      · rintro ⟨⟨e', he', hl, hb, hk⟩, hn⟩
        refine ⟨e', he', ?_, hb, hk⟩
        cases hq : (listed.setIfInBounds e.ix true).getD e'.ix false
        · rfl
        · rcases (hset e' he').1 hq with rfl | h
          · exact absurd hk (hn hb)
          · rw [hl] at h; cases h
    have hpre : e.kd.pre hpX (fun k => k < σF.n ∧ ¬ Un es listed k) := by
      cases hk : e.kd with
      | v hp =>
        intro k
        cases hg : lkh k hp
        case gone => exact .inl rfl
        all_goals
          right
          rw [← hg]
          have hng : lkh k hp ≠ .gone := by rw [hg]; intro h; cases h
          rcases H.F.vh e he hp hk k with h | h
          · exact absurd h hng
          · rw [I.hp k, ← h]
            refine curF_key (fun e' he' hd hkey => ?_)
            cases hk' : e'.kd with
            | v _ => rw [hk'] at hkey; cases hkey
            | a j hb =>
              rw [hk'] at hkey; simp only [Kd.key, Option.some.injEq] at hkey; subst hkey
              have := (H.F.lo e' he' j hb hk').1
              rw [H.h0 j (by omega)] at h
              exact hng h.symm
            | b j h0 hb =>
              rw [hk'] at hkey; simp only [Kd.key, Option.some.injEq] at hkey; subst hkey
              rcases H.hid e he e' he' hp j h0 hb hk hk' with hh | hh
              · have := hh listed I.dn (fun d hd' hb => I.dn e'.it (hin e' he') hd d hd' hb)
                rw [h1] at this; cases this
              · exact hng hh
      | a k hb => exact fun hn => hn.2 ⟨e, he, h1, hb, hk⟩
      | b k h0 hb =>
        show lkh k hpX = h0
        rw [I.hp k, H.F.b0 la e lb hsplit k h0 hb hk, hsplit, curF_app]
        have hkk : e.kd.key = some k := by rw [hk]; rfl
        rw [curF_key (fun e' he' hd hkey => ?_)]
        · exact curF_congr rfl (fun e' he' hkey => hbefore e' he' k hkk hkey)
        · rcases List.mem_cons.1 he' with rfl | he'
          · rw [h1] at hd; cases hd
          · rw [hafter e' he' k hkk hkey] at hd; cases hd
    have key := H.F.dyn e he C E hpX (fun k => k < σF.n ∧ ¬ Un es listed k) a w (wpAny P .any os Q (m + T.length) (listed.setIfInBounds e.ix true)) Q hpre I.hs
      (fun t ht => by
        rcases I.fr t with ⟨e', he', hl, hd⟩ | h
        · have := H.rd e he t ht e' he' hd listed I.dn hxpr
          rw [hl] at this; cases this
        · exact h)
      (fun E' w' y k1 k2 k3 k4 => by
        have hn' : (fun k => k < σF.n ∧ ¬ Un es (listed.setIfInBounds e.ix true) k) = e.kd.neff (fun k => k < σF.n ∧ ¬ Un es listed k) := by
          funext k; apply propext
          rw [hun k]
          cases hko : e.kd with
          | v _ => simp [Kd.neff]
          | b _ _ _ => simp [Kd.neff]
          | a k0 hb0 =>
            have hlo := H.F.lo e he k0 hb0 hko
            simp only [Kd.neff]
            by_cases hk : k = k0
            · subst hk
              exact ⟨fun _ => .inr rfl, fun _ => ⟨hlo.2, fun hh => hh.2 hb0 rfl⟩⟩
            · exact ⟨fun hh => .inl ⟨hh.1, fun hu => hh.2 ⟨hu, fun hb hq => hk (by cases hq; rfl)⟩⟩, fun hh => by
                rcases hh with hh | hh
                · exact ⟨hh.1, fun hu => hh.2 hu.1⟩
                · exact absurd hh hk⟩
        refine sphase H hK hr m _ E' (a.put e.o.dst y) w' (e.kd.eff hpX) ?_ ⟨by simp [I.hsz], fun z hz => ?_, down_set (hin e he) H.hos hlisz I.dn hxpr, fun k => ?_, by rw [hn']; exact k2, fun t => ?_, ?_, ?_⟩
        · have := cnt_set es e hnde he h1 hlisz
          omega
        · rw [getD_set hlisz, if_neg]
          · exact I.hT z hz
          · intro hz'
            exact hnd.2.2 e.ix (by rw [List.map_map]; exact List.mem_map.2 ⟨e, he, rfl⟩) z.1 (List.mem_map.2 ⟨z, hz, rfl⟩) hz'.symm
        · have hdone : (listed.setIfInBounds e.ix true).getD e.ix false = true := (hset e he).2 (.inl rfl)
          have hcong : e.kd.key ≠ some k → curF (fun k => lkh k σ0.hp) es (fun e => listed.getD e.ix false) k = curF (fun k => lkh k σ0.hp) es (fun e' => (listed.setIfInBounds e.ix true).getD e'.ix false) k := fun hne =>
            curF_congr rfl (fun e' he' hkey => by
              cases hq : listed.getD e'.ix false
              · cases hq' : (listed.setIfInBounds e.ix true).getD e'.ix false
                · rfl
                · rcases (hset e' he').1 hq' with rfl | h
                  · exact absurd hkey hne
                  · rw [hq] at h; cases h
              · rw [(hset e' he').2 (.inr hq)])
          have hat : ∀ hb, (∀ f : Nat → HB, e.kd.upd f k = hb) → e.kd.key = some k → curF (fun k => lkh k σ0.hp) es (fun e' => (listed.setIfInBounds e.ix true).getD e'.ix false) k = hb := fun hb hup hkey => by
            have h2 : ∀ x ∈ lb, (listed.setIfInBounds e.ix true).getD x.ix false = true → x.kd.key ≠ some k := fun x hx hd hk => by
              have hxe : x ∈ es := by rw [hsplit]; simp [hx]
              rcases (hset x hxe).1 hd with rfl | h
              · have hnd' := hnde
                rw [hsplit, List.map_append, List.map_cons, List.nodup_append] at hnd'
                have := hnd'.2.1
                rw [List.nodup_cons] at this
                exact this.1 (List.mem_map.2 ⟨x, hx, rfl⟩)
              · rw [hafter x hx k hkey hk] at h; cases h
            have h3 := curF_at (l1 := la) (l2 := lb) (e := e) (f := fun k => lkh k σ0.hp) (d := fun e' => (listed.setIfInBounds e.ix true).getD e'.ix false) (k := k) h2 hdone
            rw [← hsplit] at h3
            rw [h3]; exact hup _
          cases hko : e.kd with
          | v hp =>
            simp only [Kd.eff]
            rw [I.hp k]
            exact hcong (by rw [hko]; intro h; cases h)
          | a k0 hb0 =>
            simp only [Kd.eff, lkh_cons]
            split
            · rename_i hkq; subst hkq
              exact (hat hb0 (fun f => by rw [hko]; simp [Kd.upd]) (by rw [hko]; rfl)).symm
            · rename_i hkq
              rw [I.hp k]
              exact hcong (by rw [hko]; simp only [Kd.key, ne_eq, Option.some.injEq]; exact fun h => hkq h.symm)
          | b k0 h0 hb0 =>
            simp only [Kd.eff, lkh_cons]
            split
            · rename_i hkq; subst hkq
              exact (hat hb0 (fun f => by rw [hko]; simp [Kd.upd]) (by rw [hko]; rfl)).symm
            · rename_i hkq
              rw [I.hp k]
              exact hcong (by rw [hko]; simp only [Kd.key, ne_eq, Option.some.injEq]; exact fun h => hkq h.symm)
        · have hdo : e.io.d = e.o.dst := cmpO_d (H.hco _ (hin e he))
          rw [hn']
          by_cases hd : e.io.d = some t
          · right
            have htN := H.F.dn e he t hd
            rw [← hdo, hd, put_get a t t y (by rw [I.N, H.F.N]; exact htN), if_pos rfl]
            exact k4 t hd
          · rcases I.fr t with ⟨e', he', hl, hde⟩ | h
            · left
              refine ⟨e', he', ?_, hde⟩
              rw [getD_set hlisz, if_neg]
              · exact hl
              · intro hix
                -- then e' is e
                have ho' := hoe e' he'
                rw [hix, hoe'] at ho'
                have h5 : e'.io.d = e'.o.dst := cmpO_d (H.hco _ (hin e' he'))
                rw [← Option.some.inj ho', ← hdo] at h5
                exact hd (h5.symm.trans hde)
            · right
              have hget : (a.put e.o.dst y).tmps.getD t undef = a.tmps.getD t undef := by
                cases hdd : e.o.dst with
                | none => rfl
                | some u =>
                  have htN := H.F.dn e he u (hdo.trans hdd)
                  rw [put_get a u t y (by rw [I.N, H.F.N]; exact htN), if_neg]
                  rintro rfl; exact hd (hdo.trans hdd)
              rw [hget]
              refine FR_mono k3 k1 (fun k hk => ?_) (fun _ _ _ _ => Iff.rfl) h
              cases e.kd with
              | v _ => exact hk
              | b _ _ _ => exact hk
              | a _ _ => exact .inl hk
        · have : (a.put e.o.dst y).tmps.size = a.tmps.size := by cases e.o.dst <;> simp [Act.put]
          rw [this]; exact I.N
        · have : (a.put e.o.dst y).defers = a.defers := by cases e.o.dst <;> simp [Act.put]
          rw [this]; exact I.df)
    split
    · rename_i hw; rw [if_pos hw] at key; exact .inl key
    · rename_i hw; rw [if_neg hw] at key; exact key
end
section
variable {P : Program} {os : Array Oper} {K : St → Prop} {C : Cx} {Q : Exit → Act → World → Prop}
/-- the free part, nothing listed yet -/
theorem free_start {all T : List It} {es : List El} {σ0 σF : St} {E : Env} {a : Act} {w : World} (H : Free P os all T es σ0 σF) (hg : σ0.gs = []) (hs : Sim C E σ0 a w) :
    SInv C all T es σ0 σF os.size (Array.replicate os.size false) E a w σ0.hp := by
  have hl : ∀ j, (Array.replicate os.size false).getD j false = false := fun j => by
    simp only [Array.getD, Array.size_replicate]; split <;> simp
  have hU : ∀ k, Un es (Array.replicate os.size false) k ↔ σ0.n ≤ k ∧ k < σF.n := fun k => by
    constructor
    · rintro ⟨e, he, _, hb, hk⟩; exact ⟨(H.F.lo e he k hb hk).1, (H.F.lo e he k hb hk).2⟩
    · rintro ⟨h1, h2⟩; obtain ⟨e, he, hb, hk⟩ := H.F.al k h1 h2; exact ⟨e, he, hl _, hb, hk⟩
  have hn : (fun k => k < σF.n ∧ ¬ Un es (Array.replicate os.size false) k) = ltn σ0.n := by
    funext k; apply propext
    rw [hU k]
    have := H.F.n
    simp only [ltn]
    constructor
    · rintro ⟨h1, h2⟩; omega
    · intro h; omega
  refine ⟨by simp, fun y _ => hl _, fun x _ h => (by rw [hl] at h; cases h), fun k => (curF_key (es := es) (f := fun k => lkh k σ0.hp) (d := fun e => (Array.replicate os.size false).getD e.ix false) (k := k) (fun e he hd => by simp only [hl] at hd; cases hd)).symm, by rw [hn]; exact hs.hs, fun t => ?_, by rw [hs.sz, H.F.N], hs.df⟩
  by_cases hd : ∃ e ∈ es, e.io.d = some t
  · obtain ⟨e, he, hd⟩ := hd; exact .inl ⟨e, he, hl _, hd⟩
  · right
    rw [hn, H.F.fr t (fun e he h => hd ⟨e, he, h⟩)]
    have := hs.fr t
    have hng : ∀ j b s, lk t σ0.fr ≠ .gd j b s := fun j b s h => by have := hs.gs t j b s h; rw [hg] at this; simp at this
    cases hq : lk t σ0.fr <;> rw [hq] at this hng <;> first | exact this | exact absurd rfl (hng _ _ _)
theorem sim_drawn {E : Env} {σ : St} {a : Act} {w : World} (h : Sim C E σ a w) (k : Nat) : Sim C E σ a { w with drawn := k } := by
  have hst : Stays w { w with drawn := k } (okS C E σ.hp) (okS C E σ.hp) := fun b hb _ => ⟨hb, rfl⟩
  have hb : Below w.heap.size w { w with drawn := k } := ⟨rfl, rfl, rfl, Nat.le_refl _, fun _ _ => rfl⟩
  exact Sim_same h hst (fun _ _ => ⟨rfl, rfl⟩) (Nat.le_refl _) (HSim_below h.hs hb)
end
inductive VE where
  | op (x : It)
  | hide (x : X)
def VE.vi : VE → VI
  | .op x => .op x.2.1
  | .hide x => .hide x
def veHx : List X → List VE → List (It × List X)
  | _, [] => []
  | hs, .op x :: r => (x, hs) :: veHx hs r
  | hs, .hide h :: r => veHx (h :: hs) r
def veIts : List VE → List It
  | [] => []
  | .op x :: r => x :: veIts r
  | .hide _ :: r => veIts r
theorem veHx_its : ∀ (vs : List VE) (hs : List X), (veHx hs vs).map (·.1) = veIts vs
  | [], _ => rfl
  | .op x :: r, hs => by simp [veHx, veIts, veHx_its r hs]
  | .hide h :: r, hs => by simp [veHx, veIts, veHx_its r]
section
variable {P : Program} {os : Array Oper} {K : St → Prop}
theorem run_append : ∀ {es es' : List El} {σ σ1 σ2 : St}, Run P os es σ σ1 → Run P os es' σ1 σ2 → Run P os (es ++ es') σ σ2
  | [], _, _, _, _, h1, h2 => by have : _ = _ := h1; subst this; exact h2
  | e :: es, _, _, _, _, h1, h2 => by obtain ⟨σ', S, h⟩ := h1; exact ⟨σ', S, run_append h h2⟩
theorem keyX_of_hide {s : SV} {σ : St} {r : KT} (h : hideK s σ r K) : ∃ k, keyX s = some k ∧ r ⟨σ.fr, (k, .gone) :: σ.hp, σ.n, σ.N, σ.gs⟩ K := by
  unfold hideK at h
  split at h
  · exact ⟨_, rfl, h⟩
  · exact ⟨_, rfl, h⟩
  · exact h.elim
theorem runV {r : KT} : ∀ (vs : List VE) (hs : List X) (σ : St) (hpm : List (Nat × HB)), (∀ p ∈ veHx hs vs, cmpO P os p.1.2.1 p.1.2.2 = true ∧ isV p.1.2.1.i = true ∧ ∀ h ∈ p.2, ∀ t ∈ rdX h, p.1.2.1.d ≠ some t) → gsOK σ → HExt hpm σ.hp →
    (∀ x ∈ hs, ∃ k, keyX (rdG none σ.fr x) = some k ∧ lkh k hpm = .gone) → rxv P r (vs.map VE.vi) ⟨σ.fr, hpm, σ.n, σ.N, σ.gs⟩ K →
    ∃ (es : List El) (σ' : St) (hpm' : List (Nat × HB)), Run P os es σ σ' ∧ es.map (fun e => (e.it, e.hx)) = veHx hs vs ∧ (∀ e ∈ es, ∃ hp, e.kd = .v hp) ∧ σ'.hp = σ.hp ∧ gsOK σ' ∧ r ⟨σ'.fr, hpm', σ'.n, σ'.N, σ'.gs⟩ K
  | [], hs, σ, hpm, _, hgs, _, _, h => ⟨[], σ, hpm, rfl, rfl, fun e he => by simp at he, rfl, hgs, h⟩
  | .hide x :: vs, hs, σ, hpm, hv, hgs, hx, hh, h => by
    obtain ⟨k, h1, h2⟩ := keyX_of_hide h
    exact runV vs (x :: hs) σ ((k, .gone) :: hpm) (fun p hp => hv p hp) hgs (fun j => by
      rw [lkh_cons]; split
      · exact .inl rfl
      · exact hx j) (fun y hy => by
      rcases List.mem_cons.1 hy with rfl | hy
      · exact ⟨k, h1, by rw [lkh_cons, if_pos rfl]⟩
      · obtain ⟨j, q1, q2⟩ := hh y hy
        exact ⟨j, q1, by rw [lkh_cons]; split; rfl; exact q2⟩) h2
  | .op x :: vs, hs, σ, hpm, hv, hgs, hx, hh, h => by
    obtain ⟨ix, io, o⟩ := x
    obtain ⟨v1, v2, v3⟩ := hv _ (List.mem_cons_self ..)
    obtain ⟨σ1, h1, S⟩ := vstep (σ := ⟨σ.fr, hpm, σ.n, σ.N, σ.gs⟩) v1 v2 hgs h
    have hn : σ1.n = σ.n := by
      rcases S.n with ⟨_, h⟩ | ⟨_, h, _⟩
      · exact h
      · cases h
    have hfr : ∀ t, io.d ≠ some t → lk t σ1.fr = lk t σ.fr := fun t ht => by
      rcases S.fr with ⟨_, h⟩ | ⟨u, s, h, _, _, h'⟩
      · rw [h]
      · rw [h', lk_cons, if_neg (by rintro rfl; exact ht h)]
    have hhp : σ1.hp = hpm := S.hp
    obtain ⟨es, σ', hpm', r1, r2, r3, r4, r5, r6⟩ := runV vs hs ⟨σ1.fr, σ.hp, σ1.n, σ1.N, σ1.gs⟩ hpm (fun p hp => hv p (by simp [veHx, hp])) S.gsOK hx (fun y hy => by
      obtain ⟨k, q1, q2⟩ := hh y hy
      exact ⟨k, by rw [rdG_none (fr := σ.fr) (fun t ht => hfr t (v3 y hy t ht))]; exact q1, q2⟩) (by rw [← hhp]; exact h1)
    refine ⟨⟨ix, io, o, .v hpm, hs⟩ :: es, σ', hpm', ⟨⟨σ1.fr, σ.hp, σ1.n, σ1.N, σ1.gs⟩, ⟨S.N, S.gs, S.gsOK, S.fr, fun hp hk => ?_, (fun _ _ h => by cases h), (fun _ _ _ h => by cases h), dynG_v S.dyn⟩, r1⟩, by simp only [List.map_cons, r2, veHx]; rfl, fun e he => ?_, r4, r5, r6⟩
    · cases hk
      exact ⟨rfl, hn, hx, hh⟩
    · rcases List.mem_cons.1 he with rfl | he
      · exact ⟨_, rfl⟩
      · exact r3 e he
theorem runA {rest : List Ins} : ∀ (L : List It) (σ : St), (∀ x ∈ L, cmpO P os x.2.1 x.2.2 = true ∧ isA x.2.1 = true) → gsOK σ → rx P (L.map (·.2.1) ++ rest) σ K →
    ∃ (es : List El) (σ' : St), Run P os es σ σ' ∧ es.map (fun e => (e.it, e.hx)) = L.map (fun x => (x, [])) ∧ (∀ e ∈ es, ∃ k hb, e.kd = .a k hb) ∧ gsOK σ' ∧ rx P rest σ' K
  | [], σ, _, hgs, h => ⟨[], σ, rfl, rfl, fun e he => by simp at he, hgs, h⟩
  | (ix, io, o) :: L, σ, hv, hgs, h => by
    obtain ⟨v1, v2⟩ := hv _ (List.mem_cons_self ..)
    simp only [List.map_cons, List.cons_append, rx] at h
    obtain ⟨σ1, hb, h1, S, hval⟩ := astep v1 v2 hgs h
    obtain ⟨es, σ', r1, r2, r3, r4, r5⟩ := runA L σ1 (fun x hx => hv x (by simp [hx])) S.gsOK h1
    have hn : σ1.n = σ.n + 1 := by
      rcases S.n with ⟨h, _⟩ | ⟨_, _, h⟩
      · cases h
      · exact h
    refine ⟨⟨ix, io, o, .a σ.n hb, []⟩ :: es, σ', ⟨σ1, ⟨S.N, S.gs, S.gsOK, S.fr, (fun _ h => by cases h), fun k hb' hk => ?_, (fun _ _ _ h => by cases h), dynG_a S.dyn⟩, r1⟩, by simp only [List.map_cons, r2]; rfl, fun e he => ?_, r4, r5⟩
    · cases hk; exact ⟨rfl, S.hp, hn, rfl, hval⟩
    · rcases List.mem_cons.1 he with rfl | he
      · exact ⟨_, _, rfl⟩
      · exact r3 e he
theorem isB_d {io : Ins} (h : isB io = true) : io.d = none := by
  obtain ⟨d, i, g, af⟩ := io
  unfold isB at h
  split at h
  · rename_i e _ _; exact e
  · cases h
theorem runB {rest : List Ins} : ∀ (L : List It) (σ : St), (∀ x ∈ L, cmpO P os x.2.1 x.2.2 = true ∧ isB x.2.1 = true) → gsOK σ → rx P (L.map (·.2.1) ++ rest) σ K →
    ∃ (es : List El) (σ' : St), Run P os es σ σ' ∧ es.map (fun e => (e.it, e.hx)) = L.map (fun x => (x, [])) ∧ (∀ e ∈ es, ∃ k h0 hb, e.kd = .b k h0 hb) ∧ gsOK σ' ∧ rx P rest σ' K
  | [], σ, _, hgs, h => ⟨[], σ, rfl, rfl, fun e he => by simp at he, hgs, h⟩
  | (ix, io, o) :: L, σ, hv, hgs, h => by
    obtain ⟨v1, v2⟩ := hv _ (List.mem_cons_self ..)
    simp only [List.map_cons, List.cons_append, rx] at h
    obtain ⟨k, hb, h0, h1, S⟩ := bstep v1 v2 h
    obtain ⟨es, σ', r1, r2, r3, r4, r5⟩ := runB L ⟨σ.fr, (k, hb) :: σ.hp, σ.n, σ.N, σ.gs⟩ (fun x hx => hv x (by simp [hx])) hgs h1
    refine ⟨⟨ix, io, o, .b k (lkh k σ.hp) hb, []⟩ :: es, σ', ⟨⟨σ.fr, (k, hb) :: σ.hp, σ.n, σ.N, σ.gs⟩, ⟨rfl, fun _ h => h, hgs, .inl ⟨isB_d v2, rfl⟩, (fun _ h => by cases h), (fun _ _ h => by cases h), fun k' h0' hb' hk => ?_, S⟩, r1⟩, by simp only [List.map_cons, r2]; rfl, fun e he => ?_, r4, r5⟩
    · cases hk; exact ⟨rfl, rfl, rfl, h0, rfl, v2⟩
    · rcases List.mem_cons.1 he with rfl | he
      · exact ⟨_, _, _, rfl⟩
      · exact r3 e he
end
/-! the check that the kernel makes of a region that draws its order -/
def clOf (j : Nat) : List (Nat × Nat) → Nat
  | [] => 0
  | (i, m) :: r => bif Nat.beq j i then m else clOf j r
def lorL (cl : List (Nat × Nat)) : List Nat → Nat
  | [] => 0
  | j :: r => Nat.lor (Nat.lor (2 ^ j) (clOf j cl)) (lorL cl r)
section
variable {P : Program} {os : Array Oper}
def ClOk (all : List It) (cl : List (Nat × Nat)) : Prop := ∀ i j, Nat.testBit (clOf i cl) j = true → ∀ listed, Down listed all → listed.getD i false = true → listed.getD j false = true
theorem lorL_bit {cl : List (Nat × Nat)} {j : Nat} : ∀ {af : List Nat}, Nat.testBit (lorL cl af) j = true → j ∈ af ∨ ∃ i ∈ af, Nat.testBit (clOf i cl) j = true
  | [], h => by simp [lorL] at h
  | a :: r, h => by
    simp only [lorL] at h
    have h' : ((2 ^ a ||| clOf a cl) ||| lorL cl r).testBit j = true := h
    rw [Nat.testBit_or, Nat.testBit_or, Bool.or_eq_true, Bool.or_eq_true, Nat.testBit_two_pow] at h'
    rcases h' with (h' | h') | h'
    · simp at h'; exact .inl (by simp [h'])
    · exact .inr ⟨a, by simp, h'⟩
    · rcases lorL_bit h' with h' | ⟨i, hi, h'⟩
      · exact .inl (by simp [h'])
      · exact .inr ⟨i, by simp [hi], h'⟩
/-- the edges of an operation are those that the small code names -/
def AfOk (io : Ins) (o : Oper) : Prop := (∀ e ∈ o.after, Region.binds .any e = true → e.on ∈ io.af) ∧ ∀ j ∈ io.af, ∃ e ∈ o.after, Region.binds .any e = true ∧ e.on = j
theorem needs_of {all : List It} {x : It} {cl : List (Nat × Nat)} (hcl : ClOk all cl) (ha : AfOk x.2.1 x.2.2) {j : Nat} (h : Nat.testBit (lorL cl x.2.1.af) j = true) : Needs all x j := by
  intro listed hd hp
  have hl : ∀ i ∈ x.2.1.af, listed.getD i false = true := fun i hi => by
    obtain ⟨e, he, hb, rfl⟩ := ha.2 i hi
    exact hp e he hb
  rcases lorL_bit h with h | ⟨i, hi, h⟩
  · exact hl j h
  · exact hcl i j h listed hd (hl i hi)
theorem clOk_cons {all : List It} {x : It} {cl : List (Nat × Nat)} (hcl : ClOk all cl) (ha : AfOk x.2.1 x.2.2) (hx : x ∈ all) : ClOk all ((x.1, lorL cl x.2.1.af) :: cl) := by
  intro i j h listed hd hl
  simp only [clOf] at h
  cases hq : Nat.beq i x.1
  · rw [hq] at h; exact hcl i j h listed hd hl
  · rw [hq] at h
    have := Nat.eq_of_beq_eq_true hq; subst this
    exact needs_of hcl ha h listed hd (fun e he hb => hd x hx hl e he hb)
end
def okS1 (W : List (Nat × Nat)) (i : Nat) (io : Ins) (done : List Nat) (cl : List (Nat × Nat)) : Bool :=
  io.af.all (fun j => memb j done) && !memb i done && (rdIO io).all fun t => W.all fun q => !Nat.beq q.1 t || Nat.testBit (lorL cl io.af) q.2
def phS (W : List (Nat × Nat)) : List (Nat × Ins) → List Nat → List (Nat × Nat) → Option (List Nat × List (Nat × Nat))
  | [], done, cl => some (done, cl)
  | (i, io) :: r, done, cl => bif okS1 W i io done cl then phS W r (i :: done) ((i, lorL cl io.af) :: cl) else none
def phT : List (Nat × Ins) → List Nat → List (Nat × Nat) → Bool
  | [], _, _ => true
  | (i, io) :: r, done, cl => io.af.all (fun j => memb j done) && !memb i done && done.all (fun j => Nat.testBit (lorL cl io.af) j) && phT r (i :: done) ((i, lorL cl io.af) :: cl)
def wOf : List (Nat × Ins) → List (Nat × Nat)
  | [] => []
  | (i, io) :: r => match io.d with
    | some t => (t, i) :: wOf r
    | none => wOf r
theorem wOf_mem {i t : Nat} {io : Ins} : ∀ {l : List (Nat × Ins)}, (i, io) ∈ l → io.d = some t → (t, i) ∈ wOf l
  | (j, jo) :: l, h, hd => by
    rcases List.mem_cons.1 h with h | h
    · cases h; simp [wOf, hd]
    · have := wOf_mem h hd
      simp only [wOf]; split
      · simp [this]
      · exact this
theorem phS_sound {W : List (Nat × Nat)} {all : List It} : ∀ (L : List It) (done : List Nat) (cl : List (Nat × Nat)) (done' : List Nat) (cl' : List (Nat × Nat)), phS W (L.map fun x => (x.1, x.2.1)) done cl = some (done', cl') →
    (∀ x ∈ L, x ∈ all ∧ AfOk x.2.1 x.2.2) → ClOk all cl →
    ClOk all cl' ∧ (∀ j, j ∈ done' ↔ j ∈ done ∨ j ∈ L.map (·.1)) ∧ (∀ x ∈ L, ∀ t ∈ rdIO x.2.1, ∀ q ∈ W, q.1 = t → Needs all x q.2) ∧
      (∀ l1 x l2, L = l1 ++ x :: l2 → ∀ d ∈ x.2.2.after, Region.binds .any d = true → d.on ∈ done ∨ d.on ∈ l1.map (·.1)) ∧ (L.map (·.1)).Nodup ∧ ∀ j ∈ L.map (·.1), j ∉ done
  | [], done, cl, done', cl', h, _, hcl => by
    simp only [List.map_nil, phS, Option.some.injEq, Prod.mk.injEq] at h
    obtain ⟨rfl, rfl⟩ := h
    exact ⟨hcl, fun j => by simp, fun x hx => by simp at hx, fun l1 x l2 h => by simp at h, by simp, fun j h => by simp at h⟩
  | x :: L, done, cl, done', cl', h, hall, hcl => by
    simp only [List.map_cons, phS] at h
    cases hk : okS1 W x.1 x.2.1 done cl
    · rw [hk] at h; cases h
    · rw [hk] at h; simp only [cond_true] at h
      simp only [okS1, Bool.and_eq_true, List.all_eq_true] at hk
      obtain ⟨⟨k1, k2⟩, k3⟩ := hk
      obtain ⟨hxa, haf⟩ := hall x (List.mem_cons_self ..)
      obtain ⟨r1, r2, r3, r4, r5, r6⟩ := phS_sound L (x.1 :: done) _ done' cl' h (fun y hy => hall y (by simp [hy])) (clOk_cons hcl haf hxa)
      have hnd : x.1 ∉ done := fun hm => by rw [memb_iff.2 hm] at k2; cases k2
      refine ⟨r1, fun j => ?_, fun y hy t ht q hq hqt => ?_, fun l1 y l2 he d hd hb => ?_, ?_, fun j hj => ?_⟩
      · rw [r2 j]; simp only [List.mem_cons, List.map_cons]
        constructor
        · rintro ((h | h) | h) <;> simp [h]
        · rintro (h | h | h) <;> simp [h]
      · rcases List.mem_cons.1 hy with rfl | hy
        · have := k3 t ht q hq
          rw [hqt, Nat.beq_refl] at this
          exact needs_of hcl haf (by simpa using this)
        · exact r3 y hy t ht q hq hqt
      · cases l1 with
        | nil => simp at he; obtain ⟨rfl, rfl⟩ := he; exact .inl (memb_iff.1 (k1 _ (haf.1 d hd hb)))
        | cons z l1 =>
          simp at he; obtain ⟨rfl, rfl⟩ := he
          rcases r4 l1 y l2 rfl d hd hb with h | h
          · rcases List.mem_cons.1 h with h | h
            · exact .inr (by simp [h])
            · exact .inl h
          · exact .inr (by simp at h ⊢; exact .inr h)
      · rw [List.map_cons, List.nodup_cons]
        exact ⟨fun hm => r6 _ hm (by simp), r5⟩
      · rw [List.map_cons, List.mem_cons] at hj
        rcases hj with rfl | hj
        · exact hnd
        · exact fun hm => r6 j hj (by simp [hm])
theorem phT_sound {sz : Nat} {all : List It} : ∀ (T : List It) (done : List Nat) (cl : List (Nat × Nat)), phT (T.map fun x => (x.1, x.2.1)) done cl = true →
    (∀ x ∈ T, x ∈ all ∧ AfOk x.2.1 x.2.2) → (∀ j ∈ done, j < sz) → (∀ x ∈ T, x.1 < sz) → ClOk all cl →
    TOk sz all T ∧ (∀ y ∈ T, ∀ j ∈ done, Needs all y j) ∧ (T.map (·.1)).Nodup ∧ ∀ j ∈ T.map (·.1), j ∉ done
  | [], done, cl, _, _, _, _, _ => ⟨trivial, fun y hy => by simp at hy, by simp, fun j h => by simp at h⟩
  | x :: T, done, cl, h, hall, hdn, hsz, hcl => by
    simp only [List.map_cons, phT, Bool.and_eq_true, List.all_eq_true] at h
    obtain ⟨⟨⟨k1, k2⟩, k3⟩, k4⟩ := h
    obtain ⟨hxa, haf⟩ := hall x (List.mem_cons_self ..)
    have hx := hsz x (List.mem_cons_self ..)
    obtain ⟨r1, r2, r3, r4⟩ := phT_sound T (x.1 :: done) _ k4 (fun y hy => hall y (by simp [hy])) (fun j hj => by
      rcases List.mem_cons.1 hj with rfl | hj
      · exact hx
      · exact hdn j hj) (fun y hy => hsz y (by simp [hy])) (clOk_cons hcl haf hxa)
    have hnd : x.1 ∉ done := fun hm => by rw [memb_iff.2 hm] at k2; cases k2
    have hdis : ∀ j ∈ (x :: T).map (·.1), j ∉ done := fun j hj => by
      rw [List.map_cons, List.mem_cons] at hj
      rcases hj with rfl | hj
      · exact hnd
      · exact fun hm => r4 j hj (by simp [hm])
    refine ⟨⟨fun d hd hb => ?_, fun y hy => r2 y hy x.1 (by simp), r1⟩, fun y hy j hj => ?_, ?_, hdis⟩
    · have := memb_iff.1 (k1 _ (haf.1 d hd hb))
      exact ⟨hdn _ this, fun hm => hdis _ hm this⟩
    · rcases List.mem_cons.1 hy with rfl | hy
      · exact needs_of hcl haf (k3 j hj)
      · exact r2 y hy j (by simp [hj])
    · rw [List.map_cons, List.nodup_cons]
      exact ⟨fun hm => r4 _ hm (by simp), r3⟩
def afB (io : Ins) (o : Oper) : Bool :=
  o.after.toList.all (fun e => !Region.binds .any e || memb e.on io.af) && io.af.all fun j => o.after.toList.any fun e => Region.binds .any e && Nat.beq e.on j
theorem afB_sound {io : Ins} {o : Oper} (h : afB io o = true) : AfOk io o := by
  simp only [afB, Bool.and_eq_true, List.all_eq_true, List.any_eq_true, Bool.or_eq_true, Bool.not_eq_true'] at h
  obtain ⟨h1, h2⟩ := h
  refine ⟨fun e he hb => ?_, fun j hj => ?_⟩
  · rcases h1 e (by simpa using he) with h | h
    · rw [hb] at h; cases h
    · exact memb_iff.1 h
  · obtain ⟨e, he, hb, hj⟩ := h2 j hj
    exact ⟨e, by simpa using he, hb, Nat.eq_of_beq_eq_true hj⟩
/-- the small code's operations beside the given ones that they tell of -/
def itsOf (P : Program) (os : Array Oper) : List Nat → List Ins → Option (List It)
  | [], [] => some []
  | i :: r, io :: s => match os[i]?, itsOf P os r s with
    | some o, some l => bif cmpO P os io o && afB io o then some ((i, io, o) :: l) else none
    | _, _ => none
  | _, _ => none
theorem itsOf_sound {P : Program} {os : Array Oper} : ∀ {ord : List Nat} {ops : List Ins} {l : List It}, itsOf P os ord ops = some l →
    l.map (·.1) = ord ∧ l.map (·.2.1) = ops ∧ ∀ x ∈ l, os[x.1]? = some x.2.2 ∧ cmpO P os x.2.1 x.2.2 = true ∧ AfOk x.2.1 x.2.2
  | [], [], l, h => by simp [itsOf] at h; subst h; simp
  | i :: r, io :: s, l, h => by
    simp only [itsOf] at h
    split at h
    · rename_i o l' ho hl'
      cases hb : cmpO P os io o && afB io o
      · rw [hb] at h; cases h
      · rw [hb] at h; simp only [cond_true, Option.some.injEq] at h; subst h
        simp only [Bool.and_eq_true] at hb
        obtain ⟨h1, h2, h3⟩ := itsOf_sound hl'
        refine ⟨by simp [h1], by simp [h2], fun x hx => ?_⟩
        rcases List.mem_cons.1 hx with rfl | hx
        · exact ⟨ho, hb.1, afB_sound hb.2⟩
        · exact h3 x hx
    · cases h
  | [], _ :: _, _, h => by simp [itsOf] at h
  | _ :: _, [], _, h => by simp [itsOf] at h
def neD (d : Option Nat) (t : Nat) : Bool :=
  match d with
  | none => true
  | some u => !Nat.beq u t
theorem neD_ne {d : Option Nat} {t : Nat} (h : neD d t = true) : d ≠ some t := by
  rintro rfl; simp [neD, Nat.beq_refl] at h
def srule1 (x : Ins × List X) (r : List (Ins × List X)) : Bool :=
  (isV x.1.i || r.all fun y => !isV y.1.i) && (rdIO x.1).all (fun t => neD x.1.d t && r.all fun y => neD y.1.d t) && (match x.1.d with | none => true | some t => r.all fun y => neD y.1.d t) &&
    x.2.all fun h => (rdX h).all fun t => neD x.1.d t && r.all fun y => neD y.1.d t
def sruleB : List (Ins × List X) → Bool
  | [] => true
  | x :: r => srule1 x r && sruleB r
theorem sruleB_sound : ∀ (es : List El), (∀ e ∈ es, (isV e.io.i = true → ∃ hp, e.kd = .v hp) ∧ (isV e.io.i = false → ∀ hp, e.kd ≠ .v hp)) → sruleB (es.map fun e => (e.io, e.hx)) = true → SRule es
  | [], _, _ => trivial
  | e :: es, hk, h => by
    simp only [List.map_cons, sruleB, srule1, Bool.and_eq_true, Bool.or_eq_true, List.all_eq_true] at h
    obtain ⟨⟨⟨⟨h1, h2⟩, h3⟩, h5⟩, h4⟩ := h
    have mem : ∀ y ∈ es, (y.io, y.hx) ∈ es.map (fun e => (e.io, e.hx)) := fun y hy => List.mem_map.2 ⟨y, hy, rfl⟩
    refine ⟨?_, fun t ht => ⟨neD_ne (h2 t ht).1, fun y hy => neD_ne ((h2 t ht).2 _ (mem y hy))⟩, fun t ht y hy => ?_, fun x hx t ht => ⟨neD_ne (h5 x hx t ht).1, fun y hy => neD_ne ((h5 x hx t ht).2 _ (mem y hy))⟩, sruleB_sound es (fun e he => hk e (by simp [he])) h4⟩
    · rcases h1 with h1 | h1
      · exact .inl ((hk e (by simp)).1 h1)
      · refine .inr (fun y hy => (hk y (by simp [hy])).2 ?_)
        have := h1 _ (mem y hy)
        simpa using this
    · rw [ht] at h3
      simp only [List.all_eq_true] at h3
      exact neD_ne (h3 _ (mem y hy))
def vOps : List VI → List Ins
  | [] => []
  | .op io :: r => io :: vOps r
  | .hide _ :: r => vOps r
def mkVE : List VI → List It → List VE
  | [], _ => []
  | .op _ :: _, [] => []
  | .op _ :: r, x :: l => .op x :: mkVE r l
  | .hide h :: r, l => .hide h :: mkVE r l
theorem mkVE_ok : ∀ (vs : List VI) (l : List It), l.map (·.2.1) = vOps vs → (mkVE vs l).map VE.vi = vs ∧ veIts (mkVE vs l) = l
  | [], [], _ => ⟨rfl, rfl⟩
  | [], _ :: _, h => by simp [vOps] at h
  | .op io :: r, [], h => by simp [vOps] at h
  | .op io :: r, x :: l, h => by
    simp only [List.map_cons, vOps, List.cons.injEq] at h
    obtain ⟨h1, h2⟩ := mkVE_ok r l h.2
    simp [mkVE, VE.vi, veIts, h1, h2, h.1]
  | .hide x :: r, l, h => by
    obtain ⟨h1, h2⟩ := mkVE_ok r l h
    simp [mkVE, VE.vi, veIts, h1, h2]
def eqX : X → X → Bool
  | .t a, .t b => Nat.beq a b
  | _, _ => false
theorem eqX_eq {x y : X} (h : eqX x y = true) : x = y := by
  unfold eqX at h; split at h
  · rw [Nat.eq_of_beq_eq_true h]
  · cases h
def dstX (x : X) (io : Ins) : Bool :=
  match x, io.d with
  | .t s, some t => Nat.beq s t
  | _, _ => false
def prs (l : List It) : List (Nat × Ins) := l.map fun x => (x.1, x.2.1)
def chB (cl : List (Nat × Nat)) : List Nat → List It → Bool
  | _, [] => true
  | pre, b :: r => pre.all (fun i => Nat.testBit (lorL cl b.2.1.af) i) && chB cl (b.1 :: pre) r
def ckN (ve : List VE) (lA lB lT : List It) : Option (List Nat × List (Nat × Nat)) → Bool
  | some q => phT (prs lT) q.1 q.2 && ((veHx [] ve).all fun p => lB.all fun b => Nat.testBit (lorL q.2 b.2.1.af) p.1.1 || p.2.any (eqX (bX b.2.1)) || lA.any fun a => dstX (bX b.2.1) a.2.1) && chB q.2 (lA.map (·.1)) lB
  | none => false
def stL (ve : List VE) (lA lB : List It) : List (Ins × List X) := (veHx [] ve).map (fun p => (p.1.2.1, p.2)) ++ (lA.map (fun x => (x.2.1, [])) ++ lB.map fun x => (x.2.1, []))
def ckM (sz : Nat) (ord : List Nat) (ve : List VE) (lA lB lT : List It) : Bool :=
  (veHx [] ve).all (fun p => isV p.1.2.1.i) && lA.all (fun x => isA x.2.1) && lB.all (fun x => isB x.2.1) && sruleB (stL ve lA lB) &&
    ckN ve lA lB lT (phS (wOf (prs (veIts ve ++ (lA ++ lB)))) (prs (veIts ve ++ (lA ++ lB))) [] []) && Nat.beq ord.length sz && (List.range sz).all fun j => memb j ord
def ckL (sz : Nat) (ord : List Nat) (vs : List VI) (nA nB : Nat) : Option (List It) → Bool
  | some l => ckM sz ord (mkVE vs (l.take (vOps vs).length)) ((l.drop (vOps vs).length).take nA) (((l.drop (vOps vs).length).drop nA).take nB) (((l.drop (vOps vs).length).drop nA).drop nB)
  | none => false
def ckD (P : Program) (os : Array Oper) (ord : List Nat) (vs : List VI) (nA nB : Nat) (rest : List Ins) : Bool := ckL os.size ord vs nA nB (itsOf P os ord (vOps vs ++ rest))
theorem isA_V {io : Ins} (h : isA io = true) : isV io.i = false := by
  obtain ⟨d, i, g, af⟩ := io
  cases g with
  | some _ => simp [isA] at h
  | none => cases i <;> simp [isA] at h <;> rfl
theorem isB_V {io : Ins} (h : isB io = true) : isV io.i = false := by
  obtain ⟨d, i, g, af⟩ := io
  unfold isB at h
  split at h
  · rename_i e1 e2 e3; simp only at e3; subst e3; rfl
  · cases h
theorem chB_sound {all : List It} {cl : List (Nat × Nat)} (hcl : ClOk all cl) : ∀ (lB : List It) (pre : List Nat), chB cl pre lB = true → (∀ b ∈ lB, AfOk b.2.1 b.2.2) →
    (∀ b ∈ lB, ∀ i ∈ pre, Needs all b i) ∧ ∀ l1 b l2, lB = l1 ++ b :: l2 → ∀ b' ∈ l2, Needs all b' b.1
  | [], _, _, _ => ⟨fun b h => by simp at h, fun l1 b l2 h => by simp at h⟩
  | b :: r, pre, h, ha => by
    simp only [chB, Bool.and_eq_true, List.all_eq_true] at h
    obtain ⟨h1, h2⟩ := h
    obtain ⟨k1, k2⟩ := chB_sound hcl r (b.1 :: pre) h2 (fun x hx => ha x (by simp [hx]))
    refine ⟨fun x hx i hi => ?_, fun l1 x l2 he y hy => ?_⟩
    · rcases List.mem_cons.1 hx with rfl | hx
      · exact needs_of hcl (ha _ (by simp)) (h1 i hi)
      · exact k1 x hx i (by simp [hi])
    · cases l1 with
      | nil => simp at he; obtain ⟨rfl, rfl⟩ := he; exact k1 y hy b.1 (by simp)
      | cons z l1 => simp at he; exact k2 l1 x l2 he.2 y hy
theorem map_mem {α β γ : Type} {f : α → γ} {g : β → γ} {l : List α} {m : List β} (h : l.map f = m.map g) {a : α} (ha : a ∈ l) : ∃ b ∈ m, f a = g b := by
  have : f a ∈ m.map g := by rw [← h]; exact List.mem_map.2 ⟨a, ha, rfl⟩
  obtain ⟨b, hb, e⟩ := List.mem_map.1 this
  exact ⟨b, hb, e.symm⟩
theorem regd_sound {P : Program} {os : Array Oper} {ord : List Nat} {vs : List VI} {nA nB : Nat} {rest : List Ins} {σ : St} {K : St → Prop} {C : Cx} {Q : Exit → Act → World → Prop} {E : Env} {a : Act} {w : World} {id : Nat} (hck : ckD P os ord vs nA nB rest = true) (hm : P.follows .mixedOrders = true)
    (hg : σ.gs = []) (hr : rxv P (backK σ.hp (rx P rest)) vs σ K) (hK : ∀ σ, K σ → ∀ E a w, Sim C E σ a w → Q .normal a w) (hs : Sim C E σ a w) : (Code.region id os true).wp P Q a w := by
  unfold ckD at hck
  cases hl : itsOf P os ord (vOps vs ++ rest) with
  | none => rw [hl] at hck; cases hck
  | some l =>
    rw [hl] at hck
    simp only [ckL] at hck
    obtain ⟨l1, l2, l3⟩ := itsOf_sound hl
    have hV : (l.take (vOps vs).length).map (·.2.1) = vOps vs := by rw [List.map_take, l2, List.take_left']; rfl
    have hR : (l.drop (vOps vs).length).map (·.2.1) = rest := by rw [List.map_drop, l2, List.drop_left']; rfl
    obtain ⟨e1, e2⟩ := mkVE_ok vs _ hV
    generalize hve : mkVE vs (l.take (vOps vs).length) = ve at hck e1 e2
    generalize hA : (l.drop (vOps vs).length).take nA = lA at hck
    generalize hB : ((l.drop (vOps vs).length).drop nA).take nB = lB at hck
    generalize hT : ((l.drop (vOps vs).length).drop nA).drop nB = lT at hck
    have hsplit : l = veIts ve ++ (lA ++ lB) ++ lT := by
      rw [e2, ← hA, ← hB, ← hT, List.append_assoc, List.append_assoc, List.take_append_drop, List.take_append_drop, List.take_append_drop]
    have hrest : rest = (lA.map (·.2.1)) ++ (lB.map (·.2.1) ++ lT.map (·.2.1)) := by
      rw [← hR, ← hA, ← hB, ← hT, ← List.map_append, List.take_append_drop, ← List.map_append, List.take_append_drop]
    simp only [ckM, Bool.and_eq_true, List.all_eq_true, List.mem_range] at hck
    obtain ⟨⟨⟨⟨⟨⟨c1, c2⟩, c3⟩, c4⟩, c5⟩, c6⟩, c7⟩ := hck
    cases hq : phS (wOf (prs (veIts ve ++ (lA ++ lB)))) (prs (veIts ve ++ (lA ++ lB))) [] [] with
    | none => rw [hq] at c5; cases c5
    | some q =>
      obtain ⟨done, cl⟩ := q
      rw [hq] at c5; simp only [ckN, Bool.and_eq_true, List.all_eq_true, Bool.or_eq_true, List.any_eq_true] at c5
      obtain ⟨⟨c5, c8⟩, c9⟩ := c5
      have hinS : ∀ x ∈ veIts ve ++ (lA ++ lB), x ∈ l := fun x hx => by rw [hsplit]; exact List.mem_append_left _ hx
      have hinT : ∀ x ∈ lT, x ∈ l := fun x hx => by rw [hsplit]; exact List.mem_append_right _ hx
      have hinA : ∀ x ∈ lA, x ∈ l := fun x hx => hinS x (by simp [hx])
      have hinB : ∀ x ∈ lB, x ∈ l := fun x hx => hinS x (by simp [hx])
      have hinV : ∀ x ∈ veIts ve, x ∈ l := fun x hx => hinS x (by simp [hx])
      have hlt : ∀ x ∈ l, x.1 < os.size := fun x hx => (Array.getElem?_eq_some_iff.1 (l3 x hx).1).1
      have hcl0 : ClOk l [] := fun i j h => by simp [clOf] at h
      obtain ⟨s1, s2, s3, s4, s5, s6⟩ := phS_sound (all := l) (veIts ve ++ (lA ++ lB)) [] [] done cl hq (fun x hx => ⟨hinS x hx, (l3 x (hinS x hx)).2.2⟩) hcl0
      obtain ⟨t1, t2, t3, t4⟩ := phT_sound (sz := os.size) (all := l) lT done cl c5 (fun x hx => ⟨hinT x hx, (l3 x (hinT x hx)).2.2⟩) (fun j hj => by
        rcases (s2 j).1 hj with h | h
        · simp at h
        · obtain ⟨x, hx, rfl⟩ := List.mem_map.1 h
          exact hlt x (hinS x hx)) (fun x hx => hlt x (hinT x hx)) s1
      obtain ⟨u1, u2⟩ := chB_sound s1 lB _ c9 (fun b hb => (l3 b (hinB b hb)).2.2)
      have hgs : gsOK σ := fun t j b s h => hs.gs t j b s h
      have hvmem : ∀ p ∈ veHx [] ve, p.1 ∈ veIts ve := fun p hp => by rw [← veHx_its ve []]; exact List.mem_map.2 ⟨p, hp, rfl⟩
      -- the rules on hidden slots
      have hhid : ∀ p ∈ veHx [] ve, ∀ h ∈ p.2, ∀ t ∈ rdX h, p.1.2.1.d ≠ some t := by
        have : ∀ (L : List (Ins × List X)), sruleB L = true → ∀ p ∈ L, ∀ h ∈ p.2, ∀ t ∈ rdX h, p.1.d ≠ some t := by
          intro L
          induction L with
          | nil => intro _ p hp; simp at hp
          | cons y L ih =>
            intro hL p hp h hh t ht
            simp only [sruleB, srule1, Bool.and_eq_true, List.all_eq_true] at hL
            rcases List.mem_cons.1 hp with rfl | hp
            · exact neD_ne (hL.1.2 h hh t ht).1
            · exact ih hL.2 p hp h hh t ht
        intro p hp h hh t ht
        exact this _ c4 (p.1.2.1, p.2) (by simp only [stL]; exact List.mem_append_left _ (List.mem_map.2 ⟨p, hp, rfl⟩)) h hh t ht
      rw [← e1] at hr
      obtain ⟨esV, σ1, hpm, v1, v2, v3, v4, v5, v6⟩ := runV (os := os) ve [] σ σ.hp (fun p hp => ⟨(l3 p.1 (hinV _ (hvmem p hp))).2.1, c1 p hp, hhid p hp⟩) hgs (fun k => .inr rfl) (fun x hx => by simp at hx) hr
      have v6' : rx P rest σ1 K := by
        have : rx P rest ⟨σ1.fr, σ.hp, σ1.n, σ1.N, σ1.gs⟩ K := v6
        rw [← v4] at this; exact this
      rw [hrest] at v6'
      obtain ⟨esA, σ2, a1, a2, a3, a4, a5⟩ := runA (os := os) lA σ1 (fun x hx => ⟨(l3 x (hinA x hx)).2.1, c2 x hx⟩) v5 v6'
      obtain ⟨esB, σF, b1, b2, b3, b4, b5⟩ := runB (os := os) lB σ2 (fun x hx => ⟨(l3 x (hinB x hx)).2.1, c3 x hx⟩) a4 a5
      have hrun : Run P os (esV ++ (esA ++ esB)) σ σF := run_append v1 (run_append a1 b1)
      have hVk : ∀ e ∈ esV, ∃ p ∈ veHx [] ve, (e.it, e.hx) = p := fun e he => by
        have : (e.it, e.hx) ∈ veHx [] ve := by rw [← v2]; exact List.mem_map.2 ⟨e, he, rfl⟩
        exact ⟨_, this, rfl⟩
      have hAk : ∀ e ∈ esA, ∃ x ∈ lA, (e.it, e.hx) = (x, []) := fun e he => map_mem a2 he
      have hBk : ∀ e ∈ esB, ∃ x ∈ lB, (e.it, e.hx) = (x, []) := fun e he => map_mem b2 he
      have hkd : ∀ e ∈ esV ++ (esA ++ esB), (isV e.io.i = true → ∃ hp, e.kd = .v hp) ∧ (isV e.io.i = false → ∀ hp, e.kd ≠ .v hp) := fun e he => by
        rcases List.mem_append.1 he with he | he
        · refine ⟨fun _ => v3 e he, fun hv => ?_⟩
          obtain ⟨p, hp, hep⟩ := hVk e he
          have := c1 p hp
          rw [← hep] at this
          have h2 : isV e.io.i = true := this
          rw [hv] at h2; cases h2
        · rcases List.mem_append.1 he with he | he
          · obtain ⟨x, hx, hep⟩ := hAk e he
            have := isA_V (c2 x hx)
            have h2 : e.io = x.2.1 := by have := congrArg (fun p => p.1.2.1) hep; exact this
            obtain ⟨k, hb, hk⟩ := a3 e he
            exact ⟨fun h => (by rw [h2, this] at h; cases h), fun _ hp h => by rw [hk] at h; cases h⟩
          · obtain ⟨x, hx, hep⟩ := hBk e he
            have := isB_V (c3 x hx)
            have h2 : e.io = x.2.1 := by have := congrArg (fun p => p.1.2.1) hep; exact this
            obtain ⟨k, h0, hb, hk⟩ := b3 e he
            exact ⟨fun h => (by rw [h2, this] at h; cases h), fun _ hp h => by rw [hk] at h; cases h⟩
      have hst : (esV ++ (esA ++ esB)).map (fun e => (e.io, e.hx)) = stL ve lA lB := by
        have g1 : esV.map (fun e => (e.io, e.hx)) = (veHx [] ve).map (fun p => (p.1.2.1, p.2)) := by rw [← v2, List.map_map]; rfl
        have g2 : esA.map (fun e => (e.io, e.hx)) = lA.map (fun x => (x.2.1, [])) := by
          have := congrArg (List.map fun (p : It × List X) => (p.1.2.1, p.2)) a2
          rw [List.map_map, List.map_map] at this; exact this
        have g3 : esB.map (fun e => (e.io, e.hx)) = lB.map (fun x => (x.2.1, [])) := by
          have := congrArg (List.map fun (p : It × List X) => (p.1.2.1, p.2)) b2
          rw [List.map_map, List.map_map] at this; exact this
        rw [List.map_append, List.map_append, g1, g2, g3]; rfl
      have hsrule := sruleB_sound _ hkd (by rw [hst]; exact c4)
      have F := runS (hp0 := σ.hp) _ σ σF hsrule hgs (.inl rfl) hrun
      have hits : (esV ++ (esA ++ esB)).map El.it = veIts ve ++ (lA ++ lB) := by
        have g1 : esV.map El.it = veIts ve := by rw [← veHx_its ve [], ← v2, List.map_map]; rfl
        have g2 : esA.map El.it = lA := by
          have := congrArg (List.map fun (p : It × List X) => p.1) a2
          rw [List.map_map, List.map_map] at this
          exact this.trans (by simp [Function.comp_def])
        have g3 : esB.map El.it = lB := by
          have := congrArg (List.map fun (p : It × List X) => p.1) b2
          rw [List.map_map, List.map_map] at this
          exact this.trans (by simp [Function.comp_def])
        rw [List.map_append, List.map_append, g1, g2, g3]
      generalize hes : esV ++ (esA ++ esB) = es at hrun hkd hst hsrule F hits
      have hein : ∀ e ∈ es, e.it ∈ veIts ve ++ (lA ++ lB) := fun e he => by rw [← hits]; exact List.mem_map.2 ⟨e, he, rfl⟩
      have hdd : ∀ (es : List El), SRule es → ∀ x ∈ es, ∀ y ∈ es, ∀ t, x.io.d = some t → y.io.d = some t → x = y := by
        intro es
        induction es with
        | nil => intro _ x hx; simp at hx
        | cons z L ih =>
          intro h x hx y hy t h1 h2
          rcases List.mem_cons.1 hx with e1 | hx'
          · rcases List.mem_cons.1 hy with e2 | hy'
            · rw [e1, e2]
            · rw [e1] at h1; exact absurd h2 (h.2.2.1 t h1 y hy')
          · rcases List.mem_cons.1 hy with e2 | hy'
            · rw [e2] at h2; exact absurd h1 (h.2.2.1 t h2 x hx')
            · exact ih h.2.2.2.2 x hx' y hy' t h1 h2
      have hbmem : ∀ b ∈ es, ∀ k h0 h1, b.kd = .b k h0 h1 → b.it ∈ lB := fun b hb k h0 h1 hk => by
        rw [← hes] at hb
        rcases List.mem_append.1 hb with hb | hb
        · obtain ⟨hp, h⟩ := v3 b hb; rw [hk] at h; cases h
        · rcases List.mem_append.1 hb with hb | hb
          · obtain ⟨k', hb', h⟩ := a3 b hb; rw [hk] at h; cases h
          · obtain ⟨x, hx, h⟩ := hBk b hb
            have : b.it = x := congrArg (·.1) h
            rw [this]; exact hx
      have hvmem2 : ∀ e ∈ es, ∀ hp, e.kd = .v hp → (e.it, e.hx) ∈ veHx [] ve := fun e he hp hk => by
        rw [← hes] at he
        rcases List.mem_append.1 he with he | he
        · rw [← v2]; exact List.mem_map.2 ⟨e, he, rfl⟩
        · rcases List.mem_append.1 he with he | he
          · obtain ⟨k', hb', h⟩ := a3 e he; rw [hk] at h; cases h
          · obtain ⟨k', h0', hb', h⟩ := b3 e he; rw [hk] at h; cases h
      have hidx : ∀ e ∈ es, e.ix ∈ done := fun e he => (s2 _).2 (.inr (List.mem_map.2 ⟨e.it, hein e he, rfl⟩))
      have H : Free P os l lT es σ σF := by
        refine ⟨fun y hy => (l3 y hy).1, fun y hy => (l3 y hy).2.1, by rw [hits]; exact hsplit, ?_, fun j hj => ?_, fun a1 e a2 he d hd hb => ?_, fun e he t ht e' he' hd => ?_, fun y hy e he => t2 y hy e.ix (hidx e he), t1, fun e he e' he' t h1 h2 => ?_, F, fun e he b hb hp k h0 h1 hk hk' => ?_, fun a1 e a2 he e' he' k hk hk' => ?_, hs.hs.kn⟩
        · rw [hsplit, List.map_append, List.nodup_append]
          refine ⟨s5, t3, fun i hi j hj hij => ?_⟩
          subst hij
          exact t4 i hj ((s2 i).2 (.inr hi))
        · rw [l1]; exact memb_iff.1 (c7 j hj)
        · rcases s4 (a1.map El.it) e.it (a2.map El.it) (by rw [← hits, he]; simp) d hd hb with h | h
          · simp at h
          · rw [List.map_map] at h; exact h
        · exact s3 e.it (hein e he) t ht (t, e'.ix) (wOf_mem (List.mem_map.2 ⟨e'.it, hein e' he', rfl⟩) hd) rfl
        · rw [hdd es hsrule e he e' he' t h1 h2]
        · have hbl := hbmem b hb k h0 h1 hk'
          have hel := hvmem2 e he hp hk
          rcases c8 _ hel _ hbl with (h | ⟨x, hx, h⟩) | ⟨x, hx, h⟩
          · exact .inl (needs_of s1 (l3 _ (hinB _ hbl)).2.2 h)
          · right
            have := eqX_eq h
            have hbx : bX b.io ∈ e.hx := by
              have h2 : bX b.io = x := this
              rw [h2]; exact hx
            obtain ⟨k', g1, g2⟩ := F.hid e he hp hk _ hbx
            rw [F.bk b hb k h0 h1 hk'] at g1
            cases g1; exact g2
          · right
            -- the store goes into a block that the region makes
            have hxe : ∃ ea ∈ es, ea.it = x ∧ ∃ ka hb', ea.kd = .a ka hb' := by
              have : (x, ([] : List X)) ∈ esA.map (fun e => (e.it, e.hx)) := by rw [a2]; exact List.mem_map.2 ⟨x, hx, rfl⟩
              obtain ⟨ea, m1, m2⟩ := List.mem_map.1 this
              obtain ⟨ka, hb', m3⟩ := a3 ea m1
              exact ⟨ea, by rw [← hes]; simp [m1], congrArg (·.1) m2, ka, hb', m3⟩
            obtain ⟨ea, m1, m2, ka, hb', m3⟩ := hxe
            have hio : ea.io = x.2.1 := by rw [← m2]; rfl
            have hbk := F.bk b hb k h0 h1 hk'
            have hka : k = ka := by
              unfold dstX at h
              split at h
              · rename_i s t e3 e4
                have := Nat.eq_of_beq_eq_true h; subst this
                have h5 := F.av ea m1 ka hb' m3 s (by rw [hio]; exact e4)
                have h6 : bX b.io = .t s := e3
                rw [h6] at hbk
                rcases h5 with h5 | h5
                · simp only [rdG, rd, h5, strip, keyX, Option.some.injEq] at hbk
                  exact hbk.symm
                · simp only [rdG, rd, h5, strip, keyX] at hbk
                  cases hbk
              · cases h
            subst hka
            have := (F.lo ea m1 k hb' m3).1
            rcases F.vh e he hp hk k with g | g
            · exact g
            · rw [← g]; exact hs.hs.kn k (by simp only [ltn]; omega)
        · -- the same key: one behind the other
          have hkb : (∃ k h0 h1, e'.kd = .b k h0 h1) := by
            cases hq' : e'.kd with
            | v _ => rw [hq'] at hk'; cases hk'
            | b _ _ _ => exact ⟨_, _, _, rfl⟩
            | a k2 hb2 =>
              exfalso
              rw [hq'] at hk'; simp only [Kd.key, Option.some.injEq] at hk'; subst hk'
              have he1 : e ∈ es := by rw [he]; simp
              have he2 : e' ∈ es := by rw [he]; simp [he']
              cases hq2 : e.kd with
              | v _ => rw [hq2] at hk; cases hk
              | a k3 hb3 =>
                rw [hq2] at hk; simp only [Kd.key, Option.some.injEq] at hk; subst hk
                have hdf := F.df
                rw [he, List.pairwise_append] at hdf
                exact (List.pairwise_cons.1 hdf.2.1).1 e' he' _ hb3 hb2 hq2 hq'
              | b k3 h03 hb3 =>
                -- a store stands behind all that makes
                rw [← hes] at he
                have hB2 : e' ∈ esV ++ (esA ++ esB) := by rw [he]; simp [he']
                have : ∀ (u v : List El) (a1 a2 : List El), u ++ v = a1 ++ e :: a2 → e ∉ u → e' ∈ a2 → e' ∈ v := by
                  intro u
                  induction u with
                  | nil => intro v a1 a2 h _ hm; simp at h; rw [h]; simp [hm]
                  | cons z u ih =>
                    intro v a1 a2 h hn hm
                    cases a1 with
                    | nil => simp at h; exact absurd h.1 (fun e => hn (by simp [e]))
                    | cons y a1 => simp at h; exact ih v a1 a2 h.2 (fun hh => hn (by simp [hh])) hm
                have h8 := this (esV ++ esA) esB a1 a2 (by rw [← he]; simp) (fun hh => by
                  rcases List.mem_append.1 hh with hh | hh
                  · obtain ⟨_, g⟩ := v3 e hh; rw [hq2] at g; cases g
                  · obtain ⟨_, _, g⟩ := a3 e hh; rw [hq2] at g; cases g) he'
                obtain ⟨_, _, _, g⟩ := b3 e' h8
                rw [hq'] at g; cases g
          obtain ⟨k2, h02, hb2, hq'⟩ := hkb
          have he2 : e' ∈ es := by rw [he]; simp [he']
          have hbl := hbmem e' he2 _ _ _ hq'
          cases hq2 : e.kd with
          | v _ => rw [hq2] at hk; cases hk
          | a k3 hb3 =>
            refine u1 _ hbl e.ix ?_
            have he1 : e ∈ es := by rw [he]; simp
            rw [← hes] at he1
            rcases List.mem_append.1 he1 with g | g
            · obtain ⟨_, g⟩ := v3 e g; rw [hq2] at g; cases g
            · rcases List.mem_append.1 g with g | g
              · obtain ⟨x, hx, g⟩ := hAk e g
                have : e.it = x := congrArg (·.1) g
                exact List.mem_map.2 ⟨x, hx, by rw [← this]; rfl⟩
              · obtain ⟨_, _, _, g⟩ := b3 e g; rw [hq2] at g; cases g
          | b k3 h03 hb3 =>
            -- both stores
            have : ∀ (u v : List El) (a1 a2 : List El), u ++ v = a1 ++ e :: a2 → e ∉ u → ∃ v1, v = v1 ++ e :: a2 := by
              intro u
              induction u with
              | nil => intro v a1 a2 h _; exact ⟨a1, by simpa using h⟩
              | cons z u ih =>
                intro v a1 a2 h hn
                cases a1 with
                | nil => simp at h; exact absurd h.1 (fun e => hn (by simp [e]))
                | cons y a1 => simp at h; exact ih v a1 a2 h.2 (fun hh => hn (by simp [hh]))
            obtain ⟨w1, hw1⟩ := this (esV ++ esA) esB a1 a2 (by rw [← he, ← hes]; simp) (fun hh => by
              rcases List.mem_append.1 hh with hh | hh
              · obtain ⟨_, g⟩ := v3 e hh; rw [hq2] at g; cases g
              · obtain ⟨_, _, g⟩ := a3 e hh; rw [hq2] at g; cases g)
            have hlB : lB = w1.map El.it ++ e.it :: a2.map El.it := by
              have := congrArg (List.map fun (p : It × List X) => p.1) b2
              rw [List.map_map, List.map_map] at this
              have h9 : esB.map El.it = lB := this.trans (by simp [Function.comp_def])
              rw [← h9, hw1]; simp
            exact u2 _ _ _ hlB e'.it (List.mem_map.2 ⟨e', he', rfl⟩)
      refine wp_region_any hm ?_
      have hs' := sim_drawn hs (w.drawn + 1)
      have hcount : (es.filter fun e => !(Array.replicate os.size false).getD e.ix false).length + lT.length = os.size := by
        have h1 : (es.filter fun e => !(Array.replicate os.size false).getD e.ix false) = es := by
          rw [List.filter_eq_self]
          intro e _
          have : (Array.replicate os.size false).getD e.ix false = false := by
            simp only [Array.getD, Array.size_replicate]; split <;> simp
          rw [this]; rfl
        have h2 : es.length = (veIts ve ++ (lA ++ lB)).length := by rw [← hits, List.length_map]
        rw [h1, h2, ← List.length_append, ← hsplit, ← Nat.eq_of_beq_eq_true c6, ← l1, List.length_map]
      have := sphase H hK b5 _ _ E a _ σ.hp rfl (free_start H hg hs')
      rw [hcount] at this
      exact this

/-! ## code -/
inductive SC where
  | reg (ops : List Ins)
  | regd (ord : List Nat) (vs : List VI) (nA nB : Nat) (rest : List Ins)
  | seq (a b : SC)
  | cond (c : X) (a b : SC)
  | block (id : Nat) (c : SC)
  | loop (c : SC)
  | exit (id : Nat)
  | ret
  | skip
  | scope (c : SC)
  | label (l : Nat)

inductive Ex where
  | n | ex (id : Nat) | ret
def Ex.to : Ex → Exit
  | .n => .normal
  | .ex i => .exit i
  | .ret => .ret

abbrev CT := St → (Ex → St → Prop) → Prop
def dropG : List (Nat × SV) → List (Nat × SV)
  | [] => []
  | (t, .gd _ _ _) :: r => (t, .any) :: dropG r
  | (t, s) :: r => (t, s) :: dropG r
def purge (σ : St) : St :=
  match σ.gs with
  | [] => σ
  | _ :: _ => ⟨dropG σ.fr, σ.hp, σ.n, σ.N, []⟩
def endK (K : Ex → St → Prop) (σ : St) : Prop := K .n (purge σ)
def seqK (f : CT) (K : Ex → St → Prop) : Ex → St → Prop
  | .n, σ => f σ K
  | .ex i, σ => K (.ex i) σ
  | .ret, σ => K .ret σ
def blkK (id : Nat) (K : Ex → St → Prop) : Ex → St → Prop
  | .n, σ => K .n σ
  | .ex i, σ => bif Nat.beq i id then K .n σ else K (.ex i) σ
  | .ret, σ => K .ret σ
def BR (b : Bool) (f g : CT) (σ : St) (K : Ex → St → Prop) : Prop := (b = true → f σ K) ∧ (b = false → g σ K)
def cndK (c : SV) (f g : CT) (σ : St) (K : Ex → St → Prop) : Prop :=
  match c with
  | .v (.bool b) => BR b f g σ K
  | _ => False
/-- what a state says another one says -/
def Ent (σ σ' : St) : Prop := ∀ C E a w, Sim C E σ a w → ∃ E', Sim C E' σ' a w
def lopK {S : Type} (st : S → St) (rel : S → Prop) (μ : S → Nat) (s : S) (K : Ex → St → Prop) : Ex → St → Prop
  | .n, σ => ∃ s', rel s' ∧ μ s' < μ s ∧ Ent σ (st s')
  | .ex i, σ => K (.ex i) σ
  | .ret, σ => K .ret σ
def rndK (p : St → Prop) (K : Ex → St → Prop) : Ex → St → Prop
  | .n, σ => p σ
  | .ex i, σ => K (.ex i) σ
  | .ret, σ => K .ret σ
def rnds (f : CT) (K : Ex → St → Prop) : Nat → St → Prop
  | 0, _ => False
  | n + 1, σ => f σ (rndK (rnds f K n) K)
def LOOP (f : CT) (σ : St) (K : Ex → St → Prop) : Prop :=
  (∃ n, rnds f K n σ) ∨ ∃ (S : Type) (st : S → St) (rel : S → Prop) (μ : S → Nat), (∃ s, rel s ∧ Ent σ (st s)) ∧ ∀ s, rel s → f (st s) (lopK st rel μ s K)
def gs0 (l : List Nat) (p : Prop) : Prop :=
  match l with
  | [] => p
  | _ :: _ => False
def sx (P : Program) : SC → CT
  | .reg ops, σ, K => rx P ops σ (endK K)
  | .regd _ vs _ _ rest, σ, K => gs0 σ.gs (rxv P (backK σ.hp (rx P rest)) vs σ (endK K))
  | .seq a b, σ, K => sx P a σ (seqK (sx P b) K)
  | .cond c a b, σ, K => cndK (rdG none σ.fr c) (sx P a) (sx P b) σ K
  | .block id c, σ, K => sx P c σ (blkK id K)
  | .loop c, σ, K => LOOP (sx P c) σ K
  | .exit id, σ, K => K (.ex id) σ
  | .ret, σ, K => K .ret σ
  | .skip, σ, K => K .n σ
  | .scope c, σ, K => sx P c σ K
  | .label _, σ, K => K .n σ

def cmpC (P : Program) : SC → Code → Bool
  | .reg ops, .region _ os draw => !draw && cmpL P os ops os.toList
  | .regd ord vs nA nB rest, .region _ os draw => draw && ckD P os ord vs nA nB rest && P.follows .mixedOrders
  | .seq a b, .seq x y => cmpC P a x && cmpC P b y
  | .cond c a b, .cond o x y => cmpX c o && cmpC P a x && cmpC P b y
  | .block i a, .block j x => i == j && cmpC P a x
  | .loop a, .loop x => cmpC P a x
  | .exit i, .exit j => i == j
  | .ret, .ret => true
  | .skip, .skip => true
  | .scope a, .scope x => cmpC P a x
  | .label i, .label j => i == j
  | _, _ => false

section
variable {P : Program} {C : Cx}
theorem lk_dropG (t : Nat) : ∀ (fr : List (Nat × SV)), lk t (dropG fr) = match lk t fr with | .gd _ _ _ => .any | s => s
  | [] => rfl
  | (u, s) :: r => by
    cases s <;> simp only [dropG, lk_cons] <;> by_cases h : t = u <;> first | simp [h, lk_dropG t r] | simp [h, lk_dropG u r]
theorem least_ex (p : Nat → Prop) (h : ∃ m, p m) : ∃ m, p m ∧ ∀ k, p k → m ≤ k := by
  obtain ⟨m, hm⟩ := h
  induction m using Nat.strongRecOn with
  | _ m ih =>
    by_cases hk : ∃ k, k < m ∧ p k
    · obtain ⟨k, h1, h2⟩ := hk; exact ih k h1 h2
    · exact ⟨m, hm, fun k hk' => Nat.le_of_not_lt fun hlt => hk ⟨k, hlt, hk'⟩⟩
theorem Sim_purge {E : Env} {σ : St} {a : Act} {w : World} (h : Sim C E σ a w) : Sim C E (purge σ) a w := by
  unfold purge
  split
  · exact h
  · refine ⟨fun t => ?_, h.sz, h.df, fun t j b s ht => ?_, h.hs⟩
    · have := h.fr t
      rw [lk_dropG]
      cases hl : lk t σ.fr <;> rw [hl] at this <;> first | exact this | trivial
    · rw [lk_dropG] at ht
      cases hl : lk t σ.fr <;> rw [hl] at ht <;> cases ht
def LkQ (C : Cx) (K : Ex → St → Prop) (Q : Exit → Act → World → Prop) : Prop := ∀ e σ, K e σ → ∀ E a w, Sim C E σ a w → Q e.to a w
theorem sx_sound : ∀ (c : SC) (code : Code) (σ : St) (K : Ex → St → Prop) (Q : Exit → Act → World → Prop) (E : Env) (a : Act) (w : World), cmpC P c code = true → sx P c σ K → LkQ C K Q → Sim C E σ a w → code.wp P Q a w
  | .reg ops, code, σ, K, Q, E, a, w, hc, hs, hK, h => by
    cases code <;> simp [cmpC] at hc
    obtain ⟨rfl, hc⟩ := hc
    refine wp_region_list (rx_sound (K := endK K) (fun σ' hσ' E' a' w' h' => ?_) ops _ hc σ E a w hs h)
    exact hK .n _ hσ' E' a' w' (Sim_purge h')
  | .regd ord vs nA nB rest, code, σ, K, Q, E, a, w, hc, hs, hK, h => by
    cases code <;> simp [cmpC] at hc
    obtain ⟨⟨rfl, hc⟩, hm⟩ := hc
    simp only [sx] at hs
    cases hg : σ.gs with
    | cons j l => rw [hg] at hs; exact hs.elim
    | nil =>
      rw [hg] at hs; simp only [gs0] at hs
      exact regd_sound hc hm hg hs (fun σ' hσ' E' a' w' h' => hK .n _ hσ' E' a' w' (Sim_purge h')) h
  | .seq x y, code, σ, K, Q, E, a, w, hc, hs, hK, h => by
    cases code <;> simp [cmpC] at hc
    refine wp_seq (sx_sound x _ σ (seqK (sx P y) K) _ E a w hc.1 hs (fun e σ' hσ' E' a' w' h' => ?_) h)
    cases e with
    | n => exact sx_sound y _ σ' K Q E' a' w' hc.2 hσ' hK h'
    | ex i => exact hK _ _ hσ' E' a' w' h'
    | ret => exact hK _ _ hσ' E' a' w' h'
  | .cond c x y, code, σ, K, Q, E, a, w, hc, hs, hK, h => by
    cases code <;> simp [cmpC] at hc
    obtain ⟨⟨h1, h2⟩, h3⟩ := hc
    have hR := rdG_ok h.fr (g := none) trivial c
    simp only [sx, cndK] at hs
    split at hs
    · rename_i b hb
      rw [hb] at hR; simp only [R] at hR
      refine wp_cond (t := b) (by rw [cmpX_sound h1 a]; exact hR) ?_
      cases b
      · exact sx_sound y _ σ K Q E a w h3 (hs.2 rfl) hK h
      · exact sx_sound x _ σ K Q E a w h2 (hs.1 rfl) hK h
    · cases hs
  | .block id x, code, σ, K, Q, E, a, w, hc, hs, hK, h => by
    cases code <;> simp [cmpC] at hc
    obtain ⟨rfl, hc⟩ := hc
    refine wp_block (sx_sound x _ σ (blkK id K) _ E a w hc hs (fun e σ' hσ' E' a' w' h' => ?_) h)
    cases e with
    | n => exact hK _ _ hσ' E' a' w' h'
    | ex i =>
      simp only [blkK] at hσ'
      simp only [Ex.to, Exit.inBlock]
      by_cases hi : i = id
      · subst hi; simp only [Nat.beq_refl, cond_true] at hσ'; rw [if_pos rfl]; exact hK _ _ hσ' E' a' w' h'
      · have : Nat.beq i id = false := Bool.eq_false_iff.2 (fun e => hi (Nat.eq_of_beq_eq_true e))
        simp only [this, cond_false] at hσ'; rw [if_neg hi]; exact hK _ _ hσ' E' a' w' h'
    | ret => exact hK _ _ hσ' E' a' w' h'
  | .loop x, code, σ, K, Q, E, a, w, hc, hs, hK, h => by
    cases code <;> simp [cmpC] at hc
    rename_i body
    rcases hs with ⟨n, hs⟩ | ⟨S, st, rel, μ, ⟨s0, hr0, he0⟩, hb⟩
    · refine wp_loop_rounds n ?_
      have key : ∀ n (σ : St) E a w, rnds (sx P x) K n σ → Sim C E σ a w → Code.rounds P body Q n a w := by
        intro n
        induction n with
        | zero => intro σ E a w h; exact h.elim
        | succ n ih =>
          intro σ E a w h hsim
          refine sx_sound x body σ _ _ E a w hc h (fun e σ' hσ' E' a' w' h' => ?_) hsim
          cases e with
          | n => exact ih σ' E' a' w' hσ' h'
          | ex i => exact hK _ _ hσ' E' a' w' h'
          | ret => exact hK _ _ hσ' E' a' w' h'
      exact key n σ E a w hs h
    obtain ⟨E0', h0⟩ := he0 C E a w h
    let p (a : Act) (w : World) (m : Nat) : Prop := ∃ s E, rel s ∧ Sim C E (st s) a w ∧ μ s = m
    let μ' (a : Act) (w : World) : Nat := Classical.epsilon fun m => p a w m ∧ ∀ k, p a w k → m ≤ k
    have hμ : ∀ a w, (∃ m, p a w m) → p a w (μ' a w) ∧ ∀ k, p a w k → μ' a w ≤ k := fun a w h => Classical.epsilon_spec (least_ex _ h)
    refine wp_loop (fun a w => ∃ m, p a w m) μ' ⟨_, s0, E0', hr0, h0, rfl⟩ fun a w hI => ?_
    obtain ⟨⟨s, E, h1, h2, h3⟩, _⟩ := hμ a w hI
    refine sx_sound x body (st s) _ _ E a w hc (hb s h1) (fun e σ' hσ' E' a' w' h' => ?_) h2
    cases e with
    | n =>
      obtain ⟨s', k1, k2, k3⟩ := hσ'
      obtain ⟨E'', k4⟩ := k3 C E' a' w' h'
      have hI' : ∃ m, p a' w' m := ⟨_, s', E'', k1, k4, rfl⟩
      refine ⟨hI', ?_⟩
      have := (hμ a' w' hI').2 (μ s') ⟨s', E'', k1, k4, rfl⟩
      omega
    | ex i => exact hK _ _ hσ' E' a' w' h'
    | ret => exact hK _ _ hσ' E' a' w' h'
  | .exit i, code, σ, K, Q, E, a, w, hc, hs, hK, h => by
    cases code <;> simp [cmpC] at hc
    subst hc; exact wp_exit (hK _ _ hs E a w h)
  | .ret, code, σ, K, Q, E, a, w, hc, hs, hK, h => by
    cases code <;> simp [cmpC] at hc
    exact wp_ret (hK _ _ hs E a w h)
  | .skip, code, σ, K, Q, E, a, w, hc, hs, hK, h => by
    cases code <;> simp [cmpC] at hc
    exact wp_skip (hK _ _ hs E a w h)
  | .scope x, code, σ, K, Q, E, a, w, hc, hs, hK, h => by
    cases code <;> simp [cmpC] at hc
    refine wp_scope_straight (sx_sound x _ σ K _ E a w hc hs (fun e σ' hσ' E' a' w' h' => ?_) h)
    cases e <;> exact hK _ _ hσ' E' a' w' h'
  | .label l, code, σ, K, Q, E, a, w, hc, hs, hK, h => by
    cases code <;> simp [cmpC] at hc
    exact wp_label (hK _ _ hs E a w h)
end

/-! ## a whole function -/
inductive RV where
  | tmp (t : Nat)
  | cell (t m : Nat) (ag : Bool)
mutual
def cvt (hp : List (Nat × HB)) : SV → SV
  | .mr k => match lkh k hp with
    | .row m xs _ => .sl false m xs
    | _ => .any
  | .agg l => .agg (cvtL hp l)
  | .tup l => .tup (cvtL hp l)
  | .v x => .v x
  | .p k o => .p k o
  | .sl c m xs => .sl c m xs
  | .pr k m i o => .pr k m i o
  | .ps row o => .ps row o
  | .cl f c => .cl f c
  | .q φ => .q φ
  | .gd j w s => .gd j w s
  | .any => .any
def cvtL (hp : List (Nat × HB)) : List SV → List SV
  | [] => []
  | s :: l => cvt hp s :: cvtL hp l
end
def rv1 (σ : St) : RV → Option SV
  | .tmp t => some (rdG none σ.fr (.t t))
  | .cell t m ag => match rdG none σ.fr (.t t) with
    | .p k o => match lkh k σ.hp with
      | .cells l _ => partS l o m ag
      | _ => none
    | _ => none
def rvE : Option (List SV) → Option SV
  | some [] => some (.tup [])
  | some [s] => some s
  | some (a :: b :: l) => some (.tup (a :: b :: l))
  | none => none
def rvD (s : SV) : Option (List SV) → Option (List SV)
  | some l => some (s :: l)
  | none => none
def rvC (hp : List (Nat × HB)) : Option SV → Option (List SV) → Option (List SV)
  | some s, o => rvD (cvt hp s) o
  | none, _ => none
def rvs (σ : St) : List RV → Option (List SV)
  | [] => some []
  | r :: rs => rvC σ.hp (rv1 σ r) (rvs σ rs)
def rvR (rs : List RV) (σ : St) : Option SV := rvE (rvs σ rs)
def retK (rs : List RV) (res : SV) : Ex → St → Prop
  | .ex _, _ => False
  | .n, σ => rvR rs σ = some res
  | .ret, σ => rvR rs σ = some res
def cmpR (P : Program) : List RV → List ResultVar → Bool
  | [], [] => true
  | .tmp t :: l, .tmp u :: m => t == u && cmpR P l m
  | .cell t s ag :: l, .cell u ty :: m => t == u && agOf P ty == some ag && szOf P ty == some s && cmpR P l m
  | _, _ => false
def enum : Nat → List SV → List (Nat × SV)
  | _, [] => []
  | i, s :: l => (i, s) :: enum (i + 1) l
def st0 (args : List SV) (N : Nat) : St := ⟨enum 0 args, [], 0, N, []⟩

section
variable {P : Program}
theorem lk_enum : ∀ (l : List SV) (i t : Nat), lk t (enum i l) = if i ≤ t then l.getD (t - i) .any else .any
  | [], i, t => by simp [enum, lk]
  | s :: l, i, t => by
    simp only [enum, lk_cons]
    by_cases h : t = i
    · subst h; simp
    · rw [if_neg h, lk_enum l (i + 1) t]
      by_cases h2 : i ≤ t
      · rw [if_pos (by omega), if_pos h2, show t - i = (t - (i + 1)) + 1 from by omega]; simp
      · rw [if_neg (by omega), if_neg h2]
section
variable {C : Cx} {E : Env} {hp : List (Nat × HB)} {n : Nat → Prop} {w : World}
def okF (C : Cx) (b : Nat) : Prop := C.okp b ∨ C.w0.heap.size ≤ b
mutual
theorem cvt_ok (h : HSim C E hp n w) (hpass : ∀ b, ¬ C.pass b) : ∀ (s : SV) (y : Value), R w E n (okS C E hp) s y → R w E n (okF C) (cvt hp s) y
  | .mr k, y, hR => by
    simp only [R] at hR
    simp only [cvt]
    split
    · rename_i m xs T hk
      have hb := h.bk k
      rw [hk] at hb; simp only [HBok] at hb
      simp only [R]
      rcases hb with ⟨h1, a0, h2⟩ | ⟨b, cap, cs, h1, h2, h3, ⟨h4, h4'⟩, h5, h6, h7⟩
      · exact ⟨a0, 0, 0, by rw [hR.2.1, h2], by simp [h1], ⟨Nat.le_refl _, fun h => by cases h⟩, by simp [h1], .inl h1⟩
      · refine ⟨_, _, _, hR.2.1.trans h1, rfl, ⟨h4, fun h => by cases h⟩, h5, .inr ⟨b, 0, rfl, ?_⟩⟩
        have hoc : occ E k (lkh k hp) b := by rw [hk]; exact ⟨_, _, h1, h4'⟩
        refine RR_of_flat (cs := cs) (ok := okS C E hp) ?_ (fun j c hj => by rw [cell_of_row _ _ _ _ _ _ h2]; simpa using hj) (fun b hb _ => ⟨hb.1, rfl⟩) xs 0 h6 (by simpa using h7)
        rcases h.lo k b hoc with q | q
        · exact .inr q
        · exact absurd q (hpass b)
    · simp only [R]
  | .agg l, y, hR => by simp only [R, cvt] at *; obtain ⟨cs, h1, h2⟩ := hR; exact ⟨cs, h1, cvtL_ok h hpass l _ h2⟩
  | .tup l, y, hR => by simp only [R, cvt] at *; obtain ⟨cs, h1, h2⟩ := hR; exact ⟨cs, h1, cvtL_ok h hpass l _ h2⟩
  | .v x, y, hR => R_mono (fun _ hb _ => ⟨hb.1, rfl⟩) (fun _ _ => ⟨rfl, rfl⟩) (fun _ h => h) _ _ hR
  | .p k o, y, hR => R_mono (fun _ hb _ => ⟨hb.1, rfl⟩) (fun _ _ => ⟨rfl, rfl⟩) (fun _ h => h) _ _ hR
  | .sl c m xs, y, hR => R_mono (fun _ hb _ => ⟨hb.1, rfl⟩) (fun _ _ => ⟨rfl, rfl⟩) (fun _ h => h) _ _ hR
  | .pr k m i o, y, hR => R_mono (fun _ hb _ => ⟨hb.1, rfl⟩) (fun _ _ => ⟨rfl, rfl⟩) (fun _ h => h) _ _ hR
  | .ps row o, y, hR => R_mono (fun _ hb _ => ⟨hb.1, rfl⟩) (fun _ _ => ⟨rfl, rfl⟩) (fun _ h => h) _ _ hR
  | .cl f c, y, hR => R_mono (fun _ hb _ => ⟨hb.1, rfl⟩) (fun _ _ => ⟨rfl, rfl⟩) (fun _ h => h) _ _ hR
  | .q φ, y, hR => R_mono (fun _ hb _ => ⟨hb.1, rfl⟩) (fun _ _ => ⟨rfl, rfl⟩) (fun _ h => h) _ _ hR
  | .gd j w s, y, hR => by simp only [R] at hR
  | .any, y, hR => by simp only [cvt, R]
theorem cvtL_ok (h : HSim C E hp n w) (hpass : ∀ b, ¬ C.pass b) : ∀ (l : List SV) (ys : List Value), RL w E n (okS C E hp) l ys → RL w E n (okF C) (cvtL hp l) ys
  | [], ys, hR => by simpa [RL, cvtL] using hR
  | s :: l, ys, hR => by
    simp only [RL, cvtL] at *; obtain ⟨y, r, h1, h2, h3⟩ := hR; exact ⟨y, r, h1, cvt_ok h hpass s y h2, cvtL_ok h hpass l r h3⟩
end
end
theorem rv1_ok {C : Cx} {E : Env} {σ : St} {a : Act} {w : World} {r : RV} {rr : ResultVar} {s : SV} (h : Sim C E σ a w) (hc : cmpR P [r] [rr] = true) (hs : rv1 σ r = some s) :
    ∃ y, ((match rr with | .tmp t => pure (a.tmps.getD t undef) | .cell x t => do loadVar t (← asAddr (a.tmps.getD x undef)) : Sem Value).run P w = .ok y w) ∧ R w E (ltn σ.n) (okS C E σ.hp) s y := by
  cases r with
  | tmp t =>
    cases rr <;> simp [cmpR] at hc
    subst hc
    simp [rv1] at hs; subst hs
    exact ⟨a.tmps.getD t undef, rfl, rdG_ok h.fr (g := none) trivial (.t t)⟩
  | cell t m ag =>
    cases rr <;> simp [cmpR] at hc
    obtain ⟨⟨rfl, h1⟩, h2⟩ := hc
    simp only [rv1] at hs
    split at hs
    · rename_i k o hk
      split at hs
      · rename_i l T hl
        have hR := rdG_ok h.fr (g := none) trivial (.t t)
        rw [hk] at hR; simp only [R, evX] at hR
        have hb := h.hs.bk k
        rw [hl] at hb; simp only [HBok] at hb
        obtain ⟨cs, k1, k2⟩ := hb
        obtain ⟨y, q1, q2⟩ := load_cells (P := P) (w := w) (b := E.β k) (off := 0) (o := o) k2 (fun j c hj => by rw [Nat.zero_add, cell_of_row _ _ _ _ _ _ k1]; simpa using hj) h1 h2 hs
        rw [Nat.zero_add] at q1
        exact ⟨y, by simp only [hR.2, asAddr, Sem.run_bind, Sem.run_pure, Result.andThen_ok, q1], q2⟩
      · cases hs
    · cases hs
theorem rvs_ok {C : Cx} {E : Env} {σ : St} {a : Act} {w : World} (h : Sim C E σ a w) (hpass : ∀ b, ¬ C.pass b) : ∀ (rs : List RV) (rr : List ResultVar) (l : List SV), cmpR P rs rr = true → rvs σ rs = some l →
    ∃ ys, (rr.mapM (fun r => match r with | .tmp t => pure (a.tmps.getD t undef) | .cell x t => do loadVar t (← asAddr (a.tmps.getD x undef)) : ResultVar → Sem Value)).run P w = .ok ys w ∧ RL w E (ltn σ.n) (okF C) l ys
  | [], [], l, _, hl => by simp [rvs] at hl; subst hl; exact ⟨[], by simp, by simp [RL]⟩
  | r :: rs, x :: rr, l, hc, hl => by
    have hc2 : cmpR P [r] [x] = true ∧ cmpR P rs rr = true := by
      cases r <;> cases x <;> simp [cmpR] at hc ⊢ <;> simp_all
    simp only [rvs] at hl
    cases hs : rv1 σ r with
    | none => rw [hs] at hl; simp [rvC] at hl
    | some s =>
      rw [hs] at hl; simp only [rvC] at hl
      cases hl' : rvs σ rs with
      | none => rw [hl'] at hl; simp [rvD] at hl
      | some l' =>
        rw [hl'] at hl; simp only [rvD, Option.some.injEq] at hl; subst hl
        obtain ⟨y, h1, h2⟩ := rv1_ok h hc2.1 hs
        obtain ⟨ys, h3, h4⟩ := rvs_ok h hpass rs rr l' hc2.2 hl'
        refine ⟨y :: ys, ?_, by simp only [RL]; exact ⟨y, ys, rfl, cvt_ok h.hs hpass _ _ h2, h4⟩⟩
        rw [List.mapM_cons, Sem.run_bind, h1, Result.andThen_ok, Sem.run_bind, h3]; rfl
  | [], _ :: _, _, h, _ => by simp [cmpR] at h
  | _ :: _, [], _, h, _ => by cases ‹RV› <;> simp [cmpR] at h
theorem ct_intro {f : FuncId} {fn : Func} {code : Code} {ir : SC} {args : List SV} {res : SV} {rs : List RV} {N : Nat} (hf : P.funcs[f]? = some fn) (hb : fn.body = some code) (hnm : bodyB P f = true) (hc : cmpC P ir code = true)
    (hr : cmpR P rs fn.results.toList = true) (hN : fn.ntmps = N) (hA : args.length ≤ N) (ka : KFL args) (kr : KF res) (h : sx P ir (st0 args N) (retK rs res)) : Ct P f args res := by
  refine ⟨hnm, ka, kr, fun w ok vs hR => ?_⟩
  let C : Cx := ⟨w, ok, fun _ => False, []⟩
  have hlen := RL_length hR
  have hS : Sim C E0 (st0 args N) { tmps := vs.toArray ++ Array.replicate (fn.ntmps - vs.toArray.size) undef, defers := [] } w := by
    refine ⟨fun t => ?_, by simp [st0, hN]; omega, rfl, fun t j b s ht => ?_, ⟨fun k _ => rfl, fun k => trivial, fun k k' b h => h.elim, fun k b h => h.elim, ⟨rfl, rfl, rfl, Nat.le_refl _, fun _ _ _ => rfl⟩⟩⟩
    · simp only [st0, lk_enum, Nat.zero_le, if_true, Nat.sub_zero]
      by_cases ht : t < args.length
      · have e1 : args.getD t .any = args[t] := by simp [ht]
        obtain ⟨y, h1, h2⟩ := RL_get hR (List.getElem?_eq_getElem ht)
        have hkf : KF args[t] := by
          clear h2 h1 e1 hR hlen h hA
          revert ht
          generalize t = i
          induction args generalizing i with
          | nil => intro h; simp at h
          | cons s l ih =>
            intro h
            cases i with
            | zero => exact ka.1
            | succ i => exact ih ka.2 i (by simpa using h)
        have e2 : (vs.toArray ++ Array.replicate (fn.ntmps - vs.toArray.size) undef).getD t undef = y := by
          have : t < vs.length := by omega
          have h1' := (List.getElem?_eq_some_iff.1 h1).2
          simp [Array.getElem?_append, this, h1']
        rw [e1, e2]
        have h3 : R w E0 (ltn 0) (okS C E0 []) args[t] y := R_mono (fun b hb _ => ⟨⟨.inl hb, fun _ h => h⟩, rfl⟩) (fun _ h => ⟨rfl, rfl⟩) (fun _ h => h.elim) _ _ h2
        cases hq : args[t] <;> rw [hq] at h3 <;> first | exact h3 | (simp only [R] at h3)
      · have e1 : args.getD t .any = .any := by simp [List.getElem?_eq_none (Nat.le_of_not_lt ht)]
        rw [e1]; exact trivial
    · simp only [st0, lk_enum, Nat.zero_le, if_true, Nat.sub_zero] at ht
      exfalso
      have : KF (args.getD t .any) := by
        clear ht h hA hlen hR
        induction args generalizing t with
        | nil => simp [KF]
        | cons s l ih => cases t with
          | zero => exact ka.1
          | succ i => simpa using ih ka.2 i
      rw [ht] at this; simp [KF] at this
  have hret : ∀ σ E a w', Sim C E σ a w' → rvR rs σ = some res → ∃ v, (results fn a.tmps).run P w' = .ok v w' ∧ R w' E0 (fun _ => False) (fun b => ok b ∨ w.heap.size ≤ b) res v ∧ Below w.heap.size w w' := by
    intro σ E a w' hs hrr
    have hbel : Below w.heap.size w w' := ⟨hs.hs.kp.os, hs.hs.kp.tape, hs.hs.kp.output, hs.hs.kp.size, fun b hb => hs.hs.kp.block b hb (fun h => h)⟩
    have hcase : (∃ s, rvs σ rs = some [s] ∧ s = res) ∨ (∃ l, rvs σ rs = some l ∧ l.length ≠ 1 ∧ .tup l = res) := by
      unfold rvR rvE at hrr
      split at hrr
      · rename_i hl; exact .inr ⟨_, hl, by simp, by simpa using hrr⟩
      · rename_i hl; exact .inl ⟨_, hl, by simpa using hrr⟩
      · rename_i hl; exact .inr ⟨_, hl, by simp, by simpa using hrr⟩
      · cases hrr
    have hrun : ∀ l ys, rvs σ rs = some l → (fn.results.toList.mapM (fun r => match r with | .tmp t => pure (a.tmps.getD t undef) | .cell x t => do loadVar t (← asAddr (a.tmps.getD x undef)) : ResultVar → Sem Value)).run P w' = .ok ys w' → RL w' E (ltn σ.n) (okF C) l ys →
        (results fn a.tmps).run P w' = .ok (if h : ys.length = 1 then ys[0] else .tuple ys.toArray) w' := by
      intro l ys _ h2 _
      unfold results
      rw [Sem.run_bind, Array.mapM_eq_mapM_toList]
      simp only [map_eq_pure_bind, Sem.run_bind]
      refine Eq.trans (congrArg (fun r => Result.andThen (Result.andThen r _) _) h2) ?_
      simp
    rcases hcase with ⟨s, hl, rfl⟩ | ⟨l, hl, hne, rfl⟩
    · skip
      obtain ⟨ys, h1, h2⟩ := rvs_ok hs (fun _ h => h) rs _ _ hr hl
      have := hrun _ ys hl h1 h2
      simp only [RL] at h2
      obtain ⟨y, r, rfl, h3, rfl⟩ := h2
      exact ⟨y, by simpa using this, R_kf s y kr h3, hbel⟩
    · skip
      obtain ⟨ys, h1, h2⟩ := rvs_ok hs (fun _ h => h) rs _ _ hr hl
      have := hrun _ ys hl h1 h2
      have hlen2 := RL_length h2
      have h1' : ¬ ys.length = 1 := by
        intro e; rw [hlen2] at e; exact hne e
      rw [dif_neg h1'] at this
      exact ⟨_, this, R_kf (.tup l) _ kr (by simp only [R]; exact ⟨_, rfl, (show RL w' E (ltn σ.n) (okF C) l ys.toArray.toList from by simpa using h2)⟩), hbel⟩
  refine calls_of_wp hf hb (sx_sound ir code (st0 args N) _ _ E0 _ w hc h (fun e σ hk E a w' hs => ?_) hS)
  cases e with
  | ex i => exact hk.elim
  | n => obtain ⟨v, h1, h2, h3⟩ := hret σ E a w' hs hk; exact ⟨hs.df, v, h1, v, rfl, h2, h3⟩
  | ret => obtain ⟨v, h1, h2, h3⟩ := hret σ E a w' hs hk; exact ⟨hs.df, v, h1, v, rfl, h2, h3⟩
end

/-! ## equations by which the executor is run -/
section
variable (P : Program) (σ : St) (K : Ex → St → Prop) (L : St → Prop)
theorem rx_nil : rx P [] σ L = L σ := rfl
theorem rx_cons (io : Ins) (r : List Ins) : rx P (io :: r) σ L = st1 P io σ (rx P r) L := rfl
theorem sx_reg (ops : List Ins) : sx P (.reg ops) σ K = rx P ops σ (endK K) := rfl
theorem sx_regd (ord : List Nat) (vs : List VI) (nA nB : Nat) (rest : List Ins) : sx P (.regd ord vs nA nB rest) σ K = gs0 σ.gs (rxv P (backK σ.hp (rx P rest)) vs σ (endK K)) := rfl
theorem rxv_nil (r : KT) : rxv P r [] σ L = r σ L := rfl
theorem rxv_op (r : KT) (io : Ins) (l : List VI) : rxv P r (.op io :: l) σ L = st1 P io σ (rxv P r l) L := rfl
theorem rxv_hide (r : KT) (x : X) (l : List VI) : rxv P r (.hide x :: l) σ L = hideK (rdG none σ.fr x) σ (rxv P r l) L := rfl
theorem backK_eq (hp : List (Nat × HB)) (r : KT) : backK hp r σ L = r ⟨σ.fr, hp, σ.n, σ.N, σ.gs⟩ L := rfl
theorem hideK_p (k o : Nat) (r : KT) : hideK (.p k o) σ r L = r ⟨σ.fr, (k, .gone) :: σ.hp, σ.n, σ.N, σ.gs⟩ L := rfl
theorem hideK_pr (k m i o : Nat) (r : KT) : hideK (.pr k m i o) σ r L = r ⟨σ.fr, (k, .gone) :: σ.hp, σ.n, σ.N, σ.gs⟩ L := rfl
theorem gs0_nil (p : Prop) : gs0 [] p = p := rfl
theorem sx_seq (a b : SC) : sx P (.seq a b) σ K = sx P a σ (seqK (sx P b) K) := rfl
theorem sx_cond (c : X) (a b : SC) : sx P (.cond c a b) σ K = cndK (rdG none σ.fr c) (sx P a) (sx P b) σ K := rfl
theorem sx_block (id : Nat) (c : SC) : sx P (.block id c) σ K = sx P c σ (blkK id K) := rfl
theorem sx_loop (c : SC) : sx P (.loop c) σ K = LOOP (sx P c) σ K := rfl
theorem sx_exit (id : Nat) : sx P (.exit id) σ K = K (.ex id) σ := rfl
theorem sx_ret : sx P .ret σ K = K .ret σ := rfl
theorem sx_skip : sx P .skip σ K = K .n σ := rfl
theorem sx_scope (c : SC) : sx P (.scope c) σ K = sx P c σ K := rfl
theorem sx_label (l : Nat) : sx P (.label l) σ K = K .n σ := rfl
theorem endK_eq : endK K σ = K .n (purge σ) := rfl
theorem seqK_n (f : CT) : seqK f K .n σ = f σ K := rfl
theorem seqK_ex (f : CT) (i : Nat) : seqK f K (.ex i) σ = K (.ex i) σ := rfl
theorem seqK_ret (f : CT) : seqK f K .ret σ = K .ret σ := rfl
theorem blkK_n (id : Nat) : blkK id K .n σ = K .n σ := rfl
theorem blkK_ex (id i : Nat) : blkK id K (.ex i) σ = (bif Nat.beq i id then K .n σ else K (.ex i) σ) := rfl
theorem blkK_ret (id : Nat) : blkK id K .ret σ = K .ret σ := rfl
theorem retK_n (rs : List RV) (res : SV) : retK rs res .n σ = (rvR rs σ = some res) := rfl
theorem retK_ret (rs : List RV) (res : SV) : retK rs res .ret σ = (rvR rs σ = some res) := rfl
theorem lopK_n {S : Type} (st : S → St) (rel : S → Prop) (μ : S → Nat) (s : S) : lopK st rel μ s K .n σ = ∃ s', rel s' ∧ μ s' < μ s ∧ Ent σ (st s') := rfl
theorem lopK_ex {S : Type} (st : S → St) (rel : S → Prop) (μ : S → Nat) (s : S) (i : Nat) : lopK st rel μ s K (.ex i) σ = K (.ex i) σ := rfl
theorem lopK_ret {S : Type} (st : S → St) (rel : S → Prop) (μ : S → Nat) (s : S) : lopK st rel μ s K .ret σ = K .ret σ := rfl
end
section
variable {P : Program} {σ : St} {K : Ex → St → Prop} {L : St → Prop} {r : KT} {d : Option Nat} {g : Option (Nat × Bool)}
theorem br {b : Bool} {f h : CT} (h1 : b = true → f σ K) (h2 : b = false → h σ K) : BR b f h σ K := ⟨h1, h2⟩
theorem br_t {b : Bool} {f h : CT} (hb : b = true) (h1 : f σ K) : BR b f h σ K := ⟨fun _ => h1, fun e => by rw [hb] at e; cases e⟩
theorem br_f {b : Bool} {f h : CT} (hb : b = false) (h1 : h σ K) : BR b f h σ K := ⟨fun e => by (rw [hb] at e; cases e), fun _ => h1⟩
theorem gb {b w : Bool} {j : Nat} {i : SI} (h : stpV P (some (j, w)) d i σ r L) : GB P b j w d i σ r L := .inr (.inr h)
theorem gb_run {b w : Bool} {j : Nat} {i : SI} (hb : b = w) (h : stp P d i σ r L) : GB P b j w d i σ r L := .inl ⟨hb, h⟩
theorem gb_skip {b w : Bool} {j : Nat} {i : SI} (hb : b ≠ w) (h : skipK d σ r L) : GB P b j w d i σ r L := .inr (.inl ⟨hb, h⟩)
theorem call {f : FuncId} {args : List SV} {res : SV} (h : Ct P f args res) (hk : putK d res g σ r L) : CALL P g f args d σ r L := ⟨res, .inl (impP_iff.2 fun _ => h), hk⟩
theorem callv {f : FuncId} {args : List SV} {res : SV} (hf : FLT res) (h : Ct P f (mapS (vw4 σ.hp) args) res) (hk : putK d res g σ r L) : CALL P g f args d σ r L := ⟨res, .inr ⟨hf, impP_iff.2 fun _ => h⟩, hk⟩
theorem div0 {b : BinOp} {k : IntKind} {x y : Int} (h : y ≠ 0) (hk : putK d (.v (.int k (divr b k x y))) g σ r L) : DIV g b k x y d σ r L := ⟨impP_iff.2 fun _ => h, hk⟩
theorem ixs {xs : List (List SV)} {i : Int} (n : Nat) (row : List SV) (hi : i = (n : Int)) (hr : xs[n]? = some row) (hk : putK d (.ps row 0) g σ r L) : IXS g xs i d σ r L := ⟨row, impP_iff.2 fun _ => ⟨n, hi, hr⟩, hk⟩
theorem ixs_map {α : Type} {l : List α} {f : α → List SV} {i : Int} (n : Nat) (hn : n < l.length) (hi : i = (n : Int)) (hk : putK d (.ps (f l[n]) 0) g σ r L) : IXS g (l.map f) i d σ r L :=
  ixs n _ hi (by simp [hn]) hk
theorem ixa {len : Nat} {i : Int} {F : Nat → Option SV} (n : Nat) (hi : i = (n : Int)) (hn : n < len) (hk : putO (F n) d g σ r L) : IXA g len i F d σ r L := ⟨n, impP_iff.2 fun _ => ⟨hi, hn⟩, hk⟩
theorem loop {f : CT} {S : Type} (st : S → St) (rel : S → Prop) (μ : S → Nat) (s : S) (h0 : rel s) (he : Ent σ (st s)) (hb : ∀ s, rel s → f (st s) (lopK st rel μ s K)) : LOOP f σ K :=
  .inr ⟨S, st, rel, μ, ⟨s, h0, he⟩, hb⟩
theorem unroll {f : CT} (n : Nat) (h : rnds f K n σ) : LOOP f σ K := .inl ⟨n, h⟩
theorem rnds_succ {f : CT} (n : Nat) : rnds f K (n + 1) σ = f σ (rndK (rnds f K n) K) := rfl
theorem rndK_n (p : St → Prop) : rndK p K .n σ = p σ := rfl
theorem rndK_ex (p : St → Prop) (i : Nat) : rndK p K (.ex i) σ = K (.ex i) σ := rfl
theorem rndK_ret (p : St → Prop) : rndK p K .ret σ = K .ret σ := rfl
/-- a state is forgotten in part -/
def entF : List (Nat × SV) → List (Nat × SV) → Prop
  | [], _ => True
  | (t, s) :: r, fr => lk t fr = s ∧ entF r fr
def nogd : List (Nat × SV) → Bool
  | [] => true
  | (_, .gd _ _ _) :: _ => false
  | _ :: r => nogd r
theorem entF_lk : ∀ {r fr : List (Nat × SV)}, entF r fr → ∀ t, lk t r = .any ∨ lk t r = lk t fr
  | [], _, _, t => .inl rfl
  | (u, s) :: r, fr, h, t => by
    rw [lk_cons]
    by_cases ht : t = u
    · subst ht; rw [if_pos rfl]; exact .inr h.1.symm
    · rw [if_neg ht]; exact entF_lk h.2 t
theorem nogd_lk : ∀ {r : List (Nat × SV)}, nogd r = true → ∀ t j b s, lk t r ≠ .gd j b s
  | [], _, t, j, b, s => by simp [lk]
  | (u, s') :: r, h, t, j, b, s => by
    rw [lk_cons]
    by_cases ht : t = u
    · rw [if_pos ht]; rintro rfl; simp [nogd] at h
    · rw [if_neg ht]; exact nogd_lk (by cases s' <;> first | exact h | simp [nogd] at h) t j b s
/-- keys are kept; slots may be forgotten -/
theorem ent_same {σ' : St} (hf : entF σ'.fr σ.fr) (hg : nogd σ'.fr = true) (hh : ∀ k, k < σ'.n → lkh k σ'.hp = lkh k σ.hp) (hk : ∀ k, ¬ k < σ'.n → lkh k σ'.hp = .gone) (hn : σ'.n ≤ σ.n) (hN : σ'.N = σ.N) (hp : σ'.n = σ.n) : Ent σ σ' := by
  intro C E a w h
  have hlk : ∀ k, lkh k σ'.hp = lkh k σ.hp := fun k => by
    by_cases hk' : k < σ'.n
    · exact hh k hk'
    · rw [hk k hk', h.hs.kn k (by simp only [ltn]; omega)]
  have hok : okS C E σ'.hp = okS C E σ.hp := by funext b; simp only [okS, hlk]
  have hl : ltn σ'.n = ltn σ.n := by rw [hp]
  refine ⟨E, fun t => ?_, by rw [hN]; exact h.sz, h.df, fun t j b s ht => absurd ht (nogd_lk hg t j b s), ⟨fun k hk' => hk k hk', fun k => ?_, fun k k' b => ?_, fun k b => ?_, h.hs.kp⟩⟩
  · have hfr := h.fr t
    rcases entF_lk hf t with h1 | h1
    · rw [h1]; exact trivial
    · rw [h1, hok, hl]
      have := nogd_lk hg t
      rw [h1] at this
      cases hq : lk t σ.fr <;> rw [hq] at hfr this <;> first | exact hfr | exact absurd rfl (this _ _ _)
  · rw [hlk, hok, hl]; exact h.hs.bk k
  · rw [hlk, hlk]; exact h.hs.dj k k' b
  · rw [hlk]; exact h.hs.lo k b
end

/-! ## a state says what another one says: keys renamed, slots and keys forgotten -/
def aggL : SV → Option (List SV)
  | .agg l => some l
  | _ => none
def tupL : SV → Option (List SV)
  | .tup l => some l
  | _ => none
def clL (f : FuncId) : SV → Option (List SV)
  | .cl f2 l => bif Nat.beq f2 f then some l else none
  | _ => none
def mtO (p : List SV → Prop) : Option (List SV) → Prop
  | some l => p l
  | none => False
def mtB (p : SV → Prop) (q : List SV → Prop) : List SV → Prop
  | [] => False
  | s2 :: l2 => p s2 ∧ q l2
mutual
def mtS (ρ : Nat → Nat) (n' : Nat) : SV → SV → Prop
  | .any, _ => True
  | .p k o, s => k < n' ∧ s = .p (ρ k) o
  | .mr k, s => k < n' ∧ s = .mr (ρ k)
  | .pr k m i o, s => k < n' ∧ s = .pr (ρ k) m i o
  | .agg l, s => mtO (mtL ρ n' l) (aggL s)
  | .tup l, s => mtO (mtL ρ n' l) (tupL s)
  | .cl f l, s => mtO (mtL ρ n' l) (clL f s)
  | .v x, s => s = .v x
  | .sl c m xs, s => s = .sl c m xs ∧ KFR xs
  | .ps l o, s => s = .ps l o ∧ KFL l
  | .q φ, s => s = .q φ
  | .gd _ _ _, _ => False
def mtL (ρ : Nat → Nat) (n' : Nat) : List SV → List SV → Prop
  | [], l => l = []
  | s :: l, l2 => mtB (mtS ρ n' s) (mtL ρ n' l) l2
end
def mtH (ρ : Nat → Nat) (n' : Nat) : HB → HB → Prop
  | .gone, _ => True
  | .cells l T, .cells l2 T2 => T2 = T ∧ mtL ρ n' l l2
  | .row m xs T, h => h = .row m xs T ∧ KFR xs
  | .ob φ, h => h = .ob φ
  | .cells _ _, .row _ _ _ => False
  | .cells _ _, .ob _ => False
  | .cells _ _, .gone => False
def mtM (b : Bool) (p : Prop) : Prop :=
  match b with
  | true => True
  | false => p
def mtF (ρ : Nat → Nat) (n' : Nat) : List Nat → List (Nat × SV) → List (Nat × SV) → Prop
  | _, [], _ => True
  | seen, (t, s) :: r, fr => mtM (memb t seen) (mtS ρ n' s (lk t fr)) ∧ mtF ρ n' (t :: seen) r fr
def mtP (ρ : Nat → Nat) (hp' hp : List (Nat × HB)) (n' : Nat) : Nat → Prop
  | 0 => True
  | k + 1 => mtH ρ n' (lkh k hp') (lkh (ρ k) hp) ∧ mtP ρ hp' hp n' k
def hpb (n' : Nat) : List (Nat × HB) → Prop
  | [] => True
  | (k, _) :: r => k < n' ∧ hpb n' r
section
variable {w : World} {E : Env} {ok ok' : Nat → Prop} {ρ : Nat → Nat} {n' : Nat} {n : Nat → Prop}
def rnE (E : Env) (ρ : Nat → Nat) : Env := ⟨fun k => E.β (ρ k), fun k => E.hv (ρ k)⟩
mutual
theorem mtS_ok (hs : Stays w w ok ok') : ∀ (s' s : SV) (y : Value), mtS ρ n' s' s → R w E n ok s y → R w (rnE E ρ) (ltn n') ok' s' y
  | .any, _, y, _, _ => by simp only [R]
  | .p k o, s, y, h, hR => by simp only [mtS] at h; obtain ⟨h1, rfl⟩ := h; simp only [R] at hR ⊢; exact ⟨h1, hR.2⟩
  | .mr k, s, y, h, hR => by simp only [mtS] at h; obtain ⟨h1, rfl⟩ := h; simp only [R] at hR ⊢; exact ⟨h1, hR.2⟩
  | .pr k m i o, s, y, h, hR => by simp only [mtS] at h; obtain ⟨h1, rfl⟩ := h; simp only [R] at hR ⊢; exact ⟨h1, hR.2⟩
  | .agg l, s, y, h, hR => by
    simp only [mtS] at h
    cases s <;> simp only [aggL, mtO] at h
    simp only [R] at hR ⊢; obtain ⟨cs, h1, h2⟩ := hR; exact ⟨cs, h1, mtL_ok hs l _ _ h h2⟩
  | .tup l, s, y, h, hR => by
    simp only [mtS] at h
    cases s <;> simp only [tupL, mtO] at h
    simp only [R] at hR ⊢; obtain ⟨cs, h1, h2⟩ := hR; exact ⟨cs, h1, mtL_ok hs l _ _ h h2⟩
  | .cl f l, s, y, h, hR => by
    simp only [mtS] at h
    cases s <;> simp only [clL, mtO] at h
    rename_i f2 l2
    cases hf : Nat.beq f2 f <;> rw [hf] at h <;> simp only [cond_true, cond_false, mtO] at h
    have := Nat.eq_of_beq_eq_true hf; subst this
    simp only [R] at hR ⊢; obtain ⟨cs, h1, h2⟩ := hR; exact ⟨cs, h1, mtL_ok hs l _ _ h h2⟩
  | .v x, s, y, h, hR => by simp only [mtS] at h; subst h; simpa [R] using hR
  | .sl c m xs, s, y, h, hR => by
    simp only [mtS] at h; obtain ⟨rfl, h⟩ := h
    exact R_mono hs (fun _ h => ⟨rfl, rfl⟩) (fun _ h => h.elim) _ _ (R_kf (E' := rnE E ρ) (n' := fun _ => False) (.sl c m xs) y h hR)
  | .ps l o, s, y, h, hR => by
    simp only [mtS] at h; obtain ⟨rfl, h⟩ := h
    exact R_mono hs (fun _ h => ⟨rfl, rfl⟩) (fun _ h => h.elim) _ _ (R_kf (E' := rnE E ρ) (n' := fun _ => False) (.ps l o) y h hR)
  | .q φ, s, y, h, hR => by
    simp only [mtS] at h; subst h
    exact R_mono hs (fun _ h => ⟨rfl, rfl⟩) (fun _ h => h.elim) _ _ (R_kf (E' := rnE E ρ) (n' := fun _ => False) (.q φ) y trivial hR)
  | .gd _ _ _, _, y, h, _ => by simp only [mtS] at h
theorem mtL_ok (hs : Stays w w ok ok') : ∀ (l' l : List SV) (ys : List Value), mtL ρ n' l' l → RL w E n ok l ys → RL w (rnE E ρ) (ltn n') ok' l' ys
  | [], l, ys, h, hR => by simp only [mtL] at h; subst h; simpa [RL] using hR
  | s :: l', l, ys, h, hR => by
    simp only [mtL] at h
    cases l <;> simp only [mtB] at h
    simp only [RL] at hR ⊢; obtain ⟨y, r, h1, h2, h3⟩ := hR; exact ⟨y, r, h1, mtS_ok hs s _ y h.1 h2, mtL_ok hs l' _ r h.2 h3⟩
end
theorem KFL_app : ∀ {a b : List SV}, KFL a → KFL b → KFL (a ++ b)
  | [], _, _, h => h
  | _ :: _, _, h1, h2 => ⟨h1.1, KFL_app h1.2 h2⟩
theorem KFR_flat : ∀ {xs : List (List SV)}, KFR xs → KFL xs.flatten
  | [], _ => trivial
  | _ :: _, h => by rw [List.flatten_cons]; exact KFL_app h.1 (KFR_flat h.2)
theorem mtS_nogd {s' s : SV} (h : mtS ρ n' s' s) : ∀ j b u, s' ≠ .gd j b u := by rintro j b u rfl; simp only [mtS] at h
theorem mtS_gd {s' : SV} {j : Nat} {b : Bool} {u : SV} (h : mtS ρ n' s' (.gd j b u)) : s' = .any := by
  cases s' <;> simp only [mtS, aggL, tupL, clL, mtO] at h <;> first | rfl | exact h.elim | (cases h; done) | (cases h.2; done) | (cases h.1; done)
theorem mtS_R {fr : List (Nat × SV)} {s' s : SV} {y : Value} (hs : Stays w w ok ok') (h : mtS ρ n' s' s) (hR : FR w E n ok fr s y) : R w (rnE E ρ) (ltn n') ok' s' y := by
  by_cases hg : ∃ j b u, s = .gd j b u
  · obtain ⟨j, b, u, rfl⟩ := hg
    rw [mtS_gd h]; simp only [R]
  · exact mtS_ok hs _ _ _ h (FR_R hR (fun j b u e => hg ⟨j, b, u, e⟩))
theorem mtF_lk : ∀ {seen : List Nat} {r fr : List (Nat × SV)}, mtF ρ n' seen r fr → ∀ t, memb t seen = false → lk t r = .any ∨ mtS ρ n' (lk t r) (lk t fr)
  | _, [], _, _, t, _ => .inl rfl
  | seen, (u, s) :: r, fr, h, t, hs => by
    rw [lk_cons]
    by_cases ht : t = u
    · subst ht; rw [if_pos rfl]; have := h.1; rw [hs] at this; exact .inr this
    · rw [if_neg ht]
      refine mtF_lk h.2 t ?_
      have : Nat.beq t u = false := Bool.eq_false_iff.2 (fun e => ht (Nat.eq_of_beq_eq_true e))
      simp [memb, this, hs]
theorem mtP_lk {hp' hp : List (Nat × HB)} : ∀ {m : Nat}, mtP ρ hp' hp n' m → ∀ k, k < m → mtH ρ n' (lkh k hp') (lkh (ρ k) hp)
  | 0, _, k, h => by omega
  | m + 1, h, k, hk => by
    by_cases e : k = m
    · subst e; exact h.1
    · exact mtP_lk h.2 k (by omega)
theorem hpb_gone : ∀ {hp : List (Nat × HB)}, hpb n' hp → ∀ k, ¬ k < n' → lkh k hp = .gone
  | [], _, k, _ => rfl
  | (j, _) :: r, h, k, hk => by rw [lkh_cons, if_neg (by rintro rfl; exact hk h.1)]; exact hpb_gone h.2 k hk
theorem ent {σ σ' : St} (ρ : Nat → Nat) (hf : mtF ρ σ'.n [] σ'.fr σ.fr) (hp : mtP ρ σ'.hp σ.hp σ'.n σ'.n) (hb : hpb σ'.n σ'.hp) (hρ : ∀ i, i < σ'.n → ∀ j, j < σ'.n → ρ i = ρ j → i = j) (hN : Nat.beq σ'.N σ.N = true) : Ent σ σ' := by
  intro C E a w h
  have hN := Nat.eq_of_beq_eq_true hN
  have hgone := hpb_gone hb
  have hH := mtP_lk hp
  have hocc : ∀ k b, occ (rnE E ρ) k (lkh k σ'.hp) b → k < σ'.n ∧ occ E (ρ k) (lkh (ρ k) σ.hp) b := fun k b ho => by
    by_cases hk : k < σ'.n
    · refine ⟨hk, ?_⟩
      have := hH k hk
      cases h1 : lkh k σ'.hp <;> rw [h1] at ho this
      · cases h2 : lkh (ρ k) σ.hp <;> rw [h2] at this <;> simp only [mtH] at this
        exact ho
      · simp only [mtH] at this; rw [this.1]; exact ho
      · simp only [mtH] at this; rw [this]; exact ho
      · exact ho.elim
    · rw [hgone k hk] at ho; exact ho.elim
  have hst : Stays w w (okS C E σ.hp) (okS C (rnE E ρ) σ'.hp) := fun b hb _ => ⟨⟨hb.1, fun k ho => hb.2 _ (hocc k b ho).2⟩, rfl⟩
  refine ⟨rnE E ρ, fun t => ?_, by rw [hN]; exact h.sz, h.df, fun t j b s ht => ?_, ⟨hgone, fun k => ?_, fun k k' b h1 h2 => ?_, fun k b h1 => h.hs.lo _ b (hocc k b h1).2, h.hs.kp⟩⟩
  · rcases mtF_lk hf t rfl with h1 | h1
    · rw [h1]; exact trivial
    · have := mtS_R hst h1 (h.fr t)
      have hng := mtS_nogd h1
      cases hs : lk t σ'.fr <;> rw [hs] at this hng <;> first | exact this | exact absurd rfl (hng _ _ _)
  · rcases mtF_lk hf t rfl with h1 | h1
    · rw [h1] at ht; cases ht
    · exact absurd ht (mtS_nogd h1 j b s)
  · by_cases hk : k < σ'.n
    · have := hH k hk
      have hbk := h.hs.bk (ρ k)
      cases h1 : lkh k σ'.hp <;> rw [h1] at this
      · cases h2 : lkh (ρ k) σ.hp <;> rw [h2] at this hbk <;> simp only [mtH] at this
        obtain ⟨rfl, this⟩ := this
        simp only [HBok] at hbk ⊢
        obtain ⟨cs, k1, k2⟩ := hbk
        exact ⟨cs, k1, mtL_ok hst _ _ _ this k2⟩
      · simp only [mtH] at this
        rw [this.1] at hbk
        simp only [HBok] at hbk ⊢
        rcases hbk with q | ⟨b, cap, cs, q1, q2, q3, q4, q5, q6, q7⟩
        · exact .inl q
        · exact .inr ⟨b, cap, cs, q1, q2, q3, q4, q5, q6, RL_mono hst (fun _ h => ⟨rfl, rfl⟩) (fun _ h => h.elim) _ _ (RL_kf (E' := rnE E ρ) (n' := fun _ => False) _ _ (KFR_flat this.2) q7)⟩
      · rename_i φ
        simp only [mtH] at this
        rw [this] at hbk
        simp only [HBok] at hbk ⊢
        obtain ⟨o, k1, k2⟩ := hbk
        exact ⟨o, k1, φ.mono _ _ _ _ _ hst k2⟩
      · trivial
    · rw [hgone k hk]; trivial
  · have e1 := hocc k b h1
    have e2 := hocc k' b h2
    exact hρ k e1.1 k' e2.1 (h.hs.dj _ _ b e1.2 e2.2)
end
theorem mtS_same {ρ : Nat → Nat} {n' : Nat} : ∀ {s : SV}, KF s → mtS ρ n' s s := by
  intro s
  exact SV.rec (motive_1 := fun s => KF s → mtS ρ n' s s) (motive_2 := fun l => KFL l → mtL ρ n' l l) (motive_3 := fun _ => True)
    (fun x _ => by simp [mtS]) (fun k o h => by simp [KF] at h) (fun l ih h => by simp only [KF] at h; simp only [mtS, aggL, mtO]; exact ih h)
    (fun c m xs _ h => by simp only [KF] at h; simp [mtS, h]) (fun k h => by simp [KF] at h) (fun k m i o h => by simp [KF] at h)
    (fun l o _ h => by simp only [KF] at h; simp [mtS, h]) (fun f l ih h => by simp only [KF] at h; simp only [mtS, clL, Nat.beq_refl, cond_true, mtO]; exact ih h)
    (fun l ih h => by simp only [KF] at h; simp only [mtS, tupL, mtO]; exact ih h) (fun φ _ => by simp [mtS]) (fun j w s _ h => by simp [KF] at h) (fun _ => by simp [mtS])
    (fun _ => by simp [mtL]) (fun s l h1 h2 h => by simp only [KFL] at h; simp only [mtL, mtB]; exact ⟨h1 h.1, h2 h.2⟩)
    trivial (fun _ _ _ _ => trivial) s
theorem mtL_same {ρ : Nat → Nat} {n' : Nat} : ∀ {l : List SV}, KFL l → mtL ρ n' l l
  | [], _ => by simp [mtL]
  | s :: l, h => by simp only [mtL, mtB]; exact ⟨mtS_same h.1, mtL_same h.2⟩

/-! ## words for contracts -/
abbrev I (n : Int) : SV := .v (.int .i64 n)
abbrev B (b : Bool) : SV := .v (.bool b)
theorem KFR_iff {α : Type} {f : α → List SV} {l : List α} : KFR (l.map f) ↔ ∀ x ∈ l, KFL (f x) := by
  induction l with
  | nil => simp [KFR]
  | cons x l ih => simp [KFR, ih]
abbrev w64 (n : Int) : Int := IntKind.i64.wrap n
theorem w64_in {n : Int} (h1 : -9223372036854775808 ≤ n) (h2 : n ≤ 9223372036854775807) : IntKind.i64.wrap n = n := IntWalk.i64_in n ⟨h1, h2⟩
/-- the state at a loop's head: as at its entry, but for what the loop turns -/
def stO {S : Type} (σ : St) (ov : S → List (Nat × SV)) (hv : S → List (Nat × HB)) (s : S) : St := ⟨ov s ++ σ.fr, hv s ++ σ.hp, σ.n, σ.N, []⟩
theorem e_stO {S : Type} (fr : List (Nat × SV)) (hp : List (Nat × HB)) (n N : Nat) (gs : List Nat) (ov : S → List (Nat × SV)) (hv : S → List (Nat × HB)) (s : S) : stO ⟨fr, hp, n, N, gs⟩ ov hv s = ⟨ov s ++ fr, hv s ++ hp, n, N, []⟩ := rfl
theorem loopO {f : CT} {σ : St} {K : Ex → St → Prop} {S : Type} (ov : S → List (Nat × SV)) (hv : S → List (Nat × HB)) (rel : S → Prop) (μ : S → Nat) (s0 : S) (h0 : rel s0) (he : Ent σ (stO σ ov hv s0))
    (hb : ∀ s, rel s → f (stO σ ov hv s) (lopK (stO σ ov hv) rel μ s K)) : LOOP f σ K :=
  loop (stO σ ov hv) rel μ s0 h0 he hb
theorem ent_id {σ σ' : St} (hf : mtF id σ'.n [] σ'.fr σ.fr) (hp : mtP id σ'.hp σ.hp σ'.n σ'.n) (hb : hpb σ'.n σ'.hp) (hN : Nat.beq σ'.N σ.N = true) : Ent σ σ' := ent id hf hp hb (fun _ _ _ _ h => h) hN
theorem imp_gd {fr : List (Nat × SV)} {j j' : Nat} {w w' b : Bool} {p : Prop} (hl : lk j fr = .gd j' w' (.v (.bool b))) (h : b = w → p) : impP (some (j, w)) fr p := fun hg => h (by have := (GE_gd hg hl).2; simpa using this)
theorem imp_v {fr : List (Nat × SV)} {j : Nat} {w b : Bool} {p : Prop} (hl : lk j fr = .v (.bool b)) (h : b = w → p) : impP (some (j, w)) fr p := fun hg => h (GE_v hg hl)
theorem ixs_gd {xs : List (List SV)} {i : Int} {σ : St} {r : KT} {L : St → Prop} {d : Option Nat} {j j' : Nat} {w w' b : Bool} (n : Nat) (row : List SV) (hl : lk j σ.fr = .gd j' w' (.v (.bool b))) (h : b = w → i = (n : Int) ∧ xs[n]? = some row) (hk : putK d (.ps row 0) (some (j, w)) σ r L) :
    IXS (some (j, w)) xs i d σ r L := ⟨row, imp_gd hl fun e => ⟨n, (h e).1, (h e).2⟩, hk⟩
theorem ixs_v {xs : List (List SV)} {i : Int} {σ : St} {r : KT} {L : St → Prop} {d : Option Nat} {j : Nat} {w b : Bool} (n : Nat) (row : List SV) (hl : lk j σ.fr = .v (.bool b)) (h : b = w → i = (n : Int) ∧ xs[n]? = some row) (hk : putK d (.ps row 0) (some (j, w)) σ r L) :
    IXS (some (j, w)) xs i d σ r L := ⟨row, imp_v hl fun e => ⟨n, (h e).1, (h e).2⟩, hk⟩
theorem app0 {g : Option (Nat × Bool)} {m b : Nat} {xs ys : List (List SV)} {d : Option Nat} {σ : St} {r : KT} {L : St → Prop} (h : (xs.length + ys.length) * b ≤ 140737488355328) (hk : putK d (.sl false m (xs ++ ys)) g σ r L) : APP g m b xs ys d σ r L := ⟨impP_iff.2 fun _ => h, hk⟩
theorem w64_0 : IntKind.i64.wrap 0 = 0 := rfl
theorem w64_1 : IntKind.i64.wrap 1 = 1 := rfl
theorem w64_2 : IntKind.i64.wrap 2 = 2 := rfl
theorem w64_3 : IntKind.i64.wrap 3 = 3 := rfl
theorem w64_4 : IntKind.i64.wrap 4 = 4 := rfl
theorem w64_5 : IntKind.i64.wrap 5 = 5 := rfl
theorem w64_6 : IntKind.i64.wrap 6 = 6 := rfl
theorem mul_bd {a b A B : Int} (h1 : 0 ≤ a) (h2 : a ≤ A) (h3 : 0 ≤ b) (h4 : b ≤ B) : 0 ≤ a * b ∧ a * b ≤ A * B := ⟨Int.mul_nonneg h1 h3, Int.mul_le_mul h2 h4 h3 (by omega)⟩

/-! ## evaluation, step by step: what 'dsimp only' is given -/
def lkB (b : Bool) (s : SV) (t : Nat) (r : List (Nat × SV)) : SV := bif b then s else lk t r
def lkhB (b : Bool) (s : HB) (t : Nat) (r : List (Nat × HB)) : HB := bif b then s else lkh t r
def membB (b : Bool) (t : Nat) (r : List Nat) : Bool := bif b then true else memb t r
def blkE (b : Bool) (i : Nat) (K : Ex → St → Prop) (σ : St) : Prop := bif b then K .n σ else K (.ex i) σ
def cellsV (b : Bool) (s : SV) : Option (List SV) := bif b then some [s] else none
def biniB (c : Bool) (b : BinOp) (k : IntKind) (x y : Int) : Option SV := bif c then binr b k x y else none
def partB (b : Bool) (l : List SV) (o m : Nat) : Option SV := bif b then some (.agg ((l.drop o).take m)) else none
theorem lkB_t (s : SV) (t : Nat) (r : List (Nat × SV)) : lkB true s t r = s := rfl
theorem lkB_f (s : SV) (t : Nat) (r : List (Nat × SV)) : lkB false s t r = lk t r := rfl
theorem lkhB_t (s : HB) (t : Nat) (r : List (Nat × HB)) : lkhB true s t r = s := rfl
theorem lkhB_f (s : HB) (t : Nat) (r : List (Nat × HB)) : lkhB false s t r = lkh t r := rfl
theorem membB_t (t : Nat) (r : List Nat) : membB true t r = true := rfl
theorem membB_f (t : Nat) (r : List Nat) : membB false t r = memb t r := rfl
theorem blkE_t (i : Nat) (K : Ex → St → Prop) (σ : St) : blkE true i K σ = K .n σ := rfl
theorem blkE_f (i : Nat) (K : Ex → St → Prop) (σ : St) : blkE false i K σ = K (.ex i) σ := rfl
theorem cellsV_t (s : SV) : cellsV true s = some [s] := rfl
theorem biniB_t (b : BinOp) (k : IntKind) (x y : Int) : biniB true b k x y = binr b k x y := rfl
theorem partB_t (l : List SV) (o m : Nat) : partB true l o m = some (.agg ((l.drop o).take m)) := rfl
def mmE (k : IntKind) : Option Int → Option SV
  | some z => some (.v (.int k z))
  | none => none
def chkB (b : Bool) (l : List SV) (ls : List (List SV)) : Option (List (List SV)) := bif b then some (l :: ls) else none
theorem chkB_t (l : List SV) (ls : List (List SV)) : chkB true l ls = some (l :: ls) := rfl
def andB (a b : Bool) : Bool := bif a then b else false
theorem andB_t (b : Bool) : andB true b = b := rfl
theorem andB_f (b : Bool) : andB false b = false := rfl
def vwP (g : SV → SV) (o : Nat) : HB → SV
  | .cells l _ => .ps (mapS g l) o
  | _ => .any
def vwM : HB → SV
  | .row m xs _ => .sl false m xs
  | _ => .any
def cvtM : HB → SV
  | .row m xs _ => .sl false m xs
  | _ => .any
def rvH (o m : Nat) (ag : Bool) : HB → Option SV
  | .cells l _ => partS l o m ag
  | _ => none
def rvX (hp : List (Nat × HB)) (m : Nat) (ag : Bool) : SV → Option SV
  | .p k o => rvH o m ag (lkh k hp)
  | _ => none
def pvF (o m : Nat) (ag : Bool) : SV → Option SV
  | .agg l => partS l o m ag
  | _ => none
def pvC (k : IntKind) : SV → Option SV
  | .v (.int _ n) => some (.v (.int k (k.wrap n)))
  | _ => none
def pvE (i : Nat) : SV → Option SV
  | .tup l => nth l i
  | _ => none
theorem e_lk (t u : Nat) (s : SV) (r : List (Nat × SV)) : lk t ((u, s) :: r) = lkB (Nat.beq t u) s t r := rfl
theorem e_lk0 (t : Nat) : lk t [] = .any := rfl
theorem e_lkh (t u : Nat) (s : HB) (r : List (Nat × HB)) : lkh t ((u, s) :: r) = lkhB (Nat.beq t u) s t r := rfl
theorem e_lkh0 (t : Nat) : lkh t [] = .gone := rfl
theorem e_memb (t u : Nat) (r : List Nat) : memb t (u :: r) = membB (Nat.beq t u) t r := rfl
theorem e_memb0 (t : Nat) : memb t [] = false := rfl
theorem e_blk (id i : Nat) (K : Ex → St → Prop) (σ : St) : blkK id K (.ex i) σ = blkE (Nat.beq i id) i K σ := rfl
theorem e_strip_v (g : Option (Nat × Bool)) (fr : List (Nat × SV)) (x : Value) : strip g fr (.v x) = (.v x) := rfl
theorem e_drop_v (t : Nat) (r : List (Nat × SV)) (x : Value) : dropG ((t, (.v x)) :: r) = (t, (.v x)) :: dropG r := rfl
theorem e_cvt_v (hp : List (Nat × HB)) (x : Value) : cvt hp (.v x) = (.v x) := rfl
theorem e_vwS_v (hp : List (Nat × HB)) (g : SV → SV) (x : Value) : vwS hp g (.v x) = (.v x) := rfl
theorem e_vw0_v (x : Value) : vw0 (.v x) = (.v x) := rfl
theorem e_cells_v (x : Value) : cellsO (.v x) = cellsV (oneV x) (.v x) := rfl
theorem e_oneS_v (x : Value) : oneS (.v x) = oneV x := rfl
theorem e_strip_p (g : Option (Nat × Bool)) (fr : List (Nat × SV)) (k o : Nat) : strip g fr (.p k o) = (.p k o) := rfl
theorem e_drop_p (t : Nat) (r : List (Nat × SV)) (k o : Nat) : dropG ((t, (.p k o)) :: r) = (t, (.p k o)) :: dropG r := rfl
theorem e_cvt_p (hp : List (Nat × HB)) (k o : Nat) : cvt hp (.p k o) = (.p k o) := rfl
theorem e_vwS_p (hp : List (Nat × HB)) (g : SV → SV) (k o : Nat) : vwS hp g (.p k o) = vwP g o (lkh k hp) := rfl
theorem e_vw0_p (k o : Nat) : vw0 (.p k o) = .any := rfl
theorem e_cells_p (k o : Nat) : cellsO (.p k o) = some [(.p k o)] := rfl
theorem e_oneS_p (k o : Nat) : oneS (.p k o) = true := rfl
theorem e_strip_agg (g : Option (Nat × Bool)) (fr : List (Nat × SV)) (l : List SV) : strip g fr (.agg l) = (.agg l) := rfl
theorem e_drop_agg (t : Nat) (r : List (Nat × SV)) (l : List SV) : dropG ((t, (.agg l)) :: r) = (t, (.agg l)) :: dropG r := rfl
theorem e_cvt_agg (hp : List (Nat × HB)) (l : List SV) : cvt hp (.agg l) = .agg (cvtL hp l) := rfl
theorem e_vwS_agg (hp : List (Nat × HB)) (g : SV → SV) (l : List SV) : vwS hp g (.agg l) = .agg (mapS g l) := rfl
theorem e_vw0_agg (l : List SV) : vw0 (.agg l) = .any := rfl
theorem e_cells_agg (l : List SV) : cellsO (.agg l) = some l := rfl
theorem e_oneS_agg (l : List SV) : oneS (.agg l) = false := rfl
theorem e_strip_sl (g : Option (Nat × Bool)) (fr : List (Nat × SV)) (c : Bool) (m : Nat) (xs : List (List SV)) : strip g fr (.sl c m xs) = (.sl c m xs) := rfl
theorem e_drop_sl (t : Nat) (r : List (Nat × SV)) (c : Bool) (m : Nat) (xs : List (List SV)) : dropG ((t, (.sl c m xs)) :: r) = (t, (.sl c m xs)) :: dropG r := rfl
theorem e_cvt_sl (hp : List (Nat × HB)) (c : Bool) (m : Nat) (xs : List (List SV)) : cvt hp (.sl c m xs) = (.sl c m xs) := rfl
theorem e_vwS_sl (hp : List (Nat × HB)) (g : SV → SV) (c : Bool) (m : Nat) (xs : List (List SV)) : vwS hp g (.sl c m xs) = (.sl c m xs) := rfl
theorem e_vw0_sl (c : Bool) (m : Nat) (xs : List (List SV)) : vw0 (.sl c m xs) = (.sl c m xs) := rfl
theorem e_cells_sl (c : Bool) (m : Nat) (xs : List (List SV)) : cellsO (.sl c m xs) = some [(.sl c m xs)] := rfl
theorem e_oneS_sl (c : Bool) (m : Nat) (xs : List (List SV)) : oneS (.sl c m xs) = true := rfl
theorem e_strip_mr (g : Option (Nat × Bool)) (fr : List (Nat × SV)) (k : Nat) : strip g fr (.mr k) = (.mr k) := rfl
theorem e_drop_mr (t : Nat) (r : List (Nat × SV)) (k : Nat) : dropG ((t, (.mr k)) :: r) = (t, (.mr k)) :: dropG r := rfl
theorem e_cvt_mr (hp : List (Nat × HB)) (k : Nat) : cvt hp (.mr k) = cvtM (lkh k hp) := rfl
theorem e_vwS_mr (hp : List (Nat × HB)) (g : SV → SV) (k : Nat) : vwS hp g (.mr k) = vwM (lkh k hp) := rfl
theorem e_vw0_mr (k : Nat) : vw0 (.mr k) = .any := rfl
theorem e_cells_mr (k : Nat) : cellsO (.mr k) = some [(.mr k)] := rfl
theorem e_oneS_mr (k : Nat) : oneS (.mr k) = true := rfl
theorem e_strip_pr (g : Option (Nat × Bool)) (fr : List (Nat × SV)) (k m i o : Nat) : strip g fr (.pr k m i o) = (.pr k m i o) := rfl
theorem e_drop_pr (t : Nat) (r : List (Nat × SV)) (k m i o : Nat) : dropG ((t, (.pr k m i o)) :: r) = (t, (.pr k m i o)) :: dropG r := rfl
theorem e_cvt_pr (hp : List (Nat × HB)) (k m i o : Nat) : cvt hp (.pr k m i o) = (.pr k m i o) := rfl
theorem e_vwS_pr (hp : List (Nat × HB)) (g : SV → SV) (k m i o : Nat) : vwS hp g (.pr k m i o) = (.pr k m i o) := rfl
theorem e_vw0_pr (k m i o : Nat) : vw0 (.pr k m i o) = .any := rfl
theorem e_cells_pr (k m i o : Nat) : cellsO (.pr k m i o) = some [(.pr k m i o)] := rfl
theorem e_oneS_pr (k m i o : Nat) : oneS (.pr k m i o) = true := rfl
theorem e_strip_ps (g : Option (Nat × Bool)) (fr : List (Nat × SV)) (row : List SV) (o : Nat) : strip g fr (.ps row o) = (.ps row o) := rfl
theorem e_drop_ps (t : Nat) (r : List (Nat × SV)) (row : List SV) (o : Nat) : dropG ((t, (.ps row o)) :: r) = (t, (.ps row o)) :: dropG r := rfl
theorem e_cvt_ps (hp : List (Nat × HB)) (row : List SV) (o : Nat) : cvt hp (.ps row o) = (.ps row o) := rfl
theorem e_vwS_ps (hp : List (Nat × HB)) (g : SV → SV) (l : List SV) (o : Nat) : vwS hp g (.ps l o) = .ps (mapS g l) o := rfl
theorem e_vw0_ps (row : List SV) (o : Nat) : vw0 (.ps row o) = .any := rfl
theorem e_cells_ps (row : List SV) (o : Nat) : cellsO (.ps row o) = some [(.ps row o)] := rfl
theorem e_oneS_ps (row : List SV) (o : Nat) : oneS (.ps row o) = true := rfl
theorem e_strip_cl (g : Option (Nat × Bool)) (fr : List (Nat × SV)) (f : FuncId) (l : List SV) : strip g fr (.cl f l) = (.cl f l) := rfl
theorem e_drop_cl (t : Nat) (r : List (Nat × SV)) (f : FuncId) (l : List SV) : dropG ((t, (.cl f l)) :: r) = (t, (.cl f l)) :: dropG r := rfl
theorem e_cvt_cl (hp : List (Nat × HB)) (f : FuncId) (l : List SV) : cvt hp (.cl f l) = (.cl f l) := rfl
theorem e_vwS_cl (hp : List (Nat × HB)) (g : SV → SV) (f : FuncId) (l : List SV) : vwS hp g (.cl f l) = .cl f (mapS g l) := rfl
theorem e_vw0_cl (f : FuncId) (l : List SV) : vw0 (.cl f l) = .any := rfl
theorem e_cells_cl (f : FuncId) (l : List SV) : cellsO (.cl f l) = some [(.cl f l)] := rfl
theorem e_oneS_cl (f : FuncId) (l : List SV) : oneS (.cl f l) = true := rfl
theorem e_strip_tup (g : Option (Nat × Bool)) (fr : List (Nat × SV)) (l : List SV) : strip g fr (.tup l) = (.tup l) := rfl
theorem e_drop_tup (t : Nat) (r : List (Nat × SV)) (l : List SV) : dropG ((t, (.tup l)) :: r) = (t, (.tup l)) :: dropG r := rfl
theorem e_cvt_tup (hp : List (Nat × HB)) (l : List SV) : cvt hp (.tup l) = .tup (cvtL hp l) := rfl
theorem e_vwS_tup (hp : List (Nat × HB)) (g : SV → SV) (l : List SV) : vwS hp g (.tup l) = .tup (mapS g l) := rfl
theorem e_vw0_tup (l : List SV) : vw0 (.tup l) = .any := rfl
theorem e_oneS_tup (l : List SV) : oneS (.tup l) = false := rfl
theorem e_strip_q (g : Option (Nat × Bool)) (fr : List (Nat × SV)) (φ : VP) : strip g fr (.q φ) = (.q φ) := rfl
theorem e_drop_q (t : Nat) (r : List (Nat × SV)) (φ : VP) : dropG ((t, (.q φ)) :: r) = (t, (.q φ)) :: dropG r := rfl
theorem e_cvt_q (hp : List (Nat × HB)) (φ : VP) : cvt hp (.q φ) = (.q φ) := rfl
theorem e_vwS_q (hp : List (Nat × HB)) (g : SV → SV) (φ : VP) : vwS hp g (.q φ) = (.q φ) := rfl
theorem e_vw0_q (φ : VP) : vw0 (.q φ) = (.q φ) := rfl
theorem e_cells_q (φ : VP) : cellsO (.q φ) = some [(.q φ)] := rfl
theorem e_oneS_q (φ : VP) : oneS (.q φ) = true := rfl
theorem e_strip_any (g : Option (Nat × Bool)) (fr : List (Nat × SV))  : strip g fr (.any) = (.any) := rfl
theorem e_drop_any (t : Nat) (r : List (Nat × SV))  : dropG ((t, (.any)) :: r) = (t, (.any)) :: dropG r := rfl
theorem e_cvt_any (hp : List (Nat × HB))  : cvt hp (.any) = (.any) := rfl
theorem e_vwS_any (hp : List (Nat × HB)) (g : SV → SV)  : vwS hp g (.any) = (.any) := rfl
theorem e_vw0_any  : vw0 (.any) = .any := rfl
theorem e_oneS_any  : oneS (.any) = false := rfl
theorem e_drop_gd (t j : Nat) (w : Bool) (s : SV) (r : List (Nat × SV)) : dropG ((t, .gd j w s) :: r) = (t, .any) :: dropG r := rfl
theorem e_drop0  : dropG [] = [] := rfl
theorem e_strip_gd0 (fr : List (Nat × SV)) (j : Nat) (w : Bool) (s : SV) : strip none fr (.gd j w s) = .any := rfl
theorem e_strip_gd (fr : List (Nat × SV)) (j j0 : Nat) (w w0 : Bool) (s : SV) : strip (some (j0, w0)) fr (.gd j w s) = orAny (alw 8 fr j0 w0 j w) s := rfl
theorem e_oneV_bool (b : Bool) : oneV (.bool b) = true := rfl
theorem e_oneV_int (k : IntKind) (n : Int) : oneV (.int k n) = true := rfl
theorem e_oneV_string (s : ByteArray) : oneV (.string s) = true := rfl
theorem e_oneV_pointer (p : Option Addr) : oneV (.pointer p) = true := rfl
theorem e_oneV_slice (a : Option Addr) (l c : Nat) : oneV (.slice a l c) = true := rfl
theorem e_oneV_nilFunc  : oneV .nilFunc = true := rfl
theorem e_oneV_nilIface  : oneV .nilIface = true := rfl
theorem e_rdG (g : Option (Nat × Bool)) (fr : List (Nat × SV)) (x : X) : rdG g fr x = strip g fr (rd fr x) := rfl
theorem e_rd_t (fr : List (Nat × SV)) (n : Nat) : rd fr (.t n) = lk n fr := rfl
theorem e_rd_c (fr : List (Nat × SV)) (x : Value) : rd fr (.c x) = .v x := rfl
theorem e_rd_f (fr : List (Nat × SV)) (i : Nat) : rd fr (.f i) = .cl i [] := rfl
theorem e_alw (f : Nat) (fr : List (Nat × SV)) (j0 : Nat) (w0 : Bool) (j : Nat) (w : Bool) : alw (f + 1) fr j0 w0 j w = alwS (sameG (Nat.beq j0 j) w0 w) (lk j0 fr) (alw f fr) j w := rfl
theorem e_alw0 (fr : List (Nat × SV)) (j0 : Nat) (w0 : Bool) (j : Nat) (w : Bool) : alw 0 fr j0 w0 j w = false := rfl
theorem e_vw1 (hp : List (Nat × HB)) (s : SV) : vw1 hp s = vwS hp vw0 s := rfl
theorem e_vw2 (hp : List (Nat × HB)) (s : SV) : vw2 hp s = vwS hp (vw1 hp) s := rfl
theorem e_vw3 (hp : List (Nat × HB)) (s : SV) : vw3 hp s = vwS hp (vw2 hp) s := rfl
theorem e_vw4 (hp : List (Nat × HB)) (s : SV) : vw4 hp s = vwS hp (vw3 hp) s := rfl
theorem e_purge0 (fr : List (Nat × SV)) (hp : List (Nat × HB)) (n N : Nat) : purge ⟨fr, hp, n, N, []⟩ = ⟨fr, hp, n, N, []⟩ := rfl
theorem e_purge1 (fr : List (Nat × SV)) (hp : List (Nat × HB)) (n N j : Nat) (l : List Nat) : purge ⟨fr, hp, n, N, j :: l⟩ = ⟨dropG fr, hp, n, N, []⟩ := rfl
theorem e_bini (b : BinOp) (k j : IntKind) (x y : Int) : bini b (.v (.int k x)) (.v (.int j y)) = biniB (kbeq k j) b k x y := rfl
theorem e_uni_not (b : Bool) : uni .not (.v (.bool b)) = some (.v (.bool (!b))) := rfl
theorem e_uni_neg (k : IntKind) (n : Int) : uni .neg (.v (.int k n)) = some (.v (.int k (k.wrap (0 - n)))) := rfl
theorem e_binr_add (k : IntKind) (x y : Int) : binr .add k x y = some (.v (.int k (k.wrap (x + y)))) := rfl
theorem e_binr_sub (k : IntKind) (x y : Int) : binr .sub k x y = some (.v (.int k (k.wrap (x - y)))) := rfl
theorem e_binr_mul (k : IntKind) (x y : Int) : binr .mul k x y = some (.v (.int k (k.wrap (x * y)))) := rfl
theorem e_binr_eql (k : IntKind) (x y : Int) : binr .eql k x y = some (.v (.bool (x == y))) := rfl
theorem e_binr_neq (k : IntKind) (x y : Int) : binr .neq k x y = some (.v (.bool (x != y))) := rfl
theorem e_binr_lss (k : IntKind) (x y : Int) : binr .lss k x y = some (.v (.bool (decide (x < y)))) := rfl
theorem e_binr_leq (k : IntKind) (x y : Int) : binr .leq k x y = some (.v (.bool (decide (x ≤ y)))) := rfl
theorem e_binr_gtr (k : IntKind) (x y : Int) : binr .gtr k x y = some (.v (.bool (decide (x > y)))) := rfl
theorem e_binr_geq (k : IntKind) (x y : Int) : binr .geq k x y = some (.v (.bool (decide (x ≥ y)))) := rfl
theorem e_kbeq_i8  : kbeq .i8 .i8 = true := rfl
theorem e_kbeq_i16  : kbeq .i16 .i16 = true := rfl
theorem e_kbeq_i32  : kbeq .i32 .i32 = true := rfl
theorem e_kbeq_i64  : kbeq .i64 .i64 = true := rfl
theorem e_kbeq_u8  : kbeq .u8 .u8 = true := rfl
theorem e_kbeq_u16  : kbeq .u16 .u16 = true := rfl
theorem e_kbeq_u32  : kbeq .u32 .u32 = true := rfl
theorem e_kbeq_u64  : kbeq .u64 .u64 = true := rfl
theorem e_addo_p (o : Nat) (k q : Nat) : addoS o (.p k q) = some (.p k (q + o)) := rfl
theorem e_nilc_p (k q : Nat) : nilcS (.p k q) = some (.p k q) := rfl
theorem e_addo_pr (o : Nat) (k m i q : Nat) : addoS o (.pr k m i q) = some (.pr k m i (q + o)) := rfl
theorem e_nilc_pr (k m i q : Nat) : nilcS (.pr k m i q) = some (.pr k m i q) := rfl
theorem e_addo_ps (o : Nat) (row : List SV) (q : Nat) : addoS o (.ps row q) = some (.ps row (q + o)) := rfl
theorem e_nilc_ps (row : List SV) (q : Nat) : nilcS (.ps row q) = some (.ps row q) := rfl
theorem e_part_t (l : List SV) (o m : Nat) : partS l o m true = partB (Nat.ble (o + m) l.length) l o m := rfl
theorem e_part_f (l : List SV) (o m : Nat) : partS l o m false = nth l o := rfl
theorem e_mmf0 (mx : Bool) (x : Int) : mmf mx x [] = some x := rfl
theorem e_mmf_t (k : IntKind) (x y : Int) (r : List SV) : mmf true x (.v (.int k y) :: r) = mmf true (max x y) r := rfl
theorem e_mmf_f (k : IntKind) (x y : Int) (r : List SV) : mmf false x (.v (.int k y) :: r) = mmf false (min x y) r := rfl
theorem e_mm (mx : Bool) (k : IntKind) (x : Int) (r : List SV) : mmS mx (.v (.int k x) :: r) = mmE k (mmf mx x r) := rfl
theorem e_bld (ρ : X → SV) (z : List SV) (ps : List (Nat × Nat × X)) : bld ρ z ps = bldF z (bldX ρ ps) := rfl

theorem e_pv_build (ρ : X → SV) (z : List Value) (ps : List (Nat × Nat × X)) : pv ρ (.build z ps) = bldE (bld ρ (lit z) ps) := rfl
theorem e_bslC (l : List SV) (m : Nat) (ls : List (List SV)) : bslC (some l) m (some ls) = chkB (chk l m) l ls := rfl
theorem e_allOne (s : SV) (l : List SV) : allOne (s :: l) = andB (oneS s) (allOne l) := rfl
theorem e_allOne0  : allOne [] = true := rfl
theorem e_pick_o (fr : List (Nat × SV)) (g : Option (Nat × Bool)) (t : Nat) (b : X) : pickS fr g (.t t) (.c (.bool true)) b = pickO (rdG g fr (.t t)) (rdG (some (t, false)) fr b) := rfl
theorem e_pick_a (fr : List (Nat × SV)) (g : Option (Nat × Bool)) (t n : Nat) : pickS fr g (.t t) (.t n) (.c (.bool false)) = pickA (rdG g fr (.t t)) (rdG (some (t, true)) fr (.t n)) := rfl
theorem e_pick_f (fr : List (Nat × SV)) (g : Option (Nat × Bool)) (t : Nat) : pickS fr g (.t t) (.c (.bool false)) (.c (.bool false)) = pickA (rdG g fr (.t t)) (rdG (some (t, true)) fr (.c (.bool false))) := rfl
theorem e_rvR (rs : List RV) (σ : St) : rvR rs σ = rvE (rvs σ rs) := rfl
theorem e_rvs0 (σ : St) : rvs σ [] = some [] := rfl
theorem e_rv1_t (σ : St) (t : Nat) : rv1 σ (.tmp t) = some (rdG none σ.fr (.t t)) := rfl
theorem e_rv1_c (σ : St) (t m : Nat) (ag : Bool) : rv1 σ (.cell t m ag) = rvX σ.hp m ag (rdG none σ.fr (.t t)) := rfl
theorem e_stp_mv (P : Program) (d : Option Nat) (σ : St) (r : KT) (K : St → Prop) (x : X) : stp P d (.mv x) σ r K = stpV P none d (.mv x) σ r K := rfl
theorem e_stp_pick (P : Program) (d : Option Nat) (σ : St) (r : KT) (K : St → Prop) (c a b : X) : stp P d (.pick c a b) σ r K = stpV P none d (.pick c a b) σ r K := rfl
theorem e_stp_build (P : Program) (d : Option Nat) (σ : St) (r : KT) (K : St → Prop) (z : List Value) (ps : List (Nat × Nat × X)) : stp P d (.build z ps) σ r K = stpV P none d (.build z ps) σ r K := rfl
theorem e_stp_bsl (P : Program) (d : Option Nat) (σ : St) (r : KT) (K : St → Prop) (m : Nat) (T : TypeId) (ps : List X) : stp P d (.bsl m T ps) σ r K = stpV P none d (.bsl m T ps) σ r K := rfl
theorem e_stp_ld (P : Program) (d : Option Nat) (σ : St) (r : KT) (K : St → Prop) (x : X) (m : Nat) (ag : Bool) : stp P d (.ld x m ag) σ r K = stpV P none d (.ld x m ag) σ r K := rfl
theorem e_stp_nilc (P : Program) (d : Option Nat) (σ : St) (r : KT) (K : St → Prop) (x : X) : stp P d (.nilc x) σ r K = stpV P none d (.nilc x) σ r K := rfl
theorem e_stp_bin (P : Program) (d : Option Nat) (σ : St) (r : KT) (K : St → Prop) (b : BinOp) (x y : X) : stp P d (.bin b x y) σ r K = stpV P none d (.bin b x y) σ r K := rfl
theorem e_stp_div (P : Program) (d : Option Nat) (σ : St) (r : KT) (K : St → Prop) (b : BinOp) (x y : X) : stp P d (.div b x y) σ r K = stpV P none d (.div b x y) σ r K := rfl
theorem e_stp_un (P : Program) (d : Option Nat) (σ : St) (r : KT) (K : St → Prop) (u : UnOp) (x : X) : stp P d (.un u x) σ r K = stpV P none d (.un u x) σ r K := rfl
theorem e_stp_addo (P : Program) (d : Option Nat) (σ : St) (r : KT) (K : St → Prop) (x : X) (o : Nat) : stp P d (.addo x o) σ r K = stpV P none d (.addo x o) σ r K := rfl
theorem e_stp_fld (P : Program) (d : Option Nat) (σ : St) (r : KT) (K : St → Prop) (x : X) (o m : Nat) (ag : Bool) : stp P d (.fld x o m ag) σ r K = stpV P none d (.fld x o m ag) σ r K := rfl
theorem e_stp_idx (P : Program) (d : Option Nat) (σ : St) (r : KT) (K : St → Prop) (x i : X) (len m : Nat) (ag : Bool) : stp P d (.idx x i len m ag) σ r K = stpV P none d (.idx x i len m ag) σ r K := rfl
theorem e_stp_ixa (P : Program) (d : Option Nat) (σ : St) (r : KT) (K : St → Prop) (x i : X) (len m : Nat) : stp P d (.ixa x i len m) σ r K = stpV P none d (.ixa x i len m) σ r K := rfl
theorem e_stp_ixs (P : Program) (d : Option Nat) (σ : St) (r : KT) (K : St → Prop) (x i : X) (m : Nat) : stp P d (.ixs x i m) σ r K = stpV P none d (.ixs x i m) σ r K := rfl
theorem e_stp_len (P : Program) (d : Option Nat) (σ : St) (r : KT) (K : St → Prop) (x : X) : stp P d (.len x) σ r K = stpV P none d (.len x) σ r K := rfl
theorem e_stp_mm (P : Program) (d : Option Nat) (σ : St) (r : KT) (K : St → Prop) (mx : Bool) (xs : List X) : stp P d (.mm mx xs) σ r K = stpV P none d (.mm mx xs) σ r K := rfl
theorem e_stp_call (P : Program) (d : Option Nat) (σ : St) (r : KT) (K : St → Prop) (f : FuncId) (as : List X) : stp P d (.call f as) σ r K = stpV P none d (.call f as) σ r K := rfl
theorem e_stp_calv (P : Program) (d : Option Nat) (σ : St) (r : KT) (K : St → Prop) (x : X) (as : List X) : stp P d (.calv x as) σ r K = stpV P none d (.calv x as) σ r K := rfl
theorem e_stp_mkf (P : Program) (d : Option Nat) (σ : St) (r : KT) (K : St → Prop) (f : FuncId) (cs : List X) : stp P d (.mkf f cs) σ r K = stpV P none d (.mkf f cs) σ r K := rfl
theorem e_stp_conv (P : Program) (d : Option Nat) (σ : St) (r : KT) (K : St → Prop) (k : IntKind) (x : X) : stp P d (.conv k x) σ r K = stpV P none d (.conv k x) σ r K := rfl
theorem e_stp_ext (P : Program) (d : Option Nat) (σ : St) (r : KT) (K : St → Prop) (x : X) (i : Nat) : stp P d (.ext x i) σ r K = stpV P none d (.ext x i) σ r K := rfl
theorem e_rvs (σ : St) (r : RV) (rs : List RV) : rvs σ (r :: rs) = rvC σ.hp (rv1 σ r) (rvs σ rs) := rfl
theorem e_pv_fld (ρ : X → SV) (x : X) (o m : Nat) (ag : Bool) : pv ρ (.fld x o m ag) = pvF o m ag (ρ x) := rfl
theorem e_pv_conv (ρ : X → SV) (k : IntKind) (x : X) : pv ρ (.conv k x) = pvC k (ρ x) := rfl
theorem e_pv_ext (ρ : X → SV) (x : X) (i : Nat) : pv ρ (.ext x i) = pvE i (ρ x) := rfl
theorem e_entF0 (fr : List (Nat × SV)) : entF [] fr = True := rfl
theorem e_entF (t : Nat) (s : SV) (r fr : List (Nat × SV)) : entF ((t, s) :: r) fr = (lk t fr = s ∧ entF r fr) := rfl
theorem e_stp_eqs (P : Program) (d : Option Nat) (σ : St) (r : KT) (K : St → Prop) (ng ag : Bool) (cls : List Nat) (x y : X) : stp P d (.eqs ng ag cls x y) σ r K = stpV P none d (.eqs ng ag cls x y) σ r K := rfl
theorem e_stp_slc (P : Program) (d : Option Nat) (σ : St) (r : KT) (K : St → Prop) (x h k : X) : stp P d (.slc x h k) σ r K = stpV P none d (.slc x h k) σ r K := rfl
theorem e_stp_sub (P : Program) (d : Option Nat) (σ : St) (r : KT) (K : St → Prop) (m : Nat) (x : X) (lo hi : Option X) : stp P d (.sub m x lo hi) σ r K = stpV P none d (.sub m x lo hi) σ r K := rfl
theorem e_stp_app (P : Program) (d : Option Nat) (σ : St) (r : KT) (K : St → Prop) (m b : Nat) (T : TypeId) (x y : X) : stp P d (.app m b T x y) σ r K = stpV P none d (.app m b T x y) σ r K := rfl

/-! ## equations of the executor's functions, as 'dsimp only' takes them -/
theorem q_bldE_1 (l : List Go.Sx.SV) : Go.Sx.bldE (Option.some l) = Option.some (Go.Sx.SV.agg l) := rfl
theorem q_bldE_2  : Go.Sx.bldE Option.none = Option.none := rfl
theorem q_mmE_1 (k : Go.IntKind) (z : Int) : Go.Sx.mmE k (Option.some z) = Option.some (Go.Sx.SV.v (Go.Value.int k z)) := rfl
theorem q_mmE_2 (k : Go.IntKind) : Go.Sx.mmE k Option.none = Option.none := rfl
theorem q_vwP_1 (g : Go.Sx.SV → Go.Sx.SV) (o : Nat) (l : List Go.Sx.SV) (T : Go.TypeId) : Go.Sx.vwP g o (Go.Sx.HB.cells l T) = Go.Sx.SV.ps (Go.Sx.mapS g l) o := rfl
theorem q_vwM_1 (m : Nat) (xs : List (List Go.Sx.SV)) (T : Go.TypeId) : Go.Sx.vwM (Go.Sx.HB.row m xs T) = Go.Sx.SV.sl Bool.false m xs := rfl
theorem q_cvtM_1 (m : Nat) (xs : List (List Go.Sx.SV)) (T : Go.TypeId) : Go.Sx.cvtM (Go.Sx.HB.row m xs T) = Go.Sx.SV.sl Bool.false m xs := rfl
theorem q_rvE_1  : Go.Sx.rvE (Option.some []) = Option.some (Go.Sx.SV.tup []) := rfl
theorem q_rvE_2 (s : Go.Sx.SV) : Go.Sx.rvE (Option.some [s]) = Option.some s := rfl
theorem q_rvE_3 (a b : Go.Sx.SV) (l : List Go.Sx.SV) : Go.Sx.rvE (Option.some (a :: b :: l)) = Option.some (Go.Sx.SV.tup (a :: b :: l)) := rfl
theorem q_rvE_4  : Go.Sx.rvE Option.none = Option.none := rfl
theorem q_rvD_1 (s : Go.Sx.SV) (l : List Go.Sx.SV) : Go.Sx.rvD s (Option.some l) = Option.some (s :: l) := rfl
theorem q_rvD_2 (s : Go.Sx.SV) : Go.Sx.rvD s Option.none = Option.none := rfl
theorem q_rvC_1 (hp : List (Nat × Go.Sx.HB)) (x : Option (List Go.Sx.SV)) (s : Go.Sx.SV) : Go.Sx.rvC hp (Option.some s) x = Go.Sx.rvD (Go.Sx.cvt hp s) x := rfl
theorem q_rvC_2 (hp : List (Nat × Go.Sx.HB)) (x : Option (List Go.Sx.SV)) : Go.Sx.rvC hp Option.none x = Option.none := rfl
theorem q_rvH_1 (o m : Nat) (ag : Bool) (l : List Go.Sx.SV) (T : Go.TypeId) : Go.Sx.rvH o m ag (Go.Sx.HB.cells l T) = Go.Sx.partS l o m ag := rfl
theorem q_rvX_1 (hp : List (Nat × Go.Sx.HB)) (m : Nat) (ag : Bool) (k o : Nat) : Go.Sx.rvX hp m ag (Go.Sx.SV.p k o) = Go.Sx.rvH o m ag (Go.Sx.lkh k hp) := rfl
theorem q_pvF_1 (o m : Nat) (ag : Bool) (l : List Go.Sx.SV) : Go.Sx.pvF o m ag (Go.Sx.SV.agg l) = Go.Sx.partS l o m ag := rfl
theorem q_pvC_1 (k k_1 : Go.IntKind) (n : Int) : Go.Sx.pvC k (Go.Sx.SV.v (Go.Value.int k_1 n)) = Option.some (Go.Sx.SV.v (Go.Value.int k (Go.IntKind.wrap k n))) := rfl
theorem q_pvE_1 (i : Nat) (l : List Go.Sx.SV) : Go.Sx.pvE i (Go.Sx.SV.tup l) = Go.Sx.nth l i := rfl
theorem q_putB_1 (x : Nat) (x_1 : Go.Sx.SV) (x_2 : Go.Sx.St) (x_3 : Go.Sx.KT) (x_4 : Go.Sx.St → Prop) : Go.Sx.putB Bool.false Bool.true Bool.false x x_1 x_2 x_3 x_4 = x_3 { fr := (x, x_1) :: Go.Sx.St.fr x_2, hp := Go.Sx.St.hp x_2, n := Go.Sx.St.n x_2, N := Go.Sx.St.N x_2, gs := Go.Sx.St.gs x_2 } x_4 := rfl
theorem q_putG_1 (x x_1 : Nat) (x_2 : Bool) (x_3 : Go.Sx.SV) (x_4 : Go.Sx.St) (x_5 : Go.Sx.KT) (x_6 : Go.Sx.St → Prop) : Go.Sx.putG Bool.false Bool.true Bool.false x x_1 x_2 x_3 x_4 x_5 x_6 = x_5 { fr := (x, Go.Sx.SV.gd x_1 x_2 x_3) :: Go.Sx.St.fr x_4, hp := Go.Sx.St.hp x_4, n := Go.Sx.St.n x_4, N := Go.Sx.St.N x_4, gs := x_1 :: Go.Sx.St.gs x_4 } x_6 := rfl
theorem q_putK_1 (s : Go.Sx.SV) (σ : Go.Sx.St) (r : Go.Sx.KT) (K : Go.Sx.St → Prop) : Go.Sx.putK Option.none s Option.none σ r K = r σ K := rfl
theorem q_putK_2 (s : Go.Sx.SV) (σ : Go.Sx.St) (r : Go.Sx.KT) (K : Go.Sx.St → Prop) (val : Nat × Bool) : Go.Sx.putK Option.none s (Option.some val) σ r K = False := rfl
theorem q_putK_3 (s : Go.Sx.SV) (σ : Go.Sx.St) (r : Go.Sx.KT) (K : Go.Sx.St → Prop) (t : Nat) : Go.Sx.putK (Option.some t) s Option.none σ r K = Go.Sx.putB (Go.Sx.memb t (Go.Sx.St.gs σ)) (Nat.blt t (Go.Sx.St.N σ)) (Go.Sx.gdS s) t s σ r K := rfl
theorem q_putK_4 (s : Go.Sx.SV) (σ : Go.Sx.St) (r : Go.Sx.KT) (K : Go.Sx.St → Prop) (t j : Nat) (w : Bool) : Go.Sx.putK (Option.some t) s (Option.some (j, w)) σ r K = Go.Sx.putG (Go.Sx.memb t (Go.Sx.St.gs σ)) (Nat.blt t (Go.Sx.St.N σ)) (Nat.beq t j) t j w s σ r K := rfl
theorem q_putO_1 (d : Option Nat) (g : Option (Nat × Bool)) (σ : Go.Sx.St) (r : Go.Sx.KT) (K : Go.Sx.St → Prop) (s : Go.Sx.SV) : Go.Sx.putO (Option.some s) d g σ r K = Go.Sx.putK d s g σ r K := rfl
theorem q_putO_2 (d : Option Nat) (g : Option (Nat × Bool)) (σ : Go.Sx.St) (r : Go.Sx.KT) (K : Go.Sx.St → Prop) : Go.Sx.putO Option.none d g σ r K = False := rfl
theorem q_orAny_1 (x : Go.Sx.SV) : Go.Sx.orAny Bool.true x = x := rfl
theorem q_orAny_2 (x : Go.Sx.SV) : Go.Sx.orAny Bool.false x = Go.Sx.SV.any := rfl
theorem q_alwS_1 (x : Go.Sx.SV) (x_1 : Nat → Bool → Nat → Bool → Bool) (x_2 : Nat) (x_3 : Bool) : Go.Sx.alwS Bool.true x x_1 x_2 x_3 = Bool.true := rfl
theorem q_alwS_2 (x : Nat → Bool → Nat → Bool → Bool) (x_1 : Nat) (x_2 : Bool) (j' : Nat) (w' : Bool) (s : Go.Sx.SV) : Go.Sx.alwS Bool.false (Go.Sx.SV.gd j' w' s) x x_1 x_2 = x j' w' x_1 x_2 := rfl
theorem q_sameG_1 (x x_1 : Bool) : Go.Sx.sameG Bool.true x x_1 = Go.Sx.bbq x x_1 := rfl
theorem q_sameG_2 (x x_1 : Bool) : Go.Sx.sameG Bool.false x x_1 = Bool.false := rfl
theorem q_bbq_1  : Go.Sx.bbq Bool.true Bool.true = Bool.true := rfl
theorem q_bbq_2  : Go.Sx.bbq Bool.false Bool.false = Bool.true := rfl
theorem q_pickO_1 (x y : Bool) : Go.Sx.pickO (Go.Sx.SV.v (Go.Value.bool x)) (Go.Sx.SV.v (Go.Value.bool y)) = Option.some (Go.Sx.SV.v (Go.Value.bool (x || y))) := rfl
theorem q_pickA_1 (x y : Bool) : Go.Sx.pickA (Go.Sx.SV.v (Go.Value.bool x)) (Go.Sx.SV.v (Go.Value.bool y)) = Option.some (Go.Sx.SV.v (Go.Value.bool (x && y))) := rfl
theorem q_bslS_1 (m : Nat) (rows : List (List Go.Sx.SV)) : Go.Sx.bslS m (Option.some rows) = Option.some (Go.Sx.SV.sl Bool.true m rows) := rfl
theorem q_bslS_2 (m : Nat) : Go.Sx.bslS m Option.none = Option.none := rfl
theorem q_calvK_1 (P : Go.Program) (g : Option (Nat × Bool)) (d : Option Nat) (σ : Go.Sx.St) (r : Go.Sx.KT) (K : Go.Sx.St → Prop) (args : List Go.Sx.SV) (f : Go.FuncId) (caps : List Go.Sx.SV) : Go.Sx.calvK P g d σ r K (Go.Sx.SV.cl f caps) args = Go.Sx.CALL P g f (args ++ caps) d σ r K := rfl
theorem q_ixrB_1 (g : Option (Nat × Bool)) (d : Option Nat) (σ : Go.Sx.St) (r : Go.Sx.KT) (K : Go.Sx.St → Prop) (k m len : Nat) (j : Int) : Go.Sx.ixrB g d σ r K Bool.true k m len j = Go.Sx.IXR g k m len j d σ r K := rfl
theorem q_ixrB_2 (g : Option (Nat × Bool)) (d : Option Nat) (σ : Go.Sx.St) (r : Go.Sx.KT) (K : Go.Sx.St → Prop) (k m len : Nat) (j : Int) : Go.Sx.ixrB g d σ r K Bool.false k m len j = False := rfl
theorem q_ixrK_1 (g : Option (Nat × Bool)) (d : Option Nat) (σ : Go.Sx.St) (r : Go.Sx.KT) (K : Go.Sx.St → Prop) (k m : Nat) (j : Int) (m_1 : Nat) (xs : List (List Go.Sx.SV)) (T : Go.TypeId) : Go.Sx.ixrK g d σ r K (Go.Sx.HB.row m_1 xs T) k m j = Go.Sx.ixrB g d σ r K (Nat.beq m m_1) k m (List.length xs) j := rfl
theorem q_ixsB_1 (g : Option (Nat × Bool)) (d : Option Nat) (σ : Go.Sx.St) (r : Go.Sx.KT) (K : Go.Sx.St → Prop) (xs : List (List Go.Sx.SV)) (j : Int) : Go.Sx.ixsB g d σ r K Bool.true xs j = Go.Sx.IXS g xs j d σ r K := rfl
theorem q_ixsB_2 (g : Option (Nat × Bool)) (d : Option Nat) (σ : Go.Sx.St) (r : Go.Sx.KT) (K : Go.Sx.St → Prop) (xs : List (List Go.Sx.SV)) (j : Int) : Go.Sx.ixsB g d σ r K Bool.false xs j = False := rfl
theorem q_ixsK_1 (g : Option (Nat × Bool)) (d : Option Nat) (σ : Go.Sx.St) (r : Go.Sx.KT) (K : Go.Sx.St → Prop) (m : Nat) (k : Go.IntKind) (j : Int) (c : Bool) (m' : Nat) (xs : List (List Go.Sx.SV)) : Go.Sx.ixsK g d σ r K (Go.Sx.SV.v (Go.Value.int k j)) (Go.Sx.SV.sl c m' xs) m = Go.Sx.ixsB g d σ r K (Nat.beq m m') xs j := rfl
theorem q_ixsK_2 (g : Option (Nat × Bool)) (d : Option Nat) (σ : Go.Sx.St) (r : Go.Sx.KT) (K : Go.Sx.St → Prop) (m : Nat) (k : Go.IntKind) (j : Int) (k_1 : Nat) : Go.Sx.ixsK g d σ r K (Go.Sx.SV.v (Go.Value.int k j)) (Go.Sx.SV.mr k_1) m = Go.Sx.ixrK g d σ r K (Go.Sx.lkh k_1 (Go.Sx.St.hp σ)) k_1 m j := rfl
theorem q_ixaK_1 (g : Option (Nat × Bool)) (d : Option Nat) (σ : Go.Sx.St) (r : Go.Sx.KT) (K : Go.Sx.St → Prop) (x : Go.Sx.SV) (len m : Nat) (k : Go.IntKind) (n : Int) : Go.Sx.ixaK g d σ r K (Go.Sx.SV.v (Go.Value.int k n)) x len m = Go.Sx.IXA g len n (fun n => Go.Sx.addoS (n * m) x) d σ r K := rfl
theorem q_idxK_1 (g : Option (Nat × Bool)) (d : Option Nat) (σ : Go.Sx.St) (r : Go.Sx.KT) (K : Go.Sx.St → Prop) (len m : Nat) (ag : Bool) (k : Go.IntKind) (j : Int) (l : List Go.Sx.SV) : Go.Sx.idxK g d σ r K (Go.Sx.SV.v (Go.Value.int k j)) (Go.Sx.SV.agg l) len m ag = Go.Sx.IXA g len j (fun n => Go.Sx.partS l (n * m) m ag) d σ r K := rfl
theorem q_ldC_1 (g : Option (Nat × Bool)) (d : Option Nat) (σ : Go.Sx.St) (r : Go.Sx.KT) (K : Go.Sx.St → Prop) (o m : Nat) (ag : Bool) (l : List Go.Sx.SV) (T : Go.TypeId) : Go.Sx.ldC g d σ r K (Go.Sx.HB.cells l T) o m ag = Go.Sx.putO (Go.Sx.partS l o m ag) d g σ r K := rfl
theorem q_ldB_1 (g : Option (Nat × Bool)) (d : Option Nat) (σ : Go.Sx.St) (r : Go.Sx.KT) (K : Go.Sx.St → Prop) (xs : List (List Go.Sx.SV)) (i o m : Nat) (ag : Bool) : Go.Sx.ldB g d σ r K Bool.true xs i o m ag = Go.Sx.LDR g xs i o m ag d σ r K := rfl
theorem q_ldB_2 (g : Option (Nat × Bool)) (d : Option Nat) (σ : Go.Sx.St) (r : Go.Sx.KT) (K : Go.Sx.St → Prop) (xs : List (List Go.Sx.SV)) (i o m : Nat) (ag : Bool) : Go.Sx.ldB g d σ r K Bool.false xs i o m ag = False := rfl
theorem q_ldR_1 (g : Option (Nat × Bool)) (d : Option Nat) (σ : Go.Sx.St) (r : Go.Sx.KT) (K : Go.Sx.St → Prop) (m' i o m : Nat) (ag : Bool) (m_1 : Nat) (xs : List (List Go.Sx.SV)) (T : Go.TypeId) : Go.Sx.ldR g d σ r K (Go.Sx.HB.row m_1 xs T) m' i o m ag = Go.Sx.ldB g d σ r K (Nat.beq m' m_1) xs i o m ag := rfl
theorem q_ldK_1 (g : Option (Nat × Bool)) (d : Option Nat) (σ : Go.Sx.St) (r : Go.Sx.KT) (K : Go.Sx.St → Prop) (m : Nat) (ag : Bool) (k o : Nat) : Go.Sx.ldK g d σ r K (Go.Sx.SV.p k o) m ag = Go.Sx.ldC g d σ r K (Go.Sx.lkh k (Go.Sx.St.hp σ)) o m ag := rfl
theorem q_ldK_2 (g : Option (Nat × Bool)) (d : Option Nat) (σ : Go.Sx.St) (r : Go.Sx.KT) (K : Go.Sx.St → Prop) (m : Nat) (ag : Bool) (row : List Go.Sx.SV) (o : Nat) : Go.Sx.ldK g d σ r K (Go.Sx.SV.ps row o) m ag = Go.Sx.putO (Go.Sx.partS row o m ag) d g σ r K := rfl
theorem q_ldK_3 (g : Option (Nat × Bool)) (d : Option Nat) (σ : Go.Sx.St) (r : Go.Sx.KT) (K : Go.Sx.St → Prop) (m : Nat) (ag : Bool) (k m' i o : Nat) : Go.Sx.ldK g d σ r K (Go.Sx.SV.pr k m' i o) m ag = Go.Sx.ldR g d σ r K (Go.Sx.lkh k (Go.Sx.St.hp σ)) m' i o m ag := rfl
theorem q_divB_1 (g : Option (Nat × Bool)) (d : Option Nat) (σ : Go.Sx.St) (r : Go.Sx.KT) (K : Go.Sx.St → Prop) (b : Go.BinOp) (k : Go.IntKind) (u v : Int) : Go.Sx.divB g d σ r K Bool.true b k u v = Go.Sx.DIV g b k u v d σ r K := rfl
theorem q_divB_2 (g : Option (Nat × Bool)) (d : Option Nat) (σ : Go.Sx.St) (r : Go.Sx.KT) (K : Go.Sx.St → Prop) (b : Go.BinOp) (k : Go.IntKind) (u v : Int) : Go.Sx.divB g d σ r K Bool.false b k u v = False := rfl
theorem q_divK_1 (g : Option (Nat × Bool)) (d : Option Nat) (σ : Go.Sx.St) (r : Go.Sx.KT) (K : Go.Sx.St → Prop) (b : Go.BinOp) (k : Go.IntKind) (x_3 : Int) (j : Go.IntKind) (y_1 : Int) : Go.Sx.divK g d σ r K b (Go.Sx.SV.v (Go.Value.int k x_3)) (Go.Sx.SV.v (Go.Value.int j y_1)) = Go.Sx.divB g d σ r K (Go.Sx.kbeq k j) b k x_3 y_1 := rfl
theorem q_lenR_1 (g : Option (Nat × Bool)) (d : Option Nat) (σ : Go.Sx.St) (r : Go.Sx.KT) (K : Go.Sx.St → Prop) (m : Nat) (xs : List (List Go.Sx.SV)) (T : Go.TypeId) : Go.Sx.lenR g d σ r K (Go.Sx.HB.row m xs T) = Go.Sx.putK d (Go.Sx.SV.v (Go.Value.int Go.IntKind.i64 ↑(List.length xs))) g σ r K := rfl
theorem q_lenK_1 (g : Option (Nat × Bool)) (d : Option Nat) (σ : Go.Sx.St) (r : Go.Sx.KT) (K : Go.Sx.St → Prop) (k : Nat) : Go.Sx.lenK g d σ r K (Go.Sx.SV.mr k) = Go.Sx.lenR g d σ r K (Go.Sx.lkh k (Go.Sx.St.hp σ)) := rfl
theorem q_lenK_2 (g : Option (Nat × Bool)) (d : Option Nat) (σ : Go.Sx.St) (r : Go.Sx.KT) (K : Go.Sx.St → Prop) (c : Bool) (m : Nat) (xs : List (List Go.Sx.SV)) : Go.Sx.lenK g d σ r K (Go.Sx.SV.sl c m xs) = Go.Sx.putK d (Go.Sx.SV.v (Go.Value.int Go.IntKind.i64 ↑(List.length xs))) g σ r K := rfl
theorem q_stpV_1 (P : Go.Program) (g : Option (Nat × Bool)) (d : Option Nat) (σ : Go.Sx.St) (r : Go.Sx.KT) (K : Go.Sx.St → Prop) (f : Go.FuncId) (as : List Go.Sx.X) : Go.Sx.stpV P g d (Go.Sx.SI.call f as) σ r K = Go.Sx.CALL P g f (Go.Sx.mapX (Go.Sx.rdG g (Go.Sx.St.fr σ)) as) d σ r K := rfl
theorem q_stpV_2 (P : Go.Program) (g : Option (Nat × Bool)) (d : Option Nat) (σ : Go.Sx.St) (r : Go.Sx.KT) (K : Go.Sx.St → Prop) (x : Go.Sx.X) (as : List Go.Sx.X) : Go.Sx.stpV P g d (Go.Sx.SI.calv x as) σ r K = Go.Sx.calvK P g d σ r K (Go.Sx.rdG g (Go.Sx.St.fr σ) x) (Go.Sx.mapX (Go.Sx.rdG g (Go.Sx.St.fr σ)) as) := rfl
theorem q_stpV_3 (P : Go.Program) (g : Option (Nat × Bool)) (d : Option Nat) (σ : Go.Sx.St) (r : Go.Sx.KT) (K : Go.Sx.St → Prop) (c a b : Go.Sx.X) : Go.Sx.stpV P g d (Go.Sx.SI.pick c a b) σ r K = Go.Sx.putO (Go.Sx.pickS (Go.Sx.St.fr σ) g c a b) d g σ r K := rfl
theorem q_stpV_4 (P : Go.Program) (g : Option (Nat × Bool)) (d : Option Nat) (σ : Go.Sx.St) (r : Go.Sx.KT) (K : Go.Sx.St → Prop) (m : Nat) (T : Go.TypeId) (ps : List Go.Sx.X) : Go.Sx.stpV P g d (Go.Sx.SI.bsl m T ps) σ r K = Go.Sx.putO (Go.Sx.bslS m (Go.Sx.bslR (Go.Sx.rdG g (Go.Sx.St.fr σ)) m ps)) d g σ r K := rfl
theorem q_stpV_5 (P : Go.Program) (g : Option (Nat × Bool)) (d : Option Nat) (σ : Go.Sx.St) (r : Go.Sx.KT) (K : Go.Sx.St → Prop) (x i_2 : Go.Sx.X) (m : Nat) : Go.Sx.stpV P g d (Go.Sx.SI.ixs x i_2 m) σ r K = Go.Sx.ixsK g d σ r K (Go.Sx.rdG g (Go.Sx.St.fr σ) i_2) (Go.Sx.rdG g (Go.Sx.St.fr σ) x) m := rfl
theorem q_stpV_6 (P : Go.Program) (g : Option (Nat × Bool)) (d : Option Nat) (σ : Go.Sx.St) (r : Go.Sx.KT) (K : Go.Sx.St → Prop) (x i_2 : Go.Sx.X) (len m : Nat) : Go.Sx.stpV P g d (Go.Sx.SI.ixa x i_2 len m) σ r K = Go.Sx.ixaK g d σ r K (Go.Sx.rdG g (Go.Sx.St.fr σ) i_2) (Go.Sx.rdG g (Go.Sx.St.fr σ) x) len m := rfl
theorem q_stpV_7 (P : Go.Program) (g : Option (Nat × Bool)) (d : Option Nat) (σ : Go.Sx.St) (r : Go.Sx.KT) (K : Go.Sx.St → Prop) (x i_2 : Go.Sx.X) (len m : Nat) (ag : Bool) : Go.Sx.stpV P g d (Go.Sx.SI.idx x i_2 len m ag) σ r K = Go.Sx.idxK g d σ r K (Go.Sx.rdG g (Go.Sx.St.fr σ) i_2) (Go.Sx.rdG g (Go.Sx.St.fr σ) x) len m ag := rfl
theorem q_stpV_8 (P : Go.Program) (g : Option (Nat × Bool)) (d : Option Nat) (σ : Go.Sx.St) (r : Go.Sx.KT) (K : Go.Sx.St → Prop) (x : Go.Sx.X) (m : Nat) (ag : Bool) : Go.Sx.stpV P g d (Go.Sx.SI.ld x m ag) σ r K = Go.Sx.ldK g d σ r K (Go.Sx.rdG g (Go.Sx.St.fr σ) x) m ag := rfl
theorem q_stpV_9 (P : Go.Program) (g : Option (Nat × Bool)) (d : Option Nat) (σ : Go.Sx.St) (r : Go.Sx.KT) (K : Go.Sx.St → Prop) (b : Go.BinOp) (x y : Go.Sx.X) : Go.Sx.stpV P g d (Go.Sx.SI.div b x y) σ r K = Go.Sx.divK g d σ r K b (Go.Sx.rdG g (Go.Sx.St.fr σ) x) (Go.Sx.rdG g (Go.Sx.St.fr σ) y) := rfl
theorem q_stpV_10 (P : Go.Program) (g : Option (Nat × Bool)) (d : Option Nat) (σ : Go.Sx.St) (r : Go.Sx.KT) (K : Go.Sx.St → Prop) (x : Go.Sx.X) : Go.Sx.stpV P g d (Go.Sx.SI.len x) σ r K = Go.Sx.lenK g d σ r K (Go.Sx.rdG g (Go.Sx.St.fr σ) x) := rfl
theorem q_stpV_11 (P : Go.Program) (g : Option (Nat × Bool)) (d : Option Nat) (σ : Go.Sx.St) (r : Go.Sx.KT) (K : Go.Sx.St → Prop) (x : Go.Sx.X) : Go.Sx.stpV P g d (Go.Sx.SI.mv x) σ r K = Go.Sx.putK d (Go.Sx.rdG g (Go.Sx.St.fr σ) x) g σ r K := rfl
theorem q_stpV_12 (P : Go.Program) (g : Option (Nat × Bool)) (d : Option Nat) (σ : Go.Sx.St) (r : Go.Sx.KT) (K : Go.Sx.St → Prop) (z : List Go.Value) (ps : List (Nat × Nat × Go.Sx.X)) : Go.Sx.stpV P g d (Go.Sx.SI.build z ps) σ r K = Go.Sx.putO (Go.Sx.pv (Go.Sx.rdG g (Go.Sx.St.fr σ)) (Go.Sx.SI.build z ps)) d g σ r K := rfl
theorem q_stpV_13 (P : Go.Program) (g : Option (Nat × Bool)) (d : Option Nat) (σ : Go.Sx.St) (r : Go.Sx.KT) (K : Go.Sx.St → Prop) (x : Go.Sx.X) : Go.Sx.stpV P g d (Go.Sx.SI.nilc x) σ r K = Go.Sx.putO (Go.Sx.nilcS (Go.Sx.rdG g (Go.Sx.St.fr σ) x)) d g σ r K := rfl
theorem q_stpV_14 (P : Go.Program) (g : Option (Nat × Bool)) (d : Option Nat) (σ : Go.Sx.St) (r : Go.Sx.KT) (K : Go.Sx.St → Prop) (b : Go.BinOp) (x y : Go.Sx.X) : Go.Sx.stpV P g d (Go.Sx.SI.bin b x y) σ r K = Go.Sx.putO (Go.Sx.bini b (Go.Sx.rdG g (Go.Sx.St.fr σ) x) (Go.Sx.rdG g (Go.Sx.St.fr σ) y)) d g σ r K := rfl
theorem q_stpV_15 (P : Go.Program) (g : Option (Nat × Bool)) (d : Option Nat) (σ : Go.Sx.St) (r : Go.Sx.KT) (K : Go.Sx.St → Prop) (u : Go.UnOp) (x : Go.Sx.X) : Go.Sx.stpV P g d (Go.Sx.SI.un u x) σ r K = Go.Sx.putO (Go.Sx.uni u (Go.Sx.rdG g (Go.Sx.St.fr σ) x)) d g σ r K := rfl
theorem q_stpV_16 (P : Go.Program) (g : Option (Nat × Bool)) (d : Option Nat) (σ : Go.Sx.St) (r : Go.Sx.KT) (K : Go.Sx.St → Prop) (x : Go.Sx.X) (o : Nat) : Go.Sx.stpV P g d (Go.Sx.SI.addo x o) σ r K = Go.Sx.putO (Go.Sx.addoS o (Go.Sx.rdG g (Go.Sx.St.fr σ) x)) d g σ r K := rfl
theorem q_stpV_17 (P : Go.Program) (g : Option (Nat × Bool)) (d : Option Nat) (σ : Go.Sx.St) (r : Go.Sx.KT) (K : Go.Sx.St → Prop) (x : Go.Sx.X) (o m : Nat) (ag : Bool) : Go.Sx.stpV P g d (Go.Sx.SI.fld x o m ag) σ r K = Go.Sx.putO (Go.Sx.pv (Go.Sx.rdG g (Go.Sx.St.fr σ)) (Go.Sx.SI.fld x o m ag)) d g σ r K := rfl
theorem q_stpV_18 (P : Go.Program) (g : Option (Nat × Bool)) (d : Option Nat) (σ : Go.Sx.St) (r : Go.Sx.KT) (K : Go.Sx.St → Prop) (mx : Bool) (xs : List Go.Sx.X) : Go.Sx.stpV P g d (Go.Sx.SI.mm mx xs) σ r K = Go.Sx.putO (Go.Sx.mmS mx (Go.Sx.mapX (Go.Sx.rdG g (Go.Sx.St.fr σ)) xs)) d g σ r K := rfl
theorem q_stpV_19 (P : Go.Program) (g : Option (Nat × Bool)) (d : Option Nat) (σ : Go.Sx.St) (r : Go.Sx.KT) (K : Go.Sx.St → Prop) (f : Go.FuncId) (cs : List Go.Sx.X) : Go.Sx.stpV P g d (Go.Sx.SI.mkf f cs) σ r K = Go.Sx.putK d (Go.Sx.SV.cl f (Go.Sx.mapX (Go.Sx.rdG g (Go.Sx.St.fr σ)) cs)) g σ r K := rfl
theorem q_stpV_20 (P : Go.Program) (g : Option (Nat × Bool)) (d : Option Nat) (σ : Go.Sx.St) (r : Go.Sx.KT) (K : Go.Sx.St → Prop) (k : Go.IntKind) (x : Go.Sx.X) : Go.Sx.stpV P g d (Go.Sx.SI.conv k x) σ r K = Go.Sx.putO (Go.Sx.pv (Go.Sx.rdG g (Go.Sx.St.fr σ)) (Go.Sx.SI.conv k x)) d g σ r K := rfl
theorem q_stpV_21 (P : Go.Program) (g : Option (Nat × Bool)) (d : Option Nat) (σ : Go.Sx.St) (r : Go.Sx.KT) (K : Go.Sx.St → Prop) (x : Go.Sx.X) (i_2 : Nat) : Go.Sx.stpV P g d (Go.Sx.SI.ext x i_2) σ r K = Go.Sx.putO (Go.Sx.pv (Go.Sx.rdG g (Go.Sx.St.fr σ)) (Go.Sx.SI.ext x i_2)) d g σ r K := rfl
theorem q_stpV_22 (P : Go.Program) (g : Option (Nat × Bool)) (d : Option Nat) (σ : Go.Sx.St) (r : Go.Sx.KT) (K : Go.Sx.St → Prop) (x h k : Go.Sx.X) : Go.Sx.stpV P g d (Go.Sx.SI.slc x h k) σ r K = Go.Sx.slcK g (Go.Sx.rdG g (Go.Sx.St.fr σ) x) (Go.Sx.rdG g (Go.Sx.St.fr σ) h) (Go.Sx.rdG g (Go.Sx.St.fr σ) k) d σ r K := rfl
theorem q_stpV_23 (P : Go.Program) (g : Option (Nat × Bool)) (d : Option Nat) (σ : Go.Sx.St) (r : Go.Sx.KT) (K : Go.Sx.St → Prop) (m : Nat) (x : Go.Sx.X) (lo hi : Option Go.Sx.X) : Go.Sx.stpV P g d (Go.Sx.SI.sub m x lo hi) σ r K = Go.Sx.subK g m (Go.Sx.rdG g (Go.Sx.St.fr σ)) lo hi (Go.Sx.rdG g (Go.Sx.St.fr σ) x) d σ r K := rfl
theorem q_stpV_24 (P : Go.Program) (g : Option (Nat × Bool)) (d : Option Nat) (σ : Go.Sx.St) (r : Go.Sx.KT) (K : Go.Sx.St → Prop) (m b : Nat) (T : Go.TypeId) (x y : Go.Sx.X) : Go.Sx.stpV P g d (Go.Sx.SI.cln m b T x y) σ r K = False := rfl
theorem q_stpV_25 (P : Go.Program) (g : Option (Nat × Bool)) (d : Option Nat) (σ : Go.Sx.St) (r : Go.Sx.KT) (K : Go.Sx.St → Prop) (m b : Nat) (z : List Go.Value) (T : Go.TypeId) (x : Go.Sx.X) : Go.Sx.stpV P g d (Go.Sx.SI.mks m b z T x) σ r K = False := rfl
theorem q_stpV_26 (P : Go.Program) (g : Option (Nat × Bool)) (d : Option Nat) (σ : Go.Sx.St) (r : Go.Sx.KT) (K : Go.Sx.St → Prop) (x : Go.Sx.X) : Go.Sx.stpV P g d (Go.Sx.SI.isn x) σ r K = False := rfl
theorem q_stpV_27 (P : Go.Program) (g : Option (Nat × Bool)) (d : Option Nat) (σ : Go.Sx.St) (r : Go.Sx.KT) (K : Go.Sx.St → Prop) (m b : Nat) (T : Go.TypeId) (x y : Go.Sx.X) : Go.Sx.stpV P g d (Go.Sx.SI.app m b T x y) σ r K = Go.Sx.appK g m b (Go.Sx.basS m (Go.Sx.rdG g (Go.Sx.St.fr σ) x)) (Go.Sx.sprS m (Go.Sx.St.hp σ) (Go.Sx.rdG g (Go.Sx.St.fr σ) y)) d σ r K := rfl
theorem q_stpV_28 (P : Go.Program) (g : Option (Nat × Bool)) (d : Option Nat) (σ : Go.Sx.St) (r : Go.Sx.KT) (K : Go.Sx.St → Prop) (x : Go.Sx.X) (m : Nat) (T : Go.TypeId) : Go.Sx.stpV P g d (Go.Sx.SI.box x m T) σ r K = False := rfl
theorem q_stpV_29 (P : Go.Program) (g : Option (Nat × Bool)) (d : Option Nat) (σ : Go.Sx.St) (r : Go.Sx.KT) (K : Go.Sx.St → Prop) (z : List Go.Value) (T : Go.TypeId) : Go.Sx.stpV P g d (Go.Sx.SI.alloc z T) σ r K = False := rfl
theorem q_stpV_30 (P : Go.Program) (g : Option (Nat × Bool)) (d : Option Nat) (σ : Go.Sx.St) (r : Go.Sx.KT) (K : Go.Sx.St → Prop) (x y : Go.Sx.X) (m : Nat) : Go.Sx.stpV P g d (Go.Sx.SI.st x y m) σ r K = False := rfl
theorem q_stpV_31 (P : Go.Program) (g : Option (Nat × Bool)) (d : Option Nat) (σ : Go.Sx.St) (r : Go.Sx.KT) (K : Go.Sx.St → Prop) (ng ag : Bool) (cls : List Nat) (x y : Go.Sx.X) : Go.Sx.stpV P g d (Go.Sx.SI.eqs ng ag cls x y) σ r K = Go.Sx.putO (Go.Sx.eqR ng (Go.Sx.eqLO cls ag (Go.Sx.rdG g (Go.Sx.St.fr σ) x) (Go.Sx.rdG g (Go.Sx.St.fr σ) y))) d g σ r K := rfl
theorem q_stpV_32 (P : Go.Program) (g : Option (Nat × Bool)) (d : Option Nat) (σ : Go.Sx.St) (r : Go.Sx.KT) (K : Go.Sx.St → Prop) (op : Go.Op) (ty : Go.TypeId) : Go.Sx.stpV P g d (Go.Sx.SI.raw op ty) σ r K = False := rfl
theorem q_newB_1 (x : Nat) (x_1 : List Go.Sx.SV) (x_2 : Go.TypeId) (x_3 : Go.Sx.St) (x_4 : Go.Sx.KT) (x_5 : Go.Sx.St → Prop) : Go.Sx.newB Bool.false Bool.true x x_1 x_2 x_3 x_4 x_5 = x_4 { fr := (x, Go.Sx.SV.p (Go.Sx.St.n x_3) 0) :: Go.Sx.St.fr x_3, hp := (Go.Sx.St.n x_3, Go.Sx.HB.cells x_1 x_2) :: Go.Sx.St.hp x_3, n := Go.Sx.St.n x_3 + 1, N := Go.Sx.St.N x_3, gs := Go.Sx.St.gs x_3 } x_5 := rfl
theorem q_newK_1 (T : Go.TypeId) (σ : Go.Sx.St) (r : Go.Sx.KT) (K : Go.Sx.St → Prop) (t : Nat) (c_2 : List Go.Sx.SV) : Go.Sx.newK (Option.some t) (Option.some c_2) T σ r K = Go.Sx.newB (Go.Sx.memb t (Go.Sx.St.gs σ)) (Nat.blt t (Go.Sx.St.N σ)) t c_2 T σ r K := rfl
theorem q_stCB_1 (x x_1 : Nat) (x_2 : List Go.Sx.SV) (x_3 : Go.TypeId) (x_4 : List Go.Sx.SV) (x_5 : Go.Sx.St) (x_6 : Go.Sx.KT) (x_7 : Go.Sx.St → Prop) : Go.Sx.stCB Bool.true x x_1 x_2 x_3 x_4 x_5 x_6 x_7 = x_6 { fr := Go.Sx.St.fr x_5, hp := (x, Go.Sx.HB.cells (Go.Sx.splice x_2 x_1 x_4) x_3) :: Go.Sx.St.hp x_5, n := Go.Sx.St.n x_5, N := Go.Sx.St.N x_5, gs := Go.Sx.St.gs x_5 } x_7 := rfl
theorem q_stCB_2 (x x_1 : Nat) (x_2 : List Go.Sx.SV) (x_3 : Go.TypeId) (x_4 : List Go.Sx.SV) (x_5 : Go.Sx.St) (x_6 : Go.Sx.KT) (x_7 : Go.Sx.St → Prop) : Go.Sx.stCB Bool.false x x_1 x_2 x_3 x_4 x_5 x_6 x_7 = False := rfl
theorem q_stC_1 (k o m : Nat) (c : List Go.Sx.SV) (σ : Go.Sx.St) (r : Go.Sx.KT) (K : Go.Sx.St → Prop) (l : List Go.Sx.SV) (T : Go.TypeId) : Go.Sx.stC k o m (Go.Sx.HB.cells l T) c σ r K = Go.Sx.stCB (Nat.ble (o + m) (List.length l)) k o l T c σ r K := rfl
theorem q_stRB_1 (x : List (List Go.Sx.SV)) (x_1 x_2 x_3 x_4 : Nat) (x_5 : List Go.Sx.SV) (x_6 : Go.TypeId) (x_7 : Go.Sx.St) (x_8 : Go.Sx.KT) (x_9 : Go.Sx.St → Prop) : Go.Sx.stRB Bool.true x x_1 x_2 x_3 x_4 x_5 x_6 x_7 x_8 x_9 = Go.Sx.STR x x_1 x_2 x_3 x_4 x_5 x_6 x_7 x_8 x_9 := rfl
theorem q_stRB_2 (x : List (List Go.Sx.SV)) (x_1 x_2 x_3 x_4 : Nat) (x_5 : List Go.Sx.SV) (x_6 : Go.TypeId) (x_7 : Go.Sx.St) (x_8 : Go.Sx.KT) (x_9 : Go.Sx.St → Prop) : Go.Sx.stRB Bool.false x x_1 x_2 x_3 x_4 x_5 x_6 x_7 x_8 x_9 = False := rfl
theorem q_stR_1 (k m' j o : Nat) (c : List Go.Sx.SV) (σ : Go.Sx.St) (r : Go.Sx.KT) (K : Go.Sx.St → Prop) (m : Nat) (xs : List (List Go.Sx.SV)) (T : Go.TypeId) : Go.Sx.stR k m' j o (Go.Sx.HB.row m xs T) c σ r K = Go.Sx.stRB (Nat.beq m' m) xs j o k m' c T σ r K := rfl
theorem q_stX_1 (m : Nat) (c : List Go.Sx.SV) (σ : Go.Sx.St) (r : Go.Sx.KT) (K : Go.Sx.St → Prop) (k o : Nat) : Go.Sx.stX (Go.Sx.SV.p k o) m c σ r K = Go.Sx.stC k o m (Go.Sx.lkh k (Go.Sx.St.hp σ)) c σ r K := rfl
theorem q_stX_2 (m : Nat) (c : List Go.Sx.SV) (σ : Go.Sx.St) (r : Go.Sx.KT) (K : Go.Sx.St → Prop) (k m' j o : Nat) : Go.Sx.stX (Go.Sx.SV.pr k m' j o) m c σ r K = Go.Sx.stR k m' j o (Go.Sx.lkh k (Go.Sx.St.hp σ)) c σ r K := rfl
theorem q_storeB_1 (x : Go.Sx.SV) (x_1 : Nat) (x_2 : List Go.Sx.SV) (x_3 : Go.Sx.St) (x_4 : Go.Sx.KT) (x_5 : Go.Sx.St → Prop) : Go.Sx.storeB Bool.true Bool.true x x_1 x_2 x_3 x_4 x_5 = Go.Sx.stX x x_1 x_2 x_3 x_4 x_5 := rfl
theorem q_storeK_1 (m : Nat) (x : Go.Sx.SV) (σ : Go.Sx.St) (r : Go.Sx.KT) (K : Go.Sx.St → Prop) (c_2 : List Go.Sx.SV) : Go.Sx.storeK Option.none (Option.some c_2) m x σ r K = Go.Sx.storeB (Go.Sx.chk c_2 m) (Go.Sx.allOne c_2) x m c_2 σ r K := rfl
theorem q_stp_1 (P : Go.Program) (d : Option Nat) (σ : Go.Sx.St) (r : Go.Sx.KT) (K : Go.Sx.St → Prop) (x y : Go.Sx.X) (m : Nat) : Go.Sx.stp P d (Go.Sx.SI.st x y m) σ r K = Go.Sx.storeK d (Go.Sx.cellsO (Go.Sx.rdG Option.none (Go.Sx.St.fr σ) y)) m (Go.Sx.rdG Option.none (Go.Sx.St.fr σ) x) σ r K := rfl
theorem q_stp_2 (P : Go.Program) (d : Option Nat) (σ : Go.Sx.St) (r : Go.Sx.KT) (K : Go.Sx.St → Prop) (x : Go.Sx.X) (m : Nat) (T : Go.TypeId) : Go.Sx.stp P d (Go.Sx.SI.box x m T) σ r K = Go.Sx.newK d (Go.Sx.cellsO (Go.Sx.rdG Option.none (Go.Sx.St.fr σ) x)) T σ r K := rfl
theorem q_stp_3 (P : Go.Program) (d : Option Nat) (σ : Go.Sx.St) (r : Go.Sx.KT) (K : Go.Sx.St → Prop) (z : List Go.Value) (T : Go.TypeId) : Go.Sx.stp P d (Go.Sx.SI.alloc z T) σ r K = Go.Sx.newK d (Option.some (Go.Sx.lit z)) T σ r K := rfl
theorem q_stp_4 (P : Go.Program) (d : Option Nat) (σ : Go.Sx.St) (r : Go.Sx.KT) (K : Go.Sx.St → Prop) (m b : Nat) (T : Go.TypeId) (x y : Go.Sx.X) : Go.Sx.stp P d (Go.Sx.SI.cln m b T x y) σ r K = Go.Sx.clnK b d m (Go.Sx.basS m (Go.Sx.rdG Option.none (Go.Sx.St.fr σ) x)) (Go.Sx.sprV m (Go.Sx.rdG Option.none (Go.Sx.St.fr σ) y)) T σ r K := rfl
theorem q_stp_5 (P : Go.Program) (d : Option Nat) (σ : Go.Sx.St) (r : Go.Sx.KT) (K : Go.Sx.St → Prop) (m b : Nat) (z : List Go.Value) (T : Go.TypeId) (x : Go.Sx.X) : Go.Sx.stp P d (Go.Sx.SI.mks m b z T x) σ r K = Go.Sx.mksK b d m z (Go.Sx.rdG Option.none (Go.Sx.St.fr σ) x) T σ r K := rfl
theorem q_stp_6 (P : Go.Program) (d : Option Nat) (σ : Go.Sx.St) (r : Go.Sx.KT) (K : Go.Sx.St → Prop) (x : Go.Sx.X) : Go.Sx.stp P d (Go.Sx.SI.isn x) σ r K = Go.Sx.isnK d (Go.Sx.rdG Option.none (Go.Sx.St.fr σ) x) σ r K := rfl
theorem q_stp_7 (P : Go.Program) (d : Option Nat) (σ : Go.Sx.St) (r : Go.Sx.KT) (K : Go.Sx.St → Prop) (op : Go.Op) (ty : Go.TypeId) : Go.Sx.stp P d (Go.Sx.SI.raw op ty) σ r K = Go.Sx.RAW P d op ty σ r K := rfl
theorem q_skipK_1 (d : Option Nat) (σ : Go.Sx.St) (r : Go.Sx.KT) (K : Go.Sx.St → Prop) : Go.Sx.skipK d σ r K = Go.Sx.putK d (Go.Sx.SV.v Go.undef) Option.none σ r K := rfl
theorem q_gK_1 (P : Go.Program) (j : Nat) (w : Bool) (d : Option Nat) (i : Go.Sx.SI) (σ : Go.Sx.St) (r : Go.Sx.KT) (K : Go.Sx.St → Prop) (b : Bool) : Go.Sx.gK P (Go.Sx.SV.v (Go.Value.bool b)) j w d i σ r K = Go.Sx.GB P b j w d i σ r K := rfl
theorem q_gK_2 (P : Go.Program) (j : Nat) (w : Bool) (d : Option Nat) (i : Go.Sx.SI) (σ : Go.Sx.St) (r : Go.Sx.KT) (K : Go.Sx.St → Prop) (j_1 : Nat) (w_1 b : Bool) : Go.Sx.gK P (Go.Sx.SV.gd j_1 w_1 (Go.Sx.SV.v (Go.Value.bool b))) j w d i σ r K = Go.Sx.stpV P (Option.some (j, w)) d i σ r K := rfl
theorem q_st1_1 (P : Go.Program) (σ : Go.Sx.St) (r : Go.Sx.KT) (K : Go.Sx.St → Prop) (d : Option Nat) (i : Go.Sx.SI) (af : List Nat) : Go.Sx.st1 P { d := d, i := i, g := Option.none, af := af } σ r K = Go.Sx.stp P d i σ r K := rfl
theorem q_st1_2 (P : Go.Program) (σ : Go.Sx.St) (r : Go.Sx.KT) (K : Go.Sx.St → Prop) (d : Option Nat) (i : Go.Sx.SI) (j : Nat) (w : Bool) (af : List Nat) : Go.Sx.st1 P { d := d, i := i, g := Option.some (j, w), af := af } σ r K = Go.Sx.gK P (Go.Sx.lk j (Go.Sx.St.fr σ)) j w d i σ r K := rfl
theorem q_cndK_1 (f g : Go.Sx.CT) (σ : Go.Sx.St) (K : Go.Sx.Ex → Go.Sx.St → Prop) (b : Bool) : Go.Sx.cndK (Go.Sx.SV.v (Go.Value.bool b)) f g σ K = Go.Sx.BR b f g σ K := rfl
theorem q_divr_1 (k : Go.IntKind) (x y : Int) : Go.Sx.divr Go.BinOp.quo k x y = Go.IntKind.wrap k (Int.tdiv x y) := rfl
theorem q_st0_1 (args : List Go.Sx.SV) (N : Nat) : Go.Sx.st0 args N = { fr := Go.Sx.enum 0 args, hp := [], n := 0, N := N, gs := [] } := rfl
theorem q_mapX_1 (ρ : Go.Sx.X → Go.Sx.SV) : Go.Sx.mapX ρ [] = [] := rfl
theorem q_mapX_2 (ρ : Go.Sx.X → Go.Sx.SV) (x_1 : Go.Sx.X) (r : List Go.Sx.X) : Go.Sx.mapX ρ (x_1 :: r) = ρ x_1 :: Go.Sx.mapX ρ r := rfl
theorem q_mapS_1 (g : Go.Sx.SV → Go.Sx.SV) : Go.Sx.mapS g [] = [] := rfl
theorem q_mapS_2 (g : Go.Sx.SV → Go.Sx.SV) (s : Go.Sx.SV) (l : List Go.Sx.SV) : Go.Sx.mapS g (s :: l) = g s :: Go.Sx.mapS g l := rfl
theorem q_bslR_1 (ρ : Go.Sx.X → Go.Sx.SV) (m : Nat) : Go.Sx.bslR ρ m [] = Option.some [] := rfl
theorem q_bslR_2 (ρ : Go.Sx.X → Go.Sx.SV) (m : Nat) (x_1 : Go.Sx.X) (r : List Go.Sx.X) : Go.Sx.bslR ρ m (x_1 :: r) = Go.Sx.bslC (Go.Sx.cellsO (ρ x_1)) m (Go.Sx.bslR ρ m r) := rfl
theorem q_cvtL_1 (hp : List (Nat × Go.Sx.HB)) : Go.Sx.cvtL hp [] = [] := rfl
theorem q_cvtL_2 (hp : List (Nat × Go.Sx.HB)) (s : Go.Sx.SV) (l : List Go.Sx.SV) : Go.Sx.cvtL hp (s :: l) = Go.Sx.cvt hp s :: Go.Sx.cvtL hp l := rfl
theorem q_lit_1  : Go.Sx.lit [] = [] := rfl
theorem q_lit_2 (x_1 : Go.Value) (r : List Go.Value) : Go.Sx.lit (x_1 :: r) = Go.Sx.SV.v x_1 :: Go.Sx.lit r := rfl
theorem q_chk_1  : Go.Sx.chk [] 0 = Bool.true := rfl
theorem q_chk_2 (head : Go.Sx.SV) (l : List Go.Sx.SV) (n : Nat) : Go.Sx.chk (head :: l) (Nat.succ n) = Go.Sx.chk l n := rfl
theorem q_nth_1 (x : Nat) : Go.Sx.nth [] x = Option.none := rfl
theorem q_nth_2 (s : Go.Sx.SV) (tail : List Go.Sx.SV) : Go.Sx.nth (s :: tail) 0 = Option.some s := rfl
theorem q_nth_3 (head : Go.Sx.SV) (l : List Go.Sx.SV) (n : Nat) : Go.Sx.nth (head :: l) (Nat.succ n) = Go.Sx.nth l n := rfl
theorem q_splice_2 (head : Go.Sx.SV) (l : List Go.Sx.SV) (c : Go.Sx.SV) (cs : List Go.Sx.SV) : Go.Sx.splice (head :: l) 0 (c :: cs) = c :: Go.Sx.splice l 0 cs := rfl
theorem q_splice_3 (x : List Go.Sx.SV) (x_3 : Go.Sx.SV) (l : List Go.Sx.SV) (o : Nat) : Go.Sx.splice (x_3 :: l) (Nat.succ o) x = x_3 :: Go.Sx.splice l o x := rfl
theorem q_bldZ_1 (o : Nat) (l : List Go.Sx.SV) (t : List (Nat × List Go.Sx.SV)) : Go.Sx.bldZ o l t Bool.true = Option.some ((o, l) :: t) := rfl
theorem q_bldZ_2 (o : Nat) (l : List Go.Sx.SV) (t : List (Nat × List Go.Sx.SV)) : Go.Sx.bldZ o l t Bool.false = Option.none := rfl
theorem q_bldY_1 (o m : Nat) (l : List Go.Sx.SV) (t : List (Nat × List Go.Sx.SV)) : Go.Sx.bldY o m (Option.some l) (Option.some t) = Go.Sx.bldZ o l t (Go.Sx.chk l m) := rfl
theorem q_bldX_1 (ρ : Go.Sx.X → Go.Sx.SV) : Go.Sx.bldX ρ [] = Option.some [] := rfl
theorem q_bldX_2 (ρ : Go.Sx.X → Go.Sx.SV) (o m : Nat) (x_1 : Go.Sx.X) (r : List (Nat × Nat × Go.Sx.X)) : Go.Sx.bldX ρ ((o, m, x_1) :: r) = Go.Sx.bldY o m (Go.Sx.cellsO (ρ x_1)) (Go.Sx.bldX ρ r) := rfl
theorem q_spl_1 (x : List Go.Sx.SV) : Go.Sx.spl x [] = x := rfl
theorem q_spl_2 (x : List Go.Sx.SV) (o : Nat) (l : List Go.Sx.SV) (r : List (Nat × List Go.Sx.SV)) : Go.Sx.spl x ((o, l) :: r) = Go.Sx.spl (Go.Sx.splice x o l) r := rfl
theorem q_bldF_1 (z : List Go.Sx.SV) (t : List (Nat × List Go.Sx.SV)) : Go.Sx.bldF z (Option.some t) = Option.some (Go.Sx.spl z t) := rfl
theorem q_bldF_2 (z : List Go.Sx.SV) : Go.Sx.bldF z Option.none = Option.none := rfl
theorem q_enum_1 (x : Nat) : Go.Sx.enum x [] = [] := rfl
theorem q_enum_2 (x : Nat) (s : Go.Sx.SV) (l : List Go.Sx.SV) : Go.Sx.enum x (s :: l) = (x, s) :: Go.Sx.enum (x + 1) l := rfl
theorem q_gdS_1 (j : Nat) (w : Bool) (s : Go.Sx.SV) : Go.Sx.gdS (Go.Sx.SV.gd j w s) = Bool.true := rfl
theorem q_gdS_2 (x_1 : Go.Value) : Go.Sx.gdS (Go.Sx.SV.v x_1) = Bool.false := rfl
theorem q_gdS_3 (k o : Nat) : Go.Sx.gdS (Go.Sx.SV.p k o) = Bool.false := rfl
theorem q_gdS_4 (l : List Go.Sx.SV) : Go.Sx.gdS (Go.Sx.SV.agg l) = Bool.false := rfl
theorem q_gdS_5 (c : Bool) (m : Nat) (xs : List (List Go.Sx.SV)) : Go.Sx.gdS (Go.Sx.SV.sl c m xs) = Bool.false := rfl
theorem q_gdS_6 (k : Nat) : Go.Sx.gdS (Go.Sx.SV.mr k) = Bool.false := rfl
theorem q_gdS_7 (k m i o : Nat) : Go.Sx.gdS (Go.Sx.SV.pr k m i o) = Bool.false := rfl
theorem q_gdS_8 (row : List Go.Sx.SV) (o : Nat) : Go.Sx.gdS (Go.Sx.SV.ps row o) = Bool.false := rfl
theorem q_gdS_9 (f : Go.FuncId) (caps : List Go.Sx.SV) : Go.Sx.gdS (Go.Sx.SV.cl f caps) = Bool.false := rfl
theorem q_gdS_10 (l : List Go.Sx.SV) : Go.Sx.gdS (Go.Sx.SV.tup l) = Bool.false := rfl
theorem q_gdS_11 (φ : Go.Sx.VP) : Go.Sx.gdS (Go.Sx.SV.q φ) = Bool.false := rfl
theorem q_gdS_12  : Go.Sx.gdS Go.Sx.SV.any = Bool.false := rfl
theorem q_eqC_1 (a b : Bool) : Go.Sx.eqC 0 (Go.Sx.SV.v (Go.Value.bool a)) (Go.Sx.SV.v (Go.Value.bool b)) = Option.some (a == b) := rfl
theorem q_eqC_2 (k : Go.IntKind) (a : Int) (j : Go.IntKind) (b : Int) : Go.Sx.eqC 1 (Go.Sx.SV.v (Go.Value.int k a)) (Go.Sx.SV.v (Go.Value.int j b)) = bif Go.Sx.kbeq k j then Option.some (a == b) else Option.none := rfl
theorem q_eqC_3 (a b : ByteArray) : Go.Sx.eqC 2 (Go.Sx.SV.v (Go.Value.string a)) (Go.Sx.SV.v (Go.Value.string b)) = Option.some (ByteArray.toList a == ByteArray.toList b) := rfl
theorem q_eqA_1 (a b : Bool) : Go.Sx.eqA (Option.some a) (Option.some b) = Option.some (a && b) := rfl
theorem q_eqLS_1  : Go.Sx.eqLS [] [] [] = Option.some Bool.true := rfl
theorem q_eqLS_2 (c : Nat) (cs : List Nat) (x_3 : Go.Sx.SV) (xs : List Go.Sx.SV) (y : Go.Sx.SV) (ys : List Go.Sx.SV) : Go.Sx.eqLS (c :: cs) (x_3 :: xs) (y :: ys) = Go.Sx.eqA (Go.Sx.eqC c x_3 y) (Go.Sx.eqLS cs xs ys) := rfl
theorem q_eqLO_1 (cls : List Nat) (a b : List Go.Sx.SV) : Go.Sx.eqLO cls Bool.true (Go.Sx.SV.agg a) (Go.Sx.SV.agg b) = Go.Sx.eqLS cls a b := rfl
theorem q_eqLO_2 (cls : List Nat) (a b : Bool) : Go.Sx.eqLO cls Bool.false (Go.Sx.SV.v (Go.Value.bool a)) (Go.Sx.SV.v (Go.Value.bool b)) = Option.some (a == b) := rfl
theorem q_eqR_1 (ng b : Bool) : Go.Sx.eqR ng (Option.some b) = Option.some (Go.Sx.SV.v (Go.Value.bool (Go.Sx.ngB ng b))) := rfl
theorem q_eqR_2 (ng : Bool) : Go.Sx.eqR ng Option.none = Option.none := rfl
theorem q_ngB_1 (x : Bool) : Go.Sx.ngB Bool.true x = !x := rfl
theorem q_ngB_2 (x : Bool) : Go.Sx.ngB Bool.false x = x := rfl
theorem q_rowB_1 (xs : List (List Go.Sx.SV)) : Go.Sx.rowB xs Bool.true = Option.some xs := rfl
theorem q_rowB_2 (xs : List (List Go.Sx.SV)) : Go.Sx.rowB xs Bool.false = Option.none := rfl
theorem q_sprH_1 (m m' : Nat) (xs : List (List Go.Sx.SV)) (T : Go.TypeId) : Go.Sx.sprH m (Go.Sx.HB.row m' xs T) = Go.Sx.rowB xs (Nat.beq m m') := rfl
theorem q_sprH_2 (m : Nat) (l : List Go.Sx.SV) (T : Go.TypeId) : Go.Sx.sprH m (Go.Sx.HB.cells l T) = Option.none := rfl
theorem q_sprH_3 (m : Nat) (φ : Go.Sx.OP) : Go.Sx.sprH m (Go.Sx.HB.ob φ) = Option.none := rfl
theorem q_sprH_4 (m : Nat) : Go.Sx.sprH m Go.Sx.HB.gone = Option.none := rfl
theorem q_sprS_1 (m : Nat) (hp : List (Nat × Go.Sx.HB)) (c : Bool) (m' : Nat) (xs : List (List Go.Sx.SV)) : Go.Sx.sprS m hp (Go.Sx.SV.sl c m' xs) = Go.Sx.rowB xs (Nat.beq m m') := rfl
theorem q_sprS_2 (m : Nat) (hp : List (Nat × Go.Sx.HB)) : Go.Sx.sprS m hp (Go.Sx.SV.v (Go.Value.slice Option.none 0 0)) = Option.some [] := rfl
theorem q_sprS_3 (m : Nat) (hp : List (Nat × Go.Sx.HB)) (k : Nat) : Go.Sx.sprS m hp (Go.Sx.SV.mr k) = Go.Sx.sprH m (Go.Sx.lkh k hp) := rfl
theorem q_basS_1 (m m' : Nat) (xs : List (List Go.Sx.SV)) : Go.Sx.basS m (Go.Sx.SV.sl Bool.true m' xs) = Go.Sx.rowB xs (Nat.beq m m') := rfl
theorem q_basS_2 (m : Nat) : Go.Sx.basS m (Go.Sx.SV.v (Go.Value.slice Option.none 0 0)) = Option.some [] := rfl
theorem q_appK_1 (g : Option (Nat × Bool)) (m b : Nat) (d : Option Nat) (σ : Go.Sx.St) (r : Go.Sx.KT) (K : Go.Sx.St → Prop) (xs ys : List (List Go.Sx.SV)) : Go.Sx.appK g m b (Option.some xs) (Option.some ys) d σ r K = Go.Sx.APP g m b xs ys d σ r K := rfl
theorem q_appK_2 (g : Option (Nat × Bool)) (m b : Nat) (d : Option Nat) (σ : Go.Sx.St) (r : Go.Sx.KT) (K : Go.Sx.St → Prop) (val : List (List Go.Sx.SV)) : Go.Sx.appK g m b (Option.some val) Option.none d σ r K = False := rfl
theorem q_appK_3 (g : Option (Nat × Bool)) (m b : Nat) (y : Option (List (List Go.Sx.SV))) (d : Option Nat) (σ : Go.Sx.St) (r : Go.Sx.KT) (K : Go.Sx.St → Prop) : Go.Sx.appK g m b Option.none y d σ r K = False := rfl
theorem q_aggL_1 (l : List Go.Sx.SV) : Go.Sx.aggL (Go.Sx.SV.agg l) = Option.some l := rfl
theorem q_tupL_1 (l : List Go.Sx.SV) : Go.Sx.tupL (Go.Sx.SV.tup l) = Option.some l := rfl
theorem q_clL_1 (f f_1 : Go.FuncId) (caps : List Go.Sx.SV) : Go.Sx.clL f (Go.Sx.SV.cl f_1 caps) = bif Nat.beq f_1 f then Option.some caps else Option.none := rfl
theorem q_mtO_1 (p : List Go.Sx.SV → Prop) (l : List Go.Sx.SV) : Go.Sx.mtO p (Option.some l) = p l := rfl
theorem q_mtO_2 (p : List Go.Sx.SV → Prop) : Go.Sx.mtO p Option.none = False := rfl
theorem q_mtB_1 (p : Go.Sx.SV → Prop) (q : List Go.Sx.SV → Prop) : Go.Sx.mtB p q [] = False := rfl
theorem q_mtB_2 (p : Go.Sx.SV → Prop) (q : List Go.Sx.SV → Prop) (s : Go.Sx.SV) (l : List Go.Sx.SV) : Go.Sx.mtB p q (s :: l) = (p s ∧ q l) := rfl
theorem q_mtS_1 (ρ : Nat → Nat) (n' : Nat) (x : Go.Sx.SV) : Go.Sx.mtS ρ n' Go.Sx.SV.any x = True := rfl
theorem q_mtS_2 (ρ : Nat → Nat) (n' : Nat) (x : Go.Sx.SV) (k o : Nat) : Go.Sx.mtS ρ n' (Go.Sx.SV.p k o) x = (k < n' ∧ x = Go.Sx.SV.p (ρ k) o) := rfl
theorem q_mtS_3 (ρ : Nat → Nat) (n' : Nat) (x : Go.Sx.SV) (k : Nat) : Go.Sx.mtS ρ n' (Go.Sx.SV.mr k) x = (k < n' ∧ x = Go.Sx.SV.mr (ρ k)) := rfl
theorem q_mtS_4 (ρ : Nat → Nat) (n' : Nat) (x : Go.Sx.SV) (k m i o : Nat) : Go.Sx.mtS ρ n' (Go.Sx.SV.pr k m i o) x = (k < n' ∧ x = Go.Sx.SV.pr (ρ k) m i o) := rfl
theorem q_mtS_5 (ρ : Nat → Nat) (n' : Nat) (x : Go.Sx.SV) (l : List Go.Sx.SV) : Go.Sx.mtS ρ n' (Go.Sx.SV.agg l) x = Go.Sx.mtO (Go.Sx.mtL ρ n' l) (Go.Sx.aggL x) := rfl
theorem q_mtS_6 (ρ : Nat → Nat) (n' : Nat) (x : Go.Sx.SV) (l : List Go.Sx.SV) : Go.Sx.mtS ρ n' (Go.Sx.SV.tup l) x = Go.Sx.mtO (Go.Sx.mtL ρ n' l) (Go.Sx.tupL x) := rfl
theorem q_mtS_7 (ρ : Nat → Nat) (n' : Nat) (x : Go.Sx.SV) (f : Go.FuncId) (l : List Go.Sx.SV) : Go.Sx.mtS ρ n' (Go.Sx.SV.cl f l) x = Go.Sx.mtO (Go.Sx.mtL ρ n' l) (Go.Sx.clL f x) := rfl
theorem q_mtS_8 (ρ : Nat → Nat) (n' : Nat) (x : Go.Sx.SV) (x_2 : Go.Value) : Go.Sx.mtS ρ n' (Go.Sx.SV.v x_2) x = (x = Go.Sx.SV.v x_2) := rfl
theorem q_mtS_9 (ρ : Nat → Nat) (n' : Nat) (x : Go.Sx.SV) (c : Bool) (m : Nat) (xs : List (List Go.Sx.SV)) : Go.Sx.mtS ρ n' (Go.Sx.SV.sl c m xs) x = (x = Go.Sx.SV.sl c m xs ∧ Go.Sx.KFR xs) := rfl
theorem q_mtS_10 (ρ : Nat → Nat) (n' : Nat) (x : Go.Sx.SV) (l : List Go.Sx.SV) (o : Nat) : Go.Sx.mtS ρ n' (Go.Sx.SV.ps l o) x = (x = Go.Sx.SV.ps l o ∧ Go.Sx.KFL l) := rfl
theorem q_mtS_11 (ρ : Nat → Nat) (n' : Nat) (x : Go.Sx.SV) (φ : Go.Sx.VP) : Go.Sx.mtS ρ n' (Go.Sx.SV.q φ) x = (x = Go.Sx.SV.q φ) := rfl
theorem q_mtS_12 (ρ : Nat → Nat) (n' : Nat) (x : Go.Sx.SV) (j : Nat) (w : Bool) (s : Go.Sx.SV) : Go.Sx.mtS ρ n' (Go.Sx.SV.gd j w s) x = False := rfl
theorem q_mtL_1 (ρ : Nat → Nat) (n' : Nat) (x : List Go.Sx.SV) : Go.Sx.mtL ρ n' [] x = (x = []) := rfl
theorem q_mtL_2 (ρ : Nat → Nat) (n' : Nat) (x : List Go.Sx.SV) (s : Go.Sx.SV) (l : List Go.Sx.SV) : Go.Sx.mtL ρ n' (s :: l) x = Go.Sx.mtB (Go.Sx.mtS ρ n' s) (Go.Sx.mtL ρ n' l) x := rfl
theorem q_mtH_1 (ρ : Nat → Nat) (n' : Nat) (x : Go.Sx.HB) : Go.Sx.mtH ρ n' Go.Sx.HB.gone x = True := rfl
theorem q_mtH_2 (ρ : Nat → Nat) (n' : Nat) (l : List Go.Sx.SV) (T : Go.TypeId) (l2 : List Go.Sx.SV) (T2 : Go.TypeId) : Go.Sx.mtH ρ n' (Go.Sx.HB.cells l T) (Go.Sx.HB.cells l2 T2) = (T2 = T ∧ Go.Sx.mtL ρ n' l l2) := rfl
theorem q_mtH_3 (ρ : Nat → Nat) (n' : Nat) (x : Go.Sx.HB) (m : Nat) (xs : List (List Go.Sx.SV)) (T : Go.TypeId) : Go.Sx.mtH ρ n' (Go.Sx.HB.row m xs T) x = (x = Go.Sx.HB.row m xs T ∧ Go.Sx.KFR xs) := rfl
theorem q_mtH_4 (ρ : Nat → Nat) (n' : Nat) (x : Go.Sx.HB) (φ : Go.Sx.OP) : Go.Sx.mtH ρ n' (Go.Sx.HB.ob φ) x = (x = Go.Sx.HB.ob φ) := rfl
theorem q_mtH_5 (ρ : Nat → Nat) (n' : Nat) (l : List Go.Sx.SV) (T : Go.TypeId) (m : Nat) (xs : List (List Go.Sx.SV)) (T_1 : Go.TypeId) : Go.Sx.mtH ρ n' (Go.Sx.HB.cells l T) (Go.Sx.HB.row m xs T_1) = False := rfl
theorem q_mtH_6 (ρ : Nat → Nat) (n' : Nat) (l : List Go.Sx.SV) (T : Go.TypeId) (φ : Go.Sx.OP) : Go.Sx.mtH ρ n' (Go.Sx.HB.cells l T) (Go.Sx.HB.ob φ) = False := rfl
theorem q_mtH_7 (ρ : Nat → Nat) (n' : Nat) (l : List Go.Sx.SV) (T : Go.TypeId) : Go.Sx.mtH ρ n' (Go.Sx.HB.cells l T) Go.Sx.HB.gone = False := rfl
theorem q_mtM_1 (p : Prop) : Go.Sx.mtM Bool.true p = True := rfl
theorem q_mtM_2 (p : Prop) : Go.Sx.mtM Bool.false p = p := rfl
theorem q_mtF_1 (ρ : Nat → Nat) (n' : Nat) (x : List Nat) (x_1 : List (Nat × Go.Sx.SV)) : Go.Sx.mtF ρ n' x [] x_1 = True := rfl
theorem q_mtF_2 (ρ : Nat → Nat) (n' : Nat) (x : List Nat) (x_1 : List (Nat × Go.Sx.SV)) (t : Nat) (s : Go.Sx.SV) (r : List (Nat × Go.Sx.SV)) : Go.Sx.mtF ρ n' x ((t, s) :: r) x_1 = (Go.Sx.mtM (Go.Sx.memb t x) (Go.Sx.mtS ρ n' s (Go.Sx.lk t x_1)) ∧ Go.Sx.mtF ρ n' (t :: x) r x_1) := rfl
theorem q_mtP_1 (ρ : Nat → Nat) (hp' hp : List (Nat × Go.Sx.HB)) (n' : Nat) : Go.Sx.mtP ρ hp' hp n' 0 = True := rfl
theorem q_mtP_2 (ρ : Nat → Nat) (hp' hp : List (Nat × Go.Sx.HB)) (n' k : Nat) : Go.Sx.mtP ρ hp' hp n' (Nat.succ k) = (Go.Sx.mtH ρ n' (Go.Sx.lkh k hp') (Go.Sx.lkh (ρ k) hp) ∧ Go.Sx.mtP ρ hp' hp n' k) := rfl
theorem q_hpb_1 (n' : Nat) : Go.Sx.hpb n' [] = True := rfl
theorem q_hpb_2 (n' u : Nat) (s : Go.Sx.HB) (r : List (Nat × Go.Sx.HB)) : Go.Sx.hpb n' ((u, s) :: r) = (u < n' ∧ Go.Sx.hpb n' r) := rfl
theorem q_newRB_1 (x x_1 : Nat) (x_2 : List (List Go.Sx.SV)) (x_3 : Go.TypeId) (x_4 : Go.Sx.St) (x_5 : Go.Sx.KT) (x_6 : Go.Sx.St → Prop) : Go.Sx.newRB Bool.false Bool.true x x_1 x_2 x_3 x_4 x_5 x_6 = x_5 { fr := (x, Go.Sx.SV.mr (Go.Sx.St.n x_4)) :: Go.Sx.St.fr x_4, hp := (Go.Sx.St.n x_4, Go.Sx.HB.row x_1 x_2 x_3) :: Go.Sx.St.hp x_4, n := Go.Sx.St.n x_4 + 1, N := Go.Sx.St.N x_4, gs := Go.Sx.St.gs x_4 } x_6 := rfl
theorem q_rowK_1 (m : Nat) (xs : List (List Go.Sx.SV)) (T : Go.TypeId) (σ : Go.Sx.St) (r : Go.Sx.KT) (K : Go.Sx.St → Prop) (m_1 : Nat) : Go.Sx.rowK (Option.some m_1) m xs T σ r K = Go.Sx.newRB (Go.Sx.memb m_1 (Go.Sx.St.gs σ)) (Nat.blt m_1 (Go.Sx.St.N σ)) m_1 m xs T σ r K := rfl
theorem q_rowK_2 (m : Nat) (xs : List (List Go.Sx.SV)) (T : Go.TypeId) (σ : Go.Sx.St) (r : Go.Sx.KT) (K : Go.Sx.St → Prop) : Go.Sx.rowK Option.none m xs T σ r K = False := rfl
theorem q_clnK_1 (b : Nat) (d : Option Nat) (m : Nat) (T : Go.TypeId) (σ : Go.Sx.St) (r : Go.Sx.KT) (K : Go.Sx.St → Prop) (ys : List (List Go.Sx.SV)) : Go.Sx.clnK b d m (Option.some []) (Option.some ys) T σ r K = Go.Sx.CLN b d m ys T σ r K := rfl
theorem q_clnK_2 (b : Nat) (d : Option Nat) (m : Nat) (y : Option (List (List Go.Sx.SV))) (T : Go.TypeId) (σ : Go.Sx.St) (r : Go.Sx.KT) (K : Go.Sx.St → Prop) (head : List Go.Sx.SV) (tail : List (List Go.Sx.SV)) : Go.Sx.clnK b d m (Option.some (head :: tail)) y T σ r K = False := rfl
theorem q_clnK_3 (b : Nat) (d : Option Nat) (m : Nat) (T : Go.TypeId) (σ : Go.Sx.St) (r : Go.Sx.KT) (K : Go.Sx.St → Prop) : Go.Sx.clnK b d m (Option.some []) Option.none T σ r K = False := rfl
theorem q_clnK_4 (b : Nat) (d : Option Nat) (m : Nat) (y : Option (List (List Go.Sx.SV))) (T : Go.TypeId) (σ : Go.Sx.St) (r : Go.Sx.KT) (K : Go.Sx.St → Prop) : Go.Sx.clnK b d m Option.none y T σ r K = False := rfl
theorem q_mksK_1 (b : Nat) (d : Option Nat) (m : Nat) (z : List Go.Value) (T : Go.TypeId) (σ : Go.Sx.St) (r : Go.Sx.KT) (K : Go.Sx.St → Prop) (k : Go.IntKind) (n : Int) : Go.Sx.mksK b d m z (Go.Sx.SV.v (Go.Value.int k n)) T σ r K = Go.Sx.MKS b d m (Go.Sx.lit z) n T σ r K := rfl
theorem q_isnK_1 (d : Option Nat) (σ : Go.Sx.St) (r : Go.Sx.KT) (K : Go.Sx.St → Prop) (c : Bool) (m : Nat) (xs : List (List Go.Sx.SV)) : Go.Sx.isnK d (Go.Sx.SV.sl c m xs) σ r K = Go.Sx.ISN d xs σ r K := rfl
theorem q_slcK_1 (g : Option (Nat × Bool)) (d : Option Nat) (σ : Go.Sx.St) (r : Go.Sx.KT) (K : Go.Sx.St → Prop) (c : Bool) (m : Nat) (xs : List (List Go.Sx.SV)) (k_2 : Go.IntKind) (n : Int) (k_3 : Go.IntKind) (j : Int) : Go.Sx.slcK g (Go.Sx.SV.sl c m xs) (Go.Sx.SV.v (Go.Value.int k_2 n)) (Go.Sx.SV.v (Go.Value.int k_3 j)) d σ r K = Go.Sx.SLC g n j m xs d σ r K := rfl
theorem q_subJ_1 (g : Option (Nat × Bool)) (m : Nat) (xs : List (List Go.Sx.SV)) (d : Option Nat) (σ : Go.Sx.St) (r : Go.Sx.KT) (K : Go.Sx.St → Prop) (i j : Int) : Go.Sx.subJ g m xs (Option.some i) (Option.some j) d σ r K = Go.Sx.SUB g i j m xs d σ r K := rfl
theorem q_subJ_2 (g : Option (Nat × Bool)) (m : Nat) (xs : List (List Go.Sx.SV)) (d : Option Nat) (σ : Go.Sx.St) (r : Go.Sx.KT) (K : Go.Sx.St → Prop) (val : Int) : Go.Sx.subJ g m xs (Option.some val) Option.none d σ r K = False := rfl
theorem q_subJ_3 (g : Option (Nat × Bool)) (m : Nat) (xs : List (List Go.Sx.SV)) (hi : Option Int) (d : Option Nat) (σ : Go.Sx.St) (r : Go.Sx.KT) (K : Go.Sx.St → Prop) : Go.Sx.subJ g m xs Option.none hi d σ r K = False := rfl
theorem q_subK_1 (g : Option (Nat × Bool)) (m : Nat) (ρ : Go.Sx.X → Go.Sx.SV) (lo hi : Option Go.Sx.X) (d : Option Nat) (σ : Go.Sx.St) (r : Go.Sx.KT) (K : Go.Sx.St → Prop) (c : Bool) (m_1 : Nat) (xs : List (List Go.Sx.SV)) : Go.Sx.subK g m ρ lo hi (Go.Sx.SV.sl c m_1 xs) d σ r K = bif Nat.beq m m_1 then Go.Sx.subJ g m xs (Go.Sx.intO 0 ρ lo) (Go.Sx.intO (↑(List.length xs)) ρ hi) d σ r K else False := rfl
theorem q_intO_1 (dflt : Int) (ρ : Go.Sx.X → Go.Sx.SV) : Go.Sx.intO dflt ρ Option.none = Option.some dflt := rfl
theorem q_intO_2 (dflt : Int) (ρ : Go.Sx.X → Go.Sx.SV) (x_1 : Go.Sx.X) : Go.Sx.intO dflt ρ (Option.some x_1) = match ρ x_1 with | Go.Sx.SV.v (Go.Value.int k n) => Option.some n | x => Option.none := rfl
theorem q_sprV_1 (m : Nat) (c : Bool) (m' : Nat) (xs : List (List Go.Sx.SV)) : Go.Sx.sprV m (Go.Sx.SV.sl c m' xs) = Go.Sx.rowB xs (Nat.beq m m') := rfl
theorem q_sprV_2 (m : Nat) : Go.Sx.sprV m (Go.Sx.SV.v (Go.Value.slice Option.none 0 0)) = Option.some [] := rfl
theorem q_alwS_3 (x : Value) (h : Nat → Bool → Nat → Bool → Bool) (j : Nat) (w : Bool) : alwS false (.v x) h j w = false := rfl
theorem q_splice_a (x : SV) (l : List SV) : splice (x :: l) 0 [] = x :: l := rfl
theorem q_splice_b : splice [] 0 [] = [] := rfl
attribute [go_sem] w64_0 w64_1 w64_2 w64_3 w64_4 w64_5 w64_6 e_stO rndK_n rndK_ex rndK_ret rxv_nil rxv_op rxv_hide backK_eq hideK_p hideK_pr rx_nil rx_cons sx_reg sx_regd gs0_nil sx_seq sx_cond sx_ret sx_block sx_loop sx_exit sx_skip sx_scope sx_label endK_eq seqK_n seqK_ex seqK_ret blkK_n blkK_ret retK_n retK_ret lopK_n lopK_ex lopK_ret lkB_t lkB_f lkhB_t lkhB_f membB_t membB_f blkE_t blkE_f cellsV_t biniB_t partB_t chkB_t andB_t andB_f e_lk e_lk0 e_lkh e_lkh0 e_memb e_memb0 e_blk e_strip_v e_drop_v e_cvt_v e_vwS_v e_vw0_v e_cells_v e_oneS_v e_strip_p e_drop_p e_cvt_p e_vwS_p e_vw0_p e_cells_p e_oneS_p e_strip_agg e_drop_agg e_cvt_agg e_vwS_agg e_vw0_agg e_cells_agg e_oneS_agg e_strip_sl e_drop_sl e_cvt_sl e_vwS_sl e_vw0_sl e_cells_sl e_oneS_sl e_strip_mr e_drop_mr e_cvt_mr e_vwS_mr e_vw0_mr e_cells_mr e_oneS_mr e_strip_pr e_drop_pr e_cvt_pr e_vwS_pr e_vw0_pr e_cells_pr e_oneS_pr e_strip_ps e_drop_ps e_cvt_ps e_vwS_ps e_vw0_ps e_cells_ps e_oneS_ps e_strip_cl e_drop_cl e_cvt_cl e_vwS_cl e_vw0_cl e_cells_cl e_oneS_cl e_strip_tup e_drop_tup e_cvt_tup e_vwS_tup e_vw0_tup e_oneS_tup e_strip_q e_drop_q e_cvt_q e_vwS_q e_vw0_q e_cells_q e_oneS_q e_strip_any e_drop_any e_cvt_any e_vwS_any e_vw0_any e_oneS_any e_drop_gd e_drop0 e_strip_gd0 e_strip_gd e_oneV_bool e_oneV_int e_oneV_string e_oneV_pointer e_oneV_slice e_oneV_nilFunc e_oneV_nilIface e_rdG e_rd_t e_rd_c e_rd_f e_alw e_alw0 e_vw1 e_vw2 e_vw3 e_vw4 e_purge0 e_purge1 e_bini e_uni_not e_uni_neg e_binr_add e_binr_sub e_binr_mul e_binr_eql e_binr_neq e_binr_lss e_binr_leq e_binr_gtr e_binr_geq e_kbeq_i8 e_kbeq_i16 e_kbeq_i32 e_kbeq_i64 e_kbeq_u8 e_kbeq_u16 e_kbeq_u32 e_kbeq_u64 e_addo_p e_nilc_p e_addo_pr e_nilc_pr e_addo_ps e_nilc_ps e_part_t e_part_f e_mmf0 e_mmf_t e_mmf_f e_mm e_bld e_pv_build e_bslC e_allOne e_allOne0 e_pick_o e_pick_a e_pick_f e_rvR e_rvs0 e_rv1_t e_rv1_c e_stp_mv e_stp_pick e_stp_build e_stp_bsl e_stp_ld e_stp_nilc e_stp_bin e_stp_div e_stp_un e_stp_addo e_stp_fld e_stp_idx e_stp_ixa e_stp_ixs e_stp_len e_stp_mm e_stp_call e_stp_calv e_stp_mkf e_stp_conv e_stp_ext e_rvs e_pv_fld e_pv_conv e_pv_ext e_entF0 e_entF e_stp_eqs e_stp_slc e_stp_sub e_stp_app q_bldE_1 q_bldE_2 q_mmE_1 q_mmE_2 q_vwP_1 q_vwM_1 q_cvtM_1 q_rvE_1 q_rvE_2 q_rvE_3 q_rvE_4 q_rvD_1 q_rvD_2 q_rvC_1 q_rvC_2 q_rvH_1 q_rvX_1 q_pvF_1 q_pvC_1 q_pvE_1 q_putB_1 q_putG_1 q_putK_1 q_putK_2 q_putK_3 q_putK_4 q_putO_1 q_putO_2 q_orAny_1 q_orAny_2 q_alwS_1 q_alwS_2 q_sameG_1 q_sameG_2 q_bbq_1 q_bbq_2 q_pickO_1 q_pickA_1 q_bslS_1 q_bslS_2 q_calvK_1 q_ixrB_1 q_ixrB_2 q_ixrK_1 q_ixsB_1 q_ixsB_2 q_ixsK_1 q_ixsK_2 q_ixaK_1 q_idxK_1 q_ldC_1 q_ldB_1 q_ldB_2 q_ldR_1 q_ldK_1 q_ldK_2 q_ldK_3 q_divB_1 q_divB_2 q_divK_1 q_lenR_1 q_lenK_1 q_lenK_2 q_stpV_1 q_stpV_2 q_stpV_3 q_stpV_4 q_stpV_5 q_stpV_6 q_stpV_7 q_stpV_8 q_stpV_9 q_stpV_10 q_stpV_11 q_stpV_12 q_stpV_13 q_stpV_14 q_stpV_15 q_stpV_16 q_stpV_17 q_stpV_18 q_stpV_19 q_stpV_20 q_stpV_21 q_stpV_22 q_stpV_23 q_stpV_24 q_stpV_25 q_stpV_26 q_stpV_27 q_stpV_28 q_stpV_29 q_stpV_30 q_stpV_31 q_stpV_32 q_newB_1 q_newK_1 q_stCB_1 q_stCB_2 q_stC_1 q_stRB_1 q_stRB_2 q_stR_1 q_stX_1 q_stX_2 q_storeB_1 q_storeK_1 q_stp_1 q_stp_2 q_stp_3 q_stp_4 q_stp_5 q_stp_6 q_stp_7 q_skipK_1 q_gK_1 q_gK_2 q_st1_1 q_st1_2 q_cndK_1 q_divr_1 q_st0_1 q_mapX_1 q_mapX_2 q_mapS_1 q_mapS_2 q_bslR_1 q_bslR_2 q_cvtL_1 q_cvtL_2 q_lit_1 q_lit_2 q_chk_1 q_chk_2 q_nth_1 q_nth_2 q_nth_3 q_splice_2 q_splice_3 q_bldZ_1 q_bldZ_2 q_bldY_1 q_bldX_1 q_bldX_2 q_spl_1 q_spl_2 q_bldF_1 q_bldF_2 q_enum_1 q_enum_2 q_gdS_1 q_gdS_2 q_gdS_3 q_gdS_4 q_gdS_5 q_gdS_6 q_gdS_7 q_gdS_8 q_gdS_9 q_gdS_10 q_gdS_11 q_gdS_12 q_eqC_1 q_eqC_2 q_eqC_3 q_eqA_1 q_eqLS_1 q_eqLS_2 q_eqLO_1 q_eqLO_2 q_eqR_1 q_eqR_2 q_ngB_1 q_ngB_2 q_rowB_1 q_rowB_2 q_sprH_1 q_sprH_2 q_sprH_3 q_sprH_4 q_sprS_1 q_sprS_2 q_sprS_3 q_basS_1 q_basS_2 q_appK_1 q_appK_2 q_appK_3 q_aggL_1 q_tupL_1 q_clL_1 q_mtO_1 q_mtO_2 q_mtB_1 q_mtB_2 q_mtS_1 q_mtS_2 q_mtS_3 q_mtS_4 q_mtS_5 q_mtS_6 q_mtS_7 q_mtS_8 q_mtS_9 q_mtS_10 q_mtS_11 q_mtS_12 q_mtL_1 q_mtL_2 q_mtH_1 q_mtH_2 q_mtH_3 q_mtH_4 q_mtH_5 q_mtH_6 q_mtH_7 q_mtM_1 q_mtM_2 q_mtF_1 q_mtF_2 q_mtP_1 q_mtP_2 q_hpb_1 q_hpb_2 q_newRB_1 q_rowK_1 q_rowK_2 q_clnK_1 q_clnK_2 q_clnK_3 q_clnK_4 q_mksK_1 q_isnK_1 q_slcK_1 q_subJ_1 q_subJ_2 q_subJ_3 q_subK_1 q_intO_1 q_intO_2 q_sprV_1 q_sprV_2 q_alwS_3 q_splice_a q_splice_b
end Go.Sx
