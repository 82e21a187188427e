/- A symbolic executor for walks of straight code, loops and calls, with its soundness over the model: values, heap, contracts of calls, single operations. -/
import Derived.WalkKit
import Derived.WalkSpells
import Derived.WalkLawsBesides
import Derived.ChangeKeysEq
import Derived.IntWalk
import Derived.LoopN
import Derived.Laws.MakeOwn
import Derived.Laws.Append
namespace Go.Sx
open Go Go.RowKit

structure Env where
  β : Nat → Nat
  hv : Nat → Value

/-- what a reading may lean on: blocks that are readable and stay -/
def Stays (w w' : World) (ok ok' : Nat → Prop) : Prop :=
  ∀ b, ok b → (w.heap[b]?).isSome → ok' b ∧ w'.heap[b]? = w.heap[b]?

structure VP where
  f : World → (Nat → Prop) → Value → Prop
  one : ∀ w ok y, f w ok y → y.oneCell' = true
  mono : ∀ w w' ok ok' y, Stays w w' ok ok' → f w ok y → f w' ok' y

structure OP where
  f : World → (Nat → Prop) → Obj → Prop
  mono : ∀ w w' ok ok' y, Stays w w' ok ok' → f w ok y → f w' ok' y

inductive SV where
  | v (x : Value)
  | p (k o : Nat)
  | agg (l : List SV)
  | sl (c : Bool) (m : Nat) (xs : List (List SV))
  | mr (k : Nat)
  | pr (k m i o : Nat)
  | ps (row : List SV) (o : Nat)
  | cl (f : FuncId) (caps : List SV)
  | tup (l : List SV)
  | q (φ : VP)
  | gd (j : Nat) (w : Bool) (s : SV)
  | any

def CellsAt (w : World) (ok : Nat → Prop) (b off : Nat) (cs : List Value) : Prop :=
  (cs ≠ [] → ok b) ∧ ∀ j c, cs[j]? = some c → w.cell? ⟨b, off + j, none⟩ = some c

mutual
def R (w : World) (E : Env) (n : Nat → Prop) (ok : Nat → Prop) : SV → Value → Prop
  | .v x, y => y = x
  | .p k o, y => n k ∧ y = .pointer (some ⟨E.β k, o, none⟩)
  | .agg l, y => ∃ cs : Array Value, y = .agg cs ∧ RL w E n ok l cs.toList
  | .sl c m xs, y => ∃ a len cap, y = .slice a len cap ∧ len = xs.length ∧ (len ≤ cap ∧ (c = true → cap = len)) ∧ xs.length ≤ 9223372036854775807 ∧ (xs = [] ∨ ∃ b off, a = some ⟨b, off, none⟩ ∧ RR w E n ok b m xs off)
  | .mr k, y => n k ∧ y = E.hv k ∧ y.oneCell' = true
  | .pr k m i o, y => n k ∧ ∃ b len cap, E.hv k = .slice (some ⟨b, 0, none⟩) len cap ∧ y = .pointer (some ⟨b, i * m + o, none⟩)
  | .ps row o, y => ∃ b off, y = .pointer (some ⟨b, off + o, none⟩) ∧ ∃ cs, RL w E n ok row cs ∧ CellsAt w ok b off cs
  | .cl f caps, y => ∃ cs : Array Value, y = .func (.func f) #[] cs ∧ RL w E n ok caps cs.toList
  | .tup l, y => ∃ cs : Array Value, y = .tuple cs ∧ RL w E n ok l cs.toList
  | .q φ, y => φ.f w ok y
  | .gd _ _ _, _ => False
  | .any, _ => True
def RL (w : World) (E : Env) (n : Nat → Prop) (ok : Nat → Prop) : List SV → List Value → Prop
  | [], ys => ys = []
  | s :: l, ys => ∃ y r, ys = y :: r ∧ R w E n ok s y ∧ RL w E n ok l r
def RR (w : World) (E : Env) (n : Nat → Prop) (ok : Nat → Prop) (b m : Nat) : List (List SV) → Nat → Prop
  | [], _ => True
  | row :: rs, off => row.length = m ∧ (∃ cs, RL w E n ok row cs ∧ CellsAt w ok b off cs) ∧ RR w E n ok b m rs (off + m)
end

theorem cellsAt_mono {w w' : World} {ok ok' : Nat → Prop} {b off : Nat} {cs : List Value} (hs : Stays w w' ok ok') (h : CellsAt w ok b off cs) : CellsAt w' ok' b off cs := by
  obtain ⟨h1, h2⟩ := h
  cases cs with
  | nil => exact ⟨fun h => absurd rfl h, fun j c h => by simp at h⟩
  | cons c0 cs =>
    have hb : ok b := h1 (by simp)
    have h0 := h2 0 c0 (by simp)
    have hsome : (w.heap[b]?).isSome := by
      unfold World.cell? at h0
      revert h0
      cases h : w.heap[b]? <;> simp
    obtain ⟨k1, k2⟩ := hs b hb hsome
    refine ⟨fun _ => k1, fun j c hj => ?_⟩
    rw [World.cell?_of_block (w := w) (by exact k2)]
    exact h2 j c hj

section
variable {w w' : World} {E E' : Env} {n n' : Nat → Prop} {ok ok' : Nat → Prop}
mutual
theorem R_mono (hs : Stays w w' ok ok') (hE : ∀ k, n k → E'.β k = E.β k ∧ E'.hv k = E.hv k) (hn : ∀ k, n k → n' k) : ∀ (s : SV) (y : Value), R w E n ok s y → R w' E' n' ok' s y
  | .v x, y, h => by simpa [R] using h
  | .p k o, y, h => by
    simp only [R] at h ⊢; exact ⟨hn k h.1, by rw [(hE k h.1).1]; exact h.2⟩
  | .agg l, y, h => by
    simp only [R] at h ⊢; obtain ⟨cs, h1, h2⟩ := h; exact ⟨cs, h1, RL_mono hs hE hn l _ h2⟩
  | .sl c m xs, y, h => by
    simp only [R] at h ⊢
    obtain ⟨a, len, cap, h1, h2, h3, h4, h5⟩ := h
    refine ⟨a, len, cap, h1, h2, h3, h4, ?_⟩
    rcases h5 with h5 | ⟨b, off, h5, h6⟩
    · exact .inl h5
    · exact .inr ⟨b, off, h5, RR_mono hs hE hn b m xs _ h6⟩
  | .mr k, y, h => by simp only [R] at h ⊢; exact ⟨hn k h.1, by rw [(hE k h.1).2]; exact h.2.1, h.2.2⟩
  | .pr k m i o, y, h => by simp only [R] at h ⊢; exact ⟨hn k h.1, by rw [(hE k h.1).2]; exact h.2⟩
  | .ps row o, y, h => by
    simp only [R] at h ⊢
    obtain ⟨b, off, h1, cs, h2, h3⟩ := h
    exact ⟨b, off, h1, cs, RL_mono hs hE hn row _ h2, cellsAt_mono hs h3⟩
  | .cl f caps, y, h => by simp only [R] at h ⊢; obtain ⟨cs, h1, h2⟩ := h; exact ⟨cs, h1, RL_mono hs hE hn caps _ h2⟩
  | .tup l, y, h => by simp only [R] at h ⊢; obtain ⟨cs, h1, h2⟩ := h; exact ⟨cs, h1, RL_mono hs hE hn l _ h2⟩
  | .q φ, y, h => by simp only [R] at h ⊢; exact φ.mono _ _ _ _ _ hs h
  | .gd _ _ _, y, h => by simp only [R] at h
  | .any, y, h => by simp only [R]
theorem RL_mono (hs : Stays w w' ok ok') (hE : ∀ k, n k → E'.β k = E.β k ∧ E'.hv k = E.hv k) (hn : ∀ k, n k → n' k) : ∀ (l : List SV) (ys : List Value), RL w E n ok l ys → RL w' E' n' ok' l ys
  | [], ys, h => by simpa [RL] using h
  | s :: l, ys, h => by
    simp only [RL] at h ⊢; obtain ⟨y, r, h1, h2, h3⟩ := h; exact ⟨y, r, h1, R_mono hs hE hn s y h2, RL_mono hs hE hn l r h3⟩
theorem RR_mono (hs : Stays w w' ok ok') (hE : ∀ k, n k → E'.β k = E.β k ∧ E'.hv k = E.hv k) (hn : ∀ k, n k → n' k) (b m : Nat) : ∀ (xs : List (List SV)) (off : Nat), RR w E n ok b m xs off → RR w' E' n' ok' b m xs off
  | [], off, h => by simp only [RR]
  | row :: rs, off, h => by
    simp only [RR] at h ⊢
    obtain ⟨h0, ⟨cs, h1, h2⟩, h3⟩ := h
    exact ⟨h0, ⟨cs, RL_mono hs hE hn row cs h1, cellsAt_mono hs h2⟩, RR_mono hs hE hn b m rs _ h3⟩
end
end
section
variable {w w' : World} {E E' : Env} {n n' : Nat → Prop} {ok ok' : Nat → Prop}
theorem RL_length : ∀ {l : List SV} {ys : List Value}, RL w E n ok l ys → ys.length = l.length
  | [], ys, h => by simp only [RL] at h; simp [h]
  | s :: l, ys, h => by
    simp only [RL] at h; obtain ⟨y, r, rfl, _, h3⟩ := h; simp [RL_length h3]
theorem RL_get : ∀ {l : List SV} {ys : List Value} {i : Nat} {s : SV}, RL w E n ok l ys → l[i]? = some s → ∃ y, ys[i]? = some y ∧ R w E n ok s y
  | [], ys, i, s, h, hi => by simp at hi
  | s :: l, ys, 0, s', h, hi => by
    simp only [RL] at h; obtain ⟨y, r, rfl, h2, _⟩ := h; simp at hi; subst hi; exact ⟨y, by simp, h2⟩
  | s :: l, ys, i + 1, s', h, hi => by
    simp only [RL] at h; obtain ⟨y, r, rfl, _, h3⟩ := h; simp at hi; simpa using RL_get h3 hi
theorem RL_append : ∀ {l m : List SV} {ys zs : List Value}, RL w E n ok l ys → RL w E n ok m zs → RL w E n ok (l ++ m) (ys ++ zs)
  | [], m, ys, zs, h, h' => by simp only [RL] at h; subst h; simpa using h'
  | s :: l, m, ys, zs, h, h' => by
    simp only [RL] at h; obtain ⟨y, r, rfl, h2, h3⟩ := h
    simp only [List.cons_append, RL]
    exact ⟨y, r ++ zs, rfl, h2, RL_append h3 h'⟩
theorem RL_drop : ∀ {l : List SV} {ys : List Value} (o : Nat), RL w E n ok l ys → RL w E n ok (l.drop o) (ys.drop o)
  | l, ys, 0, h => by simpa using h
  | [], ys, o + 1, h => by simp only [RL] at h; subst h; simp [RL]
  | s :: l, ys, o + 1, h => by
    simp only [RL] at h; obtain ⟨y, r, rfl, _, h3⟩ := h; simpa using RL_drop o h3
theorem RL_take : ∀ {l : List SV} {ys : List Value} (o : Nat), RL w E n ok l ys → RL w E n ok (l.take o) (ys.take o)
  | l, ys, 0, h => by simp [RL]
  | [], ys, o + 1, h => by simp only [RL] at h; subst h; simp [RL]
  | s :: l, ys, o + 1, h => by
    simp only [RL] at h; obtain ⟨y, r, rfl, h2, h3⟩ := h
    simp only [List.take_succ_cons, RL]; exact ⟨y, _, rfl, h2, RL_take o h3⟩
theorem RL_nil_iff {ys : List Value} : RL w E n ok [] ys ↔ ys = [] := by simp [RL]
theorem RL_cons_iff {s : SV} {l : List SV} {ys : List Value} : RL w E n ok (s :: l) ys ↔ ∃ y r, ys = y :: r ∧ R w E n ok s y ∧ RL w E n ok l r := by simp [RL]
theorem RL_v (l : List Value) : RL w E n ok (l.map .v) l := by
  induction l with
  | nil => simp [RL]
  | cons x l ih => simp only [List.map_cons, RL]; exact ⟨x, l, rfl, by simp [R], ih⟩
end

/-- new cells laid over old ones from a place on -/
def splice : List SV → Nat → List SV → List SV
  | l, 0, [] => l
  | _ :: l, 0, c :: cs => c :: splice l 0 cs
  | x :: l, o + 1, cs => x :: splice l o cs
  | [], _, _ => []
def spliceV : List Value → Nat → List Value → List Value
  | l, 0, [] => l
  | _ :: l, 0, c :: cs => c :: spliceV l 0 cs
  | x :: l, o + 1, cs => x :: spliceV l o cs
  | [], _, _ => []
theorem RL_splice {w : World} {E : Env} {n : Nat → Prop} {ok : Nat → Prop} : ∀ {l : List SV} {ys : List Value} (o : Nat) {m : List SV} {zs : List Value}, RL w E n ok l ys → RL w E n ok m zs →
    RL w E n ok (splice l o m) (spliceV ys o zs)
  | [], ys, o, m, zs, h, h' => by
    simp only [RL] at h; subst h
    cases o with
    | zero => cases m with
      | nil => simp only [RL] at h'; subst h'; simp [splice, spliceV, RL]
      | cons => simp only [RL] at h'; obtain ⟨y, r, rfl, _⟩ := h'; simp [splice, spliceV, RL]
    | succ => simp [splice, spliceV, RL]
  | s :: l, ys, 0, [], zs, h, h' => by simp only [RL] at h'; subst h'; simp only [RL] at h; obtain ⟨y, r, rfl, h2, h3⟩ := h; simp only [splice, spliceV, RL]; exact ⟨y, r, rfl, h2, h3⟩
  | s :: l, ys, 0, t :: m, zs, h, h' => by
    simp only [RL] at h h'; obtain ⟨y, r, rfl, h2, h3⟩ := h; obtain ⟨z, q, rfl, k2, k3⟩ := h'
    simp only [splice, spliceV, RL]; exact ⟨z, _, rfl, k2, RL_splice 0 h3 k3⟩
  | s :: l, ys, o + 1, m, zs, h, h' => by
    simp only [RL] at h; obtain ⟨y, r, rfl, h2, h3⟩ := h
    simp only [splice, spliceV, RL]; exact ⟨y, _, rfl, h2, RL_splice o h3 h'⟩
theorem spliceV_length : ∀ (l : List Value) (o : Nat) (m : List Value), (spliceV l o m).length = l.length
  | [], 0, [] => rfl
  | [], 0, _ :: _ => rfl
  | [], _ + 1, _ => rfl
  | _ :: _, 0, [] => rfl
  | _ :: l, 0, _ :: m => by simp [spliceV, spliceV_length l 0 m]
  | _ :: l, o + 1, m => by simp [spliceV, spliceV_length l o m]
theorem spliceV_get : ∀ (l : List Value) (o : Nat) (m : List Value) (j : Nat), o + m.length ≤ l.length →
    (spliceV l o m)[j]? = if o ≤ j ∧ j < o + m.length then m[j - o]? else l[j]?
  | [], 0, [], j, _ => by simp [spliceV]
  | [], 0, _ :: _, j, h => by simp at h
  | [], _ + 1, _, j, h => by simp at h
  | x :: l, 0, [], j, _ => by simp [spliceV]
  | x :: l, 0, c :: m, 0, h => by simp [spliceV]
  | x :: l, 0, c :: m, j + 1, h => by
    have := spliceV_get l 0 m j (by simp at h; omega)
    simp only [spliceV, List.getElem?_cons_succ, this]
    by_cases hj : j < m.length
    · rw [if_pos (by omega), if_pos (by simp; omega)]; simp
    · rw [if_neg (by omega), if_neg (by simp; omega)]
  | x :: l, o + 1, m, 0, h => by simp [spliceV]
  | x :: l, o + 1, m, j + 1, h => by
    have := spliceV_get l o m j (by simp at h; omega)
    simp only [spliceV, List.getElem?_cons_succ, this]
    by_cases hj : o ≤ j ∧ j < o + m.length
    · rw [if_pos hj, if_pos (by omega), show j + 1 - (o + 1) = j - o from by omega]
    · rw [if_neg hj, if_neg (by omega)]

inductive HB where
  | cells (l : List SV) (T : TypeId)
  | row (m : Nat) (xs : List (List SV)) (T : TypeId)
  | ob (φ : OP)
  | gone

structure St where
  fr : List (Nat × SV)
  hp : List (Nat × HB)
  n : Nat
  N : Nat
  gs : List Nat

def lk (t : Nat) : List (Nat × SV) → SV
  | [] => .any
  | (u, s) :: r => bif Nat.beq t u then s else lk t r
def lkh (k : Nat) : List (Nat × HB) → HB
  | [] => .gone
  | (u, s) :: r => bif Nat.beq k u then s else lkh k r

theorem lk_cons (t u : Nat) (s : SV) (r : List (Nat × SV)) : lk t ((u, s) :: r) = if t = u then s else lk t r := by
  simp only [lk]
  by_cases h : t = u
  · subst h; simp [Nat.beq_refl]
  · have : Nat.beq t u = false := Bool.eq_false_iff.2 (fun e => h (Nat.eq_of_beq_eq_true e))
    simp [this, h]
theorem lkh_cons (t u : Nat) (s : HB) (r : List (Nat × HB)) : lkh t ((u, s) :: r) = if t = u then s else lkh t r := by
  simp only [lkh]
  by_cases h : t = u
  · subst h; simp [Nat.beq_refl]
  · have : Nat.beq t u = false := Bool.eq_false_iff.2 (fun e => h (Nat.eq_of_beq_eq_true e))
    simp [this, h]

structure Cx where
  w0 : World
  okp : Nat → Prop
  pass : Nat → Prop
  ds : List Deferred

def occ (E : Env) (k : Nat) : HB → Nat → Prop
  | .cells _ _, b => b = E.β k
  | .ob _, b => b = E.β k
  | .row _ _ _, b => ∃ len cap, E.hv k = .slice (some ⟨b, 0, none⟩) len cap ∧ cap ≠ 0
  | .gone, _ => False

def okS (C : Cx) (E : Env) (hp : List (Nat × HB)) (b : Nat) : Prop :=
  (C.okp b ∨ C.w0.heap.size ≤ b) ∧ ∀ k, ¬ occ E k (lkh k hp) b

def HBok (w : World) (E : Env) (n : Nat → Prop) (ok : Nat → Prop) (k : Nat) : HB → Prop
  | .cells l T => ∃ cs, w.heap[E.β k]? = some (.cells cs T (0, 0)) ∧ RL w E n ok l cs.toList
  | .row m xs T => (xs = [] ∧ ∃ a, E.hv k = .slice a 0 0) ∨ ∃ b cap cs, E.hv k = .slice (some ⟨b, 0, none⟩) xs.length cap ∧ w.heap[b]? = some (.cells cs T (0, 0)) ∧
      cs.size = cap * m ∧ (xs.length ≤ cap ∧ cap ≠ 0) ∧ xs.length ≤ 9223372036854775807 ∧ (∀ r ∈ xs, r.length = m) ∧ RL w E n ok xs.flatten (cs.toList.take (xs.length * m))
  | .ob φ => ∃ o, w.heap[E.β k]? = some o ∧ φ.f w ok o
  | .gone => True

inductive GE (fr : List (Nat × SV)) : Nat → Bool → Prop
  | base {j : Nat} {b : Bool} (h : lk j fr = .v (.bool b)) : GE fr j b
  | step {j j' : Nat} {b b' : Bool} (h : lk j fr = .gd j' b' (.v (.bool b))) (h' : GE fr j' b') : GE fr j b
abbrev ge := GE

def FR (w : World) (E : Env) (n : Nat → Prop) (ok : Nat → Prop) (fr : List (Nat × SV)) : SV → Value → Prop
  | .gd j b s, y => (ge fr j b → R w E n ok s y) ∧ (¬ ge fr j b → y = undef)
  | s, y => R w E n ok s y

/-- what of the world may have turned since the call began -/
structure Keeps (C : Cx) (w : World) : Prop where
  os : w.os = C.w0.os
  tape : w.tape = C.w0.tape
  output : w.output = C.w0.output
  size : C.w0.heap.size ≤ w.heap.size
  block : ∀ b, b < C.w0.heap.size → ¬ C.pass b → w.heap[b]? = C.w0.heap[b]?

/-- the heap's part of a symbolic state -/
def ltn (n : Nat) (k : Nat) : Prop := k < n
structure HSim (C : Cx) (E : Env) (hp : List (Nat × HB)) (n : Nat → Prop) (w : World) : Prop where
  kn : ∀ k, ¬ n k → lkh k hp = .gone
  bk : ∀ k, HBok w E n (okS C E hp) k (lkh k hp)
  dj : ∀ k k' b, occ E k (lkh k hp) b → occ E k' (lkh k' hp) b → k = k'
  lo : ∀ k b, occ E k (lkh k hp) b → C.w0.heap.size ≤ b ∨ C.pass b
  kp : Keeps C w

structure Sim (C : Cx) (E : Env) (σ : St) (a : Act) (w : World) : Prop where
  fr : ∀ t, FR w E (ltn σ.n) (okS C E σ.hp) σ.fr (lk t σ.fr) (a.tmps.getD t undef)
  sz : a.tmps.size = σ.N
  df : a.defers = C.ds
  gs : ∀ t j b s, lk t σ.fr = .gd j b s → j ∈ σ.gs
  hs : HSim C E σ.hp (ltn σ.n) w

/-! ## the small code -/
inductive X where
  | t (n : Nat) | c (x : Value) | f (i : Nat)

inductive SI where
  | mv (x : X)
  | pick (c a b : X)
  | box (x : X) (m : Nat) (T : TypeId)
  | alloc (z : List Value) (T : TypeId)
  | build (z : List Value) (ps : List (Nat × Nat × X))
  | bsl (m : Nat) (T : TypeId) (ps : List X)
  | ld (x : X) (m : Nat) (ag : Bool)
  | st (x y : X) (m : Nat)
  | nilc (x : X)
  | bin (b : BinOp) (x y : X)
  | div (b : BinOp) (x y : X)
  | eqs (ng ag : Bool) (cls : List Nat) (x y : X)
  | un (u : UnOp) (x : X)
  | addo (x : X) (o : Nat)
  | fld (x : X) (o m : Nat) (ag : Bool)
  | idx (x i : X) (len m : Nat) (ag : Bool)
  | ixa (x i : X) (len m : Nat)
  | ixs (x i : X) (m : Nat)
  | len (x : X)
  | mm (mx : Bool) (xs : List X)
  | call (f : FuncId) (as : List X)
  | calv (x : X) (as : List X)
  | mkf (f : FuncId) (cs : List X)
  | conv (k : IntKind) (x : X)
  | ext (x : X) (i : Nat)
  | app (m b : Nat) (T : TypeId) (x y : X)
  | cln (m b : Nat) (T : TypeId) (x y : X)
  | mks (m b : Nat) (z : List Value) (T : TypeId) (x : X)
  | isn (x : X)
  | slc (x h k : X)
  | sub (m : Nat) (x : X) (lo hi : Option X)
  | raw (op : Op) (ty : TypeId)

def evX (a : Act) : X → Value
  | .t n => a.tmps.getD n undef
  | .c x => x
  | .f i => .func (.func i) #[] #[]

def eqV : Value → Value → Bool
  | .bool a, .bool b => a == b
  | .int k a, .int j b => decide (k = j) && decide (a = b)
  | .pointer none, .pointer none => true
  | .slice none a b, .slice none c d => a == c && b == d
  | .map none, .map none => true
  | .nilFunc, .nilFunc => true
  | .nilIface, .nilIface => true
  | .string a, .string b => decide (a = b)
  | _, _ => false
theorem eqV_sound : ∀ {x y : Value}, eqV x y = true → x = y := by
  intro x y h
  unfold eqV at h
  split at h <;> simp_all

def cmpX : X → Operand → Bool
  | .t n, .tmp m => n == m
  | .c x, .const y => eqV x y
  | .f i, .func j => i == j
  | _, _ => false
theorem cmpX_sound {x : X} {o : Operand} (h : cmpX x o = true) (a : Act) : a.eval o = evX a x := by
  unfold cmpX at h
  split at h
  · simp at h; subst h; rfl
  · rw [eqV_sound h]; rfl
  · simp at h; subst h; rfl
  · cases h

def cmpXs : List X → List Operand → Bool
  | [], [] => true
  | x :: xs, o :: os => cmpX x o && cmpXs xs os
  | _, _ => false
theorem cmpXs_sound : ∀ {xs : List X} {os : List Operand}, cmpXs xs os = true → ∀ a : Act, os.map a.eval = xs.map (evX a)
  | [], [], _, _ => rfl
  | x :: xs, o :: os, h, a => by
    simp only [cmpXs, Bool.and_eq_true] at h
    simp [cmpX_sound h.1 a, cmpXs_sound h.2 a]
  | [], _ :: _, h, _ => by simp [cmpXs] at h
  | _ :: _, [], h, _ => by simp [cmpXs] at h

/-! ## laws of single operations -/
section
variable {P : Program} {w : World}
def szOf (P : Program) (t : TypeId) : Option Nat := (P.info? t).map (·.size)
def agOf (P : Program) (t : TypeId) : Option Bool := (P.underlying t).map fun | .struct _ | .array _ _ => true | _ => false
def zeroOf (P : Program) (t : TypeId) : Option Value := (P.info? t).bind (·.zero)
theorem run_sizeOf {t : TypeId} {m : Nat} (h : szOf P t = some m) : (sizeOf t).run P w = .ok m w := by
  unfold szOf at h
  cases hq : P.info? t with
  | none => simp [hq] at h
  | some i => simp [hq] at h; subst h; simp [sizeOf, typeInfo, hq]
theorem run_isAgg {t : TypeId} {b : Bool} (h : agOf P t = some b) : (isAgg t).run P w = .ok b w := by
  unfold agOf at h
  cases hq : P.underlying t with
  | none => simp [hq] at h
  | some d =>
    simp [hq] at h; subst h
    unfold isAgg
    rw [Sem.run_bind, run_underlying hq w]
    cases d <;> simp
theorem run_zeroOf {t : TypeId} {v : Value} (h : zeroOf P t = some v) : (zeroValue t).run P w = .ok v w := by
  unfold zeroOf at h
  cases hq : P.info? t with
  | none => simp [hq] at h
  | some i => simp [hq] at h; simp [zeroValue, typeInfo, hq, h]
theorem addr_add (b o n : Nat) : (⟨b, o, none⟩ : Addr).add n = ⟨b, o + n, none⟩ := by
  unfold Addr.add; split <;> simp_all

theorem run_loadVar_agg {t : TypeId} {m b o : Nat} {cs : List Value} (ha : agOf P t = some true) (hs : szOf P t = some m) (hl : cs.length = m)
    (hc : ∀ j c, cs[j]? = some c → w.cell? ⟨b, o + j, none⟩ = some c) : (loadVar t ⟨b, o, none⟩).run P w = .ok (.agg cs.toArray) w := by
  subst hl
  have hl : (loadCells ⟨b, o, none⟩ cs.length).run P w = .ok cs.toArray w :=
    run_loadCells_list (P := P) w ⟨b, o, none⟩ cs (fun j v hv => by rw [addr_add]; exact hc j v hv)
  simp [loadVar, Sem.run_bind, run_isAgg ha, run_sizeOf hs, hl]
theorem run_loadVar_one {t : TypeId} {b o : Nat} {c : Value} (ha : agOf P t = some false)
    (hc : w.cell? ⟨b, o, none⟩ = some c) : (loadVar t ⟨b, o, none⟩).run P w = .ok c w := by
  simp [loadVar, Sem.run_bind, run_isAgg ha, hc]
end

/-- w' is w but for block b, which now holds these cells -/
structure Wrote (w w' : World) (b : Nat) (cs : List Value) (T : TypeId) : Prop where
  os : w'.os = w.os
  tape : w'.tape = w.tape
  output : w'.output = w.output
  size : w'.heap.size = w.heap.size
  same : ∀ k, k ≠ b → w'.heap[k]? = w.heap[k]?
  here : w'.heap[b]? = some (.cells cs.toArray T (0, 0))

section
variable {P : Program}
theorem wrote_cell {w : World} {b o : Nat} {cs : List Value} {T : TypeId} {v : Value} (hb : w.heap[b]? = some (.cells cs.toArray T (0, 0))) (ho : o < cs.length) (hv : v.oneCell' = true) :
    (store ⟨b, o, none⟩ v).run P w = .ok () (w.setCell ⟨b, o, none⟩ v) ∧ Wrote w (w.setCell ⟨b, o, none⟩ v) b (cs.set o v) T := by
  have hc : w.cell? ⟨b, o, none⟩ = some cs[o] := by simp [World.cell?, hb, ho]
  have hf : w.frozen? ⟨b, o, none⟩ = false := by simp [World.frozen?, hb]
  refine ⟨by rw [run_store P w _ v _ hv, hc, hf]; rfl, ⟨rfl, rfl, rfl, by simp [World.setCell], fun k hk => ?_, ?_⟩⟩
  · exact Below.heap_setCell _ _ _ _ hk
  · simp [World.setCell, Array.getElem?_modify, hb]
theorem run_storeCells : ∀ (vs : List Value) {w : World} {b o i : Nat} {cs : List Value} {T : TypeId}, w.heap[b]? = some (.cells cs.toArray T (0, 0)) → o + i + vs.length ≤ cs.length → (∀ v ∈ vs, v.oneCell' = true) →
    ∃ w', (storeCells ⟨b, o, none⟩ vs i).run P w = .ok () w' ∧ Wrote w w' b (spliceV cs (o + i) vs) T
  | [], w, b, o, i, cs, T, hb, hl, h1 => by
    refine ⟨w, rfl, rfl, rfl, rfl, rfl, fun _ _ => rfl, ?_⟩
    have : spliceV cs (o + i) [] = cs := by
      apply List.ext_getElem?; intro j; rw [spliceV_get _ _ _ _ (by simpa using hl)]; rw [if_neg (by simp)]
    rw [this]; exact hb
  | v :: vs, w, b, o, i, cs, T, hb, hl, h1 => by
    simp only [List.length_cons] at hl
    obtain ⟨e1, g1⟩ := wrote_cell (P := P) (o := o + i) (v := v) hb (by omega) (h1 v (by simp))
    obtain ⟨w', e2, g2⟩ := run_storeCells vs (w := w.setCell ⟨b, o + i, none⟩ v) (b := b) (o := o) (i := i + 1) (T := T) g1.here (by simp; omega) (fun u hu => h1 u (by simp [hu]))
    refine ⟨w', ?_, ⟨g2.os.trans g1.os, g2.tape.trans g1.tape, g2.output.trans g1.output, g2.size.trans g1.size, fun k hk => (g2.same k hk).trans (g1.same k hk), ?_⟩⟩
    · simp only [storeCells, addr_add, Sem.run_bind, e1, Result.andThen_ok]; exact e2
    · rw [g2.here]
      congr 2
      have : spliceV (cs.set (o + i) v) (o + (i + 1)) vs = spliceV cs (o + i) (v :: vs) := by
        apply List.ext_getElem?; intro j
        rw [spliceV_get _ _ _ _ (by simp; omega), spliceV_get _ _ _ _ (by simp; omega)]
        simp only [List.length_cons]
        by_cases hj : o + (i + 1) ≤ j ∧ j < o + (i + 1) + vs.length
        · rw [if_pos hj, if_pos (by omega), show j - (o + i) = (j - (o + (i + 1))) + 1 from by omega]; simp
        · rw [if_neg hj]
          by_cases hj2 : j = o + i
          · subst hj2; rw [if_pos (by omega), List.getElem?_set_self (by omega)]; simp
          · rw [if_neg (by omega), List.getElem?_set_ne (by omega)]
      rw [this]
theorem run_storeVar {t : TypeId} {m : Nat} {v : Value} {w : World} {b o : Nat} {cs : List Value} {T : TypeId} (hs : szOf P t = some m) (hm : v.cells.size = m) (hb : w.heap[b]? = some (.cells cs.toArray T (0, 0)))
    (hl : o + m ≤ cs.length) (h1 : ∀ u ∈ v.cells.toList, u.oneCell' = true) : ∃ w', (storeVar t ⟨b, o, none⟩ v).run P w = .ok () w' ∧ Wrote w w' b (spliceV cs o v.cells.toList) T := by
  obtain ⟨w', e, g⟩ := run_storeCells (P := P) v.cells.toList (w := w) (b := b) (o := o) (i := 0) (T := T) hb (by simp [hm]; omega) h1
  exact ⟨w', by simp [storeVar, Sem.run_bind, run_sizeOf hs, hm, e], by simpa using g⟩
end

/-- of a symbolic value that is one cell whatever stands for it -/
def oneV : Value → Bool
  | .agg _ | .tuple _ => false
  | _ => true
def oneS : SV → Bool
  | .v x => oneV x
  | .p _ _ | .sl _ _ _ | .mr _ | .pr _ _ _ _ | .ps _ _ | .cl _ _ | .q _ => true
  | _ => false
theorem oneV_eq (v : Value) : oneV v = v.oneCell' := by cases v <;> rfl
def cellsS : SV → List SV
  | .agg l => l
  | s => [s]

section
variable {P : Program} {w : World}
def offOf (P : Program) (s f : Nat) : Option Nat :=
  match P.underlying s with
  | some (.struct fs) => match fs[f]? with
    | some fd => match szOf P fd.type with
      | some m => if m = 0 then none else some fd.offset
      | none => none
    | none => none
  | _ => none
theorem run_fieldAt {s f off b o : Nat} (h : offOf P s f = some off) : (Instr.fieldAt s (.pointer (some ⟨b, o, none⟩)) f).run P w = .ok (.pointer (some ⟨b, o + off, none⟩)) w := by
  unfold offOf at h
  split at h
  · rename_i fs hu
    split at h
    · rename_i fd hf
      split at h
      · rename_i m hm
        split at h
        · cases h
        · rename_i h0
          simp at h; subst h
          simp only [Instr.fieldAt, Sem.run_bind, run_underlying hu, Result.andThen_ok]
          simp [Sem.run_bind, hf, Instr.sureAddr, fieldPlace, run_sizeOf hm, h0, addr_add]
      · cases h
    · cases h
  · cases h

def fldOf (P : Program) (s f : Nat) : Option (Nat × TypeId) :=
  match P.underlying s with
  | some (.struct fs) => (fs[f]?).map fun fd => (fd.offset, fd.type)
  | _ => none
theorem run_part {t m off : Nat} {ag : Bool} {cs : Array Value} (ha : agOf P t = some ag) (hs : szOf P t = some m) (c : Value) (h1 : ag = false → cs[off]? = some c) :
    (part t cs off).run P w = .ok (if ag then .agg (cs.extract off (off + m)) else c) w := by
  cases ag
  · simp [part, Sem.run_bind, run_isAgg ha, h1 rfl]
  · simp [part, Sem.run_bind, run_isAgg ha, run_sizeOf hs]
theorem run_field {s f off t m : Nat} {ag : Bool} {cs : Array Value} (h : fldOf P s f = some (off, t)) (ha : agOf P t = some ag) (hs : szOf P t = some m) (c : Value) (h1 : ag = false → cs[off]? = some c) :
    (Instr.field s (.agg cs) f).run P w = .ok (if ag then .agg (cs.extract off (off + m)) else c) w := by
  unfold fldOf at h
  split at h
  · rename_i fs hu
    cases hf : fs[f]? with
    | none => simp [hf] at h
    | some fd =>
      simp [hf] at h; obtain ⟨rfl, rfl⟩ := h
      simp only [Instr.field, Sem.run_bind, run_underlying hu, Result.andThen_ok, hf]
      simp only [asAgg, Sem.run_pure, Result.andThen_ok]
      exact run_part ha hs c h1
  · cases h

/-- what fill does, on lists -/
theorem fill_one (off : Nat) (vs : List Value) (k : Nat) : ∀ (cs : Array Value), off + k + vs.length ≤ cs.size →
    ((vs.zipIdx k).foldl (fun cs (x : Value × Nat) => cs.setIfInBounds (off + x.2) x.1) cs).toList = spliceV cs.toList (off + k) vs := by
  induction vs generalizing k with
  | nil =>
    intro cs h
    simp only [List.zipIdx_nil, List.foldl_nil]
    apply List.ext_getElem?; intro j; rw [spliceV_get _ _ _ _ (by simpa using h)]; rw [if_neg (by simp)]
  | cons v vs ih =>
    intro cs h
    simp only [List.length_cons] at h
    simp only [List.zipIdx_cons, List.foldl_cons]
    rw [ih (k + 1) _ (by simp; omega)]
    apply List.ext_getElem?; intro j
    rw [spliceV_get _ _ _ _ (by simp; omega), spliceV_get _ _ _ _ (by simp; omega)]
    simp only [List.length_cons, Array.toList_setIfInBounds]
    by_cases hj : off + (k + 1) ≤ j ∧ j < off + (k + 1) + vs.length
    · rw [if_pos hj, if_pos (by omega), show j - (off + k) = (j - (off + (k + 1))) + 1 from by omega]; simp
    · rw [if_neg hj]
      by_cases hj2 : j = off + k
      · subst hj2; rw [if_pos (by omega), List.getElem?_set_self (by simp; omega)]; simp
      · rw [if_neg (by omega), List.getElem?_set_ne (by omega)]

def fillV : List Value → List (Nat × Value) → List Value
  | z, [] => z
  | z, (o, v) :: r => fillV (spliceV z o v.cells.toList) r
theorem fill_eq (place : Nat → Option (Nat × Nat)) : ∀ (l : List (Nat × Value)) (ps : List (Nat × Value)) (cells : Array Value),
    l.length = ps.length → (∀ i (h : i < l.length) (h' : i < ps.length), ∃ m, place l[i].1 = some (ps[i].1, m) ∧ l[i].2 = ps[i].2 ∧ l[i].2.cells.size = m ∧ ps[i].1 + m ≤ cells.size) →
    Instr.fill place cells l = some (fillV cells.toList ps).toArray
  | [], [], cells, _, _ => by simp [Instr.fill, fillV]
  | (i, v) :: l, (o, u) :: ps, cells, hl, h => by
    obtain ⟨m, h1, h2, h3, h4⟩ := h 0 (by simp) (by simp)
    simp at h1 h2 h3 h4
    subst h2
    have hle : ¬ ((decide (v.cells.size ≠ m) || decide (o + v.cells.size > cells.size)) = true) := by simp [h3]; omega
    simp only [Instr.fill, h1, fillV]
    rw [if_neg hle]
    have key : (v.cells.zipIdx.foldl (fun cs (x : Value × Nat) => cs.setIfInBounds (o + x.2) x.1) cells).toList = spliceV cells.toList o v.cells.toList := by
      have := fill_one o v.cells.toList 0 cells (by simp [h3]; omega)
      simp only [Nat.add_zero] at this
      rw [← this, ← Array.foldl_toList]
      simp
    rw [fill_eq place l ps _ (by simpa using hl)]
    · rw [key]
    · intro j hj hj'
      obtain ⟨m', k1, k2, k3, k4⟩ := h (j + 1) (by simp; omega) (by simp; omega)
      refine ⟨m', by simpa using k1, by simpa using k2, by simpa using k3, ?_⟩
      have : (v.cells.zipIdx.foldl (fun cs (x : Value × Nat) => cs.setIfInBounds (o + x.2) x.1) cells).size = cells.size := by
        rw [← Array.length_toList, key, spliceV_length]; simp
      rw [this]; simpa using k4
  | [], _ :: _, _, h, _ => by simp at h
  | _ :: _, [], _, h, _ => by simp at h
end

/-! ## equality of structs and arrays -/
def eqFs (P : Program) (g : TypeId → Option (List Nat)) : List Field → Nat → Option (List Nat)
  | [], _ => some []
  | fd :: r, o => match g fd.type, eqFs P g r (o + ((g fd.type).getD []).length) with
    | some l, some q => bif fd.name != "_" && fd.offset == o && Nat.blt 0 l.length && szOf P fd.type == some l.length then some (l ++ q) else none
    | _, _ => none
def eqT (P : Program) : Nat → TypeId → Option (List Nat)
  | 0, _ => none
  | f + 1, t => match P.underlying t with
    | some .bool => some [0]
    | some (.int _) => some [1]
    | some .string => some [2]
    | some (.struct fs) => bif P.stoodInHeld t then none else eqFs P (eqT P f) fs.toList 0
    | some (.array n e) => match eqT P f e with
      | some l => bif szOf P e == some l.length then some (List.replicate n l).flatten else none
      | none => none
    | _ => none
def kbq (k j : IntKind) : Bool := decide (k = j)
def eqCV : Nat → Value → Value → Option Bool
  | 0, .bool a, .bool b => some (a == b)
  | 1, .int k a, .int j b => bif kbq k j then some (a == b) else none
  | 2, .string a, .string b => some (a.toList == b.toList)
  | _, _, _ => none
def eqA : Option Bool → Option Bool → Option Bool
  | some a, some b => some (a && b)
  | _, _ => none
def eqLV : List Nat → List Value → List Value → Option Bool
  | [], [], [] => some true
  | c :: cs, x :: xs, y :: ys => eqA (eqCV c x y) (eqLV cs xs ys)
  | _, _, _ => none
theorem eqA_some {a b : Option Bool} {r : Bool} (h : eqA a b = some r) : ∃ p q, a = some p ∧ b = some q ∧ r = (p && q) := by
  cases a <;> cases b <;> simp [eqA] at h
  exact ⟨_, _, rfl, rfl, h.symm⟩
theorem eqLV_len : ∀ {cs : List Nat} {xs ys : List Value} {r : Bool}, eqLV cs xs ys = some r → xs.length = cs.length ∧ ys.length = cs.length
  | [], [], [], _, _ => ⟨rfl, rfl⟩
  | c :: cs, x :: xs, y :: ys, r, h => by
    obtain ⟨p, q, _, h2, _⟩ := eqA_some (by simpa [eqLV] using h)
    obtain ⟨h1, h3⟩ := eqLV_len h2
    simp [h1, h3]
  | [], _ :: _, _, _, h => by simp [eqLV] at h
  | [], [], _ :: _, _, h => by simp [eqLV] at h
  | _ :: _, [], _, _, h => by simp [eqLV] at h
  | _ :: _, _ :: _, [], _, h => by simp [eqLV] at h
theorem eqLV_app : ∀ {c1 c2 : List Nat} {xs ys : List Value} {r : Bool}, eqLV (c1 ++ c2) xs ys = some r →
    ∃ p q, eqLV c1 (xs.take c1.length) (ys.take c1.length) = some p ∧ eqLV c2 (xs.drop c1.length) (ys.drop c1.length) = some q ∧ r = (p && q)
  | [], c2, xs, ys, r, h => ⟨true, r, by simp [eqLV], by simpa using h, by simp⟩
  | c :: c1, c2, x :: xs, y :: ys, r, h => by
    obtain ⟨p, q, h1, h2, h3⟩ := eqA_some (by simpa [eqLV] using h)
    obtain ⟨p', q', k1, k2, k3⟩ := eqLV_app h2
    refine ⟨p && p', q', ?_, by simpa using k2, by rw [h3, k3, Bool.and_assoc]⟩
    simp [eqLV, h1, k1, eqA]
  | _ :: _, _, [], _, _, h => by simp [eqLV] at h
  | _ :: _, _, _ :: _, [], _, h => by simp [eqLV] at h
def mkV (ag : Bool) (xs : List Value) : Value := if ag then .agg xs.toArray else xs.headD undef
section
variable {P : Program}
theorem run_part_mk {t m off : Nat} {ag : Bool} {X : List Value} (w : World) (ha : agOf P t = some ag) (hs : szOf P t = some m) (h1 : ag = false → m = 1) (hl : off + m ≤ X.length) :
    (part t X.toArray off).run P w = .ok (mkV ag ((X.drop off).take m)) w := by
  cases ag
  · have hm := h1 rfl
    subst hm
    have hlt : off < X.length := by omega
    rw [run_part ha hs X[off] (fun _ => by simp [hlt])]
    simp only [mkV, Bool.false_eq_true, if_false]
    rw [List.drop_eq_getElem_cons hlt]; rfl
  · rw [run_part ha hs undef (fun h => by cases h)]
    simp only [mkV, if_true]
    have : X.toArray.extract off (off + m) = ((X.drop off).take m).toArray := by apply Array.toList_inj.1; simp [Array.toList_extract, List.extract]
    rw [this]
def EqRun (P : Program) (d : Nat) (t : TypeId) (cls : List Nat) : Prop :=
  ∃ ag, agOf P t = some ag ∧ (ag = false → cls.length = 1) ∧ ∀ (w : World) (xs ys : List Value) (r : Bool), eqLV cls xs ys = some r → (Op.equalIn d t (mkV ag xs) (mkV ag ys)).run P w = .ok r w
theorem eqFs_run {d : Nat} {g : TypeId → Option (List Nat)} (hg : ∀ t l, g t = some l → EqRun P d t l) (X Y : List Value) : ∀ (fs : List Field) (o : Nat) (cls : List Nat) (r : Bool) (w : World), eqFs P g fs o = some cls →
    eqLV cls (X.drop o) (Y.drop o) = some r → (Op.eqFields d X.toArray Y.toArray fs).run P w = .ok r w
  | [], o, cls, r, w, h, hr => by
    simp [eqFs] at h; subst h
    have : r = true := by
      cases hx : X.drop o <;> cases hy : Y.drop o <;> rw [hx, hy] at hr <;> simp [eqLV] at hr
      exact hr
    subst this; simp [Op.eqFields]
  | fd :: fs, o, cls, r, w, h, hr => by
    simp only [eqFs] at h
    split at h
    · rename_i l q h1 h2
      rw [h1] at h2; simp only [Option.getD_some] at h2
      cases hc : (fd.name != "_" && fd.offset == o && Nat.blt 0 l.length && szOf P fd.type == some l.length)
      · rw [hc] at h; cases h
      · rw [hc] at h; simp only [cond_true, Option.some.injEq] at h; subst h
        simp only [Bool.and_eq_true, bne_iff_ne, ne_eq, beq_iff_eq, Nat.blt_eq] at hc
        obtain ⟨⟨⟨hn, ho⟩, hl0⟩, hs⟩ := hc
        obtain ⟨ag, a1, a2, a3⟩ := hg _ _ h1
        obtain ⟨p, q', e1, e2, e3⟩ := eqLV_app hr
        have hX := (eqLV_len hr).1
        have hY := (eqLV_len hr).2
        simp only [List.length_drop, List.length_append] at hX hY
        have hle : fd.offset + l.length ≤ X.length ∧ fd.offset + l.length ≤ Y.length := by omega
        have pX := run_part_mk (X := X) w a1 hs a2 hle.1
        have pY := run_part_mk (X := Y) w a1 hs a2 hle.2
        rw [ho] at pX pY
        simp only [Op.eqFields, hn, ne_eq, not_false_eq_true, if_true, Sem.run_bind, ho, pX, pY, Result.andThen_ok, a3 w _ _ _ e1]
        have ih := eqFs_run hg X Y fs (o + l.length) q q' w h2 (by rw [← List.drop_drop, ← List.drop_drop]; exact e2)
        cases p
        · simp [e3]
        · simp [e3, ih]
    · cases h
theorem eqIt_run {d e : Nat} {l : List Nat} {X Y : List Value} (hg : EqRun P d e l) (hs : szOf P e = some l.length) : ∀ (n i : Nat) (r : Bool) (w : World), X.length = (i + n) * l.length → Y.length = (i + n) * l.length →
    eqLV (List.replicate n l).flatten (X.drop (i * l.length)) (Y.drop (i * l.length)) = some r → (Op.eqItems d e l.length X.toArray Y.toArray (List.range' i n)).run P w = .ok r w
  | 0, i, r, w, hX, hY, h => by
    have : r = true := by
      have h1 : X.drop (i * l.length) = [] := by apply List.drop_eq_nil_of_le; simp at hX; omega
      have h2 : Y.drop (i * l.length) = [] := by apply List.drop_eq_nil_of_le; simp at hY; omega
      rw [h1, h2] at h; simpa [eqLV] using h.symm
    subst this; simp [Op.eqItems]
  | n + 1, i, r, w, hX, hY, h => by
    obtain ⟨ag, a1, a2, a3⟩ := hg
    rw [List.replicate_succ, List.flatten_cons] at h
    obtain ⟨p, q, e1, e2, e3⟩ := eqLV_app h
    have hle : i * l.length + l.length ≤ (i + (n + 1)) * l.length := by
      rw [show (i + (n + 1)) = (i + 1) + n from by omega, Nat.add_mul, Nat.add_mul]; omega
    have pX := run_part_mk (X := X) w a1 hs a2 (off := i * l.length) (by omega)
    have pY := run_part_mk (X := Y) w a1 hs a2 (off := i * l.length) (by omega)
    have ih := eqIt_run ⟨ag, a1, a2, a3⟩ hs n (i + 1) q w (by rw [hX]; congr 1; omega) (by rw [hY]; congr 1; omega) (by rw [show (i + 1) * l.length = i * l.length + l.length from by rw [Nat.add_mul]; omega, ← List.drop_drop, ← List.drop_drop]; exact e2)
    simp only [List.range'_succ, Op.eqItems, Sem.run_bind, pX, pY, Result.andThen_ok, a3 w _ _ _ e1]
    cases p
    · simp [e3]
    · simp [e3, ih]
theorem eqT_run : ∀ (f : Nat) (t : TypeId) (cls : List Nat), eqT P f t = some cls → ∀ d, f ≤ d → EqRun P d t cls
  | 0, _, _, h, _, _ => by simp [eqT] at h
  | f + 1, t, cls, h, d, hd => by
    obtain ⟨d', rfl⟩ : ∃ d', d = d' + 1 := ⟨d - 1, by omega⟩
    simp only [eqT] at h
    split at h
    · rename_i hu; simp at h; subst h
      refine ⟨false, by simp [agOf, hu], fun _ => rfl, fun w xs ys r hr => ?_⟩
      match xs, ys, hr with
      | [.bool a], [.bool b], hr => simp [eqLV, eqCV, eqA] at hr; subst hr; simpa [mkV] using run_equalIn_bool' w d' t a b hu
      | [], _, hr => simp [eqLV] at hr
      | [_], [], hr => simp [eqLV] at hr
      | _ :: _ :: _, [], hr => simp [eqLV] at hr
      | [x], [y], hr => exact (by
          simp only [eqLV] at hr
          obtain ⟨p, q, h1, _, _⟩ := eqA_some hr
          cases x <;> cases y <;> simp [eqCV] at h1
          subst h1
          simp [eqLV, eqCV, eqA] at hr; subst hr; simpa [mkV] using run_equalIn_bool' w d' t _ _ hu)
      | [_], _ :: _ :: _, hr => have := (eqLV_len hr).2; simp at this
      | _ :: _ :: _, _ :: _, hr => have := (eqLV_len hr).1; simp at this
    · rename_i k hu; simp at h; subst h
      refine ⟨false, by simp [agOf, hu], fun _ => rfl, fun w xs ys r hr => ?_⟩
      match xs, ys, hr with
      | [], _, hr => simp [eqLV] at hr
      | [_], [], hr => simp [eqLV] at hr
      | _ :: _ :: _, [], hr => simp [eqLV] at hr
      | [x], [y], hr => exact (by
          simp only [eqLV] at hr
          obtain ⟨p, q, h1, h2, h3⟩ := eqA_some hr
          simp at h2; subst h2
          cases x <;> cases y <;> simp [eqCV] at h1
          rename_i k1 a k2 b
          cases hk : kbq k1 k2 <;> rw [hk] at h1 <;> simp at h1
          subst h1
          have := of_decide_eq_true hk; subst this
          simp at h3; subst h3
          simpa [mkV] using run_equalIn_int w d' t _ _ _ _ hu)
      | [_], _ :: _ :: _, hr => have := (eqLV_len hr).2; simp at this
      | _ :: _ :: _, _ :: _, hr => have := (eqLV_len hr).1; simp at this
    · rename_i hu; simp at h; subst h
      refine ⟨false, by simp [agOf, hu], fun _ => rfl, fun w xs ys r hr => ?_⟩
      match xs, ys, hr with
      | [], _, hr => simp [eqLV] at hr
      | [_], [], hr => simp [eqLV] at hr
      | _ :: _ :: _, [], hr => simp [eqLV] at hr
      | [x], [y], hr => exact (by
          simp only [eqLV] at hr
          obtain ⟨p, q, h1, h2, h3⟩ := eqA_some hr
          simp at h2; subst h2
          cases x <;> cases y <;> simp [eqCV] at h1
          subst h1
          simp at h3; subst h3
          simpa [mkV] using run_equalIn_string w d' t _ _ hu)
      | [_], _ :: _ :: _, hr => have := (eqLV_len hr).2; simp at this
      | _ :: _ :: _, _ :: _, hr => have := (eqLV_len hr).1; simp at this
    · rename_i fs hu
      cases hst : P.stoodInHeld t
      · rw [hst] at h; simp only [cond_false] at h
        have hfs : P.fieldsOf t = fs := by simp [Program.fieldsOf, hu]
        refine ⟨true, by simp [agOf, hu], (fun h => by cases h), fun w xs ys r hr => ?_⟩
        simp only [mkV, if_true]
        rw [run_equalIn_struct w d' t xs.toArray ys.toArray (by rw [hfs]; exact hu) hst, hfs]
        exact eqFs_run (fun t l h => eqT_run f t l h d' (by omega)) xs ys fs.toList 0 cls r w h (by simpa using hr)
      · rw [hst] at h; cases h
    · rename_i n e hu
      split at h
      · rename_i l hl
        cases hs : (szOf P e == some l.length)
        · rw [hs] at h; cases h
        · rw [hs] at h; simp only [cond_true, Option.some.injEq] at h; subst h
          simp only [beq_iff_eq] at hs
          refine ⟨true, by simp [agOf, hu], (fun h => by cases h), fun w xs ys r hr => ?_⟩
          simp only [mkV, if_true]
          obtain ⟨hX, hY⟩ := eqLV_len hr
          have hi : ∃ i, P.info? e = some i ∧ i.size = l.length := by
            unfold szOf at hs
            cases hq : P.info? e with
            | none => simp [hq] at hs
            | some i => simp [hq] at hs; exact ⟨i, rfl, hs⟩
          obtain ⟨i, hi, hsz⟩ := hi
          rw [run_equalIn_array w d' xs.toArray ys.toArray hu hi, show P.cellsOf e = l.length from by simp [Program.cellsOf, hi, hsz], List.range_eq_range']
          exact eqIt_run (eqT_run f e l hl d' (by omega)) (by simp [szOf, hi, hsz]) n 0 r w (by simpa using hX) (by simpa using hY) (by simpa using hr)
      · cases h
    · cases h
end

/-! ## append -/
section
variable {P : Program} {w : World} {E : Env} {n : Nat → Prop} {ok : Nat → Prop}
def bytesOf (P : Program) (t : TypeId) : Option Nat := (P.info? t).map (·.bytes)
theorem below_drew {k : Nat} {w : World} : Below k w w.drew := ⟨rfl, rfl, rfl, Nat.le_refl _, fun _ _ => rfl⟩
/-- the cells that a slice shows -/
def Shows (w : World) (y : Value) (m len : Nat) (cs : List Value) : Prop :=
  ∃ a cap, y = .slice a len cap ∧ len ≤ cap ∧ cs.length = len * m ∧ (len = 0 ∨ ∃ b off, a = some ⟨b, off, none⟩ ∧ ∀ j c, cs[j]? = some c → w.cell? ⟨b, off + j, none⟩ = some c)
theorem shows_nil {w : World} {m : Nat} : Shows w (.slice none 0 0) m 0 [] := ⟨none, 0, rfl, Nat.le_refl _, by simp, .inl rfl⟩
theorem RR_shows {w : World} {E : Env} {n ok : Nat → Prop} {b m : Nat} : ∀ (xs : List (List SV)) (off : Nat), RR w E n ok b m xs off →
    ∃ cs : List Value, RL w E n ok xs.flatten cs ∧ cs.length = xs.length * m ∧ ∀ j c, cs[j]? = some c → w.cell? ⟨b, off + j, none⟩ = some c
  | [], off, _ => ⟨[], by simp [RL], by simp, fun j c h => by simp at h⟩
  | row :: xs, off, h => by
    simp only [RR] at h
    obtain ⟨h0, ⟨c0, h1, h2⟩, h3⟩ := h
    obtain ⟨cs, k1, k2, k3⟩ := RR_shows xs (off + m) h3
    have hl := RL_length h1
    refine ⟨c0 ++ cs, by simpa using RL_append h1 k1, by simp [hl, h0, k2, Nat.add_mul]; omega, fun j c hj => ?_⟩
    by_cases hlt : j < c0.length
    · rw [List.getElem?_append_left hlt] at hj; exact h2.2 j c hj
    · rw [List.getElem?_append_right (by omega)] at hj
      have := k3 _ _ hj
      rwa [show off + m + (j - c0.length) = off + j from by omega] at this
theorem sl_shows {w : World} {c : Bool} {m : Nat} {xs : List (List SV)} {y : Value} (h : R w E n ok (.sl c m xs) y) : ∃ cs, Shows w y m xs.length cs ∧ RL w E n ok xs.flatten cs ∧ (c = true → ∃ a, y = .slice a xs.length xs.length) := by
  simp only [R] at h
  obtain ⟨a, len, cap, rfl, rfl, ⟨h1, h2⟩, h3, h4⟩ := h
  rcases h4 with rfl | ⟨b, off, rfl, h4⟩
  · exact ⟨[], ⟨a, cap, rfl, h1, by simp, .inl rfl⟩, by simp [RL], fun hc => ⟨a, by rw [h2 hc]⟩⟩
  · obtain ⟨cs, k1, k2, k3⟩ := RR_shows xs off h4
    exact ⟨cs, ⟨_, cap, rfl, h1, k2, .inr ⟨b, off, rfl, k3⟩⟩, k1, fun hc => ⟨_, by rw [h2 hc]⟩⟩
theorem RR_lens {w : World} {E : Env} {n ok : Nat → Prop} {b m : Nat} : ∀ (xs : List (List SV)) (off : Nat), RR w E n ok b m xs off → ∀ r ∈ xs, r.length = m
  | [], _, _, r, h => by simp at h
  | row :: xs, off, h, r, hr => by
    simp only [RR] at h
    rcases List.mem_cons.1 hr with rfl | hr
    · exact h.1
    · exact RR_lens xs _ h.2.2 r hr
theorem firstCells_shows {P : Program} {w w' : World} {y : Value} {m len : Nat} {cs : List Value} (h : Shows w y m len cs) (hw : ∀ a, w'.cell? a = w.cell? a) : (Builtin.firstCells m len y).run P w' = .ok cs.toArray w' := by
  obtain ⟨a, cap, rfl, _, hl, h⟩ := h
  rcases h with rfl | ⟨b, off, rfl, h⟩
  · have : cs = [] := by simpa using hl
    subst this
    cases a with
    | none => simp [Builtin.firstCells]
    | some a => exact run_firstCells_some w' m 0 a 0 cap [] (by simp) (fun j v hj => by simp at hj)
  · exact run_firstCells_some w' m len _ len cap cs hl (fun j v hj => by rw [addr_add, hw]; exact h j v hj)
/-- append that makes new memory, or does nothing -/
theorem run_append_new {t e ty m by' : Nat} {z : Value} {x y : Value} {lx ly : Nat} {cx cy : List Value} (ht : P.underlying t = some (.slice e)) (hm : szOf P e = some m) (hb : bytesOf P e = some by') (hz : zeroOf P e = some z)
    (hx : Shows w x m lx cx) (hc : ∃ a, x = .slice a lx lx) (hy : Shows w y m ly cy) (hlim : (lx + ly) * by' ≤ 140737488355328) (hlim2 : lx + ly ≤ 140737488355328) :
    ∃ v w', (Builtin.append_ #[t, t] ty #[x, y]).run P w = .ok v w' ∧ Below w.heap.size w w' ∧
      ((ly = 0 ∧ v = x ∧ w' = w) ∨ (ly ≠ 0 ∧ ∃ cap : Nat, lx + ly ≤ cap ∧ v = .slice (some ⟨w.heap.size, 0, none⟩) (lx + ly) cap ∧ w' = w.drew.alloc (.cells (cx.toArray ++ cy.toArray ++ Builtin.zeroCells z.cells (cap - (lx + ly))) e))) := by
  obtain ⟨i, hi⟩ : ∃ i, P.info? e = some i := by
    unfold szOf at hm
    cases hq : P.info? e with
    | none => simp [hq] at hm
    | some i => exact ⟨i, rfl⟩
  have hsz : i.size = m := by simpa [szOf, hi] using hm
  have hby : i.bytes = by' := by simpa [bytesOf, hi] using hb
  have hzi : i.zero = some z := by simpa [zeroOf, hi] using hz
  obtain ⟨a0, rfl⟩ := hc
  obtain ⟨ay, capy, rfl, hcy, hly, hy'⟩ := hy
  by_cases h0 : ly = 0
  · subst h0
    have hcy0 : cy = [] := by simpa using hly
    subst hcy0
    refine ⟨_, w, ?_, Below.refl _ _, .inl ⟨rfl, rfl, rfl⟩⟩
    have hf := firstCells_shows (P := P) (w' := w) (y := .slice ay 0 capy) (m := m) (len := 0) (cs := []) ⟨ay, capy, rfl, hcy, by simp, .inl rfl⟩ (fun _ => rfl)
    have hsz' : (sizeOf e).run P w = .ok m w := run_sizeOf hm
    cases a0 <;> simp [Builtin.append_, Sem.run_bind, run_underlying ht, hsz', Builtin.lenOf, hf, storeCells]
  · refine ⟨_, _, ?_, below_drew.alloc (Nat.le_refl _) _, .inr ⟨h0, grownCap w (lx + ly) lx e, ?_, rfl, rfl⟩⟩
    · have hn : ¬ (lx + ly ≤ lx) := by omega
      have h63' : ¬ (9223372036854775807 < ((lx : Int) + (ly : Int))) := by omega
      have hfit : Builtin.nextslicecap (lx + ly) lx * i.bytes ≤ 281474976710656 := growslice_fits (by omega) (by rw [hby]; exact hlim)
      have h48' : ¬ (281474976710656 < Builtin.nextslicecap (lx + ly) lx * i.bytes) := by omega
      have hf := firstCells_shows (P := P) (w' := w.drew) (y := .slice ay ly capy) (m := i.size) (len := ly) (cs := cy) (by rw [hsz]; exact ⟨ay, capy, rfl, hcy, hly, hy'⟩) (fun _ => rfl)
      have hfo := firstCells_shows (P := P) (w' := w.drew) (y := .slice a0 lx lx) (m := i.size) (len := lx) (cs := cx) (by rw [hsz]; exact hx) (fun _ => rfl)
      simp [Builtin.append_, run_underlying ht, sizeOf, typeInfo, zeroValue, hi, hzi, Builtin.lenOf, hn, h63', h48', Question.forced, hf, hfo, newRow, grownCap]
      congr 2
      apply Array.ext'
      simp [List.append_assoc]
    · unfold grownCap; simp only [Question.cut]; omega
/-- cells in order: rows in order -/
theorem RR_of_cells {w : World} {E : Env} {n ok : Nat → Prop} {b m : Nat} (hok : ok b) : ∀ (xs : List (List SV)) (off : Nat) (cs : List Value), (∀ r ∈ xs, r.length = m) → RL w E n ok xs.flatten cs → (∀ j c, cs[j]? = some c → w.cell? ⟨b, off + j, none⟩ = some c) → RR w E n ok b m xs off
  | [], off, cs, _, _, _ => by simp [RR]
  | row :: xs, off, cs, hl, hR, hc => by
    simp only [RR]
    have hr := hl row (by simp)
    rw [List.flatten_cons] at hR
    have h1 := RL_take row.length hR
    have h2 := RL_drop row.length hR
    rw [List.take_left' rfl] at h1
    rw [List.drop_left' rfl] at h2
    refine ⟨hr, ⟨_, h1, fun _ => hok, fun j c hj => ?_⟩, RR_of_cells hok xs (off + m) _ (fun r h => hl r (by simp [h])) h2 (fun j c hj => ?_)⟩
    · have hj' : j < row.length := by have := (List.getElem?_eq_some_iff.1 hj).1; simp at this; omega
      rw [List.getElem?_take_of_lt hj'] at hj; exact hc j c hj
    · rw [List.getElem?_drop] at hj
      have := hc _ _ hj
      rwa [show off + m + j = off + (row.length + j) from by omega]
end

/-! ## pure operations -/
def chk : List SV → Nat → Bool
  | [], 0 => true
  | _ :: l, n + 1 => chk l n
  | _, _ => false
theorem chk_eq : ∀ {l : List SV} {n : Nat}, chk l n = true → l.length = n
  | [], 0, _ => rfl
  | _ :: l, n + 1, h => by simp only [chk] at h; simp [chk_eq h]
  | [], _ + 1, h => by simp [chk] at h
  | _ :: _, 0, h => by simp [chk] at h
def nth : List SV → Nat → Option SV
  | [], _ => none
  | s :: _, 0 => some s
  | _ :: l, n + 1 => nth l n
theorem nth_eq : ∀ (l : List SV) (n : Nat), nth l n = l[n]?
  | [], _ => by simp [nth]
  | s :: _, 0 => by simp [nth]
  | _ :: l, n + 1 => by simp [nth, nth_eq l n]
def cellsO : SV → Option (List SV)
  | .agg l => some l
  | s => bif oneS s then some [s] else none
def bldE : Option (List SV) → Option SV
  | some l => some (.agg l)
  | none => none
def bldO (ρ : X → SV) : List SV → List (Nat × Nat × X) → Option (List SV)
  | z, [] => some z
  | z, (o, m, x) :: r => match cellsO (ρ x) with
    | some l => bif chk l m then bldO ρ (splice z o l) r else none
    | none => none
def bldZ (o : Nat) (l : List SV) (t : List (Nat × List SV)) : Bool → Option (List (Nat × List SV))
  | true => some ((o, l) :: t)
  | false => none
def bldY (o m : Nat) : Option (List SV) → Option (List (Nat × List SV)) → Option (List (Nat × List SV))
  | some l, some t => bldZ o l t (chk l m)
  | _, _ => none
def bldX (ρ : X → SV) : List (Nat × Nat × X) → Option (List (Nat × List SV))
  | [] => some []
  | (o, m, x) :: r => bldY o m (cellsO (ρ x)) (bldX ρ r)
def spl : List SV → List (Nat × List SV) → List SV
  | z, [] => z
  | z, (o, l) :: r => spl (splice z o l) r
def bldF (z : List SV) : Option (List (Nat × List SV)) → Option (List SV)
  | some t => some (spl z t)
  | none => none
def bld (ρ : X → SV) (z : List SV) (ps : List (Nat × Nat × X)) : Option (List SV) := bldF z (bldX ρ ps)
theorem bld_O {ρ : X → SV} : ∀ (ps : List (Nat × Nat × X)) {z l : List SV}, bld ρ z ps = some l → bldO ρ z ps = some l
  | [], z, l, h => by simpa [bld, bldX, bldF, spl, bldO] using h
  | (o, m, x) :: r, z, l, h => by
    have ih := fun z' => bld_O (ρ := ρ) r (z := z') (l := l)
    unfold bld at h ih
    simp only [bldX] at h
    simp only [bldO]
    cases hc : cellsO (ρ x) with
    | none => rw [hc] at h; simp [bldY, bldF] at h
    | some c =>
      rw [hc] at h
      cases hx : bldX ρ r with
      | none => rw [hx] at h; simp [bldY, bldF] at h
      | some t =>
        rw [hx] at h
        simp only [bldY] at h
        cases hk : chk c m
        · rw [hk] at h; simp [bldZ, bldF] at h
        · rw [hk] at h
          simp only [bldZ, bldF, spl, Option.some.injEq] at h
          simp only [hk, cond_true]
          exact ih (splice z o c) (by rw [hx]; simp [bldF, h])
def kbeq : IntKind → IntKind → Bool
  | .i8, .i8 | .i16, .i16 | .i32, .i32 | .i64, .i64 | .u8, .u8 | .u16, .u16 | .u32, .u32 | .u64, .u64 => true
  | _, _ => false
theorem kbeq_eq {k j : IntKind} (h : kbeq k j = true) : k = j := by revert h; cases k <;> cases j <;> simp [kbeq]
def binr (b : BinOp) (k : IntKind) (x y : Int) : Option SV :=
  match b with
  | .add => some (.v (.int k (k.wrap (x + y))))
  | .sub => some (.v (.int k (k.wrap (x - y))))
  | .mul => some (.v (.int k (k.wrap (x * y))))
  | .eql => some (.v (.bool (x == y)))
  | .neq => some (.v (.bool (x != y)))
  | .lss => some (.v (.bool (decide (x < y))))
  | .leq => some (.v (.bool (decide (x ≤ y))))
  | .gtr => some (.v (.bool (decide (x > y))))
  | .geq => some (.v (.bool (decide (x ≥ y))))
  | _ => none
def bini (b : BinOp) : SV → SV → Option SV
  | .v (.int k x), .v (.int j y) => bif kbeq k j then binr b k x y else none
  | _, _ => none
def uni (u : UnOp) : SV → Option SV
  | .v (.bool b) => match u with | .not => some (.v (.bool (!b))) | _ => none
  | .v (.int k n) => match u with | .neg => some (.v (.int k (k.wrap (0 - n)))) | _ => none
  | _ => none
def addoS (o : Nat) : SV → Option SV
  | .p k q => some (.p k (q + o))
  | .pr k m i q => some (.pr k m i (q + o))
  | .ps row q => some (.ps row (q + o))
  | _ => none
def nilcS : SV → Option SV
  | .p k q => some (.p k q)
  | .pr k m i q => some (.pr k m i q)
  | .ps row q => some (.ps row q)
  | _ => none
def partS (l : List SV) (o m : Nat) (ag : Bool) : Option SV :=
  match ag with
  | true => bif Nat.ble (o + m) l.length then some (.agg ((l.drop o).take m)) else none
  | false => nth l o
def mmf (mx : Bool) : Int → List SV → Option Int
  | x, [] => some x
  | x, .v (.int _ y) :: r => match mx with | true => mmf mx (max x y) r | false => mmf mx (min x y) r
  | _, _ => none
def mmS (mx : Bool) : List SV → Option SV
  | .v (.int k x) :: r => match mmf mx x r with | some z => some (.v (.int k z)) | none => none
  | _ => none
def mapX (ρ : X → SV) : List X → List SV
  | [] => []
  | x :: r => ρ x :: mapX ρ r
theorem mapX_eq (ρ : X → SV) (l : List X) : mapX ρ l = l.map ρ := by induction l <;> simp [mapX, *]
def lit : List Value → List SV
  | [] => []
  | x :: r => .v x :: lit r
theorem lit_eq (l : List Value) : lit l = l.map .v := by induction l <;> simp [lit, *]
def eqC : Nat → SV → SV → Option Bool
  | 0, .v (.bool a), .v (.bool b) => some (a == b)
  | 1, .v (.int k a), .v (.int j b) => bif kbeq k j then some (a == b) else none
  | 2, .v (.string a), .v (.string b) => some (a.toList == b.toList)
  | _, _, _ => none
def eqLS : List Nat → List SV → List SV → Option Bool
  | [], [], [] => some true
  | c :: cs, x :: xs, y :: ys => eqA (eqC c x y) (eqLS cs xs ys)
  | _, _, _ => none
def eqLO (cls : List Nat) : Bool → SV → SV → Option Bool
  | true, .agg a, .agg b => eqLS cls a b
  | false, .v (.bool a), .v (.bool b) => some (a == b)
  | _, _, _ => none
def ngB : Bool → Bool → Bool
  | true, b => !b
  | false, b => b
def eqR (ng : Bool) : Option Bool → Option SV
  | some b => some (.v (.bool (ngB ng b)))
  | none => none
def pv (ρ : X → SV) : SI → Option SV
  | .eqs ng ag cls x y => eqR ng (eqLO cls ag (ρ x) (ρ y))
  | .mv x => some (ρ x)
  | .build z ps => bldE (bld ρ (lit z) ps)
  | .nilc x => nilcS (ρ x)
  | .bin b x y => bini b (ρ x) (ρ y)
  | .un u x => uni u (ρ x)
  | .addo x o => addoS o (ρ x)
  | .fld x o m ag => match ρ x with | .agg l => partS l o m ag | _ => none
  | .len x => match ρ x with | .sl _ _ xs => some (.v (.int .i64 xs.length)) | _ => none
  | .mm mx xs => mmS mx (mapX ρ xs)
  | .mkf f cs => some (.cl f (mapX ρ cs))
  | .conv k x => match ρ x with | .v (.int _ n) => some (.v (.int k (k.wrap n))) | _ => none
  | .ext x i => match ρ x with | .tup l => nth l i | _ => none
  | _ => none

section
variable {P : Program} {w : World} {E : Env} {n : Nat → Prop} {ok : Nat → Prop}
theorem R_one {s : SV} {y : Value} (h : R w E n ok s y) (h1 : oneS s = true) : y.oneCell' = true := by
  cases s <;> simp only [R] at h <;> simp only [oneS] at h1
  case v x => subst h; rw [← oneV_eq]; exact h1
  case p k o => rw [h.2]; rfl
  case sl c m xs => obtain ⟨a, l, c, h, _⟩ := h; rw [h]; rfl
  case mr k => exact h.2.2
  case pr k m i o => obtain ⟨_, b, l, c, _, h⟩ := h; rw [h]; rfl
  case ps row o => obtain ⟨b, off, h, _⟩ := h; rw [h]; rfl
  case cl f caps => obtain ⟨cs, h, _⟩ := h; rw [h]; rfl
  case q φ => exact φ.one _ _ _ h
  all_goals cases h1
theorem one_cells {y : Value} (h : y.oneCell' = true) : y.cells = #[y] := by cases y <;> first | rfl | simp [Value.oneCell'] at h
theorem R_cells {s : SV} {y : Value} {l : List SV} (h : R w E n ok s y) (hc : cellsO s = some l) : RL w E n ok l y.cells.toList := by
  by_cases ha : ∃ l', s = .agg l'
  · obtain ⟨l', rfl⟩ := ha
    simp only [cellsO, Option.some.injEq] at hc; subst hc
    simp only [R] at h; obtain ⟨cs, rfl, h2⟩ := h; exact h2
  · have : oneS s = true ∧ l = [s] := by
      cases s <;> simp only [cellsO] at hc <;> first
        | (exact absurd ⟨_, rfl⟩ ha)
        | (cases ho : oneS _ <;> simp [ho] at hc; exact ⟨rfl, hc.symm⟩)
    obtain ⟨h1, rfl⟩ := this
    rw [one_cells (R_one h h1)]
    simp only [RL]; exact ⟨y, [], by simp, h, rfl⟩
end

def eqVs : List Value → List Value → Bool
  | [], [] => true
  | x :: xs, y :: ys => eqV x y && eqVs xs ys
  | _, _ => false
theorem eqVs_sound : ∀ {xs ys : List Value}, eqVs xs ys = true → xs = ys
  | [], [], _ => rfl
  | x :: xs, y :: ys, h => by simp only [eqVs, Bool.and_eq_true] at h; rw [eqV_sound h.1, eqVs_sound h.2]
  | [], _ :: _, h => by simp [eqVs] at h
  | _ :: _, [], h => by simp [eqVs] at h
def plcOf (P : Program) (t : TypeId) : Option (Nat → Option (Nat × Nat)) :=
  match P.underlying t with
  | some (.array _ e) => match P.info? e with
    | some ie => some fun i => some (i * ie.size, ie.size)
    | none => none
  | some (.struct fields) => match fields.toList.mapM (fun f => (P.info? f.type).map fun i => (f.offset, i.size)) with
    | some places => some fun i => places.toArray[i]?
    | none => none
  | _ => none
theorem built_eq {P : Program} {t : TypeId} {z : Value} {place : Nat → Option (Nat × Nat)} {parts : List (Nat × Value)} (hz : zeroOf P t = some z) (hp : plcOf P t = some place) :
    P.built t parts = Instr.fill place z.cells parts := by
  unfold zeroOf at hz
  cases hi : P.info? t with
  | none => simp [hi] at hz
  | some it =>
    simp [hi] at hz
    unfold plcOf at hp
    split at hp
    · rename_i e hu
      split at hp
      · rename_i ie he
        simp at hp; subst hp; simp [Program.built, hi, hu, hz, he]
      · cases hp
    · rename_i fields hu
      split at hp
      · rename_i places he
        simp at hp; subst hp; simp [Program.built, hi, hu, hz, he]
      · cases hp
    · cases hp
def cmpPs (place : Nat → Option (Nat × Nat)) (zl : Nat) : List (Nat × Nat × X) → List (Nat × Operand) → Bool
  | [], [] => true
  | (o, m, x) :: ps, (i, y) :: ys => (match place i with | some (o', m') => o' == o && m' == m | none => false) && cmpX x y && decide (o + m ≤ zl) && cmpPs place zl ps ys
  | _, _ => false
def cmpB (P : Program) (t : TypeId) (z : List Value) (ps : List (Nat × Nat × X)) (parts : Array (Nat × Operand)) : Bool :=
  match zeroOf P t, plcOf P t with
  | some zv, some place => eqVs zv.cells.toList z && cmpPs place z.length ps parts.toList
  | _, _ => false

section
variable {P : Program} {w : World} {E : Env} {n : Nat → Prop} {ok : Nat → Prop}
theorem bld_run {place : Nat → Option (Nat × Nat)} {a : Act} {ρ : X → SV} : ∀ (ps : List (Nat × Nat × X)) (ys : List (Nat × Operand)) (z : List SV) (zv : List Value) (zl : Nat) (l : List SV),
    (∀ p ∈ ps, R w E n ok (ρ p.2.2) (evX a p.2.2)) → cmpPs place zl ps ys = true → zv.length = zl → RL w E n ok z zv → bldO ρ z ps = some l →
    RL w E n ok l (fillV zv (ps.map fun p => (p.1, evX a p.2.2))) ∧
      ∃ r : List (Nat × Value), r = ys.map (fun p => (p.1, a.eval p.2)) ∧ r.length = ps.length ∧
        ∀ i (h : i < r.length) (h' : i < (ps.map fun p => (p.1, evX a p.2.2)).length), ∃ m, place r[i].1 = some ((ps.map fun p => (p.1, evX a p.2.2))[i].1, m) ∧ r[i].2 = (ps.map fun p => (p.1, evX a p.2.2))[i].2 ∧
          r[i].2.cells.size = m ∧ (ps.map fun p => (p.1, evX a p.2.2))[i].1 + m ≤ zl
  | [], [], z, zv, zl, l, _, hc, hl, hz, hb => by
    simp only [bldO, Option.some.injEq] at hb; subst hb
    refine ⟨by simpa [fillV] using hz, [], rfl, rfl, fun i h => by simp at h⟩
  | (o, m, x) :: ps, (i, y) :: ys, z, zv, zl, l, hρ, hc, hl, hz, hb => by
    simp only [cmpPs, Bool.and_eq_true, decide_eq_true_eq] at hc
    obtain ⟨⟨⟨h1, h2⟩, h3⟩, h4⟩ := hc
    simp only [bldO] at hb
    split at hb
    · rename_i lx hlx
      cases hk : chk lx m
      · simp [hk] at hb
      · simp only [hk, cond_true] at hb
        have hR := R_cells (hρ (o, m, x) (by simp)) hlx
        have hsz : (evX a x).cells.size = m := by
          have := RL_length hR; rw [← Array.length_toList, this]; exact chk_eq hk
        obtain ⟨k1, r, k2, k3, k4⟩ := bld_run ps ys (splice z o lx) (spliceV zv o (evX a x).cells.toList) zl l (fun p hp => hρ p (by simp [hp])) h4 (by rw [spliceV_length]; exact hl) (RL_splice o hz hR) hb
        refine ⟨by simpa [fillV] using k1, (i, a.eval y) :: r, by simp [k2], by simp [k3], fun j hj hj' => ?_⟩
        cases j with
        | zero =>
          cases hp : place i with
          | none => simp [hp] at h1
          | some q =>
            obtain ⟨o', m'⟩ := q
            simp [hp] at h1; obtain ⟨rfl, rfl⟩ := h1
            exact ⟨m', by simp [hp], by simp [cmpX_sound h2 a], by simp [cmpX_sound h2 a, hsz], by simpa using h3⟩
        | succ j =>
          have q := k4 j (by simpa using hj) (by simpa using hj')
          simp only [List.getElem_map] at q
          simpa using q
    · cases hb
  | [], _ :: _, _, _, _, _, _, h, _, _, _ => by simp [cmpPs] at h
  | _ :: _, [], _, _, _, _, _, h, _, _, _ => by simp [cmpPs] at h
theorem build_run {t : TypeId} {z : List Value} {ps : List (Nat × Nat × X)} {parts : Array (Nat × Operand)} {a : Act} {ρ : X → SV} {l : List SV} (hρ : ∀ p ∈ ps, R w E n ok (ρ p.2.2) (evX a p.2.2))
    (hc : cmpB P t z ps parts = true) (hb : bld ρ (lit z) ps = some l) :
    ∃ y, (Instr.build t (parts.map fun (i, x) => (i, a.eval x))).run P w = .ok y w ∧ R w E n ok (.agg l) y := by
  unfold cmpB at hc
  split at hc
  · rename_i zv place hz hp
    simp only [Bool.and_eq_true] at hc
    have hzl := eqVs_sound hc.1
    have hRz : RL w E n ok (lit z) z := by rw [lit_eq]; exact RL_v z
    obtain ⟨k1, r, k2, k3, k4⟩ := bld_run (w := w) (E := E) (n := n) (ok := ok) ps parts.toList (lit z) z z.length l hρ hc.2 rfl hRz (bld_O ps hb)
    have hf := fill_eq place r (ps.map fun p => (p.1, evX a p.2.2)) zv.cells (by simp [k3]) (fun i h h' => by
      obtain ⟨m, q1, q2, q3, q4⟩ := k4 i h h'
      exact ⟨m, q1, q2, q3, by rw [← Array.length_toList, hzl]; exact q4⟩)
    refine ⟨_, run_build w t _ _ (by rw [built_eq hz hp]; rw [show (parts.map fun (i, x) => (i, a.eval x)).toList = r from by simp [k2]]; exact hf), ?_⟩
    simp only [R]
    exact ⟨_, rfl, by rw [hzl]; exact k1⟩
  · cases hc
end

def cmpXo : Option X → Option Operand → Bool
  | none, none => true
  | some x, some y => cmpX x y
  | _, _ => false
def eqOf (ng : Bool) (b : BinOp) : Bool := match ng, b with | false, .eql | true, .neq => true | _, _ => false
def cmpOp (P : Program) : SI → Op → Bool
  | .mv x, .move y => cmpX x y
  | .mv x, .assign y => cmpX x y
  | .pick c a b, .pick c' a' b' => cmpX c c' && cmpX a a' && cmpX b b'
  | .box x _ T, .box T' x' => T == T' && cmpX x x'
  | .alloc z T, .alloc T' => T == T' && (match zeroOf P T with | some v => eqVs v.cells.toList z | none => false)
  | .build z ps, .build t parts => cmpB P t z ps parts
  | .bsl m T ps, .buildSlice t len parts => (match P.underlying t with | some (.slice e) => e == T | _ => false) && szOf P T == some m && decide (len * m ≤ 2 ^ 24) && ps.length == len && m != 0 &&
      (match zeroOf P T with | some v => v.cells.size == m | none => false) && cmpXs ps (parts.toList.map (·.2)) && parts.toList.map (·.1) == List.range len
  | .ld x m ag, .load t y => cmpX x y && agOf P t == some ag && szOf P t == some m
  | .st x y m, .store t a v => cmpX x a && cmpX y v && szOf P t == some m
  | .nilc x, .nilCheck y => cmpX x y
  | .bin b x y, .binOp b' _ x' y' _ => b == b' && cmpX x x' && cmpX y y'
  | .div b x y, .binOp b' _ x' y' _ => b == b' && (b == .quo || b == .rem) && cmpX x x' && cmpX y y'
  | .un u x, .unOp u' _ y => u == u' && cmpX x y
  | .eqs ng ag cls x y, .binOp b t x' y' _ => eqOf ng b && eqT P 50 t == some cls && !(P.eqGuardType P.depth t) && agOf P t == some ag && (ag || cls == [0]) && cmpX x x' && cmpX y y'
  | .addo x o, .fieldAddr s y f => cmpX x y && offOf P s f == some o
  | .fld x o m ag, .field s y f => cmpX x y && (match fldOf P s f with | some (o', t) => o' == o && agOf P t == some ag && szOf P t == some m | none => false)
  | .idx x i len m ag, .index t y j => cmpX x y && cmpX i j && (match P.underlying t with | some (.array len' e) => len' == len && szOf P e == some m && agOf P e == some ag | _ => false)
  | .ixa x i len m, .indexAddr t y j => cmpX x y && cmpX i j && (match P.underlying t with | some (.array len' e) => len' == len && szOf P e == some m | _ => false)
  | .ixs x i m, .indexAddr t y j => cmpX x y && cmpX i j && (match P.underlying t with | some (.slice e) => szOf P e == some m | _ => false)
  | .len x, .call ⟨.builtin .len, as, ts⟩ => (match as.toList, ts[0]? with | [y], some t => cmpX x y && (match P.underlying t with | some (.slice _) => true | _ => false) | _, _ => false)
  | .app m b T x y, .call ⟨.builtin .append, as, ts⟩ => (match as.toList, ts.toList with | [x', y'], [t, t'] => t == t' && cmpX x x' && cmpX y y' && (match P.underlying t with | some (.slice e) => e == T | _ => false) | _, _ => false) && szOf P T == some m && bytesOf P T == some b && Nat.blt 0 b && (zeroOf P T).isSome
  | .cln m b T x y, .call ⟨.builtin .append, as, ts⟩ => (match as.toList, ts.toList with | [x', y'], [t, t'] => t == t' && cmpX x x' && cmpX y y' && (match P.underlying t with | some (.slice e) => e == T | _ => false) | _, _ => false) && szOf P T == some m && bytesOf P T == some b && Nat.blt 0 b && (match zeroOf P T with | some z => z.cells.size == m | none => false) && Nat.blt 0 m
  | .mks m b z T x, .makeSlice t y y' => cmpX x y && cmpX x y' && (match P.underlying t with | some (.slice e) => e == T | _ => false) && szOf P T == some m && bytesOf P T == some b && Nat.blt 0 b && Nat.blt 0 m && (match zeroOf P T with | some v => eqVs v.cells.toList z && v.cells.size == m | none => false)
  | .isn x, .binOp b t x' y _ => (match b with | .eql => true | _ => false) && cmpX x x' && (match y with | .const (.slice none 0 0) => true | _ => false) && (match P.underlying t with | some (.slice _) => true | _ => false)
  | .slc x h k, .slice t y none (some h') (some k') => cmpX x y && cmpX h h' && cmpX k k' && (match P.underlying t with | some (.slice e) => (P.info? e).isSome | _ => false)
  | .sub m x lo hi, .slice t y lo' hi' none => cmpX x y && cmpXo lo lo' && cmpXo hi hi' && (match P.underlying t with | some (.slice e) => szOf P e == some m | _ => false)
  | .mm mx xs, .call ⟨.builtin b, as, _⟩ => (match b with | .max => mx | .min => !mx | _ => false) && cmpXs xs as.toList
  | .call f xs, .call ⟨.value (.func g), as, _⟩ => f == g && cmpXs xs as.toList
  | .calv x xs, .call ⟨.value y, as, _⟩ => cmpX x y && cmpXs xs as.toList
  | .mkf f cs, .makeFunc fn first cap => (match fn with | .func g => f == g | _ => false) && first.isEmpty && cmpXs cs cap.toList
  | .conv k x, .convert s d y => cmpX x y && (P.underlying s).isSome && (match P.underlying d with | some (.int k') => k == k' | _ => false)
  | .ext x i, .extract y j => cmpX x y && i == j
  | _, _ => false

section
variable {P : Program} {w : World} {E : Env} {n : Nat → Prop} {ok : Nat → Prop}
theorem mm_run (mx : Bool) : ∀ (l : List SV) (ys : List Value) (k : IntKind) (x z : Int), RL w E n ok l ys → mmf mx x l = some z →
    ((ys.foldlM (if mx then Builtin.max2 else Builtin.min2) (.int k x)).run P w = .ok (.int k z) w)
  | [], ys, k, x, z, h, hz => by simp only [RL] at h; subst h; simp [mmf] at hz; subst hz; simp
  | s :: l, ys, k, x, z, h, hz => by
    simp only [RL] at h; obtain ⟨y, r, rfl, h1, h2⟩ := h
    cases s <;> try (simp [mmf] at hz; done)
    rename_i u
    cases u <;> try (simp [mmf] at hz; done)
    rename_i k' y'
    simp only [R] at h1; subst h1
    cases mx
    · simp only [mmf] at hz
      have := mm_run false l r k (min x y') z h2 hz
      simp only [List.foldlM_cons, Sem.run_bind] at this ⊢
      have e : ((if false = true then Builtin.max2 else Builtin.min2) (.int k x) (.int k' y')).run P w = .ok (.int k (min x y')) w := by
        simp only [Bool.false_eq_true, if_false, Builtin.min2, Sem.run_pure]
        congr 2; omega
      rw [e]; simpa using this
    · simp only [mmf] at hz
      have := mm_run true l r k (max x y') z h2 hz
      simp only [List.foldlM_cons, Sem.run_bind, if_true] at this ⊢
      have e : (Builtin.max2 (.int k x) (.int k' y')).run P w = .ok (.int k (max x y')) w := by
        simp only [Builtin.max2, Sem.run_pure]
        congr 2; omega
      rw [e]; simpa using this
theorem RL_mapX {ρ : X → SV} {a : Act} (l : List X) (hρ : ∀ x ∈ l, R w E n ok (ρ x) (evX a x)) : RL w E n ok (mapX ρ l) (l.map (evX a)) := by
  induction l with
  | nil => simp [mapX, RL]
  | cons x l ih => simp only [mapX, List.map_cons, RL]; exact ⟨_, _, rfl, hρ x (by simp), ih (fun y hy => hρ y (by simp [hy]))⟩
theorem eqLS_V : ∀ {cls : List Nat} {l l' : List SV} {ys ys' : List Value} {r : Bool}, RL w E n ok l ys → RL w E n ok l' ys' → eqLS cls l l' = some r → eqLV cls ys ys' = some r
  | [], [], [], ys, ys', r, h1, h2, h => by simp only [RL] at h1 h2; subst h1; subst h2; simpa [eqLS, eqLV] using h
  | c :: cs, x :: xs, y :: ys, zs, zs', r, h1, h2, h => by
    simp only [RL] at h1 h2
    obtain ⟨u, us, rfl, h1, h3⟩ := h1
    obtain ⟨v, vs, rfl, h2, h4⟩ := h2
    simp only [eqLS] at h
    obtain ⟨p, q, k1, k2, k3⟩ := eqA_some h
    have ih := eqLS_V h3 h4 k2
    have hc : eqCV c u v = some p := by
      unfold eqC at k1
      split at k1
      · simp only [R] at h1 h2; subst h1; subst h2; exact k1
      · simp only [R] at h1 h2; subst h1; subst h2
        rename_i k a j b
        cases hk : kbeq k j <;> rw [hk] at k1 <;> simp at k1
        have := kbeq_eq hk; subst this
        simp [eqCV, kbq, k1]
      · simp only [R] at h1 h2; subst h1; subst h2; exact k1
      · cases k1
    simp only [eqLV, hc, ih, eqA, k3]
  | [], _ :: _, _, _, _, _, _, _, h => by simp [eqLS] at h
  | [], [], _ :: _, _, _, _, _, _, h => by simp [eqLS] at h
  | _ :: _, [], _, _, _, _, _, _, h => by simp [eqLS] at h
  | _ :: _, _ :: _, [], _, _, _, _, _, h => by simp [eqLS] at h
theorem eqs_run {ng ag : Bool} {b : BinOp} {T : TypeId} {cls : List Nat} {s t r : SV} {x y : Value} (hx : R w E n ok s x) (hy : R w E n ok t y) (h : eqR ng (eqLO cls ag s t) = some r)
    (hb : eqOf ng b = true) (hT : eqT P 50 T = some cls) (hg : P.eqGuardType P.depth T = false) (ha : agOf P T = some ag) (ha' : ag = true ∨ cls = [0]) (ox oy : Operand) :
    ∃ v, (do eqGuard b T ox oy x y; binOp b T x y : Sem Value).run P w = .ok v w ∧ R w E n ok r v := by
  have key : ∃ q, eqLO cls ag s t = some q ∧ (eqGuard b T ox oy x y).run P w = .ok () w ∧ (binOp b T x y).run P w = .ok (.bool (if ng then !q else q)) w := by
    cases hq : eqLO cls ag s t with
    | none => rw [hq] at h; cases ng <;> simp [eqR, ngB] at h
    | some q =>
      refine ⟨q, rfl, ?_⟩
      obtain ⟨ag', a1, a2, a3⟩ := eqT_run 50 T cls hT Op.maxDepth (by decide)
      rw [ha] at a1; simp at a1; subst a1
      unfold eqLO at hq
      split at hq
      · rename_i l1 l2
        simp only [R] at hx hy
        obtain ⟨c1, rfl, hx⟩ := hx
        obtain ⟨c2, rfl, hy⟩ := hy
        have := a3 w _ _ _ (eqLS_V hx hy hq)
        simp only [mkV, if_true] at this
        have hrun : (Op.equal T (.agg c1) (.agg c2)).run P w = .ok q w := this
        refine ⟨?_, ?_⟩
        · unfold eqGuard; split <;> simp [Sem.run_bind, hg]
        · cases ng <;> cases b <;> simp [eqOf] at hb <;> simp [binOp, Sem.run_bind, hrun]
      · rename_i u v
        simp only [R] at hx hy; subst hx; subst hy
        simp at hq; subst hq
        rcases ha' with ha' | rfl
        · cases ha'
        · have := a3 w [.bool u] [.bool v] (u == v) (by simp [eqLV, eqCV, eqA])
          simp only [mkV, Bool.false_eq_true, if_false, List.headD_cons] at this
          have hrun : (Op.equal T (.bool u) (.bool v)).run P w = .ok (u == v) w := this
          refine ⟨?_, ?_⟩
          · unfold eqGuard; split <;> simp
          · cases ng <;> cases b <;> simp [eqOf] at hb <;> simp [binOp, Sem.run_bind, hrun]
      · cases hq
  obtain ⟨q, h0, k1, k2⟩ := key
  refine ⟨.bool (if ng then !q else q), by rw [Sem.run_bind, k1, Result.andThen_ok, k2], ?_⟩
  rw [h0] at h
  cases ng <;> simp [eqR, ngB] at h <;> subst h <;> simp [R]
theorem bini_run {b : BinOp} {s t r : SV} {x y : Value} (hx : R w E n ok s x) (hy : R w E n ok t y) (h : bini b s t = some r) (T : TypeId) (ox oy : Operand) :
    ∃ v, (do eqGuard b T ox oy x y; binOp b T x y : Sem Value).run P w = .ok v w ∧ R w E n ok r v := by
  unfold bini at h
  split at h
  · rename_i k u j v
    simp only [R] at hx hy; subst hx; subst hy
    cases hk : kbeq k j
    · simp [hk] at h
    · simp only [hk, cond_true] at h
      have := kbeq_eq hk; subst this
      have hg : (eqGuard b T ox oy (.int k u) (.int k v)).run P w = .ok () w := by
        unfold eqGuard; split <;> simp
      rw [Sem.run_bind, hg, Result.andThen_ok]
      cases b <;> simp [binr] at h <;> subst h <;>
        exact ⟨_, by simp [binOp, Op.intArith, Op.intCmp]; rfl, by simp [R]⟩
  · cases h
end

section
variable {P : Program} {w : World} {E : Env} {n : Nat → Prop} {ok : Nat → Prop}
theorem partS_run {l : List SV} {cs : Array Value} {o m : Nat} {ag : Bool} {s : SV} (h : RL w E n ok l cs.toList) (hp : partS l o m ag = some s) :
    ∃ c, (ag = false → cs[o]? = some c) ∧ R w E n ok s (if ag then .agg (cs.extract o (o + m)) else c) := by
  cases ag
  · simp only [partS, nth_eq] at hp
    obtain ⟨y, h1, h2⟩ := RL_get h hp
    exact ⟨y, fun _ => by simpa using h1, by simpa using h2⟩
  · simp only [partS] at hp
    cases hb : Nat.ble (o + m) l.length
    · simp [hb] at hp
    · simp only [hb, cond_true, Option.some.injEq] at hp; subst hp
      refine ⟨undef, (fun h => by cases h), ?_⟩
      simp only [if_true, R]
      refine ⟨_, rfl, ?_⟩
      have := RL_take m (RL_drop o h)
      simpa [Array.toList_extract, List.extract] using this
theorem nilcS_run {s r : SV} {x : Value} (h : R w E n ok s x) (hs : nilcS s = some r) : (∃ a, x = .pointer (some a)) ∧ R w E n ok r x := by
  cases s <;> simp [nilcS] at hs <;> subst hs
  case p k q => simp only [R] at h ⊢; exact ⟨⟨_, h.2⟩, h⟩
  case pr k m i q => have h' := h; simp only [R] at h; obtain ⟨_, b, l, c, _, h⟩ := h; exact ⟨⟨_, h⟩, h'⟩
  case ps row q => have h' := h; simp only [R] at h; obtain ⟨b, off, h, _⟩ := h; exact ⟨⟨_, h⟩, h'⟩
theorem addoS_run {s r : SV} {x : Value} {o S f : Nat} (h : R w E n ok s x) (hs : addoS o s = some r) (ho : offOf P S f = some o) :
    ∃ y, (Instr.fieldAt S x f).run P w = .ok y w ∧ R w E n ok r y := by
  cases s <;> simp [addoS] at hs <;> subst hs <;> simp only [R] at h
  case p k q => obtain ⟨h1, rfl⟩ := h; exact ⟨_, run_fieldAt ho, by simp [R, h1]⟩
  case pr k m i q => obtain ⟨h1, b, l, c, h2, rfl⟩ := h; exact ⟨_, run_fieldAt ho, by simp only [R]; exact ⟨h1, b, l, c, h2, by rw [Nat.add_assoc]⟩⟩
  case ps row q => obtain ⟨b, off, rfl, h2⟩ := h; exact ⟨_, run_fieldAt ho, by simp only [R]; exact ⟨b, off, by rw [Nat.add_assoc], h2⟩⟩
def opX : SI → List X
  | .mv x | .nilc x | .un _ x | .addo x _ | .fld x _ _ _ | .len x | .conv _ x | .ext x _ | .ld x _ _ | .box x _ _ => [x]
  | .build _ ps => ps.map (·.2.2)
  | .bsl _ _ ps => ps
  | .bin _ x y | .div _ x y | .eqs _ _ _ x y | .st x y _ | .app _ _ _ x y | .cln _ _ _ x y | .idx x y _ _ _ | .ixa x y _ _ | .ixs x y _ => [x, y]
  | .mm _ xs => xs
  | .mkf _ cs => cs
  | .call _ xs => xs
  | .calv x xs => x :: xs
  | .pick c a b => [c, a, b]
  | .mks _ _ _ _ x | .isn x => [x]
  | .slc x h k => [x, h, k]
  | .sub _ x lo hi => x :: (lo.toList ++ hi.toList)
  | .alloc _ _ | .raw _ _ => []
theorem pv_run {o : Oper} {a : Act} {ρ : X → SV} {i : SI} {s : SV} (hρ : ∀ x ∈ opX i, R w E n ok (ρ x) (evX a x)) (hc : cmpOp P i o.op = true) (hs : pv ρ i = some s) :
    ∃ y, (execOp a.eval o).run P w = .ok (.value y) w ∧ R w E n ok s y := by
  obtain ⟨dst, op, ty, pos, after, guard⟩ := o
  cases i <;> try (simp [pv] at hs; done)
  case mv x =>
    simp only [pv, Option.some.injEq] at hs; subst hs
    cases op <;> simp [cmpOp] at hc <;> exact ⟨_, by simp only [execOp, cmpX_sound hc a]; rfl, hρ x (by simp [opX])⟩
  case build z ps =>
    simp only [pv, bldE] at hs
    split at hs
    · rename_i l hl
      simp at hs; subst hs
      cases op <;> simp [cmpOp] at hc
      obtain ⟨y, h1, h2⟩ := build_run (fun p hp => hρ p.2.2 (by simp only [opX, List.mem_map]; exact ⟨p, hp, rfl⟩)) hc hl
      exact ⟨y, by simp only [execOp, Sem.run_bind, h1, Result.andThen_ok, Sem.run_pure], h2⟩
    · cases hs
  case nilc x =>
    simp only [pv] at hs
    cases op <;> simp [cmpOp] at hc
    obtain ⟨⟨ad, h1⟩, h2⟩ := nilcS_run (hρ x (by simp [opX])) hs
    exact ⟨_, by simp [execOp, cmpX_sound hc a, h1]; rfl, by rw [← h1]; exact h2⟩
  case bin b x y =>
    simp only [pv] at hs
    cases op <;> simp [cmpOp] at hc
    rename_i b' T x' y' T'
    obtain ⟨⟨rfl, hx⟩, hy⟩ := hc
    obtain ⟨v, h1, h2⟩ := bini_run (P := P) (hρ x (by simp [opX])) (hρ y (by simp [opX])) hs T x' y'
    exact ⟨v, by simp only [execOp, cmpX_sound hx a, cmpX_sound hy a]; rw [Sem.run_bind, h1]; rfl, h2⟩
  case eqs ng ag cls x y =>
    simp only [pv] at hs
    cases op <;> simp [cmpOp] at hc
    rename_i b' T x' y' T'
    obtain ⟨⟨⟨⟨⟨⟨h1, h2⟩, h3⟩, h4⟩, h5⟩, hx⟩, hy⟩ := hc
    obtain ⟨v, k1, k2⟩ := eqs_run (P := P) (hρ x (by simp [opX])) (hρ y (by simp [opX])) hs h1 h2 h3 h4 h5 x' y'
    exact ⟨v, by simp only [execOp, cmpX_sound hx a, cmpX_sound hy a]; rw [Sem.run_bind, k1]; rfl, k2⟩
  case un u x =>
    simp only [pv] at hs
    cases op <;> simp [cmpOp] at hc
    obtain ⟨rfl, hx⟩ := hc
    have hr := hρ x (by simp [opX])
    cases hsx : ρ x <;> rw [hsx] at hs hr <;> try (simp [uni] at hs; done)
    rename_i v
    simp only [R] at hr
    cases v <;> try (simp [uni] at hs; done)
    all_goals
      cases u <;> simp [uni] at hs <;> subst hs
      exact ⟨_, by simp [execOp, cmpX_sound hx a, hr, Op.unary, Op.intArith]; rfl, by simp [R]⟩
  case addo x off =>
    simp only [pv] at hs
    cases op <;> simp [cmpOp] at hc
    obtain ⟨y, h1, h2⟩ := addoS_run (hρ x (by simp [opX])) hs hc.2
    exact ⟨y, by simp only [execOp, cmpX_sound hc.1 a, Sem.run_bind, h1, Result.andThen_ok, Sem.run_pure], h2⟩
  case fld x off m ag =>
    simp only [pv] at hs
    cases op <;> simp [cmpOp] at hc
    rename_i S y f
    obtain ⟨hx, hc⟩ := hc
    split at hs
    · rename_i l hl
      have hr := hρ x (by simp [opX]); rw [hl] at hr; simp only [R] at hr
      obtain ⟨cs, h1, h2⟩ := hr
      cases hf : fldOf P S f with
      | none => simp [hf] at hc
      | some q =>
        obtain ⟨o', t⟩ := q
        simp [hf] at hc
        obtain ⟨⟨rfl, ha⟩, hz⟩ := hc
        obtain ⟨c, k1, k2⟩ := partS_run h2 hs
        exact ⟨_, by simp only [execOp, cmpX_sound hx a, h1, Sem.run_bind, run_field hf ha hz c k1, Result.andThen_ok, Sem.run_pure], k2⟩
    · cases hs
  case len x =>
    simp only [pv] at hs
    split at hs
    · rename_i m xs hl
      simp at hs; subst hs
      have hr := hρ x (by simp [opX]); rw [hl] at hr; simp only [R] at hr
      obtain ⟨ad, len, cap, h1, h2, _⟩ := hr
      cases op <;> simp [cmpOp] at hc
      rename_i c
      obtain ⟨callee, as, ts⟩ := c
      cases callee <;> try (simp at hc; done)
      rename_i b
      cases b <;> try (simp at hc; done)
      simp only at hc
      split at hc
      · rename_i y t e1 e2
        simp only [Bool.and_eq_true] at hc
        obtain ⟨hx, hu⟩ := hc
        split at hu
        · rename_i e hu'
          have he : as.map a.eval = #[evX a x] := by
            apply Array.toList_inj.1; simp [e1, cmpX_sound hx a]
          refine ⟨_, by simp [execOp, resolve, he, invoke, builtin, Builtin.len_, e2, run_underlying hu', h1]; rfl, ?_⟩
          simp only [R]; rw [h2]; rfl
        · cases hu
      · cases hc
    · cases hs
  case mm mx xs =>
    simp only [pv] at hs
    have hl := RL_mapX xs (fun x hx => hρ x (by simpa [opX] using hx))
    cases op <;> simp [cmpOp] at hc
    rename_i c
    obtain ⟨callee, as, ts⟩ := c
    cases callee <;> try (simp at hc; done)
    rename_i b
    simp only [Bool.and_eq_true] at hc
    have he : (as.map a.eval).toList = xs.map (evX a) := by simp [cmpXs_sound hc.2 a]
    unfold mmS at hs
    split at hs
    · rename_i k x r hm
      rw [hm] at hl
      simp only [RL] at hl
      obtain ⟨y, ys, e1, e2, e3⟩ := hl
      simp only [R] at e2; subst e2
      split at hs
      · rename_i z hz
        simp at hs; subst hs
        have hrun := mm_run (P := P) mx r ys k x z e3 hz
        have hargs : (as.map a.eval) = (Value.int k x :: ys).toArray := by
          apply Array.toList_inj.1; rw [he, e1]
        cases b <;> simp at hc
        · obtain ⟨rfl, _⟩ := hc
          exact ⟨_, by simp only [execOp, resolve, hargs, invoke, builtin, Builtin.max_, Sem.run_bind, Sem.run_pure, Result.andThen_ok]; simp only [if_true] at hrun; rw [hrun]; rfl, by simp [R]⟩
        · obtain ⟨rfl, _⟩ := hc
          exact ⟨_, by simp only [execOp, resolve, hargs, invoke, builtin, Builtin.min_, Sem.run_bind, Sem.run_pure, Result.andThen_ok]; simp only [Bool.false_eq_true, if_false] at hrun; rw [hrun]; rfl, by simp [R]⟩
      · cases hs
    · cases hs
  case mkf f cs =>
    simp only [pv, Option.some.injEq] at hs; subst hs
    cases op <;> simp [cmpOp] at hc
    rename_i fn first cap
    obtain ⟨⟨h1, h2⟩, h3⟩ := hc
    cases fn <;> simp at h1
    subst h1; subst h2
    refine ⟨_, by simp only [execOp, Instr.makeFunc, Sem.run_bind, Sem.run_pure, Result.andThen_ok]; rfl, ?_⟩
    simp only [R]
    refine ⟨cap.map a.eval, by simp, ?_⟩
    have := RL_mapX cs (fun x hx => hρ x (by simpa [opX] using hx))
    rw [Array.toList_map, cmpXs_sound h3 a]; exact this
  case conv k x =>
    simp only [pv] at hs
    split at hs
    · rename_i k0 m hm
      simp at hs; subst hs
      have hr := hρ x (by simp [opX]); rw [hm] at hr; simp only [R] at hr
      cases op <;> simp [cmpOp] at hc
      rename_i sT dT y
      obtain ⟨⟨hx, hsu⟩, hd⟩ := hc
      split at hd
      · rename_i k' hd'
        simp at hd; subst hd
        obtain ⟨ds, hds⟩ := Option.isSome_iff_exists.1 hsu
        have hrun : (convert sT dT (.int k0 m)).run P w = .ok (.int k (k.wrap m)) w := by
          cases ds <;> simp [convert, run_underlying hds, run_underlying hd', Conv.intToInt]
        exact ⟨_, by simp only [execOp, cmpX_sound hx a, hr]; rw [Sem.run_bind, hrun]; rfl, by simp [R]⟩
      · cases hd
    · cases hs
  case ext x j =>
    simp only [pv] at hs
    split at hs
    · rename_i l hl
      have hr := hρ x (by simp [opX]); rw [hl] at hr; simp only [R] at hr
      obtain ⟨cs, h1, h2⟩ := hr
      rw [nth_eq] at hs
      obtain ⟨y, h3, h4⟩ := RL_get h2 hs
      cases op <;> simp [cmpOp] at hc
      obtain ⟨hx, rfl⟩ := hc
      have h3' : cs[j]? = some y := by simpa using h3
      exact ⟨y, by simp [execOp, cmpX_sound hx a, h1, Instr.extract, h3'], h4⟩
    · cases hs
end

/-! ## contracts -/
mutual
def KF : SV → Prop
  | .v _ => True
  | .p _ _ => False
  | .agg l => KFL l
  | .sl _ _ xs => KFR xs
  | .mr _ => False
  | .pr _ _ _ _ => False
  | .ps row _ => KFL row
  | .cl _ caps => KFL caps
  | .tup l => KFL l
  | .q _ => True
  | .gd _ _ _ => False
  | .any => True
def KFL : List SV → Prop
  | [] => True
  | s :: l => KF s ∧ KFL l
def KFR : List (List SV) → Prop
  | [] => True
  | r :: rs => KFL r ∧ KFR rs
end
def E0 : Env := ⟨fun _ => 0, fun _ => undef⟩
section
variable {w : World} {E E' : Env} {n n' : Nat → Prop} {ok : Nat → Prop}
mutual
theorem R_kf : ∀ (s : SV) (y : Value), KF s → R w E n ok s y → R w E' n' ok s y
  | .v x, y, _, h => by simpa [R] using h
  | .p k o, y, k0, h => by simp [KF] at k0
  | .agg l, y, k0, h => by simp only [R, KF] at *; obtain ⟨cs, h1, h2⟩ := h; exact ⟨cs, h1, RL_kf l _ k0 h2⟩
  | .sl c m xs, y, k0, h => by
    simp only [R, KF] at *
    obtain ⟨a, len, cap, h1, h2, h3, h4, h5⟩ := h
    refine ⟨a, len, cap, h1, h2, h3, h4, ?_⟩
    rcases h5 with h5 | ⟨b, off, h5, h6⟩
    · exact .inl h5
    · exact .inr ⟨b, off, h5, RR_kf b m xs _ k0 h6⟩
  | .mr k, y, k0, h => by simp [KF] at k0
  | .pr k m i o, y, k0, h => by simp [KF] at k0
  | .ps row o, y, k0, h => by
    simp only [R, KF] at *
    obtain ⟨b, off, h1, cs, h2, h3⟩ := h
    exact ⟨b, off, h1, cs, RL_kf row _ k0 h2, h3⟩
  | .cl f caps, y, k0, h => by simp only [R, KF] at *; obtain ⟨cs, h1, h2⟩ := h; exact ⟨cs, h1, RL_kf caps _ k0 h2⟩
  | .tup l, y, k0, h => by simp only [R, KF] at *; obtain ⟨cs, h1, h2⟩ := h; exact ⟨cs, h1, RL_kf l _ k0 h2⟩
  | .q φ, y, _, h => by simpa [R] using h
  | .gd _ _ _, y, k0, h => by simp [KF] at k0
  | .any, y, _, h => by simp [R]
theorem RL_kf : ∀ (l : List SV) (ys : List Value), KFL l → RL w E n ok l ys → RL w E' n' ok l ys
  | [], ys, _, h => by simpa [RL] using h
  | s :: l, ys, k0, h => by
    simp only [RL, KFL] at *; obtain ⟨y, r, h1, h2, h3⟩ := h; exact ⟨y, r, h1, R_kf s y k0.1 h2, RL_kf l r k0.2 h3⟩
theorem RR_kf (b m : Nat) : ∀ (xs : List (List SV)) (off : Nat), KFR xs → RR w E n ok b m xs off → RR w E' n' ok b m xs off
  | [], off, _, h => by simp [RR]
  | row :: rs, off, k0, h => by
    simp only [RR, KFR] at *
    obtain ⟨h0, ⟨cs, h1, h2⟩, h3⟩ := h
    exact ⟨h0, ⟨cs, RL_kf row cs k0.1 h1, h2⟩, RR_kf b m rs _ k0.2 h3⟩
end
end

/-- the contract of a function: of values it makes a value; of memory it makes new blocks alone -/
def bodyB (P : Program) (f : FuncId) : Bool := match P.funcs[f]? with | some fn => !(fn.name == "runtime.NumGoroutine") && fn.body.isSome | none => false
structure Ct (P : Program) (f : FuncId) (args : List SV) (res : SV) : Prop where
  bd : bodyB P f = true
  ka : KFL args
  kr : KF res
  run : ∀ w ok vs, RL w E0 (fun _ => False) ok args vs → Calls P f vs.toArray w fun e w' =>
    ∃ y, e = .returned y ∧ R w' E0 (fun _ => False) (fun b => ok b ∨ w.heap.size ≤ b) res y ∧ Below w.heap.size w w'

/-! ## the executor -/
structure Ins where
  d : Option Nat
  i : SI
  g : Option (Nat × Bool)
  af : List Nat

def memb (t : Nat) : List Nat → Bool
  | [] => false
  | u :: r => bif Nat.beq t u then true else memb t r
def rd (fr : List (Nat × SV)) : X → SV
  | .t n => lk n fr
  | .c x => .v x
  | .f i => .cl i []
def bbq : Bool → Bool → Bool
  | true, true => true
  | false, false => true
  | _, _ => false
def alwS : Bool → SV → (Nat → Bool → Nat → Bool → Bool) → Nat → Bool → Bool
  | true, _, _, _, _ => true
  | false, .gd j' w' _, h, j, w => h j' w' j w
  | false, _, _, _, _ => false
def sameG : Bool → Bool → Bool → Bool
  | true, a, b => bbq a b
  | false, _, _ => false
def alw : Nat → List (Nat × SV) → Nat → Bool → Nat → Bool → Bool
  | 0, _, _, _, _, _ => false
  | f + 1, fr, j0, w0, j, w => alwS (sameG (Nat.beq j0 j) w0 w) (lk j0 fr) (alw f fr) j w
def orAny : Bool → SV → SV
  | true, s => s
  | false, _ => .any
def strip (g : Option (Nat × Bool)) (fr : List (Nat × SV)) : SV → SV
  | .gd j w s => match g with
    | none => .any
    | some (j0, w0) => orAny (alw 8 fr j0 w0 j w) s
  | s => s
def rdG (g : Option (Nat × Bool)) (fr : List (Nat × SV)) (x : X) : SV := strip g fr (rd fr x)
def geP (g : Option (Nat × Bool)) (fr : List (Nat × SV)) : Prop :=
  match g with
  | none => True
  | some (j, w) => ge fr j w
def impP (g : Option (Nat × Bool)) (fr : List (Nat × SV)) (p : Prop) : Prop :=
  match g with
  | none => p
  | some (j, w) => ge fr j w → p
theorem impP_iff {g : Option (Nat × Bool)} {fr : List (Nat × SV)} {p : Prop} : impP g fr p ↔ (geP g fr → p) := by
  cases g <;> simp [impP, geP]

abbrev KT := St → (St → Prop) → Prop
def gdS : SV → Bool
  | .gd _ _ _ => true
  | .v _ => false
  | .p _ _ => false
  | .agg _ => false
  | .sl _ _ _ => false
  | .mr _ => false
  | .pr _ _ _ _ => false
  | .ps _ _ => false
  | .cl _ _ => false
  | .tup _ => false
  | .q _ => false
  | .any => false
theorem gdS_ne {s : SV} (h : gdS s = false) : ∀ j b u, s ≠ .gd j b u := by rintro j b u rfl; cases h
def putB : Bool → Bool → Bool → Nat → SV → St → KT → (St → Prop) → Prop
  | false, true, false, t, s, σ, r, K => r ⟨(t, s) :: σ.fr, σ.hp, σ.n, σ.N, σ.gs⟩ K
  | _, _, _, _, _, _, _, _ => False
def putG : Bool → Bool → Bool → Nat → Nat → Bool → SV → St → KT → (St → Prop) → Prop
  | false, true, false, t, j, w, s, σ, r, K => r ⟨(t, .gd j w s) :: σ.fr, σ.hp, σ.n, σ.N, j :: σ.gs⟩ K
  | _, _, _, _, _, _, _, _, _, _ => False
def putK (d : Option Nat) (s : SV) (g : Option (Nat × Bool)) (σ : St) (r : KT) (K : St → Prop) : Prop :=
  match d, g with
  | none, none => r σ K
  | none, some _ => False
  | some t, none => putB (memb t σ.gs) (Nat.blt t σ.N) (gdS s) t s σ r K
  | some t, some (j, w) => putG (memb t σ.gs) (Nat.blt t σ.N) (Nat.beq t j) t j w s σ r K
def putO (o : Option SV) (d : Option Nat) (g : Option (Nat × Bool)) (σ : St) (r : KT) (K : St → Prop) : Prop :=
  match o with
  | some s => putK d s g σ r K
  | none => False

mutual
/-- a value that leads to no memory -/
def FLT : SV → Prop
  | .v _ => True
  | .agg l => FLTL l
  | .tup l => FLTL l
  | .any => True
  | .p _ _ => False
  | .sl _ _ _ => False
  | .mr _ => False
  | .pr _ _ _ _ => False
  | .ps _ _ => False
  | .cl _ _ => False
  | .q _ => False
  | .gd _ _ _ => False
def FLTL : List SV → Prop
  | [] => True
  | s :: l => FLT s ∧ FLTL l
end
def mapS (g : SV → SV) : List SV → List SV
  | [] => []
  | s :: l => g s :: mapS g l
/-- a value as a callee sees it, that reads through it alone -/
def vwS (hp : List (Nat × HB)) (g : SV → SV) : SV → SV
  | .p k o => match lkh k hp with
    | .cells l _ => .ps (mapS g l) o
    | _ => .any
  | .mr k => match lkh k hp with
    | .row m xs _ => .sl false m xs
    | _ => .any
  | .agg l => .agg (mapS g l)
  | .tup l => .tup (mapS g l)
  | .cl f l => .cl f (mapS g l)
  | .ps l o => .ps (mapS g l) o
  | .v x => .v x
  | .sl c m xs => .sl c m xs
  | .q φ => .q φ
  | .pr k m i o => .pr k m i o
  | .gd _ _ _ => .any
  | .any => .any
def vw0 : SV → SV
  | .v x => .v x
  | .sl c m xs => .sl c m xs
  | .q φ => .q φ
  | _ => .any
def vw1 (hp : List (Nat × HB)) (s : SV) : SV := vwS hp vw0 s
def vw2 (hp : List (Nat × HB)) (s : SV) : SV := vwS hp (vw1 hp) s
def vw3 (hp : List (Nat × HB)) (s : SV) : SV := vwS hp (vw2 hp) s
def vw4 (hp : List (Nat × HB)) (s : SV) : SV := vwS hp (vw3 hp) s
/-- places where the executor stands and is told how to go on -/
def CALL (P : Program) (g : Option (Nat × Bool)) (f : FuncId) (args : List SV) (d : Option Nat) (σ : St) (r : KT) (K : St → Prop) : Prop :=
  ∃ res, (impP g σ.fr (Ct P f args res) ∨ (FLT res ∧ impP g σ.fr (Ct P f (mapS (vw4 σ.hp) args) res))) ∧ putK d res g σ r K
def IXS (g : Option (Nat × Bool)) (xs : List (List SV)) (i : Int) (d : Option Nat) (σ : St) (r : KT) (K : St → Prop) : Prop :=
  ∃ row, impP g σ.fr (∃ n : Nat, i = (n : Int) ∧ xs[n]? = some row) ∧ putK d (.ps row 0) g σ r K
def IXR (g : Option (Nat × Bool)) (k m len : Nat) (i : Int) (d : Option Nat) (σ : St) (r : KT) (K : St → Prop) : Prop :=
  ∃ n : Nat, impP g σ.fr (i = (n : Int) ∧ n < len) ∧ putK d (.pr k m n 0) g σ r K
def IXA (g : Option (Nat × Bool)) (len : Nat) (i : Int) (F : Nat → Option SV) (d : Option Nat) (σ : St) (r : KT) (K : St → Prop) : Prop :=
  ∃ n : Nat, impP g σ.fr (i = (n : Int) ∧ n < len) ∧ putO (F n) d g σ r K
def LDR (g : Option (Nat × Bool)) (xs : List (List SV)) (i o m : Nat) (ag : Bool) (d : Option Nat) (σ : St) (r : KT) (K : St → Prop) : Prop :=
  ∃ row, impP g σ.fr (xs[i]? = some row) ∧ putO (partS row o m ag) d g σ r K
def divr (b : BinOp) (k : IntKind) (x y : Int) : Int := match b with | .quo => k.wrap (x.tdiv y) | _ => x.tmod y
def DIV (g : Option (Nat × Bool)) (b : BinOp) (k : IntKind) (x y : Int) (d : Option Nat) (σ : St) (r : KT) (K : St → Prop) : Prop :=
  impP g σ.fr (y ≠ 0) ∧ putK d (.v (.int k (divr b k x y))) g σ r K

def pickO (a b : SV) : Option SV :=
  match a, b with
  | .v (.bool x), .v (.bool y) => some (.v (.bool (x || y)))
  | _, _ => none
def pickA (a b : SV) : Option SV :=
  match a, b with
  | .v (.bool x), .v (.bool y) => some (.v (.bool (x && y)))
  | _, _ => none
def pickS (fr : List (Nat × SV)) (g : Option (Nat × Bool)) (c a b : X) : Option SV :=
  match c, a, b with
  | .t t, .c (.bool true), b => pickO (rdG g fr (.t t)) (rdG (some (t, false)) fr b)
  | .t t, a, .c (.bool false) => pickA (rdG g fr (.t t)) (rdG (some (t, true)) fr a)
  | _, _, _ => none
def bslC : Option (List SV) → Nat → Option (List (List SV)) → Option (List (List SV))
  | some l, m, some ls => bif chk l m then some (l :: ls) else none
  | _, _, _ => none
def bslR (ρ : X → SV) (m : Nat) : List X → Option (List (List SV))
  | [] => some []
  | x :: r => bslC (cellsO (ρ x)) m (bslR ρ m r)
def bslS (m : Nat) : Option (List (List SV)) → Option SV
  | some rows => some (.sl true m rows)
  | none => none
section
variable (P : Program) (g : Option (Nat × Bool)) (d : Option Nat) (σ : St) (r : KT) (K : St → Prop)
def calvK (s : SV) (args : List SV) : Prop :=
  match s with
  | .cl f caps => CALL P g f (args ++ caps) d σ r K
  | _ => False
def ixrB (b : Bool) (k m len : Nat) (j : Int) : Prop :=
  match b with
  | true => IXR g k m len j d σ r K
  | false => False
def ixrK (hb : HB) (k m : Nat) (j : Int) : Prop :=
  match hb with
  | .row m' xs _ => ixrB g d σ r K (Nat.beq m m') k m xs.length j
  | _ => False
def ixsB (b : Bool) (xs : List (List SV)) (j : Int) : Prop :=
  match b with
  | true => IXS g xs j d σ r K
  | false => False
def ixsK (i x : SV) (m : Nat) : Prop :=
  match i, x with
  | .v (.int _ j), .sl _ m' xs => ixsB g d σ r K (Nat.beq m m') xs j
  | .v (.int _ j), .mr k => ixrK g d σ r K (lkh k σ.hp) k m j
  | _, _ => False
def ixaK (i x : SV) (len m : Nat) : Prop :=
  match i with
  | .v (.int _ j) => IXA g len j (fun n => addoS (n * m) x) d σ r K
  | _ => False
def idxK (i x : SV) (len m : Nat) (ag : Bool) : Prop :=
  match i, x with
  | .v (.int _ j), .agg l => IXA g len j (fun n => partS l (n * m) m ag) d σ r K
  | _, _ => False
def ldC (hb : HB) (o m : Nat) (ag : Bool) : Prop :=
  match hb with
  | .cells l _ => putO (partS l o m ag) d g σ r K
  | _ => False
def ldB (b : Bool) (xs : List (List SV)) (i o m : Nat) (ag : Bool) : Prop :=
  match b with
  | true => LDR g xs i o m ag d σ r K
  | false => False
def ldR (hb : HB) (m' i o m : Nat) (ag : Bool) : Prop :=
  match hb with
  | .row m'' xs _ => ldB g d σ r K (Nat.beq m' m'') xs i o m ag
  | _ => False
def ldK (x : SV) (m : Nat) (ag : Bool) : Prop :=
  match x with
  | .p k o => ldC g d σ r K (lkh k σ.hp) o m ag
  | .ps row o => putO (partS row o m ag) d g σ r K
  | .pr k m' i o => ldR g d σ r K (lkh k σ.hp) m' i o m ag
  | _ => False
def divB (c : Bool) (b : BinOp) (k : IntKind) (u v : Int) : Prop :=
  match c with
  | true => DIV g b k u v d σ r K
  | false => False
def divK (b : BinOp) (x y : SV) : Prop :=
  match x, y with
  | .v (.int k u), .v (.int j v) => divB g d σ r K (kbeq k j) b k u v
  | _, _ => False
def lenR (hb : HB) : Prop :=
  match hb with
  | .row _ xs _ => putK d (.v (.int .i64 xs.length)) g σ r K
  | _ => False
def lenK (x : SV) : Prop :=
  match x with
  | .mr k => lenR g d σ r K (lkh k σ.hp)
  | .sl _ _ xs => putK d (.v (.int .i64 xs.length)) g σ r K
  | _ => False
end
def rowB (xs : List (List SV)) : Bool → Option (List (List SV))
  | true => some xs
  | false => none
def sprH (m : Nat) : HB → Option (List (List SV))
  | .row m' xs _ => rowB xs (Nat.beq m m')
  | .cells _ _ => none
  | .ob _ => none
  | .gone => none
def sprS (m : Nat) (hp : List (Nat × HB)) : SV → Option (List (List SV))
  | .sl _ m' xs => rowB xs (Nat.beq m m')
  | .v (.slice none 0 0) => some []
  | .mr k => sprH m (lkh k hp)
  | _ => none
def sprV (m : Nat) : SV → Option (List (List SV))
  | .sl _ m' xs => rowB xs (Nat.beq m m')
  | .v (.slice none 0 0) => some []
  | _ => none
def basS (m : Nat) : SV → Option (List (List SV))
  | .sl true m' xs => rowB xs (Nat.beq m m')
  | .v (.slice none 0 0) => some []
  | _ => none
def APP (g : Option (Nat × Bool)) (m b : Nat) (xs ys : List (List SV)) (d : Option Nat) (σ : St) (r : KT) (K : St → Prop) : Prop :=
  impP g σ.fr ((xs.length + ys.length) * b ≤ 140737488355328) ∧ putK d (.sl false m (xs ++ ys)) g σ r K
def appK (g : Option (Nat × Bool)) (m b : Nat) (x y : Option (List (List SV))) (d : Option Nat) (σ : St) (r : KT) (K : St → Prop) : Prop :=
  match x, y with
  | some xs, some ys => APP g m b xs ys d σ r K
  | some _, none => False
  | none, _ => False
def SLC (g : Option (Nat × Bool)) (n h : Int) (m : Nat) (xs : List (List SV)) (d : Option Nat) (σ : St) (r : KT) (K : St → Prop) : Prop :=
  impP g σ.fr (n = xs.length ∧ h = xs.length) ∧ putK d (.sl true m xs) g σ r K
def slcK (g : Option (Nat × Bool)) (x h k : SV) (d : Option Nat) (σ : St) (r : KT) (K : St → Prop) : Prop :=
  match x, h, k with
  | .sl _ m xs, .v (.int _ n), .v (.int _ j) => SLC g n j m xs d σ r K
  | _, _, _ => False
def SUB (g : Option (Nat × Bool)) (lo hi : Int) (m : Nat) (xs : List (List SV)) (d : Option Nat) (σ : St) (r : KT) (K : St → Prop) : Prop :=
  ∃ i j : Nat, impP g σ.fr (lo = i ∧ hi = j ∧ i ≤ j ∧ j ≤ xs.length) ∧ putK d (.sl false m ((xs.take j).drop i)) g σ r K
def intO (dflt : Int) (ρ : X → SV) : Option X → Option Int
  | none => some dflt
  | some x => match ρ x with
    | .v (.int _ n) => some n
    | _ => none
def subJ (g : Option (Nat × Bool)) (m : Nat) (xs : List (List SV)) (lo hi : Option Int) (d : Option Nat) (σ : St) (r : KT) (K : St → Prop) : Prop :=
  match lo, hi with
  | some i, some j => SUB g i j m xs d σ r K
  | some _, none => False
  | none, _ => False
def subK (g : Option (Nat × Bool)) (m : Nat) (ρ : X → SV) (lo hi : Option X) (x : SV) (d : Option Nat) (σ : St) (r : KT) (K : St → Prop) : Prop :=
  match x with
  | .sl _ m' xs => bif Nat.beq m m' then subJ g m xs (intO 0 ρ lo) (intO xs.length ρ hi) d σ r K else False
  | _ => False
/-- operations that give a value and write nothing that was there -/
def stpV (P : Program) (g : Option (Nat × Bool)) (d : Option Nat) (i : SI) (σ : St) (r : KT) (K : St → Prop) : Prop :=
  match i with
  | .call f as => CALL P g f (mapX (rdG g σ.fr) as) d σ r K
  | .calv x as => calvK P g d σ r K (rdG g σ.fr x) (mapX (rdG g σ.fr) as)
  | .pick c a b => putO (pickS σ.fr g c a b) d g σ r K
  | .bsl m _ ps => putO (bslS m (bslR (rdG g σ.fr) m ps)) d g σ r K
  | .ixs x i m => ixsK g d σ r K (rdG g σ.fr i) (rdG g σ.fr x) m
  | .ixa x i len m => ixaK g d σ r K (rdG g σ.fr i) (rdG g σ.fr x) len m
  | .idx x i len m ag => idxK g d σ r K (rdG g σ.fr i) (rdG g σ.fr x) len m ag
  | .ld x m ag => ldK g d σ r K (rdG g σ.fr x) m ag
  | .div b x y => divK g d σ r K b (rdG g σ.fr x) (rdG g σ.fr y)
  | .len x => lenK g d σ r K (rdG g σ.fr x)
  | .mv x => putK d (rdG g σ.fr x) g σ r K
  | .build z ps => putO (pv (rdG g σ.fr) (.build z ps)) d g σ r K
  | .nilc x => putO (nilcS (rdG g σ.fr x)) d g σ r K
  | .bin b x y => putO (bini b (rdG g σ.fr x) (rdG g σ.fr y)) d g σ r K
  | .un u x => putO (uni u (rdG g σ.fr x)) d g σ r K
  | .addo x o => putO (addoS o (rdG g σ.fr x)) d g σ r K
  | .fld x o m ag => putO (pv (rdG g σ.fr) (.fld x o m ag)) d g σ r K
  | .mm mx xs => putO (mmS mx (mapX (rdG g σ.fr) xs)) d g σ r K
  | .mkf f cs => putK d (.cl f (mapX (rdG g σ.fr) cs)) g σ r K
  | .conv k x => putO (pv (rdG g σ.fr) (.conv k x)) d g σ r K
  | .ext x i => putO (pv (rdG g σ.fr) (.ext x i)) d g σ r K
  | .slc x h k => slcK g (rdG g σ.fr x) (rdG g σ.fr h) (rdG g σ.fr k) d σ r K
  | .sub m x lo hi => subK g m (rdG g σ.fr) lo hi (rdG g σ.fr x) d σ r K
  | .cln _ _ _ _ _ => False
  | .mks _ _ _ _ _ => False
  | .isn _ => False
  | .app m b _ x y => appK g m b (basS m (rdG g σ.fr x)) (sprS m σ.hp (rdG g σ.fr y)) d σ r K
  | .box _ _ _ => False
  | .alloc _ _ => False
  | .st _ _ _ => False
  | .eqs ng ag cls x y => putO (eqR ng (eqLO cls ag (rdG g σ.fr x) (rdG g σ.fr y))) d g σ r K
  | .raw _ _ => False

section
variable {C : Cx} {E : Env} {hp : List (Nat × HB)} {n : Nat → Prop} {w w' : World}
theorem occ_lt (h : HSim C E hp n w) {k b : Nat} (ho : occ E k (lkh k hp) b) : b < w.heap.size := by
  have hb := h.bk k
  have lt_of {o : Obj} {b : Nat} (hh : w.heap[b]? = some o) : b < w.heap.size := (Array.getElem?_eq_some_iff.1 hh).1
  cases hk : lkh k hp <;> rw [hk] at ho hb <;> simp only [occ, HBok] at ho hb
  · obtain ⟨cs, h1, _⟩ := hb; subst ho; exact lt_of h1
  · obtain ⟨len, cap, h1, h0⟩ := ho
    rcases hb with ⟨_, _, h2⟩ | ⟨b', cap', cs, h2, h3, _⟩
    · rw [h2] at h1; simp only [Value.slice.injEq] at h1; exact absurd h1.2.2.symm h0
    · rw [h2] at h1; simp at h1; obtain ⟨rfl, _⟩ := h1; exact lt_of h3
  · obtain ⟨o, h1, _⟩ := hb; subst ho; exact lt_of h1
theorem okS_fresh (h : HSim C E hp n w) {b : Nat} (hb : w.heap.size ≤ b) : okS C E hp b :=
  ⟨.inr (Nat.le_trans h.kp.size hb), fun k ho => by have := occ_lt h ho; omega⟩
theorem stays_below {ok : Nat → Prop} (h : Below w.heap.size w w') : Stays w w' ok ok := fun b hb hs =>
  ⟨hb, h.block b (by
    obtain ⟨o, ho⟩ := Option.isSome_iff_exists.1 hs
    exact (Array.getElem?_eq_some_iff.1 ho).1)⟩
theorem keeps_below (h : Keeps C w) (hb : Below w.heap.size w w') : Keeps C w' :=
  ⟨hb.os.trans h.os, hb.tape.trans h.tape, hb.output.trans h.output, Nat.le_trans h.size hb.size, fun b h1 h2 => (hb.block b (Nat.lt_of_lt_of_le h1 h.size)).trans (h.block b h1 h2)⟩
theorem HBok_mono {E' : Env} {n' : Nat → Prop} {ok ok' : Nat → Prop} {k : Nat} {hb : HB} (hs : Stays w w' ok ok') (hE : ∀ k, n k → E'.β k = E.β k ∧ E'.hv k = E.hv k) (hn : ∀ k, n k → n' k) (hk : hb = .gone ∨ n k)
    (hsame : ∀ b, occ E k hb b → w'.heap[b]? = w.heap[b]?) (h : HBok w E n ok k hb) : HBok w' E' n' ok' k hb := by
  cases hb with
  | gone => trivial
  | cells l T =>
    obtain ⟨hβ, _⟩ := hE k (by simpa using hk)
    simp only [HBok, hβ] at h ⊢; obtain ⟨cs, h1, h2⟩ := h
    exact ⟨cs, by rw [hsame _ rfl]; exact h1, RL_mono hs hE hn _ _ h2⟩
  | row m xs T =>
    obtain ⟨_, hv⟩ := hE k (by simpa using hk)
    simp only [HBok, hv] at h ⊢
    rcases h with h | ⟨b, cap, cs, h1, h2, h3, h4, h5, h6, h7⟩
    · exact .inl h
    · exact .inr ⟨b, cap, cs, h1, by rw [hsame _ ⟨_, _, h1, h4.2⟩]; exact h2, h3, h4, h5, h6, RL_mono hs hE hn _ _ h7⟩
  | ob φ =>
    obtain ⟨hβ, _⟩ := hE k (by simpa using hk)
    simp only [HBok, hβ] at h ⊢; obtain ⟨o, h1, h2⟩ := h
    exact ⟨o, by rw [hsame _ rfl]; exact h1, φ.mono _ _ _ _ _ hs h2⟩
theorem HSim_below (h : HSim C E hp n w) (hb : Below w.heap.size w w') : HSim C E hp n w' :=
  ⟨h.kn, fun k => HBok_mono (stays_below hb) (fun _ _ => ⟨rfl, rfl⟩) (fun _ h => h) (by
      rcases Classical.em (n k) with hk | hk
      · exact .inr hk
      · exact .inl (h.kn k hk)) (fun b ho => hb.block b (occ_lt h ho)) (h.bk k), h.dj, h.lo, keeps_below h.kp hb⟩
end

def Yld (P : Program) (o : Oper) (a : Act) (w : World) (φ : Value → World → Prop) : Prop :=
  ∀ (next : Act → World → Prop) (Q : Exit → Act → World → Prop), (∀ y w', φ y w' → next (a.put o.dst y) w') → o.wp P a w next Q
theorem yld_value {P : Program} {o : Oper} {a : Act} {w w' : World} {φ : Value → World → Prop} {y : Value} (h : (execOp a.eval o).run P w = .ok (.value y) w') (hφ : φ y w') : Yld P o a w φ :=
  fun next Q hn => by unfold Oper.wp; rw [h]; exact hn y w' hφ
theorem yld_mono {P : Program} {o : Oper} {a : Act} {w : World} {φ ψ : Value → World → Prop} (h : Yld P o a w φ) (hi : ∀ y w', φ y w' → ψ y w') : Yld P o a w ψ :=
  fun next Q hn => h next Q fun y w' hy => hn y w' (hi y w' hy)
theorem yld_call {P : Program} {o : Oper} {a : Act} {w : World} {φ : Value → World → Prop} {f : FuncId} {vs : Array Value} (h : (execOp a.eval o).run P w = .ok (.enter f vs) w)
    (hc : Calls P f vs w fun e w' => ∃ y, e = .returned y ∧ φ y w') : Yld P o a w φ :=
  fun next Q hn => by
    unfold Oper.wp; rw [h]
    refine hc.mono fun e w' ⟨y, he, hy⟩ => ?_
    subst he
    exact hn y w' hy

/-- the value that an operation yields, and its world -/
def Post (C : Cx) (E : Env) (hp : List (Nat × HB)) (n : Nat → Prop) (w : World) (s : SV) (y : Value) (w' : World) : Prop :=
  R w' E n (okS C E hp) s y ∧ Below w.heap.size w w'

def opG (g : Option (Nat × Bool)) : SI → List (Option (Nat × Bool) × X)
  | .pick c a b => match c with
    | .t t => [(g, c), (some (t, true), a), (some (t, false), b)]
    | _ => [(g, c)]
  | i => (opX i).map fun x => (g, x)

section
variable {P : Program} {C : Cx} {E : Env} {hp : List (Nat × HB)} {n : Nat → Prop} {w : World} {a : Act}
theorem callFunc_run {f : FuncId} {vs : Array Value} (h : bodyB P f = true) :
    (callFunc f vs).run P w = .ok (.enter f vs) w := by
  unfold bodyB at h
  split at h
  · rename_i fn hf
    simp only [Bool.and_eq_true, Bool.not_eq_true'] at h
    have h1 : ¬ fn.name = "runtime.NumGoroutine" := by simpa using h.1
    have h2 : ¬ fn.body = none := by cases hb : fn.body <;> simp_all
    simp [callFunc, hf, h1, h2]
  · cases h
theorem ct_yld {o : Oper} {f : FuncId} {args : List SV} {vs : List Value} {res : SV} (hs : HSim C E hp n w) (hrun : (execOp a.eval o).run P w = .ok (.enter f vs.toArray) w)
    (hR : RL w E n (okS C E hp) args vs) (hc : Ct P f args res) : Yld P o a w (Post C E hp n w res) := by
  refine yld_call hrun ((hc.run w (okS C E hp) vs (RL_kf _ _ hc.ka hR)).mono fun e w' ⟨y, he, hy, hb⟩ => ⟨y, he, ?_, hb⟩)
  have h1 : R w' E n (fun b => okS C E hp b ∨ w.heap.size ≤ b) res y := R_kf res y hc.kr hy
  exact R_mono (fun b hb' _ => ⟨by
    rcases hb' with h | h
    · exact h
    · exact okS_fresh hs h, rfl⟩) (fun _ _ => ⟨rfl, rfl⟩) (fun _ h => h) _ _ h1
end

theorem RR_of_flat {w : World} {E : Env} {n ok ok' : Nat → Prop} {b m : Nat} {cs : Array Value} (hok : ok' b) (hc : ∀ j c, cs.toList[j]? = some c → w.cell? ⟨b, j, none⟩ = some c) (hst : Stays w w ok ok') :
    ∀ (xs : List (List SV)) (off : Nat), (∀ r ∈ xs, r.length = m) → RL w E n ok xs.flatten ((cs.toList.drop off).take (xs.length * m)) → RR w E n ok' b m xs off
  | [], _, _, _ => by simp [RR]
  | r :: xs, off, hm, h => by
    have hr : r.length = m := hm r (by simp)
    simp only [RR]
    simp only [List.flatten_cons, List.length_cons] at h
    have h1 := RL_take r.length h
    rw [List.take_left' rfl, List.take_take, show min r.length ((xs.length + 1) * m) = m from by rw [hr, Nat.add_mul]; omega] at h1
    have h2 := RL_drop r.length h
    rw [List.drop_left' rfl, List.drop_take, hr, List.drop_drop, show (xs.length + 1) * m - m = xs.length * m from by rw [Nat.add_mul]; omega] at h2
    refine ⟨hr, ⟨_, RL_mono hst (fun _ _ => ⟨rfl, rfl⟩) (fun _ h => h) _ _ h1, fun _ => hok, fun j c hj => ?_⟩, RR_of_flat hok hc hst xs (off + m) (fun r hr => hm r (by simp [hr])) h2⟩
    have hj' : j < m := by have := (List.getElem?_eq_some_iff.1 hj).1; simp at this; omega
    rw [List.getElem?_take_of_lt hj', List.getElem?_drop] at hj
    exact hc _ _ hj

section
variable {P : Program} {C : Cx} {E : Env} {hp : List (Nat × HB)} {n : Nat → Prop} {w : World} {a : Act}
def Tr : Nat → Prop := fun _ => True
theorem mapS_ok {g : SV → SV} (hg : ∀ s y, R w E n (okS C E hp) s y → R w E n Tr (g s) y) : ∀ (l : List SV) (ys : List Value), RL w E n (okS C E hp) l ys → RL w E n Tr (mapS g l) ys
  | [], ys, h => by simpa [RL, mapS] using h
  | s :: l, ys, h => by
    simp only [RL, mapS] at *; obtain ⟨y, r, h1, h2, h3⟩ := h; exact ⟨y, r, h1, hg s y h2, mapS_ok hg l r h3⟩
theorem vwS_ok (hh : HSim C E hp n w) {g : SV → SV} (hg : ∀ s y, R w E n (okS C E hp) s y → R w E n Tr (g s) y) (s : SV) (y : Value) (h : R w E n (okS C E hp) s y) : R w E n Tr (vwS hp g s) y := by
  have tr : R w E n Tr s y := R_mono (fun _ _ _ => ⟨trivial, rfl⟩) (fun _ _ => ⟨rfl, rfl⟩) (fun _ h => h) _ _ h
  cases s <;> try exact tr
  case p k o =>
    simp only [vwS]
    split
    · rename_i l T hk
      have hb := hh.bk k
      rw [hk] at hb; simp only [HBok] at hb
      obtain ⟨cs, h1, h2⟩ := hb
      simp only [R] at h ⊢
      exact ⟨E.β k, 0, by rw [Nat.zero_add]; exact h.2, cs.toList, mapS_ok hg _ _ h2, fun _ => trivial, fun j c hj => by rw [Nat.zero_add, cell_of_row _ _ _ _ _ _ h1]; simpa using hj⟩
    · simp only [R]
  case mr k =>
    simp only [vwS]
    split
    · rename_i m xs T hk
      have hb := hh.bk k
      rw [hk] at hb; simp only [HBok] at hb
      simp only [R] at h ⊢
      rcases hb with ⟨h1, a0, h2⟩ | ⟨b, cap, cs, h1, h2, h3, ⟨h4, _⟩, h5, h6, h7⟩
      · exact ⟨a0, 0, 0, by rw [h.2.1, h2], by simp [h1], ⟨Nat.le_refl _, fun h => by cases h⟩, by simp [h1], .inl h1⟩
      · refine ⟨_, _, _, h.2.1.trans h1, rfl, ⟨h4, fun h => by cases h⟩, h5, .inr ⟨b, 0, rfl, ?_⟩⟩
        exact RR_of_flat (cs := cs) (ok := okS C E hp) trivial (fun j c hj => by rw [cell_of_row _ _ _ _ _ _ h2]; simpa using hj) (fun _ _ _ => ⟨trivial, rfl⟩) xs 0 h6 (by simpa using h7)
    · simp only [R]
  case agg l => simp only [R, vwS] at *; obtain ⟨cs, h1, h2⟩ := h; exact ⟨cs, h1, mapS_ok hg l _ h2⟩
  case tup l => simp only [R, vwS] at *; obtain ⟨cs, h1, h2⟩ := h; exact ⟨cs, h1, mapS_ok hg l _ h2⟩
  case cl f l => simp only [R, vwS] at *; obtain ⟨cs, h1, h2⟩ := h; exact ⟨cs, h1, mapS_ok hg l _ h2⟩
  case ps l o =>
    simp only [R, vwS] at *; obtain ⟨b, off, h1, cs, h2, h3⟩ := h
    exact ⟨b, off, h1, cs, mapS_ok hg l _ h2, fun _ => trivial, h3.2⟩
  case gd j b s => simp only [vwS, R]
theorem vw0_ok (s : SV) (y : Value) (h : R w E n (okS C E hp) s y) : R w E n Tr (vw0 s) y := by
  have tr : R w E n Tr s y := R_mono (fun _ _ _ => ⟨trivial, rfl⟩) (fun _ _ => ⟨rfl, rfl⟩) (fun _ h => h) _ _ h
  cases s <;> first | exact tr | simp only [vw0, R]
theorem vw4_ok (hh : HSim C E hp n w) (s : SV) (y : Value) (h : R w E n (okS C E hp) s y) : R w E n Tr (vw4 hp s) y :=
  vwS_ok hh (fun s y h => vwS_ok hh (fun s y h => vwS_ok hh (fun s y h => vwS_ok hh (fun s y h => vw0_ok s y h) s y h) s y h) s y h) s y h
mutual
theorem R_flt {w' : World} {E' : Env} {n' ok ok' : Nat → Prop} : ∀ (s : SV) (y : Value), FLT s → R w E n ok s y → R w' E' n' ok' s y
  | .v x, y, _, h => by simpa [R] using h
  | .agg l, y, f, h => by simp only [R, FLT] at *; obtain ⟨cs, h1, h2⟩ := h; exact ⟨cs, h1, RL_flt l _ f h2⟩
  | .tup l, y, f, h => by simp only [R, FLT] at *; obtain ⟨cs, h1, h2⟩ := h; exact ⟨cs, h1, RL_flt l _ f h2⟩
  | .any, y, _, h => by simp only [R]
  | .p _ _, _, f, _ => f.elim
  | .sl _ _ _, _, f, _ => f.elim
  | .mr _, _, f, _ => f.elim
  | .pr _ _ _ _, _, f, _ => f.elim
  | .ps _ _, _, f, _ => f.elim
  | .cl _ _, _, f, _ => f.elim
  | .q _, _, f, _ => f.elim
  | .gd _ _ _, _, f, _ => f.elim
theorem RL_flt {w' : World} {E' : Env} {n' ok ok' : Nat → Prop} : ∀ (l : List SV) (ys : List Value), FLTL l → RL w E n ok l ys → RL w' E' n' ok' l ys
  | [], ys, _, h => by simpa [RL] using h
  | s :: l, ys, f, h => by
    simp only [RL, FLTL] at *; obtain ⟨y, r, h1, h2, h3⟩ := h; exact ⟨y, r, h1, R_flt s y f.1 h2, RL_flt l r f.2 h3⟩
end
theorem ct_yldv {o : Oper} {f : FuncId} {args : List SV} {vs : List Value} {res : SV} (hs : HSim C E hp n w) (hrun : (execOp a.eval o).run P w = .ok (.enter f vs.toArray) w)
    (hR : RL w E n (okS C E hp) args vs) (hf : FLT res) (hc : Ct P f (mapS (vw4 hp) args) res) : Yld P o a w (Post C E hp n w res) := by
  refine yld_call hrun ((hc.run w Tr vs (RL_kf _ _ hc.ka (mapS_ok (vw4_ok hs) _ _ hR))).mono fun e w' ⟨y, he, hy, hb⟩ => ⟨y, he, R_flt res y hf hy, hb⟩)
end

section
variable {fr : List (Nat × SV)} {w : World} {E : Env} {n : Nat → Prop} {ok : Nat → Prop}
theorem GE_v {j : Nat} {b c : Bool} (h : GE fr j b) (hl : lk j fr = .v (.bool c)) : c = b := by
  cases h with
  | base h => rw [hl] at h; simpa using h
  | step h _ => rw [hl] at h; cases h
theorem GE_gd {j j' : Nat} {b b' : Bool} {s : SV} (h : GE fr j b) (hl : lk j fr = .gd j' b' s) : GE fr j' b' ∧ s = .v (.bool b) := by
  cases h with
  | base h => rw [hl] at h; cases h
  | step h h' => rw [hl] at h; cases h; exact ⟨h', rfl⟩
theorem bbq_eq {a b : Bool} (h : bbq a b = true) : a = b := by revert h; cases a <;> cases b <;> simp [bbq]
theorem sameG_eq {j0 j : Nat} {a b : Bool} (h : sameG (Nat.beq j0 j) a b = true) : j0 = j ∧ a = b := by
  cases hj : Nat.beq j0 j <;> rw [hj] at h
  · cases h
  · exact ⟨Nat.eq_of_beq_eq_true hj, bbq_eq h⟩
theorem alw_sound : ∀ (f : Nat) {j0 j : Nat} {w0 w : Bool}, alw f fr j0 w0 j w = true → GE fr j0 w0 → GE fr j w
  | 0, _, _, _, _, h, _ => by simp [alw] at h
  | f + 1, j0, j, w0, w, h, hg => by
    simp only [alw] at h
    cases hb : sameG (Nat.beq j0 j) w0 w
    · rw [hb] at h
      cases hl : lk j0 fr <;> rw [hl] at h <;> simp only [alwS] at h <;> try (cases h; done)
      exact alw_sound f h (GE_gd hg hl).1
    · obtain ⟨rfl, rfl⟩ := sameG_eq hb; exact hg
theorem FR_gd {j : Nat} {b : Bool} {s : SV} {y : Value} : FR w E n ok fr (.gd j b s) y = ((ge fr j b → R w E n ok s y) ∧ (¬ ge fr j b → y = undef)) := rfl
theorem FR_R {s : SV} {y : Value} (h : FR w E n ok fr s y) (hs : ∀ j b t, s ≠ .gd j b t) : R w E n ok s y := by
  cases s <;> first | exact h | exact absurd rfl (hs _ _ _)
theorem strip_ok {g : Option (Nat × Bool)} {s : SV} {y : Value} (h : FR w E n ok fr s y) (hg : geP g fr) : R w E n ok (strip g fr s) y := by
  cases s <;> try exact h
  rename_i j b s
  cases g with
  | none => simp only [strip, R]
  | some p =>
    obtain ⟨j0, w0⟩ := p
    simp only [strip]
    cases ha : alw 8 fr j0 w0 j b
    · simp only [orAny, R]
    · simp only [orAny]; exact h.1 (alw_sound 8 ha hg)
theorem rdG_ok {a : Act} {g : Option (Nat × Bool)} (h : ∀ t, FR w E n ok fr (lk t fr) (a.tmps.getD t undef)) (hg : geP g fr) (x : X) : R w E n ok (rdG g fr x) (evX a x) := by
  cases x with
  | t t => exact strip_ok (h t) hg
  | c x => exact strip_ok (fr := fr) (s := .v x) (show R w E n ok (.v x) x by simp [R]) hg
  | f i => exact strip_ok (fr := fr) (s := .cl i []) (show R w E n ok (.cl i []) _ by simp [R, RL, evX]) hg
end

section
variable {P : Program} {C : Cx} {E : Env} {hp : List (Nat × HB)} {n : Nat → Prop} {w : World} {a : Act}
theorem post_pure {s : SV} {y : Value} (h : R w E n (okS C E hp) s y) : Post C E hp n w s y w := ⟨h, Below.refl _ _⟩
theorem bslR_run {ρ : X → SV} {ok : Nat → Prop} {m : Nat} : ∀ {ps : List X} {rows : List (List SV)}, (∀ x ∈ ps, R w E n ok (ρ x) (evX a x)) → bslR ρ m ps = some rows →
    rows.length = ps.length ∧ ∀ i (h : i < ps.length), ∃ row, rows[i]? = some row ∧ row.length = m ∧ RL w E n ok row (evX a ps[i]).cells.toList
  | [], rows, _, h => by simp [bslR] at h; subst h; exact ⟨rfl, fun i h => by simp at h⟩
  | x :: r, rows, hρ, h => by
    simp only [bslR] at h
    cases hl : cellsO (ρ x) with
    | none => rw [hl] at h; simp [bslC] at h
    | some l =>
      cases hls : bslR ρ m r with
      | none => rw [hls] at h; simp [bslC] at h
      | some ls =>
        rw [hl, hls] at h
        simp only [bslC] at h
        cases hk : chk l m
        · simp [hk] at h
        · simp only [hk, cond_true, Option.some.injEq] at h; subst h
          obtain ⟨h1, h2⟩ := bslR_run (ps := r) (fun y hy => hρ y (by simp [hy])) hls
          refine ⟨by simp [h1], fun i hi => ?_⟩
          cases i with
          | zero => exact ⟨l, by simp, chk_eq hk, by simpa using R_cells (hρ x (by simp)) hl⟩
          | succ i => simpa using h2 i (by simpa using hi)
end

theorem spliceV_eq (l : List Value) (o : Nat) (m : List Value) (h : o + m.length ≤ l.length) : spliceV l o m = l.take o ++ (m ++ l.drop (o + m.length)) := by
  apply List.ext_getElem?
  intro j
  rw [spliceV_get l o m j h]
  by_cases h1 : j < o
  · rw [if_neg (by omega), List.getElem?_append_left (by simp; omega), List.getElem?_take_of_lt h1]
  · rw [List.getElem?_append_right (by simp; omega)]
    simp only [List.length_take, show min o l.length = o from by omega]
    by_cases h2 : j < o + m.length
    · rw [if_pos (by omega), List.getElem?_append_left (by omega)]
    · rw [if_neg (by omega), List.getElem?_append_right (by omega), List.getElem?_drop]
      congr 1; omega
def rowsF (m : Nat) : Nat → List Value → List (Nat × Value)
  | _, [] => []
  | i, v :: vs => (i * m, v) :: rowsF m (i + 1) vs
theorem fillV_rows (m : Nat) : ∀ (vs : List Value) (i : Nat) (z : List Value), z.length = (i + vs.length) * m → (∀ v ∈ vs, v.cells.size = m) →
    fillV z (rowsF m i vs) = z.take (i * m) ++ vs.flatMap (·.cells.toList)
  | [], i, z, hz, _ => by
    simp only [List.length_nil, Nat.add_zero] at hz
    simp [rowsF, fillV, ← hz]
  | v :: vs, i, z, hz, hv => by
    have hm : v.cells.size = m := hv v (by simp)
    simp only [List.length_cons] at hz
    have hle : i * m + v.cells.toList.length ≤ z.length := by
      rw [hz, Array.length_toList, hm]
      rw [show i + (vs.length + 1) = (i + 1) + vs.length from by omega, Nat.add_mul, Nat.add_mul]; omega
    simp only [rowsF, fillV]
    rw [fillV_rows m vs (i + 1) _ (by rw [spliceV_length, hz]; congr 1; omega) (fun u hu => hv u (by simp [hu]))]
    rw [spliceV_eq _ _ _ hle]
    have hlen : (z.take (i * m)).length = i * m := by simp; omega
    rw [← List.append_assoc, List.take_left' (by rw [List.length_append, hlen, Array.length_toList, hm, Nat.add_mul]; omega)]
    simp
theorem RR_intro {w : World} {E : Env} {n : Nat → Prop} {ok : Nat → Prop} {b m : Nat} (cs : List Value) (hok : ok b) (hc : ∀ j c, cs[j]? = some c → w.cell? ⟨b, j, none⟩ = some c) :
    ∀ (rows : List (List SV)) (vs : List Value) (off : Nat), rows.length = vs.length → (∀ i (_ : i < vs.length), ∃ row, rows[i]? = some row ∧ row.length = m ∧ RL w E n ok row (vs[i]).cells.toList) →
      (∀ j, (vs.flatMap (·.cells.toList))[j]? = cs[off + j]?) → RR w E n ok b m rows off
  | [], [], off, _, _, _ => by simp [RR]
  | row :: rows, v :: vs, off, hl, h, hcs => by
    simp only [RR]
    obtain ⟨row', h1, h2, h3⟩ := h 0 (by simp)
    simp at h1; subst h1
    simp only [List.getElem_cons_zero] at h3
    have hlen := RL_length h3
    refine ⟨h2, ⟨_, h3, fun _ => hok, fun j c hj => hc _ _ ?_⟩, ?_⟩
    · rw [← hcs j]; simp only [List.flatMap_cons]
      rw [List.getElem?_append_left (List.getElem?_eq_some_iff.1 hj).1]; exact hj
    · refine RR_intro cs hok hc rows vs (off + m) (by simpa using hl) (fun i hi => by
      have q := h (i + 1) (by simpa using hi)
      simp only [List.getElem?_cons_succ, List.getElem_cons_succ] at q; exact q) (fun j => ?_)
      have := hcs (m + j)
      simp only [List.flatMap_cons] at this
      rw [List.getElem?_append_right (by rw [hlen, h2]; omega), hlen, h2, show m + j - m = j from by omega] at this
      rw [this]; congr 1; omega
  | [], _ :: _, _, h, _, _ => by simp at h
  | _ :: _, [], _, h, _, _ => by simp at h

section
variable {P : Program} {C : Cx} {E : Env} {hp : List (Nat × HB)} {n : Nat → Prop} {w : World} {a : Act}
theorem rowsF_get (m : Nat) : ∀ (vs : List Value) (i j : Nat), (rowsF m i vs)[j]? = (vs[j]?).map fun v => ((i + j) * m, v)
  | [], i, j => by simp [rowsF]
  | v :: vs, i, 0 => by simp [rowsF]
  | v :: vs, i, j + 1 => by simp only [rowsF, List.getElem?_cons_succ, rowsF_get m vs (i + 1) j]; congr 1; funext v; congr 2; omega
theorem rowsF_length (m : Nat) : ∀ (vs : List Value) (i : Nat), (rowsF m i vs).length = vs.length
  | [], i => rfl
  | v :: vs, i => by simp [rowsF, rowsF_length m vs (i + 1)]
theorem bsl_run {t T m len : Nat} {parts : Array (Nat × Operand)} {ps : List X} {s : SV} {ρ : X → SV} (hs : HSim C E hp n w) (hρ : ∀ x ∈ ps, R w E n (okS C E hp) (ρ x) (evX a x))
    (hu : P.underlying t = some (.slice T)) (hm : szOf P T = some m) (hl : len * m ≤ 2 ^ 24) (hpl : ps.length = len) (hm0 : m ≠ 0) (hz : ∃ z, zeroOf P T = some z ∧ z.cells.size = m)
    (hx : cmpXs ps (parts.toList.map (·.2)) = true) (hi : parts.toList.map (·.1) = List.range len) (hv : bslS m (bslR ρ m ps) = some s) :
    ∃ y w', (Instr.buildSlice t len (parts.map fun (i, x) => (i, a.eval x))).run P w = .ok y w' ∧ Post C E hp n w s y w' := by
  obtain ⟨z, hz1, hz2⟩ := hz
  cases hrows : bslR ρ m ps with
  | none => rw [hrows] at hv; cases hv
  | some rows =>
    rw [hrows] at hv
    simp only [bslS, Option.some.injEq] at hv; subst hv
    obtain ⟨hr1, hr2⟩ := bslR_run (a := a) hρ hrows
    let vs := ps.map (evX a)
    have hvs : ∀ v ∈ vs, v.cells.size = m := by
      intro v hv
      obtain ⟨i, hi', rfl⟩ := List.getElem_of_mem hv
      simp only [vs, List.length_map] at hi'
      obtain ⟨row, k1, k2, k3⟩ := hr2 i hi'
      have := RL_length k3
      simp only [vs, List.getElem_map]
      rw [← Array.length_toList, this, k2]
    have hparts : (parts.map fun (i, x) => (i, a.eval x)).toList = (List.range len).zip vs := by
      rw [← hi]
      have h2 := cmpXs_sound hx a
      apply List.ext_getElem?
      intro j
      simp only [vs, ← h2, Array.toList_map, List.zip, List.getElem?_zipWith, List.getElem?_map]
      cases parts.toList[j]? <;> simp
    let Z := (Array.range (len * m)).map (fun i => z.cells[i % z.cells.size]!)
    have hZ : Z.toList.length = (0 + vs.length) * m := by simp [Z, vs, hpl]
    have hf := fill_eq (fun i => some (i * m, m)) ((List.range len).zip vs) (rowsF m 0 vs) Z (by simp [rowsF_length, vs, hpl]) (fun i h h' => by
      have hlt : i < vs.length := by rw [rowsF_length] at h'; exact h'
      refine ⟨m, ?_, ?_, ?_, ?_⟩
      · have := rowsF_get m vs 0 i
        rw [List.getElem?_eq_getElem hlt, List.getElem?_eq_getElem h'] at this
        simp at this
        simp [this]
      · have := rowsF_get m vs 0 i
        rw [List.getElem?_eq_getElem hlt, List.getElem?_eq_getElem h'] at this
        simp at this
        simp [this]
      · simp; exact hvs _ (List.getElem_mem _)
      · have := rowsF_get m vs 0 i
        rw [List.getElem?_eq_getElem hlt, List.getElem?_eq_getElem h'] at this
        simp at this
        rw [this]; simp only [Z, Array.size_map, Array.size_range]
        have : i + 1 ≤ len := by simp [vs, hpl] at hlt; omega
        calc i * m + m = (i + 1) * m := by rw [Nat.add_mul]; omega
          _ ≤ len * m := Nat.mul_le_mul_right m this)
    rw [fillV_rows m vs 0 _ hZ hvs] at hf
    simp only [Nat.zero_mul, List.take_zero, List.nil_append] at hf
    let cs := vs.flatMap (·.cells.toList)
    refine ⟨.slice (some ⟨w.heap.size, 0, none⟩) len len, w.alloc (.cells cs.toArray T), ?_, ?_, ?_⟩
    · have hlm : ¬ len * m > 2 ^ 24 := by omega
      simp only [Instr.buildSlice, Sem.run_bind, run_underlying hu, Result.andThen_ok, run_sizeOf hm, if_neg hlm]
      by_cases h0 : len * m = 0
      · have hlen0 : len = 0 := by rcases Nat.mul_eq_zero.1 h0 with h | h <;> first | exact h | exact absurd h hm0
        have hps : ps = [] := by cases ps <;> simp_all
        subst hps; subst hlen0
        have hpn : parts = #[] := by
          apply Array.toList_inj.1; cases hq : parts.toList <;> simp_all
        subst hpn
        have e0 : (Array.map (fun _ => (default : Value)) (Array.range 0)) = #[] := by apply Array.toList_inj.1; simp
        simp [Instr.fill, newRow, cs, vs, e0]
      · simp only [if_neg h0, Sem.run_bind, run_zeroOf hz1, Result.andThen_ok, Sem.run_pure]
        rw [show ((Array.range (len * m)).map fun i => z.cells[i % z.cells.size]!) = Z from rfl, hparts, hf]
        simp [newRow]; rfl
    · simp only [R]
      have hle : len ≤ len * m := Nat.le_mul_of_pos_right _ (by omega)
      refine ⟨_, _, _, rfl, by rw [hr1, hpl], ⟨Nat.le_refl _, fun _ => rfl⟩, by omega, .inr ⟨_, _, rfl, ?_⟩⟩
      have hnew : (w.alloc (.cells cs.toArray T)).heap[w.heap.size]? = some (.cells cs.toArray T (0, 0)) := heap_alloc_new _ _
      have hst : Stays w (w.alloc (.cells cs.toArray T)) (okS C E hp) (okS C E hp) := stays_below ((Below.refl _ _).alloc (Nat.le_refl _) _)
      refine RR_intro cs (okS_fresh hs (Nat.le_refl _)) (fun j c hj => by rw [cell_of_row _ _ _ _ _ _ hnew]; simpa using hj) rows vs 0 (by simp [vs, hr1]) (fun i hi' => ?_) (fun j => by simp [cs])
      simp only [vs, List.length_map] at hi'
      obtain ⟨row, k1, k2, k3⟩ := hr2 i hi'
      exact ⟨row, k1, k2, by simp only [vs, List.getElem_map]; exact RL_mono hst (fun _ _ => ⟨rfl, rfl⟩) (fun _ h => h) _ _ k3⟩
    · exact (Below.refl _ _).alloc (Nat.le_refl _) _
end

theorem putO_ex {o : Option SV} {d : Option Nat} {g : Option (Nat × Bool)} {σ : St} {r : KT} {K : St → Prop} (h : putO o d g σ r K) : ∃ s, o = some s ∧ putK d s g σ r K := by
  cases o with
  | none => exact absurd h (by simp [putO])
  | some s => exact ⟨s, rfl, h⟩
section
variable {P : Program} {σ : St} {g : Option (Nat × Bool)} {d : Option Nat} {r : KT} {K : St → Prop}
/-- what 'stpV' promises of an operation -/
def Good (P : Program) (o : Oper) (i : SI) (g : Option (Nat × Bool)) (σ : St) (s : SV) : Prop :=
  ∀ C E n a w, HSim C E σ.hp n w → (∀ p ∈ opG g i, geP p.1 σ.fr → R w E n (okS C E σ.hp) (rdG p.1 σ.fr p.2) (evX a p.2)) → geP g σ.fr → Yld P o a w (Post C E σ.hp n w s)
theorem good_pv {o : Oper} {i : SI} {s : SV} (hc : cmpOp P i o.op = true) (hs : pv (rdG g σ.fr) i = some s) : Good P o i g σ s := by
  intro C E n a w hh hρ hg
  have hi : opG g i = (opX i).map fun x => (g, x) := by
    cases i <;> first | rfl | (simp [pv] at hs; done)
  have hρ' : ∀ x ∈ opX i, R w E n (okS C E σ.hp) (rdG g σ.fr x) (evX a x) := fun x hx => hρ (g, x) (by rw [hi]; exact List.mem_map.2 ⟨x, hx, rfl⟩) hg
  obtain ⟨y, h1, h2⟩ := pv_run hρ' hc hs
  exact yld_value h1 (post_pure h2)
theorem run_indexAt_sl {t b off len cap m n : Nat} {k : IntKind} {w : World} (h : (match P.underlying t with | some (.slice e) => szOf P e == some m | _ => false) = true) (hn : n < len) :
    (Instr.indexAt t (.slice (some ⟨b, off, none⟩) len cap) (.int k n)).run P w = .ok (.pointer (some ⟨b, off + n * m, none⟩)) w := by
  split at h
  · rename_i e hu
    simp at h
    simp [Instr.indexAt, asIntOf, run_underlying hu, hn, run_sizeOf h, addr_add]
  · cases h
theorem run_indexAt_arr {t b off len m n : Nat} {k : IntKind} {w : World} (h : (match P.underlying t with | some (.array len' e) => len' == len && szOf P e == some m | _ => false) = true) (hn : n < len) :
    (Instr.indexAt t (.pointer (some ⟨b, off, none⟩)) (.int k n)).run P w = .ok (.pointer (some ⟨b, off + n * m, none⟩)) w := by
  split at h
  · rename_i len' e hu
    simp at h
    obtain ⟨rfl, h⟩ := h
    simp [Instr.indexAt, asIntOf, run_underlying hu, hn, run_sizeOf h, addr_add, Instr.sureAddr]
  · cases h
theorem RR_get {w : World} {E : Env} {n : Nat → Prop} {ok : Nat → Prop} {b m : Nat} : ∀ {xs : List (List SV)} {off i : Nat} {row : List SV}, RR w E n ok b m xs off → xs[i]? = some row →
    ∃ cs, RL w E n ok row cs ∧ CellsAt w ok b (off + i * m) cs
  | [], _, i, row, _, h => by simp at h
  | r0 :: xs, off, 0, row, h, hi => by
    simp only [RR] at h; simp at hi; subst hi
    obtain ⟨_, ⟨cs, h1, h2⟩, _⟩ := h
    exact ⟨cs, h1, by simpa using h2⟩
  | r0 :: xs, off, i + 1, row, h, hi => by
    simp only [RR] at h
    obtain ⟨cs, h1, h2⟩ := RR_get h.2.2 (by simpa using hi)
    exact ⟨cs, h1, by rw [show off + (i + 1) * m = off + m + i * m from by rw [Nat.add_mul]; omega]; exact h2⟩
theorem load_cells {w : World} {E : Env} {n : Nat → Prop} {ok : Nat → Prop} {b off o m t : Nat} {ag : Bool} {l : List SV} {cs : List Value} {s : SV} (hl : RL w E n ok l cs)
    (hc : ∀ j c, cs[j]? = some c → w.cell? ⟨b, off + j, none⟩ = some c) (ha : agOf P t = some ag) (hs : szOf P t = some m) (hp : partS l o m ag = some s) :
    ∃ y, (loadVar t ⟨b, off + o, none⟩).run P w = .ok y w ∧ R w E n ok s y := by
  cases ag
  · simp only [partS, nth_eq] at hp
    obtain ⟨y, h1, h2⟩ := RL_get hl hp
    exact ⟨y, run_loadVar_one ha (hc _ _ h1), h2⟩
  · simp only [partS] at hp
    cases hb : Nat.ble (o + m) l.length
    · simp [hb] at hp
    · simp only [hb, cond_true, Option.some.injEq] at hp; subst hp
      have hlen := RL_length hl
      have hle : o + m ≤ l.length := Nat.le_of_ble_eq_true hb
      have hR := RL_take m (RL_drop o hl)
      refine ⟨.agg ((cs.drop o).take m).toArray, run_loadVar_agg ha hs (by simp; omega) (fun j c hj => ?_), by simp only [R]; exact ⟨_, rfl, by simpa using hR⟩⟩
      have hj' : j < m := by have := (List.getElem?_eq_some_iff.1 hj).1; simp at this; omega
      rw [List.getElem?_take_of_lt hj', List.getElem?_drop] at hj
      rw [show off + o + j = off + (o + j) from by omega]; exact hc _ _ hj
theorem inv_call {f : FuncId} {xs : List X} {op : Op} (h : cmpOp P (.call f xs) op = true) : ∃ as ts, op = .call ⟨.value (.func f), as, ts⟩ ∧ cmpXs xs as.toList = true := by
  cases op <;> simp [cmpOp] at h
  rename_i c
  obtain ⟨callee, as, ts⟩ := c
  cases callee <;> try (simp at h; done)
  rename_i x
  cases x <;> simp at h
  obtain ⟨rfl, h⟩ := h
  exact ⟨as, ts, rfl, h⟩
theorem inv_calv {x : X} {xs : List X} {op : Op} (h : cmpOp P (.calv x xs) op = true) : ∃ y as ts, op = .call ⟨.value y, as, ts⟩ ∧ cmpX x y = true ∧ cmpXs xs as.toList = true := by
  cases op <;> simp [cmpOp] at h
  rename_i c
  obtain ⟨callee, as, ts⟩ := c
  cases callee <;> try (simp at h; done)
  simp at h
  exact ⟨_, as, ts, rfl, h⟩
theorem inv_len {x : X} {op : Op} (h : cmpOp P (.len x) op = true) : ∃ as ts y t e, op = .call ⟨.builtin .len, as, ts⟩ ∧ as.toList = [y] ∧ ts[0]? = some t ∧ cmpX x y = true ∧ P.underlying t = some (.slice e) := by
  cases op <;> simp [cmpOp] at h
  rename_i c
  obtain ⟨callee, as, ts⟩ := c
  cases callee <;> try (simp at h; done)
  rename_i b
  cases b <;> try (simp at h; done)
  simp only at h
  split at h
  · rename_i y t e1 e2
    simp only [Bool.and_eq_true] at h
    obtain ⟨hx, hu⟩ := h
    split at hu
    · rename_i e hu'
      exact ⟨as, ts, y, t, e, rfl, e1, e2, hx, hu'⟩
    · cases hu
  · cases h
theorem rows_get {w : World} {E : Env} {n : Nat → Prop} {ok : Nat → Prop} {m : Nat} : ∀ {xs : List (List SV)} {i : Nat} {row : List SV} {L : List Value}, xs[i]? = some row → (∀ r ∈ xs, r.length = m) → RL w E n ok xs.flatten (L.take (xs.length * m)) →
    ∃ cs, RL w E n ok row cs ∧ ∀ j c, cs[j]? = some c → L[i * m + j]? = some c
  | [], i, row, L, h, _, _ => by simp at h
  | r0 :: xs, i, row, L, h, hm, hR => by
    have hr0 : r0.length = m := hm r0 (by simp)
    simp only [List.flatten_cons, List.length_cons] at hR
    cases i with
    | zero =>
      simp at h; subst h
      have h1 := RL_take r0.length hR
      rw [List.take_left' rfl, List.take_take, show min r0.length ((xs.length + 1) * m) = m from by rw [hr0, Nat.add_mul]; omega] at h1
      refine ⟨_, h1, fun j c hj => ?_⟩
      have hj' : j < m := by have := (List.getElem?_eq_some_iff.1 hj).1; simp at this; omega
      rw [List.getElem?_take_of_lt hj'] at hj; simpa using hj
    | succ i =>
      have h1 := RL_drop r0.length hR
      rw [List.drop_left' rfl, List.drop_take, hr0, show (xs.length + 1) * m - m = xs.length * m from by rw [Nat.add_mul]; omega] at h1
      obtain ⟨cs, q1, q2⟩ := rows_get (i := i) (by simpa using h) (fun r hr => hm r (by simp [hr])) h1
      refine ⟨cs, q1, fun j c hj => ?_⟩
      have := q2 j c hj
      rw [List.getElem?_drop] at this
      rw [show (i + 1) * m + j = m + (i * m + j) from by rw [Nat.add_mul]; omega]; exact this
theorem HBok_shows {E : Env} {n ok : Nat → Prop} {w : World} {k m : Nat} {xs : List (List SV)} {T : TypeId} (h : HBok w E n ok k (.row m xs T)) : ∃ cs, Shows w (E.hv k) m xs.length cs ∧ RL w E n ok xs.flatten cs ∧ ∀ r ∈ xs, r.length = m := by
  simp only [HBok] at h
  rcases h with ⟨rfl, a0, h⟩ | ⟨b, cap, cs, h1, h2, h3, ⟨h4, _⟩, h5, h6, h7⟩
  · exact ⟨[], by rw [h]; exact ⟨a0, 0, rfl, Nat.le_refl _, by simp, .inl rfl⟩, by simp [RL], fun r h => by simp at h⟩
  · refine ⟨_, ⟨_, cap, h1, h4, ?_, .inr ⟨b, 0, rfl, fun j c hj => ?_⟩⟩, h7, h6⟩
    · have := Nat.mul_le_mul_right m h4
      simp only [List.length_take, Array.length_toList, h3]; exact Nat.min_eq_left this
    · rw [Nat.zero_add, cell_of_row _ _ _ _ _ _ h2]
      have hj' : j < xs.length * m := by have := (List.getElem?_eq_some_iff.1 hj).1; simp at this; omega
      rw [List.getElem?_take_of_lt hj'] at hj; simpa using hj
theorem rowB_some {xs ys : List (List SV)} {b : Bool} (h : rowB xs b = some ys) : b = true ∧ xs = ys := by cases b <;> simp [rowB] at h; exact ⟨rfl, h⟩
theorem sl_lens {E : Env} {n ok : Nat → Prop} {w : World} {c : Bool} {m : Nat} {xs : List (List SV)} {y : Value} (h : R w E n ok (.sl c m xs) y) : ∀ r ∈ xs, r.length = m := by
  simp only [R] at h
  obtain ⟨_, _, _, _, _, _, _, h | ⟨b, off, _, h⟩⟩ := h
  · subst h; intro r h; simp at h
  · exact RR_lens xs off h
theorem sprS_shows {C : Cx} {E : Env} {hp : List (Nat × HB)} {n : Nat → Prop} {w : World} {m : Nat} {s : SV} {y : Value} {ys : List (List SV)} (hh : HSim C E hp n w) (hR : R w E n (okS C E hp) s y) (h : sprS m hp s = some ys) :
    ∃ cs, Shows w y m ys.length cs ∧ RL w E n (okS C E hp) ys.flatten cs ∧ ∀ r ∈ ys, r.length = m := by
  unfold sprS at h
  split at h
  · rename_i m' xs
    obtain ⟨hb, rfl⟩ := rowB_some h
    have := Nat.eq_of_beq_eq_true hb; subst this
    obtain ⟨cs, h1, h2, _⟩ := sl_shows hR
    exact ⟨cs, h1, h2, sl_lens hR⟩
  · simp at h; subst h; simp only [R] at hR; subst hR
    exact ⟨[], shows_nil, by simp [RL], fun r h => by simp at h⟩
  · rename_i k
    simp only [R] at hR
    cases hk : lkh k hp <;> rw [hk] at h <;> simp only [sprH] at h <;> try (cases h; done)
    obtain ⟨hb, rfl⟩ := rowB_some h
    have := Nat.eq_of_beq_eq_true hb; subst this
    have hb := hh.bk k
    rw [hk] at hb
    rw [hR.2.1]
    exact HBok_shows hb
  · cases h
theorem basS_shows {E : Env} {n ok : Nat → Prop} {w : World} {m : Nat} {s : SV} {y : Value} {xs : List (List SV)} (hR : R w E n ok s y) (h : basS m s = some xs) :
    ∃ cs, Shows w y m xs.length cs ∧ RL w E n ok xs.flatten cs ∧ (∀ r ∈ xs, r.length = m) ∧ ∃ a, y = .slice a xs.length xs.length := by
  unfold basS at h
  split at h
  · rename_i m' xs
    obtain ⟨hb, rfl⟩ := rowB_some h
    have := Nat.eq_of_beq_eq_true hb; subst this
    obtain ⟨cs, h1, h2, h3⟩ := sl_shows hR
    exact ⟨cs, h1, h2, sl_lens hR, h3 rfl⟩
  · simp at h; subst h; simp only [R] at hR; subst hR
    exact ⟨[], shows_nil, by simp [RL], (fun r h => by simp at h), none, rfl⟩
  · cases h
theorem basS_R {E : Env} {n ok : Nat → Prop} {w : World} {m : Nat} {s : SV} {y : Value} {xs : List (List SV)} (hR : R w E n ok s y) (h : basS m s = some xs) :
    ∃ a len cap, y = .slice a len cap ∧ len = xs.length ∧ (len ≤ cap ∧ (false = true → cap = len)) ∧ xs.length ≤ 9223372036854775807 ∧ (xs = [] ∨ ∃ b off, a = some ⟨b, off, none⟩ ∧ RR w E n ok b m xs off) := by
  unfold basS at h
  split at h
  · rename_i m' xs
    obtain ⟨hb, rfl⟩ := rowB_some h
    have := Nat.eq_of_beq_eq_true hb; subst this
    simp only [R] at hR
    obtain ⟨a, len, cap, q1, q2, ⟨q3, _⟩, q4⟩ := hR
    exact ⟨a, len, cap, q1, q2, ⟨q3, fun h => by cases h⟩, q4⟩
  · simp at h; subst h; simp only [R] at hR; subst hR
    exact ⟨none, 0, 0, rfl, rfl, ⟨Nat.le_refl _, fun h => by cases h⟩, by simp, .inl rfl⟩
  · cases h
theorem run_sliceAt_sl {P : Program} {t e : TypeId} {w : World} (x : Value) (lo hi mx : Option Value) (h : P.underlying t = some (.slice e)) :
    (Instr.sliceAt t x lo hi mx).run P w = (Instr.slice t x lo hi mx).run P w := by
  simp [Instr.sliceAt, run_underlying h]
theorem RR_take {w : World} {E : Env} {n ok : Nat → Prop} {b m : Nat} : ∀ {xs : List (List SV)} {off : Nat} (j : Nat), RR w E n ok b m xs off → RR w E n ok b m (xs.take j) off
  | [], _, j, _ => by simp [RR]
  | x :: xs, off, 0, _ => by simp [RR]
  | x :: xs, off, j + 1, h => by simp only [List.take_succ_cons, RR] at *; exact ⟨h.1, h.2.1, RR_take j h.2.2⟩
theorem RR_drop {w : World} {E : Env} {n ok : Nat → Prop} {b m : Nat} : ∀ {xs : List (List SV)} {off : Nat} (i : Nat), RR w E n ok b m xs off → RR w E n ok b m (xs.drop i) (off + i * m)
  | [], off, i, _ => by simp [RR]
  | x :: xs, off, 0, h => by simpa using h
  | x :: xs, off, i + 1, h => by
    simp only [RR] at h
    have := RR_drop i h.2.2
    rw [List.drop_succ_cons, show off + (i + 1) * m = off + m + i * m from by rw [Nat.add_mul]; omega]; exact this
theorem RR_sub {w : World} {E : Env} {n ok : Nat → Prop} {b m : Nat} {xs : List (List SV)} {off : Nat} (h : RR w E n ok b m xs off) (i j : Nat) : RR w E n ok b m ((xs.take j).drop i) (off + i * m) := RR_drop i (RR_take j h)
theorem stpV_sound {o : Oper} {i : SI} (hc : cmpOp P i o.op = true) (h : stpV P g d i σ r K) : ∃ s, putK d s g σ r K ∧ Good P o i g σ s := by
  have dflt : putO (pv (rdG g σ.fr) i) d g σ r K → ∃ s, putK d s g σ r K ∧ Good P o i g σ s := fun h => by
    obtain ⟨s, h1, h2⟩ := putO_ex h
    exact ⟨s, h2, good_pv hc h1⟩
  have dfl2 : ∀ s, pv (rdG g σ.fr) i = some s → putK d s g σ r K → ∃ s, putK d s g σ r K ∧ Good P o i g σ s := fun s h1 h2 => ⟨s, h2, good_pv hc h1⟩
  cases i <;> try (first | exact dflt h | exact dfl2 _ rfl h | exact False.elim h)
  case call f as =>
    obtain ⟨res, h1, h2⟩ := h
    rw [impP_iff, impP_iff] at h1
    refine ⟨res, h2, fun C E n a w hh hρ hg => ?_⟩
    have hR : RL w E n (okS C E σ.hp) (mapX (rdG g σ.fr) as) (as.map (evX a)) := RL_mapX as fun x hx => hρ (g, x) (by simp only [opG, opX]; exact List.mem_map.2 ⟨x, hx, rfl⟩) hg
    obtain ⟨as', ts, e1, e2⟩ := inv_call hc
    have he : as'.map a.eval = (as.map (evX a)).toArray := by apply Array.toList_inj.1; simp [cmpXs_sound e2 a]
    have hrun : bodyB P f = true → (execOp a.eval o).run P w = .ok (.enter f (as.map (evX a)).toArray) w := fun hbd => by
      simp [execOp, e1, resolve, Act.eval, Deferred.ofValue, invoke, he, callFunc_run hbd]
    rcases h1 with h1 | ⟨hf, h1⟩
    · exact ct_yld (f := f) hh (hrun (h1 hg).bd) hR (h1 hg)
    · exact ct_yldv (f := f) hh (hrun (h1 hg).bd) hR hf (h1 hg)
  case calv x as =>
    simp only [stpV, calvK] at h
    split at h
    · rename_i f caps hx
      obtain ⟨res, h1, h2⟩ := h
      rw [impP_iff, impP_iff] at h1
      refine ⟨res, h2, fun C E n a w hh hρ hg => ?_⟩
      have hR : RL w E n (okS C E σ.hp) (mapX (rdG g σ.fr) as) (as.map (evX a)) := RL_mapX as fun y hy => hρ (g, y) (by simp only [opG, opX]; exact List.mem_map.2 ⟨y, by simp [hy], rfl⟩) hg
      have hRx := hρ (g, x) (by simp only [opG, opX]; exact List.mem_map.2 ⟨x, by simp, rfl⟩) hg
      simp only [hx, R] at hRx
      obtain ⟨cs, k1, k2⟩ := hRx
      obtain ⟨y, as', ts, e1, e2, e3⟩ := inv_calv hc
      have he : as'.map a.eval = (as.map (evX a)).toArray := by apply Array.toList_inj.1; simp [cmpXs_sound e3 a]
      have he2 : (as.map (evX a)).toArray ++ cs = (as.map (evX a) ++ cs.toList).toArray := by apply Array.toList_inj.1; simp
      have hrun : bodyB P f = true → (execOp a.eval o).run P w = .ok (.enter f (as.map (evX a) ++ cs.toList).toArray) w := fun hbd => by
        simp [execOp, e1, resolve, cmpX_sound e2 a, k1, Deferred.ofValue, invoke, he, he2, callFunc_run hbd]
      rcases h1 with h1 | ⟨hf, h1⟩
      · exact ct_yld (f := f) hh (hrun (h1 hg).bd) (RL_append hR k2) (h1 hg)
      · exact ct_yldv (f := f) hh (hrun (h1 hg).bd) (RL_append hR k2) hf (h1 hg)
    · cases h
  case pick c x y =>
    obtain ⟨s, h1, h2⟩ := putO_ex h
    refine ⟨s, h2, fun C E n a w hh hρ hg => ?_⟩
    obtain ⟨dst, op, ty, pos, after, guard⟩ := o
    cases op <;> simp [cmpOp] at hc
    rename_i c' x' y'
    obtain ⟨⟨hc1, hc2⟩, hc3⟩ := hc
    have hgt : ∀ t cb, rdG g σ.fr (.t t) = .v (.bool cb) → ge σ.fr t cb := fun t cb hcb => by
      simp only [rdG, rd] at hcb
      cases hl : lk t σ.fr <;> rw [hl] at hcb <;> simp only [strip] at hcb <;> try (cases hcb; done)
      · exact .base (by rw [hl]; exact hcb)
      · rename_i j wj s'
        cases g with
        | none => cases hcb
        | some q =>
          obtain ⟨j0, w0⟩ := q
          simp only at hcb
          cases ha : alw 8 σ.fr j0 w0 j wj
          · rw [ha] at hcb; cases hcb
          · rw [ha] at hcb; simp only [orAny] at hcb
            subst hcb
            exact .step hl (alw_sound 8 ha hg)
    unfold pickS at h1
    split at h1
    · rename_i t
      simp only [opG] at hρ
      have hRc := hρ (g, .t t) (by simp) hg
      have hRy := hρ (some (t, false), y) (by simp)
      unfold pickO at h1
      split at h1
      · rename_i cb yb hcb hyb
        simp at h1; subst h1
        rw [hcb] at hRc; simp only [R] at hRc
        have hge := hgt t cb hcb
        rw [hyb] at hRy; simp only [R] at hRy
        refine yld_value (y := .bool (cb || yb)) ?_ (post_pure (by simp [R]))
        simp only [execOp, cmpX_sound hc1 a, cmpX_sound hc2 a, cmpX_sound hc3 a, hRc, asBool, Sem.run_bind, Sem.run_pure, Result.andThen_ok]
        cases cb
        · simp [hRy hge]
        · simp [evX]
      · cases h1
    · rename_i t hne
      simp only [opG] at hρ
      have hRc := hρ (g, .t t) (by simp) hg
      have hRx := hρ (some (t, true), x) (by simp)
      unfold pickA at h1
      split at h1
      · rename_i cb xb hcb hxb
        simp at h1; subst h1
        rw [hcb] at hRc; simp only [R] at hRc
        have hge := hgt t cb hcb
        rw [hxb] at hRx; simp only [R] at hRx
        refine yld_value (y := .bool (cb && xb)) ?_ (post_pure (by simp [R]))
        simp only [execOp, cmpX_sound hc1 a, cmpX_sound hc2 a, cmpX_sound hc3 a, hRc, asBool, Sem.run_bind, Sem.run_pure, Result.andThen_ok]
        cases cb
        · simp [evX]
        · simp [hRx hge]
      · cases h1
    · cases h1
  case bsl m T ps =>
    obtain ⟨s, h1, h2⟩ := putO_ex h
    refine ⟨s, h2, fun C E n a w hh hρ hg => ?_⟩
    obtain ⟨dst, op, ty, pos, after, guard⟩ := o
    cases op <;> simp [cmpOp] at hc
    rename_i t len parts
    obtain ⟨⟨⟨⟨⟨⟨⟨c1, c2⟩, c3⟩, c4⟩, c5⟩, c6⟩, c7⟩, c8⟩ := hc
    have c1' : P.underlying t = some (.slice T) := by split at c1 <;> simp_all
    have c6' : ∃ z, zeroOf P T = some z ∧ z.cells.size = m := by split at c6 <;> simp_all
    obtain ⟨y, w', k1, k2⟩ := bsl_run hh (fun x hx => hρ (g, x) (by simp only [opG, opX]; exact List.mem_map.2 ⟨x, hx, rfl⟩) hg) c1' c2 c3 c4 c5 c6' c7 c8 h1
    exact yld_value (w' := w') (by simp only [execOp, Sem.run_bind, k1, Result.andThen_ok, Sem.run_pure]) k2
  case slc x h' k' =>
    simp only [stpV, slcK] at h
    split at h
    · rename_i c m xs kd n kd' j hx hh' hk'
      obtain ⟨h1, h2⟩ := h
      rw [impP_iff] at h1
      refine ⟨_, h2, fun C E n' a w hh hρ hg => ?_⟩
      obtain ⟨e1, e2⟩ := h1 hg
      have hRx := hρ (g, x) (by simp [opG, opX]) hg
      have hRh := hρ (g, h') (by simp [opG, opX]) hg
      have hRk := hρ (g, k') (by simp [opG, opX]) hg
      simp only [hx, R] at hRx
      simp only [hh', R] at hRh
      simp only [hk', R] at hRk
      obtain ⟨dst, op, ty, pos, after, guard⟩ := o
      cases op <;> simp [cmpOp] at hc
      rename_i t y lo hi mx
      cases lo <;> cases hi <;> cases mx <;> simp [cmpOp] at hc
      obtain ⟨⟨⟨c1, c2⟩, c3⟩, c4⟩ := hc
      split at c4
      · rename_i e hu
        obtain ⟨i, hi⟩ := Option.isSome_iff_exists.1 c4
        obtain ⟨ad, len, cap, q0, rfl, ⟨q1, _⟩, q2, q3⟩ := hRx
        have hsz : (sizeOf e).run P w = .ok i.size w := by simp [sizeOf, typeInfo, hi]
        have hrun : ∃ ad', (Instr.slice t (.slice ad xs.length cap) none (some (.int kd n)) (some (.int kd' j))).run P w = .ok (.slice ad' xs.length xs.length) w ∧ (xs = [] ∨ ad' = ad) := by
          have b1 : (0 : Int) ≤ j ∧ j ≤ cap := by omega
          have b2 : (0 : Int) ≤ n ∧ n ≤ (j.toNat : Int) := by omega
          refine ⟨if j.toNat = 0 then ad else ad.map (·.add (0 * i.size)), ?_, ?_⟩
          · simp only [Instr.slice, Sem.run_bind, run_underlying hu, Result.andThen_ok, Instr.sliceBounds, Instr.sliceBound, asIntOf, Sem.run_pure]
            rw [if_pos b1]
            simp only [Sem.run_pure, Result.andThen_ok]
            rw [if_pos b2]
            simp only [Sem.run_pure, Result.andThen_ok, hsz]
            rw [show j.toNat = xs.length from by omega, show n.toNat = xs.length from by omega]
            simp
          · by_cases h0 : xs = []
            · exact .inl h0
            · right
              have : ¬ j.toNat = 0 := by
                have : xs.length ≠ 0 := fun h => h0 (List.eq_nil_of_length_eq_zero h)
                omega
              rw [if_neg this]; cases ad <;> simp [Addr.add]
        obtain ⟨ad', hrun, had⟩ := hrun
        refine yld_value (y := .slice ad' xs.length xs.length) (w' := w) ?_ (post_pure ?_)
        · simp only [execOp, Option.map_some, Option.map_none, cmpX_sound c1 a, cmpX_sound c2 a, cmpX_sound c3 a, q0, hRh, hRk]
          rw [Sem.run_bind, run_sliceAt_sl _ _ _ _ hu, hrun]; rfl
        · simp only [R]
          refine ⟨ad', _, _, rfl, rfl, ⟨Nat.le_refl _, fun _ => rfl⟩, q2, ?_⟩
          rcases q3 with q3 | q3
          · exact .inl q3
          · rcases had with h0 | rfl
            · exact .inl h0
            · exact .inr q3
      · cases c4
    · cases h
  case sub m x lo hi =>
    simp only [stpV, subK] at h
    split at h
    · rename_i c m' xs hx
      cases hm : Nat.beq m m'
      · rw [hm] at h; exact h.elim
      · rw [hm] at h; simp only [cond_true, subJ] at h
        have := Nat.eq_of_beq_eq_true hm; subst this
        split at h
        case h_2 => cases h
        case h_3 => cases h
        rename_i li hj hli hhj
        obtain ⟨i, j, h1, h2⟩ := h
        rw [impP_iff] at h1
        refine ⟨_, h2, fun C E n' a w hh hρ hg => ?_⟩
        obtain ⟨rfl, rfl, e3, e4⟩ := h1 hg
        have hRx := hρ (g, x) (by simp [opG, opX]) hg
        simp only [hx, R] at hRx
        obtain ⟨ad, len, cap, q0, rfl, ⟨q1, _⟩, q2, q3⟩ := hRx
        obtain ⟨dst, op, ty, pos, after, guard⟩ := o
        cases op <;> simp [cmpOp] at hc
        rename_i t y lo' hi' mx
        cases mx <;> simp [cmpOp] at hc
        obtain ⟨⟨⟨c1, c2⟩, c3⟩, c4⟩ := hc
        split at c4
        · rename_i e hu
          simp only [beq_iff_eq] at c4
          have hsz := run_sizeOf (w := w) c4
          have hlo : ∃ v, (lo'.map a.eval) = v ∧ ((v = none ∧ i = 0) ∨ ∃ k, v = some (.int k i)) := by
            cases lo with
            | none => cases lo' with
              | none => simp only [intO, Option.some.injEq] at hli; exact ⟨none, rfl, .inl ⟨rfl, by omega⟩⟩
              | some _ => simp [cmpXo] at c2
            | some xl => cases lo' with
              | none => simp [cmpXo] at c2
              | some ol =>
                simp only [cmpXo] at c2
                have hRl := hρ (g, xl) (by simp [opG, opX]) hg
                simp only [intO] at hli
                split at hli
                · rename_i k0 n0 hq
                  simp only [Option.some.injEq] at hli; subst hli
                  rw [hq] at hRl; simp only [R] at hRl
                  exact ⟨_, rfl, .inr ⟨k0, by simp only [Option.map_some, cmpX_sound c2 a, hRl]⟩⟩
                · cases hli
          have hhi : ∃ v, (hi'.map a.eval) = v ∧ ((v = none ∧ j = xs.length) ∨ ∃ k, v = some (.int k j)) := by
            cases hi with
            | none => cases hi' with
              | none => simp only [intO, Option.some.injEq] at hhj; exact ⟨none, rfl, .inl ⟨rfl, by omega⟩⟩
              | some _ => simp [cmpXo] at c3
            | some xl => cases hi' with
              | none => simp [cmpXo] at c3
              | some ol =>
                simp only [cmpXo] at c3
                have hRl := hρ (g, xl) (by simp [opG, opX]) hg
                simp only [intO] at hhj
                split at hhj
                · rename_i k0 n0 hq
                  simp only [Option.some.injEq] at hhj; subst hhj
                  rw [hq] at hRl; simp only [R] at hRl
                  exact ⟨_, rfl, .inr ⟨k0, by simp only [Option.map_some, cmpX_sound c3 a, hRl]⟩⟩
                · cases hhj
          obtain ⟨vl, el, hl⟩ := hlo
          obtain ⟨vh, eh, hh'⟩ := hhi
          have hb : (Instr.sliceBounds true xs.length cap vl vh none).run P w = .ok (i, j, cap) w := by
            have b1 : (0 : Int) ≤ i ∧ (i : Int) ≤ (j : Int) := by omega
            have b2 : (0 : Int) ≤ j ∧ (j : Int) ≤ (cap : Int) := by omega
            rcases hh' with ⟨rfl, rfl⟩ | ⟨k, rfl⟩ <;> rcases hl with ⟨rfl, rfl⟩ | ⟨k', rfl⟩
            · simp [Instr.sliceBounds]
            · simp only [Instr.sliceBounds, Instr.sliceBound, Sem.run_bind, asIntOf, Sem.run_pure, Result.andThen_ok]
              rw [if_pos b1]; simp
            · simp only [Instr.sliceBounds, Instr.sliceBound, Sem.run_bind, asIntOf, Sem.run_pure, Result.andThen_ok]
              rw [if_pos b2]; simp
            · simp only [Instr.sliceBounds, Instr.sliceBound, Sem.run_bind, asIntOf, Sem.run_pure, Result.andThen_ok]
              rw [if_pos b2]; simp only [Sem.run_pure, Result.andThen_ok, Int.toNat_natCast]
              rw [if_pos b1]; simp
          refine yld_value (y := .slice (if cap - i = 0 then ad else ad.map (·.add (i * m))) (j - i) (cap - i)) (w' := w) ?_ (post_pure ?_)
          · simp only [execOp, cmpX_sound c1 a, q0, el, eh, Option.map_none]
            rw [Sem.run_bind, run_sliceAt_sl _ _ _ _ hu]
            have hrun : (Instr.slice t (.slice ad xs.length cap) vl vh none).run P w = .ok (.slice (if cap - i = 0 then ad else ad.map (·.add (i * m))) (j - i) (cap - i)) w := by
              have hcc : (if cap = i then ad else ad.map (·.add (i * m))) = (if cap - i = 0 then ad else ad.map (·.add (i * m))) := by
                by_cases hq : cap = i
                · rw [if_pos hq, if_pos (by omega)]
                · rw [if_neg hq, if_neg (by omega)]
              simp only [Instr.slice, Sem.run_bind, run_underlying hu, Result.andThen_ok, hb, hsz, Sem.run_pure, hcc]
            rw [hrun]; rfl
          · simp only [R]
            have hlen : (List.drop i (List.take j xs)).length = j - i := by simp; omega
            refine ⟨_, _, _, rfl, hlen.symm, ⟨by omega, fun h => by cases h⟩, by omega, ?_⟩
            rcases q3 with q3 | ⟨b, off, rfl, q4⟩
            · left; rw [q3]; simp
            · by_cases he : j - i = 0
              · left; exact List.eq_nil_of_length_eq_zero (by omega)
              · right
                have hci : ¬ (cap - i = 0) := by omega
                rw [if_neg hci]
                refine ⟨b, off + i * m, by simp [addr_add], ?_⟩
                exact RR_sub q4 i j
        · cases c4
    · cases h
  case app m b T x y =>
    simp only [stpV, appK] at h
    split at h
    case h_2 => cases h
    case h_3 => cases h
    rename_i xs ys hxs hys
    obtain ⟨h1, h2⟩ := h
    rw [impP_iff] at h1
    refine ⟨_, h2, fun C E n a w hh hρ hg => ?_⟩
    have hlim := h1 hg
    have hRx := hρ (g, x) (by simp [opG, opX]) hg
    have hRy := hρ (g, y) (by simp [opG, opX]) hg
    obtain ⟨dst, op, ty, pos, after, guard⟩ := o
    cases op <;> simp [cmpOp] at hc
    rename_i c
    obtain ⟨callee, as, ts⟩ := c
    cases callee <;> try (simp at hc; done)
    rename_i bi
    cases bi <;> try (simp at hc; done)
    simp only [Bool.and_eq_true, beq_iff_eq, Nat.blt_eq] at hc
    obtain ⟨⟨⟨⟨hc, hsz⟩, hby⟩, hb0⟩, hz⟩ := hc
    obtain ⟨z, hz⟩ := Option.isSome_iff_exists.1 hz
    split at hc
    · rename_i x' y' t t' e1 e2
      simp only [Bool.and_eq_true, beq_iff_eq] at hc
      obtain ⟨⟨⟨rfl, c1⟩, c2⟩, c3⟩ := hc
      have c3' : P.underlying t = some (.slice T) := by split at c3 <;> simp_all
      have has : as.map a.eval = #[evX a x, evX a y] := by apply Array.toList_inj.1; simp [e1, cmpX_sound c1 a, cmpX_sound c2 a]
      have hts : ts = #[t, t] := by apply Array.toList_inj.1; simpa using e2
      obtain ⟨cx, x1, x2, x3, x4⟩ := basS_shows hRx hxs
      obtain ⟨cy, y1, y2, y3⟩ := sprS_shows hh hRy hys
      have hlim2 : xs.length + ys.length ≤ 140737488355328 := Nat.le_trans (Nat.le_mul_of_pos_right _ hb0) hlim
      obtain ⟨v, w', q1, q2, q3⟩ := run_append_new (P := P) (ty := ty) c3' hsz hby hz x1 x4 y1 hlim hlim2
      refine yld_value (y := v) (w' := w') (by simp [execOp, resolve, has, hts, invoke, builtin, q1]) ⟨?_, q2⟩
      have hst := stays_below (ok := okS C E σ.hp) q2
      simp only [R]
      rcases q3 with ⟨g0, rfl, rfl⟩ | ⟨g0, cap, g1, rfl, rfl⟩
      · have : ys = [] := List.eq_nil_of_length_eq_zero g0
        subst this
        rw [List.append_nil]
        exact (basS_R hRx hxs)
      · refine ⟨_, _, cap, rfl, by simp, ⟨by simpa using g1, fun h => by cases h⟩, by simp; omega, .inr ⟨w.heap.size, 0, rfl, ?_⟩⟩
        refine RR_of_cells (okS_fresh hh (Nat.le_refl _)) (xs ++ ys) 0 (cx ++ cy) (fun r hr => ?_) ?_ (fun j c hj => ?_)
        · rcases List.mem_append.1 hr with hr | hr
          · exact x3 r hr
          · exact y3 r hr
        · rw [List.flatten_append]
          exact RL_append (RL_mono hst (fun _ _ => ⟨rfl, rfl⟩) (fun _ h => h) _ _ x2) (RL_mono hst (fun _ _ => ⟨rfl, rfl⟩) (fun _ h => h) _ _ y2)
        · have hnew : (w.drew.alloc (.cells (cx.toArray ++ cy.toArray ++ Builtin.zeroCells z.cells (cap - (xs.length + ys.length))) T)).heap[w.heap.size]? = some (.cells (cx.toArray ++ cy.toArray ++ Builtin.zeroCells z.cells (cap - (xs.length + ys.length))) T (0, 0)) := heap_alloc_new _ _
          rw [Nat.zero_add, cell_of_row _ _ _ _ _ _ hnew]
          rw [Array.getElem?_append_left (by have := (List.getElem?_eq_some_iff.1 hj).1; simpa using this)]
          simpa using hj
    · cases hc
  case ld x m ag =>
    simp only [stpV, ldK] at h
    have hop : ∃ t y, o.op = .load t y ∧ cmpX x y = true ∧ agOf P t = some ag ∧ szOf P t = some m := by
      obtain ⟨dst, op, ty, pos, after, guard⟩ := o
      cases op <;> simp [cmpOp] at hc
      exact ⟨_, _, rfl, hc.1.1, hc.1.2, hc.2⟩
    obtain ⟨t, y, e1, e2, e3, e4⟩ := hop
    have fin {a : Act} {w : World} {b off : Nat} {v : Value} (he : evX a x = .pointer (some ⟨b, off, none⟩)) (hl : (loadVar t ⟨b, off, none⟩).run P w = .ok v w) : (execOp a.eval o).run P w = .ok (.value v) w := by
      simp only [execOp, e1, cmpX_sound e2 a, he, Instr.loadAt, Instr.sureAddr, Sem.run_bind, Sem.run_pure, Result.andThen_ok, hl]
    split at h
    · rename_i k o' hx
      unfold ldC at h
      split at h
      · rename_i l T hk
        obtain ⟨s, h1, h2⟩ := putO_ex h
        refine ⟨s, h2, fun C E n a w hh hρ hg => ?_⟩
        have hRx := hρ (g, x) (by simp [opG, opX]) hg
        simp only [hx, R] at hRx
        have hb := hh.bk k
        rw [hk] at hb; simp only [HBok] at hb
        obtain ⟨cs, k1, k2⟩ := hb
        obtain ⟨v, q1, q2⟩ := load_cells (P := P) (b := E.β k) (off := 0) (t := t) (o := o') k2 (fun j c hj => by rw [Nat.zero_add, cell_of_row _ _ _ _ _ _ k1]; simpa using hj) e3 e4 h1
        rw [Nat.zero_add] at q1
        exact yld_value (fin hRx.2 q1) (post_pure q2)
      · cases h
    · rename_i row o' hx
      obtain ⟨s, h1, h2⟩ := putO_ex h
      refine ⟨s, h2, fun C E n a w hh hρ hg => ?_⟩
      have hRx := hρ (g, x) (by simp [opG, opX]) hg
      simp only [hx, R] at hRx
      obtain ⟨b, off, r1, cs, r2, r3⟩ := hRx
      obtain ⟨v, q1, q2⟩ := load_cells (P := P) (b := b) (off := off) (t := t) (o := o') r2 r3.2 e3 e4 h1
      exact yld_value (fin r1 q1) (post_pure q2)
    · rename_i k m' j o' hx
      unfold ldR at h
      split at h
      · rename_i m'' xs T hk
        cases hm : Nat.beq m' m''
        · rw [hm] at h; exact h.elim
        · rw [hm] at h; simp only [ldB] at h
          have := Nat.eq_of_beq_eq_true hm; subst this
          obtain ⟨row, h1, h2⟩ := h
          rw [impP_iff] at h1
          obtain ⟨s, h3, h4⟩ := putO_ex h2
          refine ⟨s, h4, fun C E n a w hh hρ hg => ?_⟩
          have hRx := hρ (g, x) (by simp [opG, opX]) hg
          simp only [hx, R] at hRx
          obtain ⟨_, b, len, cap, r1, r2⟩ := hRx
          have hb := hh.bk k
          rw [hk] at hb; simp only [HBok] at hb
          rcases hb with ⟨hb, _⟩ | ⟨b', cap', cs, q1, q2, q3, ⟨q4, _⟩, _, q6, q7⟩
          · have hi := h1 hg; rw [hb] at hi; simp at hi
          · rw [r1] at q1; simp at q1; obtain ⟨rfl, _, _⟩ := q1
            have hi := h1 hg
            obtain ⟨cs', p1, p2⟩ := rows_get (m := m') hi q6 q7
            obtain ⟨v, s1, s2⟩ := load_cells (P := P) (w := w) (b := b) (off := j * m') (t := t) (o := o') p1 (fun j' c hj => by
              rw [cell_of_row _ _ _ _ _ _ q2]
              have := p2 j' c hj
              simpa using this) e3 e4 h3
            exact yld_value (fin r2 s1) (post_pure s2)
      · cases h
    · cases h
  case div b x y =>
    simp only [stpV, divK] at h
    split at h
    · rename_i k u j v hx hy
      · cases hk : kbeq k j
        · rw [hk] at h; exact h.elim
        · rw [hk] at h; simp only [divB] at h
          have := kbeq_eq hk; subst this
          obtain ⟨h1, h2⟩ := h
          rw [impP_iff] at h1
          refine ⟨_, h2, fun C E n a w hh hρ hg => ?_⟩
          have h0 := h1 hg
          have hRx := hρ (g, x) (by simp [opG, opX]) hg
          have hRy := hρ (g, y) (by simp [opG, opX]) hg
          simp only [hx, hy, R] at hRx hRy
          obtain ⟨dst, op, ty, pos, after, guard⟩ := o
          cases op <;> simp [cmpOp] at hc
          rename_i b' T x' y' T'
          obtain ⟨⟨⟨rfl, hb⟩, c1⟩, c2⟩ := hc
          refine yld_value (y := .int k (divr b k u v)) ?_ (post_pure (by simp [R]))
          rcases hb with rfl | rfl <;>
            simp [execOp, cmpX_sound c1 a, cmpX_sound c2 a, hRx, hRy, eqGuard, binOp, Op.intDiv, h0, divr]
    · cases h
  case idx x i len m ag =>
    simp only [stpV, idxK] at h
    split at h
    · rename_i k j l hi hx
      · skip
        obtain ⟨ix, h1, h2⟩ := h
        rw [impP_iff] at h1
        obtain ⟨s, h3, h4⟩ := putO_ex h2
        refine ⟨s, h4, fun C E n a w hh hρ hg => ?_⟩
        obtain ⟨rfl, hn⟩ := h1 hg
        have hRx := hρ (g, x) (by simp [opG, opX]) hg
        have hRi := hρ (g, i) (by simp [opG, opX]) hg
        simp only [hx, hi, R] at hRx hRi
        obtain ⟨cs, r1, r2⟩ := hRx
        obtain ⟨dst, op, ty, pos, after, guard⟩ := o
        cases op <;> simp [cmpOp] at hc
        obtain ⟨⟨c1, c2⟩, c3⟩ := hc
        split at c3
        · rename_i len' e hu
          simp at c3; obtain ⟨⟨rfl, c4⟩, c5⟩ := c3
          obtain ⟨c, p1, p2⟩ := partS_run r2 h3
          refine yld_value (y := if ag then .agg (cs.extract (ix * m) (ix * m + m)) else c) ?_ (post_pure p2)
          simp [execOp, cmpX_sound c1 a, cmpX_sound c2 a, r1, hRi, Instr.index, asIntOf, run_underlying hu, hn, run_sizeOf c4, run_part c5 c4 c p1]
        · cases c3
    · cases h
  case ixa x i len m =>
    simp only [stpV, ixaK] at h
    split at h
    · rename_i k j hi
      obtain ⟨ix, h1, h2⟩ := h
      rw [impP_iff] at h1
      obtain ⟨s, h3, h4⟩ := putO_ex h2
      refine ⟨s, h4, fun C E n a w hh hρ hg => ?_⟩
      obtain ⟨rfl, hn⟩ := h1 hg
      have hRx := hρ (g, x) (by simp [opG, opX]) hg
      have hRi := hρ (g, i) (by simp [opG, opX]) hg
      simp only [hi, R] at hRi
      obtain ⟨dst, op, ty, pos, after, guard⟩ := o
      cases op <;> simp [cmpOp] at hc
      rename_i tt xx jj
      obtain ⟨⟨c1, c2⟩, c3⟩ := hc
      have key : ∃ y, (Instr.indexAt tt (evX a x) (.int k ix)).run P w = .ok y w ∧ R w E n (okS C E σ.hp) s y := by
        cases hs : rdG g σ.fr x <;> rw [hs] at h3 hRx <;> simp [addoS] at h3 <;> subst h3 <;> simp only [R] at hRx
        case p kk q => obtain ⟨g1, g2⟩ := hRx; rw [g2]; exact ⟨_, run_indexAt_arr c3 hn, by simp [R, g1]⟩
        case pr kk mm ii q => obtain ⟨g1, b, l, c, g2, g3⟩ := hRx; rw [g3]; exact ⟨_, run_indexAt_arr c3 hn, by simp only [R]; exact ⟨g1, b, l, c, g2, by rw [Nat.add_assoc]⟩⟩
        case ps row q => obtain ⟨b, off, g2, g3⟩ := hRx; rw [g2]; exact ⟨_, run_indexAt_arr c3 hn, by simp only [R]; exact ⟨b, off, by rw [Nat.add_assoc], g3⟩⟩
      obtain ⟨y, q1, q2⟩ := key
      exact yld_value (by simp only [execOp, cmpX_sound c1 a, cmpX_sound c2 a, hRi, Sem.run_bind, q1, Result.andThen_ok, Sem.run_pure]) (post_pure q2)
    · cases h
  case ixs x i m =>
    simp only [stpV, ixsK] at h
    have hop : ∃ t y z, o.op = .indexAddr t y z ∧ cmpX x y = true ∧ cmpX i z = true ∧ (match P.underlying t with | some (.slice e) => szOf P e == some m | _ => false) = true := by
        obtain ⟨dst, op, ty, pos, after, guard⟩ := o
        cases op <;> simp [cmpOp] at hc
        exact ⟨_, _, _, rfl, hc.1.1, hc.1.2, hc.2⟩
    obtain ⟨t, y, z, e1, c1, c2, c3⟩ := hop
    split at h
    · rename_i k j m' xs hi hx
      · cases hm : Nat.beq m m'
        · rw [hm] at h; exact h.elim
        · rw [hm] at h; simp only [ixsB] at h
          have := Nat.eq_of_beq_eq_true hm; subst this
          obtain ⟨row, h1, h2⟩ := h
          rw [impP_iff] at h1
          refine ⟨_, h2, fun C E n a w hh hρ hg => ?_⟩
          obtain ⟨ix, rfl, hn⟩ := h1 hg
          have hRx := hρ (g, x) (by simp [opG, opX]) hg
          have hRi := hρ (g, i) (by simp [opG, opX]) hg
          simp only [hx, hi, R] at hRx hRi
          obtain ⟨ad, len, cap, r1, r2, r3, r4, r5⟩ := hRx
          have hlt : ix < xs.length := (List.getElem?_eq_some_iff.1 hn).1
          rcases r5 with r5 | ⟨b, off, r5, r6⟩
          · subst r5; simp at hlt
          · obtain ⟨cs, q1, q2⟩ := RR_get r6 hn
            subst r5; subst r2
            exact yld_value (y := .pointer (some ⟨b, off + ix * m, none⟩)) (by simp only [execOp, e1, cmpX_sound c1 a, cmpX_sound c2 a, r1, hRi, Sem.run_bind, run_indexAt_sl c3 hlt, Result.andThen_ok, Sem.run_pure]) (post_pure (by simp only [R]; exact ⟨b, off + ix * m, by simp, cs, q1, q2⟩))
    · rename_i k j kk hi hx
      · unfold ixrK at h
        split at h
        · rename_i m' xs T hk
          cases hm : Nat.beq m m'
          · rw [hm] at h; exact h.elim
          · rw [hm] at h; simp only [ixrB] at h
            have := Nat.eq_of_beq_eq_true hm; subst this
            obtain ⟨ix, h1, h2⟩ := h
            rw [impP_iff] at h1
            refine ⟨_, h2, fun C E n a w hh hρ hg => ?_⟩
            obtain ⟨rfl, hn⟩ := h1 hg
            have hRx := hρ (g, x) (by simp [opG, opX]) hg
            have hRi := hρ (g, i) (by simp [opG, opX]) hg
            simp only [hx, hi, R] at hRx hRi
            have hb := hh.bk kk
            rw [hk] at hb; simp only [HBok] at hb
            rcases hb with ⟨hb, _⟩ | ⟨b', cap', cs, q1, q2, q3, q4, _⟩
            · subst hb; simp at hn
            · have r1 : evX a x = .slice (some ⟨b', 0, none⟩) xs.length cap' := hRx.2.1.trans q1
              exact yld_value (y := .pointer (some ⟨b', 0 + ix * m, none⟩)) (by simp only [execOp, e1, cmpX_sound c1 a, cmpX_sound c2 a, r1, hRi, Sem.run_bind, run_indexAt_sl c3 hn, Result.andThen_ok, Sem.run_pure]) (post_pure (by simp only [R]; exact ⟨hRx.1, b', _, _, q1, by simp⟩))
        · cases h
    · cases h
  case len x =>
    simp only [stpV, lenK] at h
    split at h
    · rename_i k hx
      unfold lenR at h
      split at h
      · rename_i m xs T hk
        refine ⟨_, h, fun C E n a w hh hρ hg => ?_⟩
        have hRx := hρ (g, x) (by simp [opG, opX]) hg
        simp only [hx, R] at hRx
        obtain ⟨as, ts, y, t, e, e1, e2, e3, e4, e5⟩ := inv_len hc
        have he : as.map a.eval = #[evX a x] := by apply Array.toList_inj.1; simp [e2, cmpX_sound e4 a]
        have hb := hh.bk k
        rw [hk] at hb; simp only [HBok] at hb
        have hv : ∃ ad cap, evX a x = .slice ad xs.length cap := by
          rcases hb with ⟨q1, a0, q2⟩ | ⟨b', cap', cs, q1, _⟩
          · exact ⟨a0, 0, by rw [hRx.2.1, q2, q1]; rfl⟩
          · exact ⟨_, cap', by rw [hRx.2.1, q1]⟩
        obtain ⟨ad, cap, hv⟩ := hv
        exact yld_value (by simp [execOp, e1, resolve, he, invoke, builtin, Builtin.len_, e3, run_underlying e5, hv]; rfl) (post_pure (by simp only [R]; rfl))
      · cases h
    · rename_i m xs hx
      exact dfl2 (.v (.int .i64 xs.length)) (by simp [pv, hx]) h
    · cases h
end

/-! ## whole states -/
section
variable {fr : List (Nat × SV)} {gs : List Nat} {t : Nat} {s : SV}
theorem memb_iff {t : Nat} : ∀ {l : List Nat}, memb t l = true ↔ t ∈ l
  | [] => by simp [memb]
  | u :: r => by
    simp only [memb, List.mem_cons]
    cases h : Nat.beq t u
    · have : t ≠ u := fun e => by subst e; rw [Nat.beq_refl] at h; cases h
      simp [memb_iff (l := r), this]
    · simp [Nat.eq_of_beq_eq_true h]
theorem GE_push (hc : ∀ t j b s, lk t fr = .gd j b s → j ∈ gs) (ht : t ∉ gs) {j : Nat} {b : Bool} (hj : j ∈ gs) : GE ((t, s) :: fr) j b ↔ GE fr j b := by
  have hne : ∀ {j}, j ∈ gs → lk j ((t, s) :: fr) = lk j fr := fun {j} hj => by
    rw [lk_cons, if_neg]; rintro rfl; exact ht hj
  constructor
  · intro h
    induction h with
    | base h => rw [hne hj] at h; exact .base h
    | step h h' ih => rw [hne hj] at h; exact .step h (ih (hc _ _ _ _ h))
  · intro h
    induction h with
    | base h => exact .base (by rw [hne hj]; exact h)
    | step h h' ih => exact .step (by rw [hne hj]; exact h) (ih (hc _ _ _ _ h))
end
section
variable {C : Cx} {E E' : Env} {σ : St} {a : Act} {w w' : World} {hp' : List (Nat × HB)} {n' : Nat}
theorem put_get (a : Act) (t u : Nat) (y : Value) (h : t < a.tmps.size) : (a.put (some t) y).tmps.getD u undef = if u = t then y else a.tmps.getD u undef := by
  simp only [Act.put]
  by_cases hu : u = t
  · subst hu; simp [h]
  · simp [hu, Ne.symm hu]
theorem FR_mono {fr fr' : List (Nat × SV)} {n n' : Nat → Prop} {ok ok' : Nat → Prop} {s : SV} {y : Value} (hs : Stays w w' ok ok') (hE : ∀ k, n k → E'.β k = E.β k ∧ E'.hv k = E.hv k) (hn : ∀ k, n k → n' k)
    (hg : ∀ j b t, s = .gd j b t → (GE fr' j b ↔ GE fr j b)) (h : FR w E n ok fr s y) : FR w' E' n' ok' fr' s y := by
  cases s <;> try exact R_mono hs hE hn _ _ h
  rename_i j b t
  have hg' := hg j b t rfl
  exact ⟨fun hh => R_mono hs hE hn _ _ (h.1 (hg'.1 hh)), fun hh => h.2 (fun x => hh (hg'.2 x))⟩
/-- an operation's value is laid into its slot -/
theorem Sim_put {t : Nat} {s : SV} {y : Value} (h : Sim C E σ a w) (hs : Stays w w' (okS C E σ.hp) (okS C E' hp')) (hE : ∀ k, k < σ.n → E'.β k = E.β k ∧ E'.hv k = E.hv k) (hn : σ.n ≤ n')
    (hh : HSim C E' hp' (ltn n') w') (ht : t ∉ σ.gs) (hN : t < σ.N) (hne : ∀ j b u, s ≠ .gd j b u) (hR : R w' E' (ltn n') (okS C E' hp') s y) : Sim C E' ⟨(t, s) :: σ.fr, hp', n', σ.N, σ.gs⟩ (a.put (some t) y) w' := by
  have hsz : t < a.tmps.size := by rw [h.sz]; exact hN
  refine ⟨fun u => ?_, by simp [Act.put, h.sz], by simp [Act.put, h.df], fun u j b v hu => ?_, hh⟩
  · rw [put_get a t u y hsz, lk_cons]
    by_cases hu : u = t
    · rw [if_pos hu, if_pos hu]
      cases s <;> first | exact hR | exact absurd rfl (hne _ _ _)
    · rw [if_neg hu, if_neg hu]
      refine FR_mono hs hE (fun k hk => Nat.lt_of_lt_of_le hk hn) (fun j b v hv => ?_) (h.fr u)
      exact GE_push h.gs ht (h.gs u j b v hv)
  · simp only [lk_cons] at hu
    split at hu
    · exact absurd hu (hne _ _ _)
    · exact h.gs u j b v hu
/-- a guarded operation: done, or passed over -/
theorem Sim_putg {t j : Nat} {b : Bool} {s : SV} {y : Value} (h : Sim C E σ a w) (hb : Below w.heap.size w w') (ht : t ∉ σ.gs) (htj : t ≠ j) (hN : t < σ.N)
    (hR : ge σ.fr j b → R w' E (ltn σ.n) (okS C E σ.hp) s y) (hU : ¬ ge σ.fr j b → y = undef) :
    Sim C E ⟨(t, .gd j b s) :: σ.fr, σ.hp, σ.n, σ.N, j :: σ.gs⟩ (a.put (some t) y) w' := by
  have hsz : t < a.tmps.size := by rw [h.sz]; exact hN
  have hc : ∀ u j' b' s', lk u σ.fr = .gd j' b' s' → j' ∈ j :: σ.gs := fun u j' b' s' hu => by simp [h.gs u j' b' s' hu]
  have htg : t ∉ j :: σ.gs := by simp [htj, ht]
  have hst : Stays w w' (okS C E σ.hp) (okS C E σ.hp) := stays_below hb
  refine ⟨fun u => ?_, by simp [Act.put, h.sz], by simp [Act.put, h.df], fun u j' b' v hu => ?_, HSim_below h.hs hb⟩
  · rw [put_get a t u y hsz, lk_cons]
    by_cases hu : u = t
    · rw [if_pos hu, if_pos hu]
      have := GE_push (s := .gd j b s) (b := b) hc htg (j := j) (by simp)
      exact ⟨fun hh => hR (this.1 hh), fun hh => hU (fun x => hh (this.2 x))⟩
    · rw [if_neg hu, if_neg hu]
      refine FR_mono hst (fun _ _ => ⟨rfl, rfl⟩) (fun _ h => h) (fun j' b' v hv => ?_) (h.fr u)
      exact GE_push hc htg (hc u j' b' v hv)
  · simp only [lk_cons] at hu
    split at hu
    · cases hu; simp
    · simp [h.gs u j' b' v hu]
theorem Sim_same (h : Sim C E σ a w) (hs : Stays w w' (okS C E σ.hp) (okS C E' hp')) (hE : ∀ k, k < σ.n → E'.β k = E.β k ∧ E'.hv k = E.hv k) (hn : σ.n ≤ n') (hh : HSim C E' hp' (ltn n') w') : Sim C E' ⟨σ.fr, hp', n', σ.N, σ.gs⟩ a w' :=
  ⟨fun u => FR_mono hs hE (fun k hk => Nat.lt_of_lt_of_le hk hn) (fun _ _ _ _ => Iff.rfl) (h.fr u), h.sz, h.df, h.gs, hh⟩

theorem occ_same {hp : List (Nat × HB)} {k : Nat} {hb : HB} (h : ∀ b, occ E k hb b ↔ occ E k (lkh k hp) b) (j b : Nat) : occ E j (lkh j ((k, hb) :: hp)) b ↔ occ E j (lkh j hp) b := by
  rw [lkh_cons]
  by_cases hj : j = k
  · subst hj; rw [if_pos rfl]; exact h b
  · rw [if_neg hj]
theorem okS_same {hp : List (Nat × HB)} {k : Nat} {hb : HB} (h : ∀ b, occ E k hb b ↔ occ E k (lkh k hp) b) (b : Nat) : okS C E ((k, hb) :: hp) b ↔ okS C E hp b := by
  unfold okS
  have := occ_same h
  constructor
  · rintro ⟨h1, h2⟩; exact ⟨h1, fun j hj => h2 j ((this j b).2 hj)⟩
  · rintro ⟨h1, h2⟩; exact ⟨h1, fun j hj => h2 j ((this j b).1 hj)⟩
/-- a store into a block of the call's own -/
theorem HSim_store {hp : List (Nat × HB)} {n : Nat → Prop} {k B : Nat} {hb : HB} {cs : List Value} {T : TypeId} (h : HSim C E hp n w) (hocc : ∀ b, occ E k hb b ↔ occ E k (lkh k hp) b) (hB : occ E k (lkh k hp) B) (hw : Wrote w w' B cs T)
    (hk : Stays w w' (okS C E hp) (okS C E ((k, hb) :: hp)) → HBok w' E n (okS C E ((k, hb) :: hp)) k hb) :
    HSim C E ((k, hb) :: hp) n w' ∧ Stays w w' (okS C E hp) (okS C E ((k, hb) :: hp)) := by
  have hkn : n k := by
    rcases Classical.em (n k) with h' | h'
    · exact h'
    · rw [h.kn k h'] at hB; exact hB.elim
  have hst : Stays w w' (okS C E hp) (okS C E ((k, hb) :: hp)) := fun b hb' _ => ⟨(okS_same hocc b).2 hb', hw.same b (fun e => by subst e; exact hb'.2 k hB)⟩
  refine ⟨⟨fun j hj => ?_, fun j => ?_, fun j j' b h1 h2 => ?_, fun j b h1 => ?_, ⟨hw.os.trans h.kp.os, hw.tape.trans h.kp.tape, hw.output.trans h.kp.output, by rw [hw.size]; exact h.kp.size, fun b h1 h2 => ?_⟩⟩, hst⟩
  · rw [lkh_cons, if_neg (by rintro rfl; exact hj hkn)]; exact h.kn j hj
  · rw [lkh_cons]
    by_cases hj : j = k
    · subst hj; rw [if_pos rfl]; exact hk hst
    · rw [if_neg hj]
      refine HBok_mono hst (fun _ _ => ⟨rfl, rfl⟩) (fun _ h => h) ?_ (fun b ho => hw.same b (fun e => ?_)) (h.bk j)
      · rcases Classical.em (n j) with h' | h'
        · exact .inr h'
        · exact .inl (h.kn j h')
      · subst e; exact hj (h.dj j k b ho hB)
  · exact h.dj j j' b ((occ_same hocc j b).1 h1) ((occ_same hocc j' b).1 h2)
  · exact h.lo j b ((occ_same hocc j b).1 h1)
  · rw [hw.same b ?_]
    · exact h.kp.block b h1 h2
    · rintro rfl
      rcases h.lo k b hB with h' | h'
      · omega
      · exact h2 h'
/-- a new block of the call's own, under a key that is free -/
theorem HSim_new {hp : List (Nat × HB)} {n : Nat → Prop} {q : Nat} {l : List SV} {cs : Array Value} {T : TypeId} (h : HSim C E hp n w) (hq : ¬ n q) (hR : RL w E n (okS C E hp) l cs.toList) :
    ∃ E', (∀ k, n k → E'.β k = E.β k ∧ E'.hv k = E.hv k) ∧ E'.β q = w.heap.size ∧ HSim C E' ((q, .cells l T) :: hp) (fun k => n k ∨ k = q) (w.alloc (.cells cs T)) ∧
      Stays w (w.alloc (.cells cs T)) (okS C E hp) (okS C E' ((q, .cells l T) :: hp)) := by
  let E' : Env := ⟨fun k => if k = q then w.heap.size else E.β k, E.hv⟩
  have hE : ∀ k, n k → E'.β k = E.β k ∧ E'.hv k = E.hv k := fun k hk => ⟨by simp [E', show k ≠ q from by rintro rfl; exact hq hk], rfl⟩
  have hEn : E'.β q = w.heap.size := by simp [E']
  have hbel : Below w.heap.size w (w.alloc (.cells cs T)) := (Below.refl _ _).alloc (Nat.le_refl _) _
  have hoc : ∀ j b, j ≠ q → (occ E' j (lkh j ((q, .cells l T) :: hp)) b ↔ occ E j (lkh j hp) b) := fun j b hj => by
    rw [lkh_cons, if_neg hj]
    cases hl : lkh j hp <;> simp only [occ, E', if_neg hj]
  have hocn : ∀ b, occ E' q (lkh q ((q, .cells l T) :: hp)) b ↔ b = w.heap.size := fun b => by
    rw [lkh_cons, if_pos rfl]; simp only [occ, hEn]
  have hlt : ∀ b, b < w.heap.size → (okS C E' ((q, .cells l T) :: hp) b ↔ okS C E hp b) := fun b hb => by
    unfold okS
    constructor
    · rintro ⟨h1, h2⟩
      refine ⟨h1, fun j hj => ?_⟩
      by_cases hjn : j = q
      · subst hjn; rw [h.kn j hq] at hj; exact hj
      · exact h2 j ((hoc j b hjn).2 hj)
    · rintro ⟨h1, h2⟩
      refine ⟨h1, fun j hj => ?_⟩
      by_cases hjn : j = q
      · subst hjn; rw [hocn] at hj; omega
      · exact h2 j ((hoc j b hjn).1 hj)
  have hst : Stays w (w.alloc (.cells cs T)) (okS C E hp) (okS C E' ((q, .cells l T) :: hp)) := fun b hb hs => by
    have hlt' : b < w.heap.size := by
      obtain ⟨o, ho⟩ := Option.isSome_iff_exists.1 hs
      exact (Array.getElem?_eq_some_iff.1 ho).1
    exact ⟨(hlt b hlt').2 hb, hbel.block b hlt'⟩
  refine ⟨E', hE, hEn, ⟨fun j hj => ?_, fun j => ?_, fun j j' b h1 h2 => ?_, fun j b h1 => ?_, keeps_below h.kp hbel⟩, hst⟩
  · rw [lkh_cons, if_neg (fun e => hj (.inr e))]; exact h.kn j (fun e => hj (.inl e))
  · rw [lkh_cons]
    by_cases hj : j = q
    · subst hj; rw [if_pos rfl]
      simp only [HBok, hEn]
      exact ⟨cs, heap_alloc_new _ _, RL_mono hst hE (fun _ h => .inl h) _ _ hR⟩
    · rw [if_neg hj]
      refine HBok_mono hst hE (fun _ h => .inl h) ?_ (fun b ho => hbel.block b (occ_lt h ho)) (h.bk j)
      rcases Classical.em (n j) with h' | h'
      · exact .inr h'
      · exact .inl (h.kn j h')
  · by_cases hj : j = q <;> by_cases hj' : j' = q
    · omega
    · subst hj; rw [hocn] at h1; rw [hoc j' b hj'] at h2; have := occ_lt h h2; omega
    · subst hj'; rw [hocn] at h2; rw [hoc j b hj] at h1; have := occ_lt h h1; omega
    · exact h.dj j j' b ((hoc j b hj).1 h1) ((hoc j' b hj').1 h2)
  · by_cases hj : j = q
    · subst hj; rw [hocn] at h1; exact .inl (by rw [h1]; exact h.kp.size)
    · exact h.lo j b ((hoc j b hj).1 h1)
end
section
variable {C : Cx} {E : Env} {w w' : World}
/-- a new row of the call's own, under a key that is free -/
theorem HSim_newrow {hp : List (Nat × HB)} {n : Nat → Prop} {q m : Nat} {xs : List (List SV)} {T : TypeId} {v : Value} (h : HSim C E hp n w) (hq : ¬ n q) (hbel : Below w.heap.size w w')
    (hv : (xs = [] ∧ ∃ a, v = .slice a 0 0) ∨ ∃ cap cs, v = .slice (some ⟨w.heap.size, 0, none⟩) xs.length cap ∧ w'.heap[w.heap.size]? = some (.cells cs T (0, 0)) ∧ cs.size = cap * m ∧ (xs.length ≤ cap ∧ cap ≠ 0) ∧ xs.length ≤ 9223372036854775807 ∧
      (∀ r ∈ xs, r.length = m) ∧ RL w E n (okS C E hp) xs.flatten (cs.toList.take (xs.length * m))) :
    ∃ E', (∀ k, n k → E'.β k = E.β k ∧ E'.hv k = E.hv k) ∧ E'.hv q = v ∧ HSim C E' ((q, .row m xs T) :: hp) (fun k => n k ∨ k = q) w' ∧ Stays w w' (okS C E hp) (okS C E' ((q, .row m xs T) :: hp)) := by
  let E' : Env := ⟨E.β, fun k => if k = q then v else E.hv k⟩
  have hE : ∀ k, n k → E'.β k = E.β k ∧ E'.hv k = E.hv k := fun k hk => ⟨rfl, by simp [E', show k ≠ q from by rintro rfl; exact hq hk]⟩
  have hEn : E'.hv q = v := by simp [E']
  have hoc : ∀ j b, j ≠ q → (occ E' j (lkh j ((q, .row m xs T) :: hp)) b ↔ occ E j (lkh j hp) b) := fun j b hj => by
    rw [lkh_cons, if_neg hj]
    cases hl : lkh j hp <;> simp only [occ, E', if_neg hj]
  have hocn : ∀ b, occ E' q (lkh q ((q, .row m xs T) :: hp)) b → b = w.heap.size := fun b => by
    rw [lkh_cons, if_pos rfl]; simp only [occ, hEn]
    rintro ⟨len, cap, e1, e2⟩
    rcases hv with ⟨_, a, rfl⟩ | ⟨cap', cs, rfl, _⟩
    · simp only [Value.slice.injEq] at e1; exact absurd e1.2.2.symm e2
    · simp at e1; exact e1.1.symm
  have hlt : ∀ b, b < w.heap.size → (okS C E' ((q, .row m xs T) :: hp) b ↔ okS C E hp b) := fun b hb => by
    unfold okS
    constructor
    · rintro ⟨h1, h2⟩
      refine ⟨h1, fun j hj => ?_⟩
      by_cases hjn : j = q
      · subst hjn; rw [h.kn j hq] at hj; exact hj
      · exact h2 j ((hoc j b hjn).2 hj)
    · rintro ⟨h1, h2⟩
      refine ⟨h1, fun j hj => ?_⟩
      by_cases hjn : j = q
      · subst hjn; have := hocn b hj; omega
      · exact h2 j ((hoc j b hjn).1 hj)
  have hst : Stays w w' (okS C E hp) (okS C E' ((q, .row m xs T) :: hp)) := fun b hb hs => by
    have hlt' : b < w.heap.size := by
      obtain ⟨o, ho⟩ := Option.isSome_iff_exists.1 hs
      exact (Array.getElem?_eq_some_iff.1 ho).1
    exact ⟨(hlt b hlt').2 hb, hbel.block b hlt'⟩
  refine ⟨E', hE, hEn, ⟨fun j hj => ?_, fun j => ?_, fun j j' b h1 h2 => ?_, fun j b h1 => ?_, keeps_below h.kp hbel⟩, hst⟩
  · rw [lkh_cons, if_neg (fun e => hj (.inr e))]; exact h.kn j (fun e => hj (.inl e))
  · rw [lkh_cons]
    by_cases hj : j = q
    · subst hj; rw [if_pos rfl]
      simp only [HBok, hEn]
      rcases hv with ⟨e1, e2⟩ | ⟨cap, cs, e1, e2, e3, e4, e5, e6, e7⟩
      · exact .inl ⟨e1, e2⟩
      · exact .inr ⟨_, cap, cs, e1, e2, e3, e4, e5, e6, RL_mono hst hE (fun _ h => .inl h) _ _ e7⟩
    · rw [if_neg hj]
      refine HBok_mono hst hE (fun _ h => .inl h) ?_ (fun b ho => hbel.block b (occ_lt h ho)) (h.bk j)
      rcases Classical.em (n j) with h' | h'
      · exact .inr h'
      · exact .inl (h.kn j h')
  · by_cases hj : j = q <;> by_cases hj' : j' = q
    · omega
    · subst hj; have := hocn b h1; rw [hoc j' b hj'] at h2; have := occ_lt h h2; omega
    · subst hj'; have := hocn b h2; rw [hoc j b hj] at h1; have := occ_lt h h1; omega
    · exact h.dj j j' b ((hoc j b hj).1 h1) ((hoc j' b hj').1 h2)
  · by_cases hj : j = q
    · subst hj; have := hocn b h1; exact .inl (by rw [this]; exact h.kp.size)
    · exact h.lo j b ((hoc j b hj).1 h1)
end
theorem rep_get {α : Type} (z : List α) : ∀ (k i : Nat), i < k * z.length → (List.replicate k z).flatten[i]? = z[i % z.length]?
  | 0, i, h => by simp at h
  | k + 1, i, h => by
    rw [List.replicate_succ, List.flatten_cons]
    by_cases hi : i < z.length
    · rw [List.getElem?_append_left hi, Nat.mod_eq_of_lt hi]
    · rw [List.getElem?_append_right (by omega), rep_get z k (i - z.length) (by rw [Nat.add_mul, Nat.one_mul] at h; omega), ← Nat.mod_eq_sub_mod (by omega)]
theorem zeros_eq (z : Array Value) (k : Nat) : (madeCells z (k * z.size)).toList = (List.replicate k z.toList).flatten := by
  apply List.ext_getElem?
  intro i
  by_cases hi : i < k * z.size
  · rw [rep_get z.toList k i (by simpa using hi)]
    have hz : 0 < z.size := by
      rcases Nat.eq_zero_or_pos z.size with h | h
      · rw [h] at hi; simp at hi
      · exact h
    have hm := Nat.mod_lt i hz
    unfold madeCells
    rw [Array.toList_map, List.getElem?_map, Array.toList_range, List.getElem?_range hi]
    simp only [Option.map_some, Array.length_toList]
    rw [getElem!_pos z (i % z.size) hm, List.getElem?_eq_getElem (by simpa using hm)]
    rfl
  · rw [List.getElem?_eq_none (by simp [madeCells]; omega), List.getElem?_eq_none (by simp; omega)]
section
variable {P : Program} {w : World}
/-- make of a slice -/
theorem run_makeS {t e m by' k : Nat} {kd kd' : IntKind} {z : Value} (ht : P.underlying t = some (.slice e)) (hm : szOf P e = some m) (hb : bytesOf P e = some by') (hz : zeroOf P e = some z) (hzm : z.cells.size = m) (hlim : k * by' ≤ 140737488355328) (hb0 : 0 < by') (hm0 : 0 < m) :
    (Instr.makeSlice t (.int kd k) (.int kd' k)).run P w = .ok (.slice (some ⟨w.heap.size, 0, none⟩) k k) (w.alloc (.cells (List.replicate k z.cells.toList).flatten.toArray e)) := by
  obtain ⟨i, hi⟩ : ∃ i, P.info? e = some i := by
    unfold szOf at hm
    cases hq : P.info? e with
    | none => simp [hq] at hm
    | some i => exact ⟨i, rfl⟩
  have hsz : i.size = m := by simpa [szOf, hi] using hm
  have hby : i.bytes = by' := by simpa [bytesOf, hi] using hb
  have hzi : i.zero = some z := by simpa [zeroOf, hi] using hz
  have hk : k ≤ 140737488355328 := Nat.le_trans (Nat.le_mul_of_pos_right _ hb0) hlim
  have hl1 : (i.bytes : Int) * (k : Int) ≤ 281474976710656 := by
    have h : ((i.bytes * k : Nat) : Int) ≤ 281474976710656 := by rw [hby, Nat.mul_comm]; omega
    rwa [Int.natCast_mul] at h
  have hr := run_make (P := P) w t e i z ht hi hzi kd kd' (k : Int) (k : Int) (by omega) (Int.le_refl _) hl1 (by omega)
  simp only [Int.toNat_natCast] at hr
  rw [hr]
  congr 3
  apply Array.toList_inj.1
  rw [hsz, ← hzm, zeros_eq]
end

/-! ## operations that write; regions -/
def allOne : List SV → Bool
  | [] => true
  | s :: l => bif oneS s then allOne l else false
def newB : Bool → Bool → Nat → List SV → TypeId → St → KT → (St → Prop) → Prop
  | false, true, t, c, T, σ, r, K => r ⟨(t, .p σ.n 0) :: σ.fr, (σ.n, .cells c T) :: σ.hp, σ.n + 1, σ.N, σ.gs⟩ K
  | _, _, _, _, _, _, _, _ => False
def newK (d : Option Nat) (c : Option (List SV)) (T : TypeId) (σ : St) (r : KT) (K : St → Prop) : Prop :=
  match d, c with
  | some t, some c => newB (memb t σ.gs) (Nat.blt t σ.N) t c T σ r K
  | _, _ => False
def STR (xs : List (List SV)) (j o k m : Nat) (c : List SV) (T : TypeId) (σ : St) (r : KT) (K : St → Prop) : Prop :=
  ∃ row, xs[j]? = some row ∧ o + c.length ≤ row.length ∧ r ⟨σ.fr, (k, .row m (xs.set j (splice row o c)) T) :: σ.hp, σ.n, σ.N, σ.gs⟩ K
/-- what a special operation does, told from outside -/
def OpTo (P : Program) (d : Option Nat) (op : Op) (ty : TypeId) (σ σ' : St) : Prop :=
  ∀ (o : Oper) C E a w next Q, o.dst = d → o.op = op → o.type = ty → Sim C E σ a w → (∀ E' a' w', Sim C E' σ' a' w' → next a' w') → o.wp P a w next Q
def RAW (P : Program) (d : Option Nat) (op : Op) (ty : TypeId) (σ : St) (r : KT) (K : St → Prop) : Prop :=
  ∃ σ', OpTo P d op ty σ σ' ∧ r σ' K
def stCB : Bool → Nat → Nat → List SV → TypeId → List SV → St → KT → (St → Prop) → Prop
  | true, k, o, l, T, c, σ, r, K => r ⟨σ.fr, (k, .cells (splice l o c) T) :: σ.hp, σ.n, σ.N, σ.gs⟩ K
  | false, _, _, _, _, _, _, _, _ => False
def stC (k o m : Nat) (hb : HB) (c : List SV) (σ : St) (r : KT) (K : St → Prop) : Prop :=
  match hb with
  | .cells l T => stCB (Nat.ble (o + m) l.length) k o l T c σ r K
  | _ => False
def stRB : Bool → List (List SV) → Nat → Nat → Nat → Nat → List SV → TypeId → St → KT → (St → Prop) → Prop
  | true, xs, j, o, k, m, c, T, σ, r, K => STR xs j o k m c T σ r K
  | false, _, _, _, _, _, _, _, _, _, _ => False
def stR (k m' j o : Nat) (hb : HB) (c : List SV) (σ : St) (r : KT) (K : St → Prop) : Prop :=
  match hb with
  | .row m'' xs T => stRB (Nat.beq m' m'') xs j o k m' c T σ r K
  | _ => False
def stX (x : SV) (m : Nat) (c : List SV) (σ : St) (r : KT) (K : St → Prop) : Prop :=
  match x with
  | .p k o => stC k o m (lkh k σ.hp) c σ r K
  | .pr k m' j o => stR k m' j o (lkh k σ.hp) c σ r K
  | _ => False
def storeB : Bool → Bool → SV → Nat → List SV → St → KT → (St → Prop) → Prop
  | true, true, x, m, c, σ, r, K => stX x m c σ r K
  | _, _, _, _, _, _, _, _ => False
def storeK (d : Option Nat) (c : Option (List SV)) (m : Nat) (x : SV) (σ : St) (r : KT) (K : St → Prop) : Prop :=
  match d, c with
  | none, some c => storeB (chk c m) (allOne c) x m c σ r K
  | _, _ => False
def newRB : Bool → Bool → Nat → Nat → List (List SV) → TypeId → St → KT → (St → Prop) → Prop
  | false, true, t, m, xs, T, σ, r, K => r ⟨(t, .mr σ.n) :: σ.fr, (σ.n, .row m xs T) :: σ.hp, σ.n + 1, σ.N, σ.gs⟩ K
  | _, _, _, _, _, _, _, _, _ => False
def rowK (d : Option Nat) (m : Nat) (xs : List (List SV)) (T : TypeId) (σ : St) (r : KT) (K : St → Prop) : Prop :=
  match d with
  | some t => newRB (memb t σ.gs) (Nat.blt t σ.N) t m xs T σ r K
  | none => False
def CLN (b : Nat) (d : Option Nat) (m : Nat) (xs : List (List SV)) (T : TypeId) (σ : St) (r : KT) (K : St → Prop) : Prop :=
  xs.length * b ≤ 140737488355328 ∧ rowK d m xs T σ r K
def clnK (b : Nat) (d : Option Nat) (m : Nat) (x y : Option (List (List SV))) (T : TypeId) (σ : St) (r : KT) (K : St → Prop) : Prop :=
  match x, y with
  | some [], some ys => CLN b d m ys T σ r K
  | some (_ :: _), _ => False
  | some [], none => False
  | none, _ => False
def MKS (b : Nat) (d : Option Nat) (m : Nat) (z : List SV) (n : Int) (T : TypeId) (σ : St) (r : KT) (K : St → Prop) : Prop :=
  ∃ k : Nat, n = k ∧ k * b ≤ 140737488355328 ∧ rowK d m (List.replicate k z) T σ r K
def mksK (b : Nat) (d : Option Nat) (m : Nat) (z : List Value) (x : SV) (T : TypeId) (σ : St) (r : KT) (K : St → Prop) : Prop :=
  match x with
  | .v (.int _ n) => MKS b d m (lit z) n T σ r K
  | _ => False
/-- whether a slice is nil: it is empty, then -/
def ISN (d : Option Nat) (xs : List (List SV)) (σ : St) (r : KT) (K : St → Prop) : Prop :=
  ∀ b : Bool, (b = true → xs = []) → putK d (.v (.bool b)) none σ r K
def isnK (d : Option Nat) (x : SV) (σ : St) (r : KT) (K : St → Prop) : Prop :=
  match x with
  | .sl _ _ xs => ISN d xs σ r K
  | _ => False
def stp (P : Program) (d : Option Nat) (i : SI) (σ : St) (r : KT) (K : St → Prop) : Prop :=
  match i with
  | .st x y m => storeK d (cellsO (rdG none σ.fr y)) m (rdG none σ.fr x) σ r K
  | .box x _ T => newK d (cellsO (rdG none σ.fr x)) T σ r K
  | .alloc z T => newK d (some (lit z)) T σ r K
  | .cln m b T x y => clnK b d m (basS m (rdG none σ.fr x)) (sprV m (rdG none σ.fr y)) T σ r K
  | .mks m b z T x => mksK b d m z (rdG none σ.fr x) T σ r K
  | .isn x => isnK d (rdG none σ.fr x) σ r K
  | .raw op ty => RAW P d op ty σ r K
  | i => stpV P none d i σ r K

def skipK (d : Option Nat) (σ : St) (r : KT) (K : St → Prop) : Prop := putK d (.v undef) none σ r K
def hasD : Option Nat → Bool
  | some _ => true
  | none => false
def GB (P : Program) (b : Bool) (j : Nat) (w : Bool) (d : Option Nat) (i : SI) (σ : St) (r : KT) (K : St → Prop) : Prop :=
  (b = w ∧ stp P d i σ r K) ∨ (b ≠ w ∧ skipK d σ r K) ∨ stpV P (some (j, w)) d i σ r K
def gK (P : Program) (s : SV) (j : Nat) (w : Bool) (d : Option Nat) (i : SI) (σ : St) (r : KT) (K : St → Prop) : Prop :=
  match s with
  | .v (.bool b) => GB P b j w d i σ r K
  | .gd _ _ (.v (.bool _)) => stpV P (some (j, w)) d i σ r K
  | _ => False
def st1 (P : Program) (io : Ins) (σ : St) (r : KT) (K : St → Prop) : Prop :=
  match io with
  | ⟨d, i, none, _⟩ => stp P d i σ r K
  | ⟨d, i, some (j, w), _⟩ => gK P (lk j σ.fr) j w d i σ r K
def rx (P : Program) : List Ins → KT
  | [], σ, K => K σ
  | io :: r, σ, K => st1 P io σ (rx P r) K

def eqTys : List Nat → List Nat → Bool
  | [], [] => true
  | a :: l, b :: m => Nat.beq a b && eqTys l m
  | _, _ => false
def eqO : Operand → Operand → Bool
  | .tmp a, .tmp b => a == b
  | .const a, .const b => eqV a b
  | .global a, .global b => a == b
  | .func a, .func b => a == b
  | _, _ => false
theorem eqO_sound : ∀ {a b : Operand}, eqO a b = true → a = b := by
  intro a b h; unfold eqO at h; split at h <;> simp_all
  exact eqV_sound h
def eqOs : List Operand → List Operand → Bool
  | [], [] => true
  | a :: l, b :: m => eqO a b && eqOs l m
  | _, _ => false
theorem eqOs_sound : ∀ {a b : List Operand}, eqOs a b = true → a = b
  | [], [], _ => rfl
  | x :: xs, y :: ys, h => by simp only [eqOs, Bool.and_eq_true] at h; rw [eqO_sound h.1, eqOs_sound h.2]
  | [], _ :: _, h => by simp [eqOs] at h
  | _ :: _, [], h => by simp [eqOs] at h
def eqOo : Option Operand → Option Operand → Bool
  | none, none => true
  | some a, some b => eqO a b
  | _, _ => false
theorem eqOo_sound : ∀ {a b : Option Operand}, eqOo a b = true → a = b
  | none, none, _ => rfl
  | some a, some b, h => by rw [eqO_sound h]
  | none, some _, h => by cases h
  | some _, none, h => by cases h
/-- equal operations, of the kinds that are told from outside -/
def eqOp : Op → Op → Bool
  | .call ⟨.builtin b, as, ts⟩, .call ⟨.builtin b', as', ts'⟩ => decide (b = b') && eqOs as.toList as'.toList && decide (ts = ts')
  | .call ⟨.value f, as, ts⟩, .call ⟨.value f', as', ts'⟩ => eqO f f' && eqOs as.toList as'.toList && decide (ts = ts')
  | .defer ⟨.value f, as, ts⟩, .defer ⟨.value f', as', ts'⟩ => eqO f f' && eqOs as.toList as'.toList && decide (ts = ts')
  | .defer ⟨.builtin b, as, ts⟩, .defer ⟨.builtin b', as', ts'⟩ => decide (b = b') && eqOs as.toList as'.toList && decide (ts = ts')
  | .makeSlice t a b, .makeSlice t' a' b' => t == t' && eqO a a' && eqO b b'
  | .slice t a l h m, .slice t' a' l' h' m' => t == t' && eqO a a' && eqOo l l' && eqOo h h' && eqOo m m'
  | .makeMap t r, .makeMap t' r' => t == t' && eqOo r r'
  | .lookup t a b c, .lookup t' a' b' c' => t == t' && eqO a a' && eqO b b' && c == c'
  | .mapUpdate t a b c, .mapUpdate t' a' b' c' => t == t' && eqO a a' && eqO b b' && eqO c c'
  | .insert t a b c, .insert t' a' b' c' => t == t' && eqO a a' && eqO b b' && eqO c c'
  | .mapEntry t a b, .mapEntry t' a' b' => t == t' && eqO a a' && eqO b b'
  | .entryStore t a b c, .entryStore t' a' b' c' => t == t' && eqO a a' && eqO b b' && eqO c c'
  | .range t a, .range t' a' => t == t' && eqO a a'
  | .next a s, .next a' s' => eqO a a' && s == s'
  | .entry a, .entry a' => eqO a a'
  | .typeAssert a t u c, .typeAssert a' t' u' c' => eqO a a' && t == t' && u == u' && c == c'
  | .makeInterface t a, .makeInterface t' a' => t == t' && eqO a a'
  | .panic a, .panic a' => eqO a a'
  | .binOp b t x y u, .binOp b' t' x' y' u' => decide (b = b') && t == t' && eqO x x' && eqO y y' && u == u'
  | .convert s d x, .convert s' d' x' => s == s' && d == d' && eqO x x'
  | .fieldAddr t a f, .fieldAddr t' a' f' => t == t' && eqO a a' && f == f'
  | .indexAddr t a f, .indexAddr t' a' f' => t == t' && eqO a a' && eqO f f'
  | .load t a, .load t' a' => t == t' && eqO a a'
  | .store t a b, .store t' a' b' => t == t' && eqO a a' && eqO b b'
  | _, _ => false
theorem eqOp_sound {a b : Op} (h : eqOp a b = true) : a = b := by
  have harr : ∀ {x y : Array Operand}, eqOs x.toList y.toList = true → x = y := fun h => Array.toList_inj.1 (eqOs_sound h)
  unfold eqOp at h
  split at h <;> (try simp only [Bool.and_eq_true, decide_eq_true_eq, beq_iff_eq] at h)
  all_goals first
    | (cases h; done)
    | (obtain ⟨⟨⟨⟨h1, h2⟩, h3⟩, h4⟩, h5⟩ := h; (first | replace h1 := eqO_sound h1 | replace h1 := eqOo_sound h1 | replace h1 := harr h1 | skip); (first | replace h2 := eqO_sound h2 | replace h2 := eqOo_sound h2 | replace h2 := harr h2 | skip); (first | replace h3 := eqO_sound h3 | replace h3 := eqOo_sound h3 | replace h3 := harr h3 | skip); (first | replace h4 := eqO_sound h4 | replace h4 := eqOo_sound h4 | replace h4 := harr h4 | skip); (first | replace h5 := eqO_sound h5 | replace h5 := eqOo_sound h5 | replace h5 := harr h5 | skip); subst_vars; rfl)
    | (obtain ⟨⟨⟨h1, h2⟩, h3⟩, h4⟩ := h; (first | replace h1 := eqO_sound h1 | replace h1 := eqOo_sound h1 | replace h1 := harr h1 | skip); (first | replace h2 := eqO_sound h2 | replace h2 := eqOo_sound h2 | replace h2 := harr h2 | skip); (first | replace h3 := eqO_sound h3 | replace h3 := eqOo_sound h3 | replace h3 := harr h3 | skip); (first | replace h4 := eqO_sound h4 | replace h4 := eqOo_sound h4 | replace h4 := harr h4 | skip); subst_vars; rfl)
    | (obtain ⟨⟨h1, h2⟩, h3⟩ := h; (first | replace h1 := eqO_sound h1 | replace h1 := eqOo_sound h1 | replace h1 := harr h1 | skip); (first | replace h2 := eqO_sound h2 | replace h2 := eqOo_sound h2 | replace h2 := harr h2 | skip); (first | replace h3 := eqO_sound h3 | replace h3 := eqOo_sound h3 | replace h3 := harr h3 | skip); subst_vars; rfl)
    | (obtain ⟨h1, h2⟩ := h; (first | replace h1 := eqO_sound h1 | replace h1 := eqOo_sound h1 | replace h1 := harr h1 | skip); (first | replace h2 := eqO_sound h2 | replace h2 := eqOo_sound h2 | replace h2 := harr h2 | skip); subst_vars; rfl)
    | (replace h := eqO_sound h; subst_vars; rfl)
/-- the value of a row that a call has just made -/
def RowV (C : Cx) (E : Env) (hp : List (Nat × HB)) (n : Nat → Prop) (w w' : World) (m : Nat) (xs : List (List SV)) (T : TypeId) (v : Value) : Prop :=
  (xs = [] ∧ ∃ a, v = .slice a 0 0) ∨ ∃ cap cs, v = .slice (some ⟨w.heap.size, 0, none⟩) xs.length cap ∧ w'.heap[w.heap.size]? = some (.cells cs T (0, 0)) ∧ cs.size = cap * m ∧ (xs.length ≤ cap ∧ cap ≠ 0) ∧ xs.length ≤ 9223372036854775807 ∧
      (∀ r ∈ xs, r.length = m) ∧ RL w E n (okS C E hp) xs.flatten (cs.toList.take (xs.length * m))
theorem sprV_shows {E : Env} {n ok : Nat → Prop} {w : World} {m : Nat} {s : SV} {y : Value} {ys : List (List SV)} (hR : R w E n ok s y) (h : sprV m s = some ys) :
    ∃ cs, Shows w y m ys.length cs ∧ RL w E n ok ys.flatten cs ∧ ∀ r ∈ ys, r.length = m := by
  unfold sprV at h
  split at h
  · rename_i m' xs
    obtain ⟨hb, rfl⟩ := rowB_some h
    have := Nat.eq_of_beq_eq_true hb; subst this
    obtain ⟨cs, h1, h2, _⟩ := sl_shows hR
    exact ⟨cs, h1, h2, sl_lens hR⟩
  · simp at h; subst h; simp only [R] at hR; subst hR
    exact ⟨[], shows_nil, by simp [RL], fun r h => by simp at h⟩
  · cases h
theorem lens_flat {m : Nat} : ∀ {ys : List (List SV)}, (∀ r ∈ ys, r.length = m) → ys.flatten.length = ys.length * m
  | [], _ => by simp
  | y :: ys, h => by
    rw [List.flatten_cons, List.length_append, h y (by simp), lens_flat (fun r hr => h r (by simp [hr])), List.length_cons, Nat.add_mul]; omega
section
variable {P : Program} {C : Cx} {E : Env} {hp : List (Nat × HB)} {n : Nat → Prop} {a : Act} {w : World} {o : Oper}
theorem cln_run {m b : Nat} {T : TypeId} {x y : X} {sx sy : SV} {ys : List (List SV)} (hc : cmpOp P (.cln m b T x y) o.op = true) (hRx : R w E n (okS C E hp) sx (evX a x)) (hRy : R w E n (okS C E hp) sy (evX a y))
    (hx : basS m sx = some []) (hy : sprV m sy = some ys) (hlim : ys.length * b ≤ 140737488355328) :
    ∃ v w', (execOp a.eval o).run P w = .ok (.value v) w' ∧ Below w.heap.size w w' ∧ RowV C E hp n w w' m ys T v := by
  obtain ⟨dst, op, ty, pos, after, guard⟩ := o
  cases op <;> simp [cmpOp] at hc
  rename_i c
  obtain ⟨callee, as, ts⟩ := c
  cases callee <;> try (simp at hc; done)
  rename_i bi
  cases bi <;> try (simp at hc; done)
  simp only [Bool.and_eq_true, beq_iff_eq, Nat.blt_eq] at hc
  obtain ⟨⟨⟨⟨⟨hc, hsz⟩, hby⟩, hb0⟩, hz⟩, hm0⟩ := hc
  split at hz
  case h_2 => cases hz
  rename_i z hz'
  simp only [beq_iff_eq] at hz
  split at hc
  · rename_i x' y' t t' e1 e2
    simp only [Bool.and_eq_true, beq_iff_eq] at hc
    obtain ⟨⟨⟨rfl, c1⟩, c2⟩, c3⟩ := hc
    have c3' : P.underlying t = some (.slice T) := by split at c3 <;> simp_all
    have has : as.map a.eval = #[evX a x, evX a y] := by apply Array.toList_inj.1; simp [e1, cmpX_sound c1 a, cmpX_sound c2 a]
    have hts : ts = #[t, t] := by apply Array.toList_inj.1; simpa using e2
    obtain ⟨cx, x1, x2, x3, a0, x4⟩ := basS_shows hRx hx
    obtain ⟨cy, y1, y2, y3⟩ := sprV_shows hRy hy
    have hlim2 : 0 + ys.length ≤ 140737488355328 := by rw [Nat.zero_add]; exact Nat.le_trans (Nat.le_mul_of_pos_right _ hb0) hlim
    obtain ⟨v, w', q1, q2, q3⟩ := run_append_new (P := P) (ty := ty) (lx := 0) c3' hsz hby hz' x1 ⟨a0, x4⟩ y1 (by rw [Nat.zero_add]; exact hlim) hlim2
    have hcx : cx = [] := by simp only [List.flatten_nil, RL] at x2; exact x2
    subst hcx
    refine ⟨v, w', by simp [execOp, resolve, has, hts, invoke, builtin, q1], q2, ?_⟩
    rcases q3 with ⟨g0, rfl, rfl⟩ | ⟨g0, cap, g1, rfl, rfl⟩
    · exact .inl ⟨List.eq_nil_of_length_eq_zero g0, a0, x4⟩
    · have hcy : cy.length = ys.length * m := by rw [RL_length y2]; exact lens_flat y3
      refine .inr ⟨cap, _, by simp, heap_alloc_new _ _, ?_, ⟨by omega, by omega⟩, by omega, y3, ?_⟩
      · simp only [Array.size_append, List.size_toArray, List.length_nil, Builtin.zeroCells, Array.size_map, Array.size_range, hz, hcy, Nat.zero_add]
        rw [← Nat.add_mul]; congr 1; omega
      · have e : ∀ Z : Array Value, List.take (ys.length * m) (([] : List Value).toArray ++ cy.toArray ++ Z).toList = cy := fun Z => by rw [← hcy]; simp
        rw [e]
        exact y2
  · cases hc
theorem mks_run {m b k : Nat} {kd : IntKind} {z : List Value} {T : TypeId} {x : X} (hc : cmpOp P (.mks m b z T x) o.op = true) (hx : evX a x = .int kd k) (hlim : k * b ≤ 140737488355328) :
    ∃ v w', (execOp a.eval o).run P w = .ok (.value v) w' ∧ Below w.heap.size w w' ∧ RowV C E hp n w w' m (List.replicate k (lit z)) T v := by
  obtain ⟨dst, op, ty, pos, after, guard⟩ := o
  cases op <;> simp [cmpOp] at hc
  rename_i t z1 z2
  obtain ⟨⟨⟨⟨⟨⟨⟨c1, c2⟩, c3⟩, hsz⟩, hby⟩, hb0⟩, hm0⟩, hz⟩ := hc
  split at hz
  case h_2 => cases hz
  rename_i zv hz'
  simp only [Bool.and_eq_true, beq_iff_eq] at hz
  obtain ⟨hz1, hz2⟩ := hz
  have c3' : P.underlying t = some (.slice T) := by split at c3 <;> simp_all
  have hzl := eqVs_sound hz1
  have hlz : (lit z).length = m := by rw [← hz2, ← Array.length_toList, hzl, lit_eq]; simp
  have hk : k ≤ 140737488355328 := Nat.le_trans (Nat.le_mul_of_pos_right _ hb0) hlim
  have hfl : (List.replicate k (lit z)).flatten.length = k * m := by rw [lens_flat (m := m) (fun r hr => by rw [List.eq_of_mem_replicate hr, hlz])]; simp
  refine ⟨.slice (some ⟨w.heap.size, 0, none⟩) k k, w.alloc (.cells (List.replicate k zv.cells.toList).flatten.toArray T), ?_, (Below.refl _ _).alloc (Nat.le_refl _) _, ?_⟩
  · simp only [execOp, cmpX_sound c1 a, cmpX_sound c2 a, hx]
    rw [Sem.run_bind, run_makeS c3' hsz hby hz' hz2 hlim hb0 hm0]; rfl
  · by_cases hk0 : k = 0
    · subst hk0; exact .inl ⟨rfl, _, rfl⟩
    · have hlen : (List.replicate k z).flatten.length = k * m := by
        have := hfl
        rw [lit_eq, show (List.replicate k (List.map SV.v z)).flatten = ((List.replicate k z).flatten).map SV.v from by simp, List.length_map] at this
        exact this
      rw [hzl]
      refine .inr ⟨k, _, by simp, heap_alloc_new _ _, by simpa using hlen, ⟨by simp, hk0⟩, by simp; omega, fun r hr => by rw [List.eq_of_mem_replicate hr, hlz], ?_⟩
      rw [List.length_replicate, List.take_of_length_le (Nat.le_of_eq hlen), lit_eq]
      rw [show (List.replicate k (List.map SV.v z)).flatten = ((List.replicate k z).flatten).map SV.v from by simp]
      exact RL_v _
theorem run_eqnil {t e : TypeId} (d : Nat) (ad : Option Addr) (l c : Nat) (h : P.underlying t = some (.slice e)) : (Op.equalIn (d + 1) t (.slice ad l c) (.slice none 0 0)).run P w = .ok ad.isNone w := by
  cases ad <;> simp [Op.equalIn, run_underlying h]
theorem run_eqlnil {t e : TypeId} (ad : Option Addr) (l c : Nat) (h : P.underlying t = some (.slice e)) : (binOp .eql t (.slice ad l c) (.slice none 0 0)).run P w = .ok (.bool ad.isNone) w := by
  simp only [binOp, Sem.run_bind, show (Op.equal t (.slice ad l c) (.slice none 0 0)).run P w = .ok ad.isNone w from run_eqnil 9999 ad l c h, Result.andThen_ok, Sem.run_pure]
theorem isn_run {x : X} {c : Bool} {m : Nat} {xs : List (List SV)} {ok : Nat → Prop} (hc : cmpOp P (.isn x) o.op = true) (hRx : R w E n ok (.sl c m xs) (evX a x)) :
    ∃ b : Bool, (b = true → xs = []) ∧ (execOp a.eval o).run P w = .ok (.value (.bool b)) w := by
  simp only [R] at hRx
  obtain ⟨ad, len, cap, q0, q1, _, _, q3⟩ := hRx
  obtain ⟨dst, op, ty, pos, after, guard⟩ := o
  simp only at hc
  cases op <;> simp [cmpOp] at hc
  rename_i b t x' y _
  obtain ⟨⟨⟨hb, hx'⟩, hy⟩, ht⟩ := hc
  cases b <;> simp at hb
  split at hy
  case h_2 => cases hy
  have hu : ∃ e, P.underlying t = some (.slice e) := by
    split at ht
    · exact ⟨_, by assumption⟩
    · cases ht
  obtain ⟨e, hu⟩ := hu
  refine ⟨ad.isNone, fun hb => ?_, ?_⟩
  · rcases q3 with q3 | ⟨b0, off, q3, _⟩
    · exact q3
    · rw [q3] at hb; cases hb
  · have hev : a.eval x' = .slice ad len cap := by rw [cmpX_sound hx' a, q0]
    have hk : ∀ v : Value, a.eval (.const v) = v := fun _ => rfl
    have hg : ∀ y : Operand, (eqGuard .eql t x' y (.slice ad len cap) (.slice none 0 0)).run P w = .ok () w := fun _ => rfl
    simp only [execOp, hev, hk, Sem.run_bind, hg, Result.andThen_ok, run_eqlnil ad len cap hu]
    rfl
end

def cmpI (P : Program) (i : SI) (o : Oper) : Bool :=
  match i with | .raw op ty => eqOp op o.op && ty == o.type | i => cmpOp P i o.op
/-- the small operation tells of the given one -/
def cmpO (P : Program) (ops : Array Oper) (io : Ins) (o : Oper) : Bool :=
  decide (io.d = o.dst) && cmpI P io.i o &&
    (match io.g, o.guard with
      | none, none => true
      | some (t, w), some (j, w') => w == w' && (match (ops[j]?).bind (·.dst) with | some t' => t == t' | none => false)
      | _, _ => false)
def cmpL (P : Program) (ops : Array Oper) : List Ins → List Oper → Bool
  | [], [] => true
  | io :: r, o :: os => cmpO P ops io o && cmpL P ops r os
  | _, _ => false

section
variable {P : Program} {C : Cx} {E : Env} {σ : St} {a : Act} {w : World}
theorem sim_reads {g : Option (Nat × Bool)} (h : Sim C E σ a w) (i : SI) : ∀ p ∈ opG g i, geP p.1 σ.fr → R w E (ltn σ.n) (okS C E σ.hp) (rdG p.1 σ.fr p.2) (evX a p.2) :=
  fun p _ hg => rdG_ok h.fr hg p.2
/-- a value is laid into the slot that the operation names -/
theorem putK_sim {d : Option Nat} {s : SV} {r : KT} {K : St → Prop} {y : Value} {w' : World} (hp : putK d s none σ r K) (h : Sim C E σ a w) (hs : ∀ j b u, s ≠ .gd j b u) (hb : Below w.heap.size w w')
    (hR : R w' E (ltn σ.n) (okS C E σ.hp) s y) : ∃ σ', r σ' K ∧ Sim C E σ' (a.put d y) w' := by
  have hst : Stays w w' (okS C E σ.hp) (okS C E σ.hp) := stays_below hb
  cases d with
  | none => exact ⟨σ, hp, Sim_same h hst (fun _ _ => ⟨rfl, rfl⟩) (Nat.le_refl _) (HSim_below h.hs hb)⟩
  | some t =>
    simp only [putK] at hp
    cases hm : memb t σ.gs
    · rw [hm] at hp
      cases hN : Nat.blt t σ.N
      · rw [hN] at hp; exact hp.elim
      · rw [hN] at hp
        cases hgs : gdS s <;> rw [hgs] at hp
        case true => exact hp.elim
        simp only [putB] at hp
        refine ⟨_, hp, Sim_put h hst (fun _ _ => ⟨rfl, rfl⟩) (Nat.le_refl _) (HSim_below h.hs hb) (fun hh => ?_) (by simpa [Nat.blt_eq] using hN) hs hR⟩
        rw [memb_iff.2 hh] at hm; cases hm
    · rw [hm] at hp; exact hp.elim
theorem R_nogd {s : SV} {y : Value} {n ok} (h : R w E n ok s y) : ∀ j b u, s ≠ .gd j b u := by rintro j b u rfl; simp only [R] at h
theorem good_wp {o : Oper} {i : SI} {d : Option Nat} {s : SV} {r : KT} {K : St → Prop} {next : Act → World → Prop} {Q : Exit → Act → World → Prop} (hd : o.dst = d) (hp : putK d s none σ r K) (hG : Good P o i none σ s) (h : Sim C E σ a w)
    (hn : ∀ σ' E' a' w', r σ' K → Sim C E' σ' a' w' → next a' w') : o.wp P a w next Q := by
  refine hG C E (ltn σ.n) a w h.hs (sim_reads h i) trivial next Q fun y w' ⟨hR, hb⟩ => ?_
  subst hd
  obtain ⟨σ', h1, h2⟩ := putK_sim hp h (R_nogd hR) hb hR
  exact hn σ' E _ w' h1 h2
theorem newK_sim {t T : Nat} {c : List SV} {cs : Array Value} {r : KT} {K : St → Prop} (hp : newK (some t) (some c) T σ r K) (h : Sim C E σ a w) (hR : RL w E (ltn σ.n) (okS C E σ.hp) c cs.toList) :
    ∃ E' σ', r σ' K ∧ Sim C E' σ' (a.put (some t) (.pointer (some ⟨w.heap.size, 0, none⟩))) (w.alloc (.cells cs T)) := by
  simp only [newK] at hp
  cases hm : memb t σ.gs
  · rw [hm] at hp
    cases hN : Nat.blt t σ.N
    · rw [hN] at hp; exact hp.elim
    · rw [hN] at hp; simp only [newB] at hp
      obtain ⟨E', h1, h2, h3, h4⟩ := HSim_new (q := σ.n) (T := T) h.hs (by simp [ltn]) hR
      have hV : (fun k => ltn σ.n k ∨ k = σ.n) = ltn (σ.n + 1) := by funext k; simp only [ltn, eq_iff_iff]; omega
      rw [hV] at h3
      refine ⟨E', _, hp, Sim_put h h4 h1 (by omega) h3 (fun hh => ?_) (by simpa [Nat.blt_eq] using hN) (fun _ _ _ e => by cases e) ?_⟩
      · rw [memb_iff.2 hh] at hm; cases hm
      · simp only [R, h2]; exact ⟨by simp [ltn], trivial⟩
  · rw [hm] at hp; exact hp.elim
theorem rowK_sim {d : Option Nat} {m T : Nat} {xs : List (List SV)} {r : KT} {K : St → Prop} {v : Value} {w' : World} (hp : rowK d m xs T σ r K) (h : Sim C E σ a w) (hb : Below w.heap.size w w') (hv : RowV C E σ.hp (ltn σ.n) w w' m xs T v) :
    ∃ E' σ', r σ' K ∧ Sim C E' σ' (a.put d v) w' := by
  unfold rowK at hp
  split at hp
  case h_2 => cases hp
  rename_i t
  cases hm : memb t σ.gs
  · rw [hm] at hp
    cases hN : Nat.blt t σ.N
    · rw [hN] at hp; exact hp.elim
    · rw [hN] at hp; simp only [newRB] at hp
      obtain ⟨E', h1, h2, h3, h4⟩ := HSim_newrow (q := σ.n) (T := T) h.hs (by simp [ltn]) hb hv
      have hV : (fun k => ltn σ.n k ∨ k = σ.n) = ltn (σ.n + 1) := by funext k; simp only [ltn, eq_iff_iff]; omega
      rw [hV] at h3
      refine ⟨E', _, hp, Sim_put h h4 h1 (by omega) h3 (fun hh => ?_) (by simpa [Nat.blt_eq] using hN) (fun _ _ _ e => by cases e) ?_⟩
      · rw [memb_iff.2 hh] at hm; cases hm
      · simp only [R, h2]
        refine ⟨by simp [ltn], trivial, ?_⟩
        rcases hv with ⟨_, a0, rfl⟩ | ⟨cap, cs, rfl, _⟩ <;> rfl
  · rw [hm] at hp; exact hp.elim
theorem allOne_sound : ∀ {c : List SV} {ys : List Value} {n ok}, allOne c = true → RL w E n ok c ys → ∀ y ∈ ys, y.oneCell' = true
  | [], ys, _, _, _, h => by simp only [RL] at h; subst h; intro y hy; simp at hy
  | s :: c, ys, n, ok, ha, h => by
    simp only [allOne] at ha
    cases h1 : oneS s
    · simp [h1] at ha
    · simp only [h1, cond_true] at ha
      simp only [RL] at h; obtain ⟨y, r, rfl, h2, h3⟩ := h
      intro z hz
      simp at hz
      rcases hz with rfl | hz
      · exact R_one h2 h1
      · exact allOne_sound ha h3 z hz
theorem splice_length : ∀ (l : List SV) (o : Nat) (m : List SV), (splice l o m).length = l.length
  | [], 0, [] => rfl
  | [], 0, _ :: _ => rfl
  | [], _ + 1, _ => rfl
  | _ :: _, 0, [] => rfl
  | _ :: l, 0, _ :: m => by simp [splice, splice_length l 0 m]
  | _ :: l, o + 1, m => by simp [splice, splice_length l o m]
theorem splice_app : ∀ (l l' : List SV) (o : Nat) (c : List SV), o + c.length ≤ l.length → splice (l ++ l') o c = splice l o c ++ l'
  | [], l', 0, [], _ => by cases l' <;> rfl
  | [], _, 0, _ :: _, h => by simp at h
  | [], _, _ + 1, _, h => by simp at h
  | _ :: _, _, 0, [], _ => rfl
  | x :: l, l', 0, c :: m, h => by simp only [List.cons_append, splice]; rw [splice_app l l' 0 m (by simp at h; omega)]
  | x :: l, l', o + 1, m, h => by simp only [List.cons_append, splice]; rw [splice_app l l' o m (by simp at h; omega)]
theorem splice_skip : ∀ (l l' : List SV) (o : Nat) (c : List SV), splice (l ++ l') (l.length + o) c = l ++ splice l' o c
  | [], l', o, c => by simp
  | x :: l, l', o, c => by rw [List.cons_append, List.length_cons, show l.length + 1 + o = (l.length + o) + 1 from by omega]; simp only [splice, List.cons_append, splice_skip l l' o c]
theorem flatten_set {m o : Nat} {c : List SV} : ∀ {xs : List (List SV)} {j : Nat} {row : List SV}, xs[j]? = some row → (∀ r ∈ xs, r.length = m) → o + c.length ≤ m →
    (xs.set j (splice row o c)).flatten = splice xs.flatten (j * m + o) c
  | [], _, _, h, _, _ => by simp at h
  | x :: xs, 0, row, h, hr, ho => by
    simp at h; subst h
    simp only [List.set_cons_zero, List.flatten_cons, Nat.zero_mul, Nat.zero_add]
    rw [splice_app _ _ _ _ (by rw [hr x (by simp)]; exact ho)]
  | x :: xs, j + 1, row, h, hr, ho => by
    simp at h
    have := flatten_set (o := o) (c := c) h (fun r hq => hr r (by simp [hq])) ho
    simp only [List.set_cons_succ, List.flatten_cons, this]
    have hx := hr x (by simp)
    rw [show (j + 1) * m + o = x.length + (j * m + o) from by rw [hx, Nat.add_mul]; omega, splice_skip]
theorem take_spliceV {l zs : List Value} {o N : Nat} (h1 : o + zs.length ≤ N) (h2 : N ≤ l.length) : (spliceV l o zs).take N = spliceV (l.take N) o zs := by
  apply List.ext_getElem?
  intro j
  rw [spliceV_get _ _ _ _ (by simp; omega), List.getElem?_take, spliceV_get _ _ _ _ (by omega), List.getElem?_take]
  by_cases h : j < N
  · simp [h]
  · simp only [if_neg h]
    rw [if_neg (by omega)]
set_option maxHeartbeats 1000000 in
theorem stp_sound {o : Oper} {i : SI} {d : Option Nat} {r : KT} {K : St → Prop} {next : Act → World → Prop} {Q : Exit → Act → World → Prop} (hd : d = o.dst) (hc : cmpI P i o = true) (hp : stp P d i σ r K) (h : Sim C E σ a w)
    (hn : ∀ σ' E' a' w', r σ' K → Sim C E' σ' a' w' → next a' w') : o.wp P a w next Q := by
  subst hd
  unfold cmpI at hc
  have dflt : cmpOp P i o.op = true → stpV P none o.dst i σ r K → o.wp P a w next Q := fun hc h' => by
    obtain ⟨s, h1, h2⟩ := stpV_sound hc h'
    exact good_wp rfl h1 h2 h hn
  cases i <;> try (exact dflt hc hp)
  case box x m T =>
    simp only [stp, newK] at hp
    split at hp
    · rename_i t c ht hcx
      obtain ⟨dst, op, ty, pos, after, guard⟩ := o
      simp only at ht hc; subst ht
      cases op <;> simp [cmpOp] at hc
      obtain ⟨rfl, hx⟩ := hc
      have hR := rdG_ok h.fr (g := none) trivial x
      have hRc := R_cells hR hcx
      obtain ⟨E', σ', h1, h2⟩ := newK_sim (cs := (evX a x).cells) (show newK (some t) (some c) T σ r K from hp) h hRc
      unfold Oper.wp
      rw [show (execOp a.eval _).run P w = .ok (.value (.pointer (some ⟨w.heap.size, 0, none⟩))) (w.alloc (.cells (evX a x).cells T)) from by
        simp [execOp, cmpX_sound hx a, Instr.box, newVar, newRow]]
      exact hn σ' E' _ _ h1 h2
    · cases hp
  case alloc z T =>
    simp only [stp] at hp
    obtain ⟨dst, op, ty, pos, after, guard⟩ := o
    cases dst with
    | none => exact hp.elim
    | some t =>
      simp only at hc
      cases op <;> simp [cmpOp] at hc
      obtain ⟨rfl, hz⟩ := hc
      split at hz
      · rename_i zv hzv
        have hzl := eqVs_sound hz
        obtain ⟨E', σ', h1, h2⟩ := newK_sim (cs := zv.cells) hp h (by rw [hzl, lit_eq]; exact RL_v z)
        unfold Oper.wp
        rw [show (execOp a.eval _).run P w = .ok (.value (.pointer (some ⟨w.heap.size, 0, none⟩))) (w.alloc (.cells zv.cells T)) from by
          simp [execOp, Instr.alloc, Sem.run_bind, run_zeroOf hzv, newVar, newRow]]
        exact hn σ' E' _ _ h1 h2
      · cases hz
  case st x y m =>
    simp only [stp, storeK] at hp
    split at hp
    · rename_i c hdn hcy
      cases hk : chk c m
      · rw [hk] at hp; exact hp.elim
      · cases ho : allOne c
        · rw [hk, ho] at hp; exact hp.elim
        · rw [hk, ho] at hp; simp only [storeB, stX] at hp
          obtain ⟨dst, op, ty, pos, after, guard⟩ := o
          simp only at hdn hc; subst hdn
          cases op <;> simp [cmpOp] at hc
          rename_i t xa yv
          obtain ⟨⟨hx, hy⟩, hsz⟩ := hc
          have hRx := rdG_ok h.fr (g := none) trivial x
          have hRy := rdG_ok h.fr (g := none) trivial y
          have hRc := R_cells hRy hcy
          have hlen : (evX a y).cells.size = m := by
            have := RL_length hRc; rw [← Array.length_toList, this]; exact chk_eq hk
          have h1 := allOne_sound ho hRc
          split at hp
          · rename_i k off hkx
            unfold stC at hp
            split at hp
            · rename_i l T hkk
              cases hle : Nat.ble (off + m) l.length
              · rw [hle] at hp; exact hp.elim
              · rw [hle] at hp; simp only [stCB] at hp
                rw [hkx] at hRx; simp only [R] at hRx
                have hb := h.hs.bk k
                rw [hkk] at hb; simp only [HBok] at hb
                obtain ⟨cs, e1, e2⟩ := hb
                have hcl := RL_length e2
                have hle' : off + m ≤ l.length := Nat.le_of_ble_eq_true hle
                obtain ⟨w', q1, q2⟩ := run_storeVar (P := P) (t := t) (m := m) (v := evX a y) (o := off) (cs := cs.toList) (T := T) hsz hlen (by simpa using e1) (by omega) h1
                have hocc : ∀ b, occ E k (.cells (splice l off c) T) b ↔ occ E k (lkh k σ.hp) b := fun b => by rw [hkk]; rfl
                obtain ⟨s1, s2⟩ := HSim_store h.hs (hb := .cells (splice l off c) T) hocc (by rw [hkk]; rfl) q2 (fun hst => by
                  simp only [HBok]
                  exact ⟨_, q2.here, by simpa using RL_splice off (RL_mono hst (fun _ _ => ⟨rfl, rfl⟩) (fun _ h => h) _ _ e2) (RL_mono hst (fun _ _ => ⟨rfl, rfl⟩) (fun _ h => h) _ _ hRc)⟩)
                have hsim := Sim_same h s2 (fun _ _ => ⟨rfl, rfl⟩) (Nat.le_refl _) s1
                unfold Oper.wp
                rw [show (execOp a.eval _).run P w = .ok .skip w' from by
                  simp only [execOp, cmpX_sound hx a, cmpX_sound hy a, hRx.2, Instr.storeAt, Instr.sureAddr, Sem.run_bind, Sem.run_pure, Result.andThen_ok, q1]]
                exact hn _ E _ _ hp hsim
            · cases hp
          · rename_i k m' j off hkx
            unfold stR at hp
            split at hp
            · rename_i m'' xs T hkk
              cases hm : Nat.beq m' m''
              · rw [hm] at hp; exact hp.elim
              · rw [hm] at hp; simp only [stRB] at hp
                have := Nat.eq_of_beq_eq_true hm; subst this
                obtain ⟨row, r1, r2, r3⟩ := hp
                rw [hkx] at hRx; simp only [R] at hRx
                obtain ⟨_, b, len, cap, g1, g2⟩ := hRx
                have hb := h.hs.bk k
                rw [hkk] at hb; simp only [HBok] at hb
                rcases hb with ⟨hb, _⟩ | ⟨b', cap', cs, q1, q2, q3, ⟨q4, q4'⟩, q5, q6, q7⟩
                · rw [hb] at r1; simp at r1
                · rw [g1] at q1; simp at q1; obtain ⟨rfl, rfl, rfl⟩ := q1
                  have hjl : j < xs.length := (List.getElem?_eq_some_iff.1 r1).1
                  have hrow : row.length = m' := q6 row (List.mem_of_getElem? r1)
                  have hcm := chk_eq hk
                  have hjm : j * m' + m' ≤ xs.length * m' := by
                    have := Nat.mul_le_mul_right m' (show j + 1 ≤ xs.length from hjl)
                    rw [Nat.add_mul, Nat.one_mul] at this; exact this
                  have hcapm : xs.length * m' ≤ cap * m' := Nat.mul_le_mul_right m' q4
                  obtain ⟨w', p1, p2⟩ := run_storeVar (P := P) (t := t) (m := m) (v := evX a y) (o := j * m' + off) (cs := cs.toList) (T := T) hsz hlen (by simpa using q2) (by simp only [Array.length_toList, q3]; omega) h1
                  have hocc : ∀ b', occ E k (.row m' (xs.set j (splice row off c)) T) b' ↔ occ E k (lkh k σ.hp) b' := fun b' => by rw [hkk]; rfl
                  obtain ⟨s1, s2⟩ := HSim_store h.hs (hb := .row m' (xs.set j (splice row off c)) T) hocc (by rw [hkk]; exact ⟨_, _, g1, q4'⟩) p2 (fun hst => by
                    simp only [HBok]
                    refine .inr ⟨b, cap, _, by simpa using g1, p2.here, ?_, by simpa using ⟨q4, q4'⟩, by simpa using q5, fun rr hrr => ?_, ?_⟩
                    · simp [spliceV_length, q3]
                    · rcases List.mem_or_eq_of_mem_set hrr with hrr | rfl
                      · exact q6 rr hrr
                      · rw [splice_length, hrow]
                    · rw [flatten_set r1 q6 (by omega), List.length_set]
                      rw [take_spliceV (by rw [show (evX a y).cells.toList.length = m from by simpa using hlen]; omega) (by simp [q3]; omega)]
                      exact RL_splice _ (RL_mono hst (fun _ _ => ⟨rfl, rfl⟩) (fun _ h => h) _ _ q7) (RL_mono hst (fun _ _ => ⟨rfl, rfl⟩) (fun _ h => h) _ _ hRc))
                  have hsim := Sim_same h s2 (fun _ _ => ⟨rfl, rfl⟩) (Nat.le_refl _) s1
                  unfold Oper.wp
                  rw [show (execOp a.eval _).run P w = .ok .skip w' from by
                    simp only [execOp, cmpX_sound hx a, cmpX_sound hy a, g2, Instr.storeAt, Instr.sureAddr, Sem.run_bind, Sem.run_pure, Result.andThen_ok, p1]]
                  exact hn _ E _ _ r3 hsim
            · cases hp
          · cases hp
    · cases hp
  case cln m b T x y =>
    simp only [stp, clnK] at hp
    split at hp
    case h_2 => cases hp
    case h_3 => cases hp
    case h_4 => cases hp
    rename_i ys hxs hys
    obtain ⟨hlim, hp⟩ := hp
    obtain ⟨v, w', e1, e2, e3⟩ := cln_run hc (rdG_ok h.fr (g := none) trivial x) (rdG_ok h.fr (g := none) trivial y) hxs hys hlim
    obtain ⟨E', σ', h1, h2⟩ := rowK_sim hp h e2 e3
    unfold Oper.wp
    rw [e1]
    exact hn σ' E' _ _ h1 h2
  case mks m b z T x =>
    simp only [stp, mksK] at hp
    split at hp
    case h_2 => cases hp
    rename_i kd n hx
    obtain ⟨k, rfl, hlim, hp⟩ := hp
    have hRx := rdG_ok h.fr (g := none) trivial x
    rw [hx] at hRx; simp only [R] at hRx
    obtain ⟨v, w', e1, e2, e3⟩ := mks_run (C := C) (E := E) (hp := σ.hp) (n := ltn σ.n) (w := w) hc hRx hlim
    obtain ⟨E', σ', h1, h2⟩ := rowK_sim hp h e2 e3
    unfold Oper.wp
    rw [e1]
    exact hn σ' E' _ _ h1 h2
  case isn x =>
    simp only [stp, isnK] at hp
    split at hp
    case h_2 => cases hp
    rename_i c m xs hx
    have hRx := rdG_ok h.fr (g := none) trivial x
    rw [hx] at hRx
    have hrun := isn_run hc hRx
    obtain ⟨bb, k1, k2⟩ := hrun
    obtain ⟨σ', h1, h2⟩ := putK_sim (hp bb k1) h (fun _ _ _ e => by cases e) (Below.refl _ _) (show R w E (ltn σ.n) (okS C E σ.hp) (.v (.bool bb)) (.bool bb) by simp [R])
    unfold Oper.wp
    rw [k2]
    exact hn σ' E _ _ h1 h2
  case raw op ty =>
    obtain ⟨σ', h1, h2⟩ := hp
    simp only [Bool.and_eq_true, beq_iff_eq] at hc
    exact h1 o C E a w next Q rfl (eqOp_sound hc.1).symm hc.2.symm h (fun E' a' w' hs => hn σ' E' a' w' h2 hs)
end

section
variable {P : Program} {C : Cx}
theorem good_wanted {E : Env} {σ : St} {a : Act} {w : World} {o : Oper} {io : Ins} {ops : Array Oper} {r : KT} {K : St → Prop} {next : Act → World → Prop} {Q : Exit → Act → World → Prop} {j : Nat} {wt : Bool}
    (hc : cmpO P ops io o = true) (hg : io.g = some (j, wt)) (hb : (∃ b, lk j σ.fr = .v (.bool b)) ∨ ∃ j' b' b, lk j σ.fr = .gd j' b' (.v (.bool b))) (hp : stpV P (some (j, wt)) io.d io.i σ r K) (h : Sim C E σ a w)
    (hn : ∀ σ' E' a' w', r σ' K → Sim C E' σ' a' w' → next a' w') : if Region.wanted o (yielded ops a.tmps) then o.wp P a w next Q else next (a.put o.dst undef) w := by
  obtain ⟨d, i, g, af⟩ := io
  simp only at hg; subst hg
  simp only [cmpO, Bool.and_eq_true, decide_eq_true_eq] at hc
  obtain ⟨⟨hd, hc⟩, hgd⟩ := hc
  subst hd
  have hci : cmpOp P i o.op = true := by
    cases i <;> first | exact hc | (simp [stpV, pv, putO] at hp)
  split at hgd
  · rename_i h1 h2; cases h1
  · rename_i t w1 j' w' h1 h2
    simp only [Option.some.injEq, Prod.mk.injEq] at h1
    obtain ⟨rfl, rfl⟩ := h1
    simp only [Bool.and_eq_true, beq_iff_eq] at hgd
    obtain ⟨rfl, hgd⟩ := hgd
    have hdst : (ops[j']?).bind (·.dst) = some j := by
      split at hgd
      · rename_i t' ht'; simp at hgd; subst hgd; exact ht'
      · cases hgd
    obtain ⟨s, k1, k2⟩ := stpV_sound hci hp
    -- is it wanted?
    have hFR := h.fr j
    have hsz := h.sz
    have hwant : Region.wanted o (yielded ops a.tmps) = true ↔ ge σ.fr j wt := by
      simp only [Region.wanted, h2, yielded, hdst, Option.bind_some]
      rcases hb with ⟨b, hb⟩ | ⟨j0, b0, b, hb⟩
      · rw [hb] at hFR
        have hv : a.tmps.getD j undef = .bool b := hFR
        have hv' : a.tmps[j]? = some (.bool b) := by
          cases hq : a.tmps[j]? <;> simp [hq] at hv
          · cases hv
          · exact congrArg some hv
        simp only [hv', beq_iff_eq, Option.some.injEq]
        exact ⟨fun e => .base (by rw [hb, e]), fun e => GE_v e hb⟩
      · rw [hb] at hFR
        obtain ⟨f1, f2⟩ := hFR
        by_cases hge : ge σ.fr j0 b0
        · have hv : a.tmps.getD j undef = .bool b := by have := f1 hge; simpa only [R] using this
          have hv' : a.tmps[j]? = some (.bool b) := by
            cases hq : a.tmps[j]? <;> simp [hq] at hv
            · cases hv
            · exact congrArg some hv
          simp only [hv', beq_iff_eq, Option.some.injEq]
          exact ⟨fun e => .step (by rw [hb, e]) hge, fun e => by have := (GE_gd e hb).2; simpa using this⟩
        · have hv := f2 hge
          have hv' : a.tmps[j]? = none ∨ a.tmps[j]? = some undef := by
            cases hq : a.tmps[j]? <;> simp [hq] at hv
            · exact .inl rfl
            · exact .inr (congrArg some hv)
          constructor
          · intro e; rcases hv' with hv' | hv' <;> simp [hv', undef] at e
          · intro e; exact absurd (GE_gd e hb).1 hge
    -- the value goes into its slot
    cases hdd : o.dst with
    | none => rw [hdd] at k1; simp [putK] at k1
    | some t =>
      rw [hdd] at k1
      simp only [putK] at k1
      cases hm : memb t σ.gs
      · cases hN : Nat.blt t σ.N
        · rw [hm, hN] at k1; exact k1.elim
        · cases htj : Nat.beq t j
          · rw [hm, hN, htj] at k1; simp only [putG] at k1
            have htg : t ∉ σ.gs := fun hh => by rw [memb_iff.2 hh] at hm; cases hm
            have htj' : t ≠ j := fun e => by subst e; rw [Nat.beq_refl] at htj; cases htj
            have hN' : t < σ.N := by simpa [Nat.blt_eq] using hN
            split
            · rename_i hw
              have hge := hwant.1 hw
              refine k2 C E (ltn σ.n) a w h.hs (sim_reads h i) hge next Q fun y w' ⟨hR, hbel⟩ => ?_
              rw [hdd]
              exact hn _ E _ w' k1 (Sim_putg h hbel htg htj' hN' (fun _ => hR) (fun hh => absurd hge hh))
            · rename_i hw
              have hge : ¬ ge σ.fr j wt := fun hh => hw (hwant.2 hh)
              exact hn _ E _ w k1 (Sim_putg h (Below.refl _ _) htg htj' hN' (fun hh => absurd hh hge) (fun _ => rfl))
          · rw [hm, hN, htj] at k1; exact k1.elim
      · rw [hm] at k1; exact k1.elim
  · cases hgd
theorem st1_sound {E : Env} {σ : St} {a : Act} {w : World} {ops : Array Oper} {io : Ins} {o : Oper} {r : KT} {K : St → Prop} {next : Act → World → Prop} {Q : Exit → Act → World → Prop} (hc : cmpO P ops io o = true) (hr : st1 P io σ r K) (h : Sim C E σ a w)
    (hn' : ∀ σ' E' a' w', r σ' K → Sim C E' σ' a' w' → next a' w') : if Region.wanted o (yielded ops a.tmps) then o.wp P a w next Q else next (a.put o.dst undef) w := by
  obtain ⟨d, i, g, af⟩ := io
  rcases g with _ | ⟨j, wt⟩
  · simp only [st1] at hr
    have hg : (⟨d, i, none, af⟩ : Ins).g = none := rfl
    have hgo : o.guard = none := by
      have hc1 := hc
      simp only [cmpO, Bool.and_eq_true] at hc1
      have := hc1.2
      cases hq : o.guard <;> simp [hq] at this ⊢
    rw [if_pos (by simp [Region.wanted, hgo])]
    have hc1 := hc
    simp only [cmpO, Bool.and_eq_true, decide_eq_true_eq] at hc1
    exact stp_sound hc1.1.1 hc1.1.2 hr h hn'
  · simp only [st1, gK] at hr
    have hg : (⟨d, i, some (j, wt), af⟩ : Ins).g = some (j, wt) := rfl
    split at hr
    · rename_i b hb
      have hc1 := hc
      simp only [cmpO, Bool.and_eq_true, decide_eq_true_eq] at hc1
      have hw : Region.wanted o (yielded ops a.tmps) = (b == wt) := by
        have h3 := hc1.2
        split at h3
        · rename_i e _; cases e
        · rename_i t w1 j' w' e1 e2
          simp only [Option.some.injEq, Prod.mk.injEq] at e1
          obtain ⟨rfl, rfl⟩ := e1
          simp only [Bool.and_eq_true, beq_iff_eq] at h3
          obtain ⟨rfl, h3⟩ := h3
          have hdst : (ops[j']?).bind (·.dst) = some j := by
            split at h3
            · rename_i t' ht'; simp at h3; subst h3; exact ht'
            · cases h3
          have hFR := h.fr j
          rw [hb] at hFR
          have hv : a.tmps.getD j undef = .bool b := hFR
          have hv' : a.tmps[j]? = some (.bool b) := by
            cases hq : a.tmps[j]? <;> simp [hq] at hv
            · cases hv
            · exact congrArg some hv
          simp only [Region.wanted, e2, yielded, hdst, Option.bind_some, hv']
          rfl
        · cases h3
      rcases hr with ⟨rfl, hr⟩ | ⟨hne, hr⟩ | hr
      · rw [hw]; simp only [BEq.rfl, if_true]
        exact stp_sound hc1.1.1 hc1.1.2 hr h hn'
      · rw [hw, if_neg (by simpa using hne)]
        obtain ⟨σ', h1, h2⟩ := putK_sim hr h (fun _ _ _ e => by cases e) (Below.refl _ _) (y := undef) (by simp [R])
        rw [hc1.1.1] at h2
        exact hn' σ' E _ w h1 h2
      · exact good_wanted hc hg (.inl ⟨b, hb⟩) hr h hn'
    · rename_i j' b' b hb
      exact good_wanted hc hg (.inr ⟨j', b', b, hb⟩) hr h hn'
    · cases hr
theorem rx_sound {ops : Array Oper} {Q : Exit → Act → World → Prop} {K : St → Prop} (hK : ∀ σ, K σ → ∀ E a w, Sim C E σ a w → Q .normal a w) : ∀ (l : List Ins) (os : List Oper), cmpL P ops l os = true →
    ∀ (σ : St) E a w, rx P l σ K → Sim C E σ a w → wpList P ops Q os a w
  | [], [], _, σ, E, a, w, hr, h => hK σ hr E a w h
  | io :: l, o :: os, hc, σ, E, a, w, hr, h => by
    simp only [cmpL, Bool.and_eq_true] at hc
    have ih := rx_sound hK l os hc.2
    have hn : ∀ σ' E' a' w', rx P l σ' K → Sim C E' σ' a' w' → wpList P ops Q os a' w' := fun σ' E' a' w' h1 h2 => ih σ' E' a' w' h1 h2
    refine wpList_step fun next hnext => ?_
    exact st1_sound hc.1 hr h fun σ' E' a' w' h1 h2 => hnext _ _ (hn σ' E' a' w' h1 h2)
  | [], _ :: _, h, _, _, _, _, _, _ => by simp [cmpL] at h
  | _ :: _, [], h, _, _, _, _, _, _ => by simp [cmpL] at h
end
end Go.Sx
