/- Walks and plain laws that lead to the given statement, part 4 of 7. -/
import Derived.Test.YtnlfjchbhgikaaaLC
import Derived.Test.YtnlfjchbhgikaaaProg
namespace Go.Sx
open Go Go.RowKit
variable {Y : Hd}


section
variable (P : Program) (m : Nat) (σ : St) (K : Ex → St → Prop) (L : RK)
theorem rx_nil : rx P Y [] σ L = L .n σ := rfl
theorem rx_cons (io : Ins) (r : List Ins) : rx P Y (io :: r) σ L = st1 P Y io σ (rx P Y r) L := rfl
theorem sx_reg (ops : List Ins) : sx P Y m (.reg ops) σ K = rx P Y ops σ (endK K) := rfl
theorem sx_regd (ord : List Nat) (vs : List VI) (nA nB : Nat) (rest : List Ins) : sx P Y m (.regd ord vs nA nB rest) σ K = gs0 σ.gs (rxv P Y (backK σ.hp (rx P Y rest)) vs σ (endK K)) := rfl
theorem rxv_nil (r : KT) : rxv P Y r [] σ L = r σ L := rfl
theorem rxv_op (r : KT) (io : Ins) (l : List VI) : rxv P Y r (.op io :: l) σ L = st1 P Y io σ (rxv P Y r l) L := rfl
theorem rxv_hide (r : KT) (x : X) (l : List VI) : rxv P Y r (.hide x :: l) σ L = hideK (rdG none σ.fr x) σ (rxv P Y r l) L := rfl
theorem backK_eq (hp : List (Nat × HB)) (r : KT) : backK hp r σ L = r ⟨σ.fr, hp, σ.n, σ.N, σ.gs⟩ L := rfl
theorem hideK_p (k o : Nat) (r : KT) : hideK (.p k o) σ r L = r ⟨σ.fr, (k, .gone) :: σ.hp, σ.n, σ.N, σ.gs⟩ L := rfl
theorem hideK_mr (k v : Nat) (r : KT) : hideK (.mr k v) σ r L = r ⟨σ.fr, (k, .gone) :: σ.hp, σ.n, σ.N, σ.gs⟩ L := rfl
theorem hideK_pr (k v m i o : Nat) (r : KT) : hideK (.pr k v m i o) σ r L = r ⟨σ.fr, (k, .gone) :: σ.hp, σ.n, σ.N, σ.gs⟩ L := rfl
theorem hideK_ms (k v m i o : Nat) (r : KT) : hideK (.ms k v m i o) σ r L = r ⟨σ.fr, (k, .gone) :: σ.hp, σ.n, σ.N, σ.gs⟩ L := rfl
theorem gs0_nil (p : Prop) : gs0 [] p = p := rfl
theorem sx_seq (a b : SC) : sx P Y m (.seq a b) σ K = sx P Y m a σ (seqK (sx P Y m b) K) := rfl
theorem sx_cond (c : X) (a b : SC) : sx P Y m (.cond c a b) σ K = cndK (rdG none σ.fr c) (sx P Y m a) (sx P Y m b) σ K := rfl
theorem sx_block (id : Nat) (c : SC) : sx P Y m (.block id c) σ K = sx P Y m c σ (blkK id K) := rfl
theorem sx_loop (c : SC) : sx P Y m (.loop c) σ K = LOOP m (sx P Y m c) σ K := rfl
theorem sx_exit (id : Nat) : sx P Y m (.exit id) σ K = K (.ex id) σ := rfl
theorem sx_ret : sx P Y m .ret σ K = K .ret σ := rfl
theorem sx_skip : sx P Y m .skip σ K = K .n σ := rfl
theorem sx_scope (c : SC) : sx P Y m (.scope c) σ K = sx P Y m c σ K := rfl
theorem sx_gh (c : SC) : sx P Y m (.gh c) σ K = GH m (sx P Y m c) σ K := rfl
theorem sx_label (l : Nat) : sx P Y m (.label l) σ K = K .n σ := rfl
theorem endK_eq (e : Ex) : endK K e σ = K e (purge σ) := rfl
theorem seqK_n (f : CT) : seqK f K .n σ = f σ K := rfl
theorem seqK_ex (f : CT) (i : Nat) : seqK f K (.ex i) σ = K (.ex i) σ := rfl
theorem seqK_pan (f : CT) (s : SV) : seqK f K (.pan s) σ = K (.pan s) σ := rfl
theorem seqK_ret (f : CT) : seqK f K .ret σ = K .ret σ := rfl
theorem blkK_n (id : Nat) : blkK id K .n σ = K .n σ := rfl
theorem blkK_pan (id : Nat) (s : SV) : blkK id K (.pan s) σ = K (.pan s) σ := rfl
theorem blkK_ret (id : Nat) : blkK id K .ret σ = K .ret σ := rfl
theorem retK_n (rs : List RV) (res : SV) : retK rs res .n σ = (rvR rs σ = some res) := rfl
theorem retK_ret (rs : List RV) (res : SV) : retK rs res .ret σ = (rvR rs σ = some res) := rfl
theorem lopK_n {S : Type} (st : S → St) (rel : S → Prop) (μ : S → Nat) (s : S) : lopK m st rel μ s K .n σ = ∃ s', rel s' ∧ μ s' < μ s ∧ Ent m σ (st s') := rfl
theorem lopK_ex {S : Type} (st : S → St) (rel : S → Prop) (μ : S → Nat) (s : S) (i : Nat) : lopK m st rel μ s K (.ex i) σ = K (.ex i) σ := rfl
theorem lopK_pan {S : Type} (st : S → St) (rel : S → Prop) (μ : S → Nat) (s : S) (x : SV) : lopK m st rel μ s K (.pan x) σ = K (.pan x) σ := rfl
theorem lopK_ret {S : Type} (st : S → St) (rel : S → Prop) (μ : S → Nat) (s : S) : lopK m st rel μ s K .ret σ = K .ret σ := rfl
end
section
variable {P : Program} {m : Nat} {σ : St} {K : Ex → St → Prop} {L : RK} {r : KT} {d : Option Nat} {g : Option (Nat × Bool)}
theorem br {b : Bool} {f h : CT} (h1 : b = true → f σ K) (h2 : b = false → h σ K) : BR b f h σ K := ⟨h1, h2⟩
theorem br_t {b : Bool} {f h : CT} (hb : b = true) (h1 : f σ K) : BR b f h σ K := ⟨fun _ => h1, fun e => by rw [hb] at e; cases e⟩
theorem br_f {b : Bool} {f h : CT} (hb : b = false) (h1 : h σ K) : BR b f h σ K := ⟨fun e => by (rw [hb] at e; cases e), fun _ => h1⟩
theorem gb {b w : Bool} {j : Nat} {i : SI} (h : stpV P (some (j, w)) d i σ r L) : GB P Y b j w d i σ r L := .inr (.inr h)
theorem call {f : FuncId} {args : List SV} {res : SV} (h : Ct P f args res) (hk : putK d res g σ r L) : CALL P g f args d σ r L := ⟨res, .inl (impP_iff.2 fun _ => h), hk⟩
theorem callv {f : FuncId} {args : List SV} {res : SV} (hf : FLT res) (h : Ct P f (mapS (vw4 σ.hp) args) res) (hk : putK d res g σ r L) : CALL P g f args d σ r L := ⟨res, .inr ⟨hf, impP_iff.2 fun _ => h⟩, hk⟩
theorem div0 {b : BinOp} {k : IntKind} {x y : Int} (h : y ≠ 0) (hk : putK d (.v (.int k (divr b k x y))) g σ r L) : DIV g b k x y d σ r L := ⟨impP_iff.2 fun _ => h, hk⟩
theorem ixs {xs : List (List SV)} {i : Int} (n : Nat) (row : List SV) (hi : i = (n : Int)) (hr : xs[n]? = some row) (hk : putK d (.ps row 0) g σ r L) : IXS g xs i d σ r L := ⟨row, impP_iff.2 fun _ => ⟨n, hi, hr⟩, hk⟩
theorem ixs_map {α : Type} {l : List α} {f : α → List SV} {i : Int} (n : Nat) (hn : n < l.length) (hi : i = (n : Int)) (hk : putK d (.ps (f l[n]) 0) g σ r L) : IXS g (l.map f) i d σ r L :=
  ixs n _ hi (by simp [hn]) hk
theorem ixa {len : Nat} {i : Int} {F : Nat → Option SV} (n : Nat) (hi : i = (n : Int)) (hn : n < len) (hk : putO (F n) d g σ r L) : IXA g len i F d σ r L := ⟨n, impP_iff.2 fun _ => ⟨hi, hn⟩, hk⟩
theorem loop {f : CT} {S : Type} (st : S → St) (rel : S → Prop) (μ : S → Nat) (s : S) (h0 : rel s) (he : Ent m σ (st s)) (hb : ∀ s, rel s → f (st s) (lopK m st rel μ s K)) : LOOP m f σ K :=
  .inr ⟨S, st, rel, μ, ⟨s, h0, he⟩, hb⟩
theorem unroll {f : CT} (n : Nat) (h : rnds f K n σ) : LOOP m f σ K := .inl ⟨n, h⟩
theorem rnds_succ {f : CT} (n : Nat) : rnds f K (n + 1) σ = f σ (rndK (rnds f K n) K) := rfl
theorem rndK_n (p : St → Prop) : rndK p K .n σ = p σ := rfl
theorem rndK_ex (p : St → Prop) (i : Nat) : rndK p K (.ex i) σ = K (.ex i) σ := rfl
theorem rndK_pan (p : St → Prop) (s : SV) : rndK p K (.pan s) σ = K (.pan s) σ := rfl
theorem rndK_ret (p : St → Prop) : rndK p K .ret σ = K .ret σ := rfl
/-- a state is forgotten in part -/
def entF : List (Nat × SV) → List (Nat × SV) → Prop
  | [], _ => True
  | (t, s) :: r, fr => lk t fr = s ∧ entF r fr
def nogd : List (Nat × SV) → Bool
  | [] => true
  | (_, .gd _ _ _) :: _ => false
  | _ :: r => nogd r
end
-- @@ s39

section
variable {w : World} {E : Env} {ok ok' : Nat → Prop} {ρ : Nat → Nat} {n' : Nat} {n : Nat → Prop}
theorem ent {σ σ' : St} (ρ : Nat → Nat) (hf : mtF ρ σ'.n [] σ'.fr σ.fr) (hp : mtP ρ σ'.hp σ.hp σ'.n σ'.n) (hb : hpb σ'.n σ'.hp) (hρ : ∀ i, i < σ'.n → ∀ j, j < σ'.n → ρ i = ρ j → i = j) (hN : Nat.beq σ'.N σ.N = true) {m0 : Nat} (hm : Nat.ble m0 σ'.n = true) (hfix : ∀ i, i < m0 → ρ i = i) : Ent m0 σ σ' := by
  intro C E a w hm0 h
  have hN := Nat.eq_of_beq_eq_true hN
  have hgone := hpb_gone hb
  have hH := mtP_lk hp
  have hocc : ∀ k b, occ (rnE E ρ) k (lkh k σ'.hp) b → k < σ'.n ∧ occ E (ρ k) (lkh (ρ k) σ.hp) b := fun k b ho => by
    by_cases hk : k < σ'.n
    · refine ⟨hk, ?_⟩
      have := hH k hk
      cases h1 : lkh k σ'.hp <;> rw [h1] at ho this
      · cases h2 : lkh (ρ k) σ.hp <;> rw [h2] at this <;> simp only [mtH] at this
        exact ho
      · simp only [mtH] at this; rw [this.1]; exact ho
      · simp only [mtH] at this; rw [this]; exact ho
      · simp only [mtH] at this; rw [this.1]; exact ho
      · simp only [mtH] at this; rw [this.2]; exact ho
      · simp only [mtH] at this; rw [this]; exact ho
      · simp only [mtH] at this; rw [this]; exact ho
      · exact ho.elim
    · rw [hgone k hk] at ho; exact ho.elim
  have hst : Stays w w (okS C E σ.hp) (okS C (rnE E ρ) σ'.hp) := fun b hb _ => ⟨⟨hb.1, fun k ho => hb.2 _ (hocc k b ho).2⟩, rfl⟩
  refine ⟨rnE E ρ, fun t => ?_, by rw [hN]; exact h.sz, DF_mono hst h.df, fun t j b s ht => ?_, ⟨hgone, fun k => ?_, fun k k' b h1 h2 => ?_, fun k b h1 => ?_, h.hs.kp, fun k hk => ?_⟩⟩
  · rcases mtF_lk hf t rfl with h1 | h1
    · rw [h1]; exact trivial
    · have := mtS_R hst h1 (h.fr t)
      have hng := mtS_nogd h1
      cases hs : lk t σ'.fr <;> rw [hs] at this hng <;> first | exact this | exact absurd rfl (hng _ _ _)
  · rcases mtF_lk hf t rfl with h1 | h1
    · rw [h1] at ht; cases ht
    · exact absurd ht (mtS_nogd h1 j b s)
  · by_cases hk : k < σ'.n
    · have := hH k hk
      have hbk := h.hs.bk (ρ k)
      cases h1 : lkh k σ'.hp <;> rw [h1] at this
      · cases h2 : lkh (ρ k) σ.hp <;> rw [h2] at this hbk <;> simp only [mtH] at this
        obtain ⟨rfl, this⟩ := this
        simp only [HBok] at hbk ⊢
        obtain ⟨cs, k1, k2⟩ := hbk
        exact ⟨cs, k1, mtL_ok hst _ _ _ this k2⟩
      · simp only [mtH] at this
        rw [this.1] at hbk
        simp only [HBok] at hbk ⊢
        obtain ⟨hi0, hbk⟩ := hbk
        refine ⟨hi0, ?_⟩
        rcases hbk with q | ⟨b, cap, cs, q1, q2, q3, q4, q5, q6, q7⟩
        · exact .inl q
        · exact .inr ⟨b, cap, cs, q1, q2, q3, q4, q5, q6, RL_mono hst (fun _ h => Ele.rfl) (fun _ h => h.elim) _ _ (RL_kf (E' := rnE E ρ) (n' := fun _ => False) _ _ (KFR_flat this.2) q7)⟩
      · rename_i φ
        simp only [mtH] at this
        rw [this] at hbk
        simp only [HBok] at hbk ⊢
        obtain ⟨o, k1, k2⟩ := hbk
        exact ⟨o, k1, φ.mono _ _ _ _ _ hst k2⟩
      · simp only [mtH] at this
        obtain ⟨this, hkf⟩ := this
        rw [this] at hbk
        simp only [HBok] at hbk ⊢
        obtain ⟨ys, k1, k2⟩ := hbk
        exact ⟨ys, k1, RM_kf hst _ _ hkf k2⟩
      · simp only [mtH] at this
        rw [this.2] at hbk
        simp only [HBok] at hbk ⊢
        exact ⟨this.1, hbk.2⟩
      · simp only [mtH] at this
        rw [this] at hbk
        simp only [HBok] at hbk ⊢
        exact hbk
      · simp only [mtH] at this
        rw [this] at hbk
        simp only [HBok] at hbk ⊢
        exact hbk
      · trivial
    · rw [hgone k hk]; trivial
  · have e1 := hocc k b h1
    have e2 := hocc k' b h2
    exact hρ k e1.1 k' e2.1 (h.hs.dj _ _ b e1.2 e2.2)
  · obtain ⟨e1, e2⟩ := hocc k b h1
    rcases h.hs.lo _ b e2 with q | q
    · exact .inl q
    · have q1 := Nat.lt_of_lt_of_le (hm0.2 _ _ q) hm0.1
      have q2 : ρ k = k := hρ _ (Nat.lt_of_lt_of_le q1 (Nat.le_of_ble_eq_true hm)) k e1 (hfix _ q1)
      rw [q2] at q; exact .inr q
  · have hk' : k < m0 := Nat.lt_of_lt_of_le hk hm0.1
    obtain ⟨p1, p2, p3, p4⟩ := h.hs.pin k hk
    exact ⟨Nat.lt_of_lt_of_le hk' (Nat.le_of_ble_eq_true hm), by simp only [rnE, hfix k hk']; exact p2, by simp only [rnE, hfix k hk']; exact p3, by simp only [rnE, hfix k hk']; exact p4⟩
end
-- @@ s41
theorem mtS_same {ρ : Nat → Nat} {n' : Nat} : ∀ {s : SV}, KF s → mtS ρ n' s s := by
  intro s
  exact SV.rec (motive_1 := fun s => KF s → mtS ρ n' s s) (motive_2 := fun l => KFL l → mtL ρ n' l l) (motive_3 := fun _ => True)
    (fun x _ => by simp [mtS]) (fun k o h => by simp [KF] at h) (fun l ih h => by simp only [KF] at h; simp only [mtS, aggL, mtO]; exact ih h)
    (fun c m xs _ h => by simp only [KF] at h; simp [mtS, h]) (fun k v h => by simp [KF] at h) (fun k v m i o h => by simp [KF] at h) (fun k v m i o h => by simp [KF] at h)
    (fun l o _ h => by simp only [KF] at h; simp [mtS, h]) (fun f l ih h => by simp only [KF] at h; simp only [mtS, clL, Nat.beq_refl, cond_true, mtO]; exact ih h)
    (fun l ih h => by simp only [KF] at h; simp only [mtS, tupL, mtO]; exact ih h) (fun k h => by simp [KF] at h) (fun k h => by simp [KF] at h) (fun T s ih h => by simp only [KF] at h; simp only [mtS, mtI]; exact ⟨trivial, ih h⟩) (fun φ _ => by simp [mtS]) (fun j w s _ h => by simp [KF] at h) (fun _ => by simp [mtS])
    (fun _ => by simp [mtL]) (fun s l h1 h2 h => by simp only [KFL] at h; simp only [mtL, mtB]; exact ⟨h1 h.1, h2 h.2⟩)
    trivial (fun _ _ _ _ => trivial) s
theorem mtL_same {ρ : Nat → Nat} {n' : Nat} : ∀ {l : List SV}, KFL l → mtL ρ n' l l
  | [], _ => by simp [mtL]
  | s :: l, h => by simp only [mtL, mtB]; exact ⟨mtS_same h.1, mtL_same h.2⟩
-- @@ s40

abbrev I (n : Int) : SV := .v (.int .i64 n)
abbrev B (b : Bool) : SV := .v (.bool b)
theorem KFR_app : ∀ {xs ys : List (List SV)}, KFR (xs ++ ys) ↔ KFR xs ∧ KFR ys
  | [], ys => by simp [KFR]
  | x :: xs, ys => by simp [KFR, KFR_app (xs := xs) (ys := ys), and_assoc]
theorem KFR_iff {α : Type} {f : α → List SV} {l : List α} : KFR (l.map f) ↔ ∀ x ∈ l, KFL (f x) := by
  induction l with
  | nil => simp [KFR]
  | cons x l ih => simp [KFR, ih]
abbrev w64 (n : Int) : Int := IntKind.i64.wrap n
theorem w64_in {n : Int} (h1 : -9223372036854775808 ≤ n) (h2 : n ≤ 9223372036854775807) : IntKind.i64.wrap n = n := IntWalk.i64_in n ⟨h1, h2⟩
/-- the state at a loop's head: as at its entry, but for what the loop turns -/
def stO {S : Type} (σ : St) (ov : S → List (Nat × SV)) (hv : S → List (Nat × HB)) (s : S) : St := ⟨ov s ++ σ.fr, hv s ++ σ.hp, σ.n, σ.N, []⟩
theorem e_stO {S : Type} (fr : List (Nat × SV)) (hp : List (Nat × HB)) (n N : Nat) (gs : List Nat) (ov : S → List (Nat × SV)) (hv : S → List (Nat × HB)) (s : S) : stO ⟨fr, hp, n, N, gs⟩ ov hv s = ⟨ov s ++ fr, hv s ++ hp, n, N, []⟩ := rfl
theorem loopO {m : Nat} {f : CT} {σ : St} {K : Ex → St → Prop} {S : Type} (ov : S → List (Nat × SV)) (hv : S → List (Nat × HB)) (rel : S → Prop) (μ : S → Nat) (s0 : S) (h0 : rel s0) (he : Ent m σ (stO σ ov hv s0))
    (hb : ∀ s, rel s → f (stO σ ov hv s) (lopK m (stO σ ov hv) rel μ s K)) : LOOP m f σ K :=
  loop (stO σ ov hv) rel μ s0 h0 he hb
theorem gh {m : Nat} {r : CT} {σ σ1 : St} {K : Ex → St → Prop} (hg : Ent m σ σ1) (h : r σ1 K) : GH m r σ K := ⟨σ1, hg, h⟩
theorem frz_ok {C : Cx} {E : Env} {hp : List (Nat × HB)} {n : Nat → Prop} {w : World} {m k v m' : Nat} {xs : List (List SV)} {T : TypeId} (hmc : MC C m) (hm : m ≤ k) (h : HSim C E hp n w) (hk : lkh k hp = .row v m' xs T) :
    (xs = [] ∧ ∃ a, E.hv k v = .slice a 0 0) ∨ ∃ b cap, E.hv k v = .slice (some ⟨b, 0, none⟩) xs.length cap ∧ xs.length ≤ cap ∧ cap ≠ 0 ∧ xs.length ≤ 9223372036854775807 ∧ RR w E n (okS C E ((k, .gone) :: hp)) b m' xs 0 := by
  have hb := h.bk k
  rw [hk] at hb; simp only [HBok] at hb
  rcases hb with ⟨_, h1 | ⟨b, cap, cs, h1, h2, h3, ⟨h4, h4'⟩, h5, h6, h7⟩⟩
  · exact .inl h1
  · have hoc : occ E k (lkh k hp) b := by rw [hk]; exact ⟨_, _, h1, h4'⟩
    have hok : okS C E ((k, .gone) :: hp) b := by
      refine ⟨?_, fun j ho => ?_⟩
      · rcases h.lo k b hoc with q | q
        · exact .inr q
        · have := hmc.2 k b q; have := hmc.1; omega
      · rw [lkh_cons] at ho
        split at ho
        · exact ho.elim
        · exact absurd (h.dj j k b ho hoc).symm (by omega)
    exact .inr ⟨b, cap, h1, h4, h4', h5, RR_of_flat (cs := cs) (ok := okS C E hp) hok (fun j c hj => by rw [cell_of_row _ _ _ _ _ _ h2]; simpa using hj) (HSim_gone h k).2 xs 0 h6 (by simpa using h7)⟩
theorem ent_frz0 {m : Nat} {σ : St} (t k : Nat) (s : SV) (hg : σ.gs = []) (hs : ∀ j b u, s ≠ .gd j b u) (hR : ∀ C E w y, MC C m → HSim C E σ.hp (ltn σ.n) w → R w E (ltn σ.n) (okS C E σ.hp) (lk t σ.fr) y → R w E (ltn σ.n) (okS C E ((k, .gone) :: σ.hp)) s y) :
    Ent m σ ⟨(t, s) :: σ.fr, (k, .gone) :: σ.hp, σ.n, σ.N, σ.gs⟩ := fun C E a w hmc h => by
  obtain ⟨g1, g2⟩ := HSim_gone h.hs k
  have hR0 : ∀ u, R w E (ltn σ.n) (okS C E σ.hp) (lk u σ.fr) (a.tmps.getD u undef) := fun u => FR_R (h.fr u) (fun j b u' e => by have := h.gs u j b u' e; rw [hg] at this; simp at this)
  refine ⟨E, fun u => ?_, h.sz, DF_mono g2 h.df, fun u j b s' hu => ?_, g1⟩
  · rw [lk_cons]
    split
    · rename_i hu; subst hu
      have := hR C E w _ hmc h.hs (hR0 _)
      cases s <;> first | exact this | exact absurd rfl (hs _ _ _)
    · refine FR_mono g2 (fun _ _ => Ele.rfl) (fun k hk => hk) (fun j b s hs => ?_) (h.fr u)
      have := h.gs u j b s hs; rw [hg] at this; simp at this
  · rw [lk_cons] at hu
    split at hu
    · exact absurd hu (hs _ _ _)
    · exact h.gs u j b s' hu
/-- an owned row is given away: what is read of it from now on is a value -/
theorem ent_frz {m : Nat} {σ : St} (t k v : Nat) {m' : Nat} {xs : List (List SV)} {T : TypeId} (hm : Nat.ble m k = true) (hg : σ.gs = []) (hl : lk t σ.fr = .mr k v) (hk : lkh k σ.hp = .row v m' xs T) :
    Ent m σ ⟨(t, .sl false m' xs) :: σ.fr, (k, .gone) :: σ.hp, σ.n, σ.N, σ.gs⟩ :=
  ent_frz0 t k _ hg (fun _ _ _ e => by cases e) fun C E w y hmc hh hR => by
    rw [hl] at hR
    simp only [R] at hR ⊢
    rcases frz_ok hmc (Nat.le_of_ble_eq_true hm) hh hk with ⟨h1, a0, h2⟩ | ⟨b, cap, h1, h4, h4', h5, h7⟩
    · exact ⟨a0, 0, 0, by rw [hR.2.2.1, h2], by simp [h1], ⟨Nat.le_refl _, fun h => by cases h⟩, by simp [h1], .inl h1⟩
    · exact ⟨_, _, _, hR.2.2.1.trans h1, rfl, ⟨h4, fun h => by cases h⟩, h5, .inr ⟨b, 0, rfl, h7⟩⟩
/-- .. or its first part alone -/
theorem ent_frzp {m : Nat} {σ : St} (t k v l : Nat) {m' : Nat} {xs : List (List SV)} {T : TypeId} (hm : Nat.ble m k = true) (hg : σ.gs = []) (hl : lk t σ.fr = .ms k v m' 0 l) (hk : lkh k σ.hp = .row v m' xs T) (hle : l ≤ xs.length) :
    Ent m σ ⟨(t, .sl false m' (xs.take l)) :: σ.fr, (k, .gone) :: σ.hp, σ.n, σ.N, σ.gs⟩ :=
  ent_frz0 t k _ hg (fun _ _ _ e => by cases e) fun C E w y hmc hh hR => by
    rw [hl] at hR
    simp only [R] at hR ⊢
    obtain ⟨_, _, a, len, cap, e1, e2, e3⟩ := hR
    have hlen : l = (xs.take l).length := by rw [List.length_take]; omega
    rcases frz_ok hmc (Nat.le_of_ble_eq_true hm) hh hk with ⟨h1, a0, h2⟩ | ⟨b, cap', h1, h4, h4', h5, h7⟩
    · rw [h2] at e1; cases e1
      refine ⟨_, l, _, e3, hlen, ⟨by omega, fun h => by cases h⟩, by rw [← hlen]; simp [h1] at hle; omega, .inl (by simp [h1])⟩
    · rw [h1] at e1; cases e1
      refine ⟨_, l, _, e3, hlen, ⟨by omega, fun h => by cases h⟩, by omega, .inr ⟨b, 0, ?_, RR_take l h7⟩⟩
      rw [if_neg (by omega)]; simp [Addr.add]
theorem entO_of {m : Nat} {b : Bool} {s s' : SV} {hp hp' : List (Nat × HB)} {n n' : Nat} (h : Ent m ⟨[(0, s)], hp, n, 1, []⟩ ⟨[(0, s')], hp', n', 1, []⟩) (hg : ∀ j b u, s' ≠ .gd j b u) : EntO m ⟨b, s, hp, n⟩ ⟨b, s', hp', n'⟩ := by
  refine ⟨rfl, fun C E w y hm hH hR => ?_⟩
  have hng := R_nogd hR
  have hS : Sim C E ⟨[(0, s)], hp, n, 1, []⟩ { tmps := #[y], defers := C.ds } w := by
    refine ⟨fun t => ?_, rfl, DF_nil, fun t j b u ht => ?_, hH⟩
    · simp only [lk_cons]
      split
      · rename_i ht; subst ht
        show FR w E (ltn n) _ _ s y
        cases s <;> first | exact hR | exact absurd rfl (hng _ _ _)
      · exact trivial
    · simp only [lk_cons] at ht
      split at ht
      · exact absurd ht (hng _ _ _)
      · cases ht
  obtain ⟨E', h'⟩ := h C E _ w hm hS
  refine ⟨E', h'.hs, ?_⟩
  have := h'.fr 0
  exact FR_R this (fun j b u e => hg j b u (by simpa [lk] using e))
/-- an end, with keys renamed -/
theorem entO {m : Nat} {b : Bool} {s s' : SV} {hp hp' : List (Nat × HB)} {n n' : Nat} (ρ : Nat → Nat) (hf : mtS ρ n' s' s) (hp0 : mtP ρ hp' hp n' n') (hb : hpb n' hp') (hρ : ∀ i, i < n' → ∀ j, j < n' → ρ i = ρ j → i = j) (hm : Nat.ble m n' = true) (hfix : ∀ i, i < m → ρ i = i) : EntO m ⟨b, s, hp, n⟩ ⟨b, s', hp', n'⟩ :=
  entO_of (ent ρ (show mtF ρ n' [] [(0, s')] [(0, s)] from ⟨hf, trivial⟩) hp0 hb hρ rfl hm hfix) (mtS_nogd hf)
theorem entO_id {m : Nat} {b : Bool} {s s' : SV} {hp hp' : List (Nat × HB)} {n n' : Nat} (hf : mtS id n' s' s) (hp0 : mtP id hp' hp n' n') (hb : hpb n' hp') (hm : Nat.ble m n' = true) : EntO m ⟨b, s, hp, n⟩ ⟨b, s', hp', n'⟩ :=
  entO id hf hp0 hb (fun _ _ _ _ h => h) hm (fun _ _ => rfl)
/-- a call that has one end -/
theorem callm {P : Program} {f : FuncId} {args args0 : List SV} {d : Option Nat} {σ : St} {r : KT} {K : RK} {hp0 : List (Nat × HB)} {n0 : Nat} {o : Ot} (ρ : Nat → Nat) (hc : CtM P f hp0 n0 args0 (· = o)) (h1 : mtL ρ n0 args0 args) (h2 : mtP ρ hp0 σ.hp n0 n0) (h3 : injU ρ n0) (h4 : ∀ i, i < n0 → ρ i < σ.n)
    (h5 : cmK o.pn (rnS (exR ρ n0 σ.n) o.res) (hpM ρ n0 σ.n o σ.hp) (σ.n + (o.n - n0)) d σ r K) : CALLM P f args d σ r K :=
  ⟨hp0, n0, args0, _, ρ, hc, h1, h2, h3, h4, fun _ e => e ▸ h5⟩
def rho : List Nat → Nat → Nat
  | [], _ => 0
  | a :: _, 0 => a
  | _ :: l, k + 1 => rho l k
theorem rho_get : ∀ (l : List Nat) (k : Nat) (h : k < l.length), rho l k = l[k]
  | a :: _, 0, _ => rfl
  | _ :: l, k + 1, h => by simpa [rho] using rho_get l k (by simpa using h)
theorem callmL {P : Program} {f : FuncId} {args args0 : List SV} {d : Option Nat} {σ : St} {r : KT} {K : RK} {hp0 : List (Nat × HB)} {n0 : Nat} {o : Ot} (l : List Nat) (hc : CtM P f hp0 n0 args0 (· = o)) (hn : Nat.beq l.length n0 = true) (hi : nodupB l = true) (hl : ltAll σ.n l = true)
    (h1 : mtL (rho l) n0 args0 args) (h2 : mtP (rho l) hp0 σ.hp n0 n0) (h5 : cmK o.pn (rnS (exR (rho l) n0 σ.n) o.res) (hpM (rho l) n0 σ.n o σ.hp) (σ.n + (o.n - n0)) d σ r K) : CALLM P f args d σ r K := by
  have hn := Nat.eq_of_beq_eq_true hn
  refine callm (rho l) hc h1 h2 (fun i hi' j hj e => ?_) (fun i hi' => ?_) h5
  · rw [rho_get l i (by omega), rho_get l j (by omega)] at e
    have hp := List.pairwise_iff_getElem.1 (nodupB_sound hi)
    rcases Nat.lt_trichotomy i j with h | h | h
    · exact absurd e (hp i j _ _ h)
    · exact h
    · exact absurd e.symm (hp j i _ _ h)
  · rw [rho_get l i (by omega)]; exact ltAll_iff hl _ (List.getElem_mem _)
theorem ent_id {m0 : Nat} {σ σ' : St} (hf : mtF id σ'.n [] σ'.fr σ.fr) (hp : mtP id σ'.hp σ.hp σ'.n σ'.n) (hb : hpb σ'.n σ'.hp) (hN : Nat.beq σ'.N σ.N = true) (hm : Nat.ble m0 σ'.n = true) : Ent m0 σ σ' := ent id hf hp hb (fun _ _ _ _ h => h) hN hm (fun _ _ => rfl)
theorem imp_v {fr : List (Nat × SV)} {j : Nat} {w b : Bool} {p : Prop} (hl : lk j fr = .v (.bool b)) (h : b = w → p) : impP (some (j, w)) fr p := fun hg => h (GE_v hg hl)
theorem ixrm {g : Option (Nat × Bool)} {k v m len : Nat} {i : Int} {d : Option Nat} {σ : St} {r : KT} {L : RK} (n : Nat) (hi : i = (n : Int)) (hn : n < len) (hk : putK d (.pr k v m n 0) g σ r L) : IXR g k v m len i d σ r L := ⟨n, impP_iff.2 fun _ => ⟨hi, hn⟩, hk⟩
theorem ldrm {α : Type} {l : List α} {f : α → List SV} {g : Option (Nat × Bool)} {i o m : Nat} {ag : Bool} {d : Option Nat} {σ : St} {r : KT} {L : RK} (hn : i < l.length) (hk : putO (partS (f l[i]) o m ag) d g σ r L) : LDR g (l.map f) i o m ag d σ r L := ⟨f l[i], impP_iff.2 fun _ => by simp [hn], hk⟩
/-- a store into a row that is told as a list: one of its members is another one -/
theorem strm {α : Type} {l : List α} {f : α → List SV} {j o k v m : Nat} {c : List SV} {T : TypeId} {σ : St} {r : KT} {L : RK} (y : α) (hn : j < l.length) (ho : o + c.length ≤ (f l[j]).length) (he : splice (f l[j]) o c = f y)
    (h : r ⟨σ.fr, (k, .row v m ((l.set j y).map f) T) :: σ.hp, σ.n, σ.N, σ.gs⟩ L) : STR v (l.map f) j o k m c T σ r L :=
  ⟨f l[j], by simp [hn], ho, by rw [he, ← List.map_set]; exact h⟩
theorem ixrm_v {k v m len : Nat} {i : Int} {d : Option Nat} {σ : St} {r : KT} {L : RK} {j : Nat} {w b : Bool} (n : Nat) (hl : lk j σ.fr = .v (.bool b)) (h : b = w → i = (n : Int) ∧ n < len) (hk : putK d (.pr k v m n 0) (some (j, w)) σ r L) : IXR (some (j, w)) k v m len i d σ r L := ⟨n, imp_v hl h, hk⟩
theorem kfr_rep {r : List SV} (h : KFL r) : ∀ n, KFR (List.replicate n r)
  | 0 => trivial
  | n + 1 => ⟨h, kfr_rep h n⟩
/-- a call that has many ends -/
theorem callmP {P : Program} {f : FuncId} {args args0 : List SV} {d : Option Nat} {σ : St} {r : KT} {K : RK} {hp0 : List (Nat × HB)} {n0 : Nat} {Post : Ot → Prop} (l : List Nat) (hc : CtM P f hp0 n0 args0 Post) (hn : Nat.beq l.length n0 = true) (hi : nodupB l = true) (hl : ltAll σ.n l = true)
    (h1 : mtL (rho l) n0 args0 args) (h2 : mtP (rho l) hp0 σ.hp n0 n0) (h5 : ∀ o, Post o → cmK o.pn (rnS (exR (rho l) n0 σ.n) o.res) (hpM (rho l) n0 σ.n o σ.hp) (σ.n + (o.n - n0)) d σ r K) : CALLM P f args d σ r K := by
  have hn := Nat.eq_of_beq_eq_true hn
  refine ⟨hp0, n0, args0, Post, rho l, hc, h1, h2, fun i hi' j hj e => ?_, fun i hi' => ?_, h5⟩
  · rw [rho_get l i (by omega), rho_get l j (by omega)] at e
    have hp := List.pairwise_iff_getElem.1 (nodupB_sound hi)
    rcases Nat.lt_trichotomy i j with h | h | h
    · exact absurd e (hp i j _ _ h)
    · exact h
    · exact absurd e.symm (hp j i _ _ h)
  · rw [rho_get l i (by omega)]
    exact ltAll_iff hl _ (List.getElem_mem _)
/-- and, and shift to the right, by a constant -/
theorem raw_bin {P : Program} {d : Option Nat} {op : BinOp} {t t' ty u : Nat} {c x v : Value} {σ : St} {r : KT} {K : RK} (hl : lk u σ.fr = .v x) (hop : op = .and ∨ op = .shr) (hr : ∀ w : World, (binOp op t x c).run P w = .ok v w) (hv : v.oneCell' = true) (hk : putK d (.v v) none σ r K) :
    RAW P d (.binOp op t (.tmp u) (.const c) t') ty σ r K := by
  intro o C E a w next Q h1 h2 h3 hs hn hq
  have hx : a.eval (.tmp u) = x := by
    have := hs.fr u
    rw [hl] at this
    simp only [FR, R] at this
    exact this
  have hrun : (execOp a.eval o).run P w = .ok (.value v) w := by
    obtain ⟨dst, op', ty', pos, after, guard⟩ := o
    simp only at h2; subst h2
    have hc : a.eval (.const c) = c := rfl
    simp only [execOp, hx, hc]
    rcases hop with rfl | rfl <;> simp [Sem.run_bind, eqGuard, hr]
  refine wpq_res hrun (by simp) ?_
  show next (a.put o.dst v) w
  rcases putK_ex hk with ⟨g1, g2⟩ | ⟨t, g1, g2, g3, g4, g5⟩
  · have hS := hs
    rw [h1, g1]
    exact hn _ E _ _ g2 hS
  · rw [h1, g1]
    exact hn _ E _ _ g5 (Sim_put hs (fun b hb _ => ⟨hb, rfl⟩) (fun _ _ => Ele.rfl) (Nat.le_refl _) hs.hs g2 g3 (fun j b u e => by rw [e] at g4; cases g4) (by simp only [R]))
/-- the builtin clear, of a part of an owned row -/
theorem raw_clear {P : Program} {k v m u i L t ty : Nat} {xs : List (List SV)} {T : TypeId} {z : Value} {zl : List Value} {σ : St} {r : KT} {K : RK} (hl : lk u σ.fr = .ms k v m i L) (hk : lkh k σ.hp = .row v m xs T) (hL : i + L ≤ xs.length)
    (ht : P.underlying t = some (.slice T)) (hz : zeroOf P T = some z) (hzl : z.cells.toList = zl) (hzm : Nat.beq zl.length m = true) (hz1 : ∀ v ∈ zl, v.oneCell' = true)
    (h : r ⟨σ.fr, (k, .row v m (xs.take i ++ (List.replicate L (zl.map SV.v) ++ xs.drop (i + L))) T) :: σ.hp, σ.n, σ.N, σ.gs⟩ K) :
    RAW P none (.call { callee := .builtin .clear, args := #[.tmp u], argTypes := #[t] }) ty σ r K := by
  have hzm := Nat.eq_of_beq_eq_true hzm
  intro o C E a w next Q h1 h2 h3 hs hn hq
  have hv := FR_R (hs.fr u) (fun j b u' e => by rw [hl] at e; cases e)
  rw [hl] at hv
  have hb := hs.hs.bk k
  rw [hk] at hb
  simp only [R] at hv
  obtain ⟨_, _, a0, len, cap, g1, g2, g3⟩ := hv
  have hst : ∀ {w'}, (Builtin.clear_ #[t] ty #[a.tmps.getD u undef]).run P w = .ok (.tuple #[]) w' → (execOp a.eval o).run P w = .ok (.value (.tuple #[])) w' := fun h => by
    obtain ⟨dst, op', ty', pos, after, guard⟩ := o
    simp only at h2 h3; subst h2; subst h3
    simp only [Array.getD_eq_getD_getElem?] at h
    simp [execOp, resolve, invoke, builtin, Act.eval, h]
  by_cases hL0 : L = 0
  · subst hL0
    have hre : ∀ j, lkh j ((k, .row v m (xs.take i ++ (List.replicate 0 (zl.map SV.v) ++ xs.drop (i + 0))) T) :: σ.hp) = lkh j σ.hp := fun j => by
      rw [lkh_cons]
      split
      · rename_i hj; subst hj; rw [hk]; simp
      · rfl
    obtain ⟨q1, q2⟩ := HSim_recons hs.hs hre
    have hrun : (Builtin.clear_ #[t] ty #[a.tmps.getD u undef]).run P w = .ok (.tuple #[]) w := by
      rw [g3]
      generalize (if cap - i = 0 then a0 else a0.map (·.add (i * m))) = ad
      cases ad <;> simp [Builtin.clear_, Sem.run_bind, run_underlying ht]
    refine wpq_res (hst hrun) (by simp) ?_
    show next (a.put o.dst _) w
    rw [h1]
    exact hn _ E _ _ h (Sim_same hs q2 (fun _ _ => Ele.rfl) (Nat.le_refl _) q1)
  · simp only [HBok] at hb
    rcases hb with ⟨his, ⟨q0, a1, q1⟩ | ⟨b, cap', cs, q1, q2, q3, q4, q5, q6, q7⟩⟩
    · rw [q0] at hL; simp at hL; omega
    rw [q1] at g1; cases g1
    have hrep : ((List.replicate L zl).flatten).length = L * m := by simp [hzm]
    have hiN : i * m + L * m ≤ xs.length * m := by rw [← Nat.add_mul]; exact Nat.mul_le_mul_right m (by omega)
    have hcap : xs.length * m ≤ cap * m := Nat.mul_le_mul_right m q4.1
    have q3' : cs.toList.length = cap * m := by rw [Array.length_toList]; exact q3
    obtain ⟨w', s1, s2⟩ := run_storeCells (P := P) ((List.replicate L zl).flatten) (w := w) (b := b) (o := i * m) (i := 0) (cs := cs.toList) (T := T) (by simpa using q2) (by rw [hrep, q3']; omega) (fun u hu' => by
      obtain ⟨l', hl1, hl2⟩ := List.mem_flatten.1 hu'
      rw [List.eq_of_mem_replicate hl1] at hl2; exact hz1 u hl2)
    have hrun : (Builtin.clear_ #[t] ty #[a.tmps.getD u undef]).run P w = .ok (.tuple #[]) w' := by
      rw [g3, if_neg (by omega)]
      have e : (Builtin.zeroCells z.cells L).toList = (List.replicate L zl).flatten := by rw [← hzl]; exact zeros_eq _ _
      obtain ⟨L', rfl⟩ : ∃ L', L = L' + 1 := ⟨L - 1, by omega⟩
      simp only [Builtin.clear_, Option.map_some, addr_add, Nat.zero_add]
      simp [Sem.run_bind, run_underlying ht, run_zeroOf hz, e, s1]
    have hlens : ∀ r ∈ xs.take i ++ (List.replicate L (zl.map SV.v) ++ xs.drop (i + L)), r.length = m := fun r hr => by
      rcases List.mem_append.1 hr with hr | hr
      · exact q6 r (List.mem_of_mem_take hr)
      · rcases List.mem_append.1 hr with hr | hr
        · rw [List.eq_of_mem_replicate hr, List.length_map]; exact hzm
        · exact q6 r (List.mem_of_mem_drop hr)
    have hlen : (xs.take i ++ (List.replicate L (zl.map SV.v) ++ xs.drop (i + L))).length = xs.length := by
      simp only [List.length_append, List.length_take, List.length_drop, List.length_replicate]; omega
    have hocc : ∀ b', occ E k (.row v m (xs.take i ++ (List.replicate L (zl.map SV.v) ++ xs.drop (i + L))) T) b' ↔ occ E k (lkh k σ.hp) b' := fun b' => by rw [hk]; rfl
    obtain ⟨p1, p2⟩ := HSim_store hs.hs (hb := .row v m (xs.take i ++ (List.replicate L (zl.map SV.v) ++ xs.drop (i + L))) T) hocc (by rw [hk]; exact ⟨_, _, q1, q4.2⟩) s2 (fun hst => by
      simp only [HBok]
      refine ⟨his, .inr ⟨b, cap, _, by rw [hlen]; exact q1, s2.here, by simp [spliceV_length, q3], by rw [hlen]; exact q4, by rw [hlen]; exact q5, hlens, ?_⟩⟩
      rw [hlen, List.flatten_append, List.flatten_append, flat_take i q6, flat_drop (i + L) q6]
      rw [List.toList_toArray, Nat.add_zero, take_spliceV (by rw [hrep]; omega) (by rw [q3']; omega), spliceV_eq _ _ _ (by rw [hrep, List.length_take, q3']; omega), hrep, ← Nat.add_mul]
      have hzz : (List.replicate L (zl.map SV.v)).flatten = ((List.replicate L zl).flatten).map SV.v := by simp
      rw [hzz]
      exact RL_append (RL_take _ (RL_mono hst.c (fun _ _ => Ele.rfl) (fun _ h => h) _ _ q7)) (RL_append (RL_v _) (RL_drop _ (RL_mono hst.c (fun _ _ => Ele.rfl) (fun _ h => h) _ _ q7))))
    refine wpq_res (hst hrun) (by simp) ?_
    show next (a.put o.dst _) w'
    rw [h1]
    exact hn _ E _ _ h (Sim_same hs p2 (fun _ _ => Ele.rfl) (Nat.le_refl _) p1)
theorem w64_0 : IntKind.i64.wrap 0 = 0 := rfl
theorem w64_1 : IntKind.i64.wrap 1 = 1 := rfl
theorem w64_2 : IntKind.i64.wrap 2 = 2 := rfl
theorem w64_3 : IntKind.i64.wrap 3 = 3 := rfl
theorem w64_4 : IntKind.i64.wrap 4 = 4 := rfl
theorem w64_5 : IntKind.i64.wrap 5 = 5 := rfl
theorem w64_6 : IntKind.i64.wrap 6 = 6 := rfl
theorem mul_bd {a b A B : Int} (h1 : 0 ≤ a) (h2 : a ≤ A) (h3 : 0 ≤ b) (h4 : b ≤ B) : 0 ≤ a * b ∧ a * b ≤ A * B := ⟨Int.mul_nonneg h1 h3, Int.mul_le_mul h2 h4 h3 (by omega)⟩
-- @@ s22

def lkB (b : Bool) (s : SV) (t : Nat) (r : List (Nat × SV)) : SV := bif b then s else lk t r
def lkhB (b : Bool) (s : HB) (t : Nat) (r : List (Nat × HB)) : HB := bif b then s else lkh t r
def membB (b : Bool) (t : Nat) (r : List Nat) : Bool := bif b then true else memb t r
def blkE (b : Bool) (i : Nat) (K : Ex → St → Prop) (σ : St) : Prop := bif b then K .n σ else K (.ex i) σ
def cellsV (b : Bool) (s : SV) : Option (List SV) := bif b then some [s] else none
def biniB (c : Bool) (b : BinOp) (k : IntKind) (x y : Int) : Option SV := bif c then binr b k x y else none
def partB (b : Bool) (l : List SV) (o m : Nat) : Option SV := bif b then some (.agg ((l.drop o).take m)) else none
theorem lkB_t (s : SV) (t : Nat) (r : List (Nat × SV)) : lkB true s t r = s := rfl
theorem lkB_f (s : SV) (t : Nat) (r : List (Nat × SV)) : lkB false s t r = lk t r := rfl
theorem lkhB_t (s : HB) (t : Nat) (r : List (Nat × HB)) : lkhB true s t r = s := rfl
theorem lkhB_f (s : HB) (t : Nat) (r : List (Nat × HB)) : lkhB false s t r = lkh t r := rfl
theorem membB_t (t : Nat) (r : List Nat) : membB true t r = true := rfl
theorem membB_f (t : Nat) (r : List Nat) : membB false t r = memb t r := rfl
theorem blkE_t (i : Nat) (K : Ex → St → Prop) (σ : St) : blkE true i K σ = K .n σ := rfl
theorem blkE_f (i : Nat) (K : Ex → St → Prop) (σ : St) : blkE false i K σ = K (.ex i) σ := rfl
theorem cellsV_t (s : SV) : cellsV true s = some [s] := rfl
theorem biniB_t (b : BinOp) (k : IntKind) (x y : Int) : biniB true b k x y = binr b k x y := rfl
theorem partB_t (l : List SV) (o m : Nat) : partB true l o m = some (.agg ((l.drop o).take m)) := rfl
def mmE (k : IntKind) : Option Int → Option SV
  | some z => some (.v (.int k z))
  | none => none
def chkB (b : Bool) (l : List SV) (ls : List (List SV)) : Option (List (List SV)) := bif b then some (l :: ls) else none
theorem chkB_t (l : List SV) (ls : List (List SV)) : chkB true l ls = some (l :: ls) := rfl
theorem andB_t (b : Bool) : andB true b = b := rfl
theorem andB_f (b : Bool) : andB false b = false := rfl
def vwP (g : SV → SV) (o : Nat) : HB → SV
  | .cells l _ => .ps (mapS g l) o
  | _ => .any
def vwM (v : Nat) : HB → SV
  | .row v' m xs _ => vwN (Nat.beq v v') m xs
  | _ => .any
def cvtM (v : Nat) : HB → SV
  | .row v' m xs _ => vwN (Nat.beq v v') m xs
  | _ => .any
def rvH (o m : Nat) (ag : Bool) : HB → Option SV
  | .cells l _ => partS l o m ag
  | _ => none
def rvX (hp : List (Nat × HB)) (m : Nat) (ag : Bool) : SV → Option SV
  | .p k o => rvH o m ag (lkh k hp)
  | _ => none
def pvF (o m : Nat) (ag : Bool) : SV → Option SV
  | .agg l => partS l o m ag
  | _ => none
def pvC (k : IntKind) : SV → Option SV
  | .v (.int _ n) => some (.v (.int k (k.wrap n)))
  | _ => none
def pvE (i : Nat) : SV → Option SV
  | .tup l => nth l i
  | _ => none
theorem e_lk (t u : Nat) (s : SV) (r : List (Nat × SV)) : lk t ((u, s) :: r) = lkB (Nat.beq t u) s t r := rfl
theorem e_lk0 (t : Nat) : lk t [] = .any := rfl
theorem e_lkh (t u : Nat) (s : HB) (r : List (Nat × HB)) : lkh t ((u, s) :: r) = lkhB (Nat.beq t u) s t r := rfl
theorem e_lkh0 (t : Nat) : lkh t [] = .gone := rfl
theorem e_memb (t u : Nat) (r : List Nat) : memb t (u :: r) = membB (Nat.beq t u) t r := rfl
theorem e_memb0 (t : Nat) : memb t [] = false := rfl
theorem e_blk (id i : Nat) (K : Ex → St → Prop) (σ : St) : blkK id K (.ex i) σ = blkE (Nat.beq i id) i K σ := rfl
theorem e_strip_v (g : Option (Nat × Bool)) (fr : List (Nat × SV)) (x : Value) : strip g fr (.v x) = (.v x) := rfl
theorem e_drop_v (t : Nat) (r : List (Nat × SV)) (x : Value) : dropG ((t, (.v x)) :: r) = (t, (.v x)) :: dropG r := rfl
theorem e_cvt_v (hp : List (Nat × HB)) (x : Value) : cvt hp (.v x) = (.v x) := rfl
theorem e_vwS_v (hp : List (Nat × HB)) (g : SV → SV) (x : Value) : vwS hp g (.v x) = (.v x) := rfl
theorem e_vw0_v (x : Value) : vw0 (.v x) = (.v x) := rfl
theorem e_cells_v (x : Value) : cellsO (.v x) = cellsV (oneV x) (.v x) := rfl
theorem e_oneS_v (x : Value) : oneS (.v x) = oneV x := rfl
theorem e_strip_p (g : Option (Nat × Bool)) (fr : List (Nat × SV)) (k o : Nat) : strip g fr (.p k o) = (.p k o) := rfl
theorem e_drop_p (t : Nat) (r : List (Nat × SV)) (k o : Nat) : dropG ((t, (.p k o)) :: r) = (t, (.p k o)) :: dropG r := rfl
theorem e_cvt_p (hp : List (Nat × HB)) (k o : Nat) : cvt hp (.p k o) = (.p k o) := rfl
theorem e_vwS_p (hp : List (Nat × HB)) (g : SV → SV) (k o : Nat) : vwS hp g (.p k o) = vwP g o (lkh k hp) := rfl
theorem e_vw0_p (k o : Nat) : vw0 (.p k o) = .any := rfl
theorem e_cells_p (k o : Nat) : cellsO (.p k o) = some [(.p k o)] := rfl
theorem e_oneS_p (k o : Nat) : oneS (.p k o) = true := rfl
theorem e_strip_agg (g : Option (Nat × Bool)) (fr : List (Nat × SV)) (l : List SV) : strip g fr (.agg l) = (.agg l) := rfl
theorem e_drop_agg (t : Nat) (r : List (Nat × SV)) (l : List SV) : dropG ((t, (.agg l)) :: r) = (t, (.agg l)) :: dropG r := rfl
theorem e_cvt_agg (hp : List (Nat × HB)) (l : List SV) : cvt hp (.agg l) = .agg (cvtL hp l) := rfl
theorem e_vwS_agg (hp : List (Nat × HB)) (g : SV → SV) (l : List SV) : vwS hp g (.agg l) = .agg (mapS g l) := rfl
theorem e_vw0_agg (l : List SV) : vw0 (.agg l) = .any := rfl
theorem e_cells_agg (l : List SV) : cellsO (.agg l) = some l := rfl
theorem e_oneS_agg (l : List SV) : oneS (.agg l) = false := rfl
theorem e_strip_sl (g : Option (Nat × Bool)) (fr : List (Nat × SV)) (c : Bool) (m : Nat) (xs : List (List SV)) : strip g fr (.sl c m xs) = (.sl c m xs) := rfl
theorem e_drop_sl (t : Nat) (r : List (Nat × SV)) (c : Bool) (m : Nat) (xs : List (List SV)) : dropG ((t, (.sl c m xs)) :: r) = (t, (.sl c m xs)) :: dropG r := rfl
theorem e_cvt_sl (hp : List (Nat × HB)) (c : Bool) (m : Nat) (xs : List (List SV)) : cvt hp (.sl c m xs) = (.sl c m xs) := rfl
theorem e_vwS_sl (hp : List (Nat × HB)) (g : SV → SV) (c : Bool) (m : Nat) (xs : List (List SV)) : vwS hp g (.sl c m xs) = (.sl c m xs) := rfl
theorem e_vw0_sl (c : Bool) (m : Nat) (xs : List (List SV)) : vw0 (.sl c m xs) = (.sl c m xs) := rfl
theorem e_cells_sl (c : Bool) (m : Nat) (xs : List (List SV)) : cellsO (.sl c m xs) = some [(.sl c m xs)] := rfl
theorem e_oneS_sl (c : Bool) (m : Nat) (xs : List (List SV)) : oneS (.sl c m xs) = true := rfl
theorem e_pmS_0 (l : List SV) : pmS [] l = [] := rfl
theorem e_strip_mr (g : Option (Nat × Bool)) (fr : List (Nat × SV)) (k v : Nat) : strip g fr (.mr k v) = (.mr k v) := rfl
theorem e_drop_mr (t : Nat) (r : List (Nat × SV)) (k v : Nat) : dropG ((t, (.mr k v)) :: r) = (t, (.mr k v)) :: dropG r := rfl
theorem e_cvt_mr (hp : List (Nat × HB)) (k v : Nat) : cvt hp (.mr k v) = cvtM v (lkh k hp) := rfl
theorem e_vwS_mr (hp : List (Nat × HB)) (g : SV → SV) (k v : Nat) : vwS hp g (.mr k v) = vwM v (lkh k hp) := rfl
theorem e_vw0_mr (k v : Nat) : vw0 (.mr k v) = .any := rfl
theorem e_cells_mr (k v : Nat) : cellsO (.mr k v) = some [(.mr k v)] := rfl
theorem e_oneS_mr (k v : Nat) : oneS (.mr k v) = true := rfl
theorem e_strip_pr (g : Option (Nat × Bool)) (fr : List (Nat × SV)) (k v m i o : Nat) : strip g fr (.pr k v m i o) = (.pr k v m i o) := rfl
theorem e_strip_ms (g : Option (Nat × Bool)) (fr : List (Nat × SV)) (k v m i o : Nat) : strip g fr (.ms k v m i o) = (.ms k v m i o) := rfl
theorem e_drop_pr (t : Nat) (r : List (Nat × SV)) (k v m i o : Nat) : dropG ((t, (.pr k v m i o)) :: r) = (t, (.pr k v m i o)) :: dropG r := rfl
theorem e_drop_ms (t : Nat) (r : List (Nat × SV)) (k v m i o : Nat) : dropG ((t, (.ms k v m i o)) :: r) = (t, (.ms k v m i o)) :: dropG r := rfl
theorem e_cvt_pr (hp : List (Nat × HB)) (k v m i o : Nat) : cvt hp (.pr k v m i o) = (.pr k v m i o) := rfl
theorem e_cvt_ms (hp : List (Nat × HB)) (k v m i o : Nat) : cvt hp (.ms k v m i o) = (.ms k v m i o) := rfl
theorem e_vwS_pr (hp : List (Nat × HB)) (g : SV → SV) (k v m i o : Nat) : vwS hp g (.pr k v m i o) = (.pr k v m i o) := rfl
theorem e_vwS_ms (hp : List (Nat × HB)) (g : SV → SV) (k v m i o : Nat) : vwS hp g (.ms k v m i o) = (.ms k v m i o) := rfl
theorem e_vw0_pr (k v m i o : Nat) : vw0 (.pr k v m i o) = .any := rfl
theorem e_vw0_ms (k v m i o : Nat) : vw0 (.ms k v m i o) = .any := rfl
theorem e_cells_pr (k v m i o : Nat) : cellsO (.pr k v m i o) = some [(.pr k v m i o)] := rfl
theorem e_cells_ms (k v m i o : Nat) : cellsO (.ms k v m i o) = some [(.ms k v m i o)] := rfl
theorem e_oneS_pr (k v m i o : Nat) : oneS (.pr k v m i o) = true := rfl
theorem e_oneS_ms (k v m i o : Nat) : oneS (.ms k v m i o) = true := rfl
theorem e_strip_ps (g : Option (Nat × Bool)) (fr : List (Nat × SV)) (row : List SV) (o : Nat) : strip g fr (.ps row o) = (.ps row o) := rfl
theorem e_drop_ps (t : Nat) (r : List (Nat × SV)) (row : List SV) (o : Nat) : dropG ((t, (.ps row o)) :: r) = (t, (.ps row o)) :: dropG r := rfl
theorem e_cvt_ps (hp : List (Nat × HB)) (row : List SV) (o : Nat) : cvt hp (.ps row o) = (.ps row o) := rfl
theorem e_vwS_ps (hp : List (Nat × HB)) (g : SV → SV) (l : List SV) (o : Nat) : vwS hp g (.ps l o) = .ps (mapS g l) o := rfl
theorem e_vw0_ps (row : List SV) (o : Nat) : vw0 (.ps row o) = .any := rfl
theorem e_cells_ps (row : List SV) (o : Nat) : cellsO (.ps row o) = some [(.ps row o)] := rfl
theorem e_oneS_ps (row : List SV) (o : Nat) : oneS (.ps row o) = true := rfl
theorem e_strip_cl (g : Option (Nat × Bool)) (fr : List (Nat × SV)) (f : FuncId) (l : List SV) : strip g fr (.cl f l) = (.cl f l) := rfl
theorem e_drop_cl (t : Nat) (r : List (Nat × SV)) (f : FuncId) (l : List SV) : dropG ((t, (.cl f l)) :: r) = (t, (.cl f l)) :: dropG r := rfl
theorem e_cvt_cl (hp : List (Nat × HB)) (f : FuncId) (l : List SV) : cvt hp (.cl f l) = (.cl f l) := rfl
theorem e_vwS_cl (hp : List (Nat × HB)) (g : SV → SV) (f : FuncId) (l : List SV) : vwS hp g (.cl f l) = .cl f (mapS g l) := rfl
theorem e_vw0_cl (f : FuncId) (l : List SV) : vw0 (.cl f l) = .any := rfl
theorem e_cells_cl (f : FuncId) (l : List SV) : cellsO (.cl f l) = some [(.cl f l)] := rfl
theorem e_oneS_cl (f : FuncId) (l : List SV) : oneS (.cl f l) = true := rfl
theorem e_strip_tup (g : Option (Nat × Bool)) (fr : List (Nat × SV)) (l : List SV) : strip g fr (.tup l) = (.tup l) := rfl
theorem e_drop_tup (t : Nat) (r : List (Nat × SV)) (l : List SV) : dropG ((t, (.tup l)) :: r) = (t, (.tup l)) :: dropG r := rfl
theorem e_cvt_tup (hp : List (Nat × HB)) (l : List SV) : cvt hp (.tup l) = .tup (cvtL hp l) := rfl
theorem e_vwS_tup (hp : List (Nat × HB)) (g : SV → SV) (l : List SV) : vwS hp g (.tup l) = .tup (mapS g l) := rfl
theorem e_vw0_tup (l : List SV) : vw0 (.tup l) = .any := rfl
theorem e_oneS_tup (l : List SV) : oneS (.tup l) = false := rfl
theorem e_strip_q (g : Option (Nat × Bool)) (fr : List (Nat × SV)) (φ : VP) : strip g fr (.q φ) = (.q φ) := rfl
theorem e_drop_q (t : Nat) (r : List (Nat × SV)) (φ : VP) : dropG ((t, (.q φ)) :: r) = (t, (.q φ)) :: dropG r := rfl
theorem e_cvt_q (hp : List (Nat × HB)) (φ : VP) : cvt hp (.q φ) = (.q φ) := rfl
theorem e_vwS_q (hp : List (Nat × HB)) (g : SV → SV) (φ : VP) : vwS hp g (.q φ) = (.q φ) := rfl
theorem e_vw0_q (φ : VP) : vw0 (.q φ) = (.q φ) := rfl
theorem e_cells_q (φ : VP) : cellsO (.q φ) = some [(.q φ)] := rfl
theorem e_oneS_q (φ : VP) : oneS (.q φ) = true := rfl
theorem e_strip_mp (g : Option (Nat × Bool)) (fr : List (Nat × SV)) (k : Nat) : strip g fr (.mp k) = (.mp k) := rfl
theorem e_drop_mp (t : Nat) (r : List (Nat × SV)) (k : Nat) : dropG ((t, (.mp k)) :: r) = (t, (.mp k)) :: dropG r := rfl
theorem e_cvt_mp (hp : List (Nat × HB)) (k : Nat) : cvt hp (.mp k) = (.mp k) := rfl
theorem e_vwS_mp (hp : List (Nat × HB)) (g : SV → SV) (k : Nat) : vwS hp g (.mp k) = .any := rfl
theorem e_vw0_mp (k : Nat) : vw0 (.mp k) = .any := rfl
theorem e_cells_mp (k : Nat) : cellsO (.mp k) = some [(.mp k)] := rfl
theorem e_oneS_mp (k : Nat) : oneS (.mp k) = true := rfl
theorem e_strip_yl (g : Option (Nat × Bool)) (fr : List (Nat × SV)) (k : Nat) : strip g fr (.yl k) = (.yl k) := rfl
theorem e_drop_yl (t : Nat) (r : List (Nat × SV)) (k : Nat) : dropG ((t, (.yl k)) :: r) = (t, (.yl k)) :: dropG r := rfl
theorem e_cells_yl (k : Nat) : cellsO (.yl k) = some [(.yl k)] := rfl
theorem e_oneS_yl (k : Nat) : oneS (.yl k) = true := rfl
theorem e_strip_ifc (g : Option (Nat × Bool)) (fr : List (Nat × SV)) (T : TypeId) (s : SV) : strip g fr (.ifc T s) = (.ifc T s) := rfl
theorem e_drop_ifc (t : Nat) (r : List (Nat × SV)) (T : TypeId) (s : SV) : dropG ((t, (.ifc T s)) :: r) = (t, (.ifc T s)) :: dropG r := rfl
theorem e_cvt_ifc (hp : List (Nat × HB)) (T : TypeId) (s : SV) : cvt hp (.ifc T s) = .ifc T (cvt hp s) := rfl
theorem e_vwS_ifc (hp : List (Nat × HB)) (g : SV → SV) (T : TypeId) (s : SV) : vwS hp g (.ifc T s) = .ifc T (g s) := rfl
theorem e_vw0_ifc (T : TypeId) (s : SV) : vw0 (.ifc T s) = .any := rfl
theorem e_cells_ifc (T : TypeId) (s : SV) : cellsO (.ifc T s) = some [(.ifc T s)] := rfl
theorem e_oneS_ifc (T : TypeId) (s : SV) : oneS (.ifc T s) = true := rfl
theorem e_stp_callm (P : Program) (Y : Hd) (d : Option Nat) (σ : St) (r : KT) (K : RK) (f : FuncId) (as : List X) : stp P Y d (.callm f as) σ r K = CALLM P f (mapX (rdG none σ.fr) as) d σ r K := rfl
theorem e_stp_calvm (P : Program) (Y : Hd) (d : Option Nat) (σ : St) (r : KT) (K : RK) (x : X) (as : List X) : stp P Y d (.calvm x as) σ r K = calvM P Y (rdG none σ.fr x) (mapX (rdG none σ.fr) as) d σ r K := rfl
theorem e_yld (asg body : Nat → CT) (ps : List Nat) (kl : Nat) (rec : Loop) (fr : List (Nat × SV)) (N k : Nat) (args : List SV) (d : Option Nat) (σ : St) (r : KT) (K : RK) : YLD (hdR asg body ps kl rec fr N) k args d σ r K =
  rfB (Nat.beq k kl) (isLp rec (lkh kl σ.hp) ∧ rfB (lenQ args ps) (asg σ.n ⟨pmS ps args ++ fr, σ.hp, σ.n, N, []⟩ (asE kl rec (body σ.n) (bdE kl rec fun o => cmK o.pn o.res o.hp o.n d σ r K)))) := rfl
theorem e_exR (ρ : Nat → Nat) (n0 n k : Nat) : exR ρ n0 n k = exB (Nat.blt k n0) (ρ k) (n + (k - n0)) := rfl
theorem e_hpM (ρ : Nat → Nat) (n0 n : Nat) (o : Ot) (hp : List (Nat × HB)) : hpM ρ n0 n o hp = rnP (exR ρ n0 n) o.hp ++ (goneP ρ n0 ++ hp) := rfl
theorem e_sx_rfun (P : Program) (Y : Hd) (m : Nat) (g : X) (ps : List Nat) (asg body : SC) (σ : St) (K : Ex → St → Prop) : sx P Y m (.rfun g ps asg body) σ K = rfK P (fun n => sx P Y0 n asg) (fun n => sx P Y0 n body) (rdG none σ.fr g) ps σ K := rfl
theorem e_strip_any (g : Option (Nat × Bool)) (fr : List (Nat × SV))  : strip g fr (.any) = (.any) := rfl
theorem e_drop_any (t : Nat) (r : List (Nat × SV))  : dropG ((t, (.any)) :: r) = (t, (.any)) :: dropG r := rfl
theorem e_cvt_any (hp : List (Nat × HB))  : cvt hp (.any) = (.any) := rfl
theorem e_vwS_any (hp : List (Nat × HB)) (g : SV → SV)  : vwS hp g (.any) = (.any) := rfl
theorem e_vw0_any  : vw0 (.any) = .any := rfl
theorem e_oneS_any  : oneS (.any) = false := rfl
theorem e_drop_gd (t j : Nat) (w : Bool) (s : SV) (r : List (Nat × SV)) : dropG ((t, .gd j w s) :: r) = (t, .any) :: dropG r := rfl
theorem e_drop0  : dropG [] = [] := rfl
theorem e_strip_gd0 (fr : List (Nat × SV)) (j : Nat) (w : Bool) (s : SV) : strip none fr (.gd j w s) = .any := rfl
theorem e_strip_gd (fr : List (Nat × SV)) (j j0 : Nat) (w w0 : Bool) (s : SV) : strip (some (j0, w0)) fr (.gd j w s) = orAny (alw 8 fr j0 w0 j w) s := rfl
theorem e_oneV_bool (b : Bool) : oneV (.bool b) = true := rfl
theorem e_oneV_int (k : IntKind) (n : Int) : oneV (.int k n) = true := rfl
theorem e_oneV_string (s : ByteArray) : oneV (.string s) = true := rfl
theorem e_oneV_pointer (p : Option Addr) : oneV (.pointer p) = true := rfl
theorem e_oneV_slice (a : Option Addr) (l c : Nat) : oneV (.slice a l c) = true := rfl
theorem e_oneV_nilFunc  : oneV .nilFunc = true := rfl
theorem e_oneV_nilIface  : oneV .nilIface = true := rfl
theorem e_rdG (g : Option (Nat × Bool)) (fr : List (Nat × SV)) (x : X) : rdG g fr x = strip g fr (rd fr x) := rfl
theorem e_rd_t (fr : List (Nat × SV)) (n : Nat) : rd fr (.t n) = lk n fr := rfl
theorem e_rd_c (fr : List (Nat × SV)) (x : Value) : rd fr (.c x) = .v x := rfl
theorem e_rd_f (fr : List (Nat × SV)) (i : Nat) : rd fr (.f i) = .cl i [] := rfl
theorem e_alw (f : Nat) (fr : List (Nat × SV)) (j0 : Nat) (w0 : Bool) (j : Nat) (w : Bool) : alw (f + 1) fr j0 w0 j w = alwS (sameG (Nat.beq j0 j) w0 w) (lk j0 fr) (alw f fr) j w := rfl
theorem e_alw0 (fr : List (Nat × SV)) (j0 : Nat) (w0 : Bool) (j : Nat) (w : Bool) : alw 0 fr j0 w0 j w = false := rfl
theorem e_vw1 (hp : List (Nat × HB)) (s : SV) : vw1 hp s = vwS hp vw0 s := rfl
theorem e_vw2 (hp : List (Nat × HB)) (s : SV) : vw2 hp s = vwS hp (vw1 hp) s := rfl
theorem e_vw3 (hp : List (Nat × HB)) (s : SV) : vw3 hp s = vwS hp (vw2 hp) s := rfl
theorem e_vw4 (hp : List (Nat × HB)) (s : SV) : vw4 hp s = vwS hp (vw3 hp) s := rfl
theorem e_purge0 (fr : List (Nat × SV)) (hp : List (Nat × HB)) (n N : Nat) : purge ⟨fr, hp, n, N, []⟩ = ⟨fr, hp, n, N, []⟩ := rfl
theorem e_purge1 (fr : List (Nat × SV)) (hp : List (Nat × HB)) (n N j : Nat) (l : List Nat) : purge ⟨fr, hp, n, N, j :: l⟩ = ⟨dropG fr, hp, n, N, []⟩ := rfl
theorem e_bini (b : BinOp) (k j : IntKind) (x y : Int) : bini b (.v (.int k x)) (.v (.int j y)) = biniB (kbeq k j) b k x y := rfl
theorem e_uni_not (b : Bool) : uni .not (.v (.bool b)) = some (.v (.bool (!b))) := rfl
theorem e_uni_neg (k : IntKind) (n : Int) : uni .neg (.v (.int k n)) = some (.v (.int k (k.wrap (0 - n)))) := rfl
theorem e_binr_add (k : IntKind) (x y : Int) : binr .add k x y = some (.v (.int k (k.wrap (x + y)))) := rfl
theorem e_binr_sub (k : IntKind) (x y : Int) : binr .sub k x y = some (.v (.int k (k.wrap (x - y)))) := rfl
theorem e_binr_mul (k : IntKind) (x y : Int) : binr .mul k x y = some (.v (.int k (k.wrap (x * y)))) := rfl
theorem e_binr_eql (k : IntKind) (x y : Int) : binr .eql k x y = some (.v (.bool (x == y))) := rfl
theorem e_binr_neq (k : IntKind) (x y : Int) : binr .neq k x y = some (.v (.bool (x != y))) := rfl
theorem e_binr_lss (k : IntKind) (x y : Int) : binr .lss k x y = some (.v (.bool (decide (x < y)))) := rfl
theorem e_binr_leq (k : IntKind) (x y : Int) : binr .leq k x y = some (.v (.bool (decide (x ≤ y)))) := rfl
theorem e_binr_gtr (k : IntKind) (x y : Int) : binr .gtr k x y = some (.v (.bool (decide (x > y)))) := rfl
theorem e_binr_geq (k : IntKind) (x y : Int) : binr .geq k x y = some (.v (.bool (decide (x ≥ y)))) := rfl
theorem e_kbeq_i8  : kbeq .i8 .i8 = true := rfl
theorem e_kbeq_i16  : kbeq .i16 .i16 = true := rfl
theorem e_kbeq_i32  : kbeq .i32 .i32 = true := rfl
theorem e_kbeq_i64  : kbeq .i64 .i64 = true := rfl
theorem e_kbeq_u8  : kbeq .u8 .u8 = true := rfl
theorem e_kbeq_u16  : kbeq .u16 .u16 = true := rfl
theorem e_kbeq_u32  : kbeq .u32 .u32 = true := rfl
theorem e_kbeq_u64  : kbeq .u64 .u64 = true := rfl
theorem e_addo_p (o : Nat) (k q : Nat) : addoS o (.p k q) = some (.p k (q + o)) := rfl
theorem e_nilc_p (k q : Nat) : nilcS (.p k q) = some (.p k q) := rfl
theorem e_addo_pr (o : Nat) (k v m i q : Nat) : addoS o (.pr k v m i q) = some (.pr k v m i (q + o)) := rfl
theorem e_nilc_pr (k v m i q : Nat) : nilcS (.pr k v m i q) = some (.pr k v m i q) := rfl
theorem e_addo_ps (o : Nat) (row : List SV) (q : Nat) : addoS o (.ps row q) = some (.ps row (q + o)) := rfl
theorem e_nilc_ps (row : List SV) (q : Nat) : nilcS (.ps row q) = some (.ps row q) := rfl
theorem e_part_t (l : List SV) (o m : Nat) : partS l o m true = partB (Nat.ble (o + m) l.length) l o m := rfl
theorem e_part_f (l : List SV) (o m : Nat) : partS l o m false = nth l o := rfl
theorem e_mmf0 (mx : Bool) (x : Int) : mmf mx x [] = some x := rfl
theorem e_mmf_t (k : IntKind) (x y : Int) (r : List SV) : mmf true x (.v (.int k y) :: r) = mmf true (max x y) r := rfl
theorem e_mmf_f (k : IntKind) (x y : Int) (r : List SV) : mmf false x (.v (.int k y) :: r) = mmf false (min x y) r := rfl
theorem e_mm (mx : Bool) (k : IntKind) (x : Int) (r : List SV) : mmS mx (.v (.int k x) :: r) = mmE k (mmf mx x r) := rfl
theorem e_bld (ρ : X → SV) (z : List SV) (ps : List (Nat × Nat × X)) : bld ρ z ps = bldF z (bldX ρ ps) := rfl

theorem e_pv_build (ρ : X → SV) (z : List Value) (ps : List (Nat × Nat × X)) : pv ρ (.build z ps) = bldE (bld ρ (lit z) ps) := rfl
theorem e_bslC (l : List SV) (m : Nat) (ls : List (List SV)) : bslC (some l) m (some ls) = chkB (chk l m) l ls := rfl
theorem e_allOne (s : SV) (l : List SV) : allOne (s :: l) = andB (oneS s) (allOne l) := rfl
theorem e_allOne0  : allOne [] = true := rfl
theorem e_pick_o (fr : List (Nat × SV)) (g : Option (Nat × Bool)) (t : Nat) (b : X) : pickS fr g (.t t) (.c (.bool true)) b = pickO (rdG g fr (.t t)) (rdG (some (t, false)) fr b) := rfl
theorem e_pick_a (fr : List (Nat × SV)) (g : Option (Nat × Bool)) (t n : Nat) : pickS fr g (.t t) (.t n) (.c (.bool false)) = pickA (rdG g fr (.t t)) (rdG (some (t, true)) fr (.t n)) := rfl
theorem e_pick_f (fr : List (Nat × SV)) (g : Option (Nat × Bool)) (t : Nat) : pickS fr g (.t t) (.c (.bool false)) (.c (.bool false)) = pickA (rdG g fr (.t t)) (rdG (some (t, true)) fr (.c (.bool false))) := rfl
theorem e_rvR (rs : List RV) (σ : St) : rvR rs σ = rvE (rvs σ rs) := rfl
theorem e_rvs0 (σ : St) : rvs σ [] = some [] := rfl
theorem e_rv1_t (σ : St) (t : Nat) : rv1 σ (.tmp t) = some (rdG none σ.fr (.t t)) := rfl
theorem e_rv1_c (σ : St) (t m : Nat) (ag : Bool) : rv1 σ (.cell t m ag) = rvX σ.hp m ag (rdG none σ.fr (.t t)) := rfl
theorem e_stp_mv (P : Program) (Y : Hd) (d : Option Nat) (σ : St) (r : KT) (K : RK) (x : X) : stp P Y d (.mv x) σ r K = stpV P none d (.mv x) σ r K := rfl
theorem e_stp_pick (P : Program) (Y : Hd) (d : Option Nat) (σ : St) (r : KT) (K : RK) (c a b : X) : stp P Y d (.pick c a b) σ r K = stpV P none d (.pick c a b) σ r K := rfl
theorem e_stp_build (P : Program) (Y : Hd) (d : Option Nat) (σ : St) (r : KT) (K : RK) (z : List Value) (ps : List (Nat × Nat × X)) : stp P Y d (.build z ps) σ r K = stpV P none d (.build z ps) σ r K := rfl
theorem e_stp_bsl (P : Program) (Y : Hd) (d : Option Nat) (σ : St) (r : KT) (K : RK) (m : Nat) (T : TypeId) (ps : List X) : stp P Y d (.bsl m T ps) σ r K = stpV P none d (.bsl m T ps) σ r K := rfl
theorem e_stp_ld (P : Program) (Y : Hd) (d : Option Nat) (σ : St) (r : KT) (K : RK) (x : X) (m : Nat) (ag : Bool) : stp P Y d (.ld x m ag) σ r K = stpV P none d (.ld x m ag) σ r K := rfl
theorem e_stp_nilc (P : Program) (Y : Hd) (d : Option Nat) (σ : St) (r : KT) (K : RK) (x : X) : stp P Y d (.nilc x) σ r K = stpV P none d (.nilc x) σ r K := rfl
theorem e_stp_bin (P : Program) (Y : Hd) (d : Option Nat) (σ : St) (r : KT) (K : RK) (b : BinOp) (x y : X) : stp P Y d (.bin b x y) σ r K = stpV P none d (.bin b x y) σ r K := rfl
theorem e_stp_div (P : Program) (Y : Hd) (d : Option Nat) (σ : St) (r : KT) (K : RK) (b : BinOp) (x y : X) : stp P Y d (.div b x y) σ r K = stpV P none d (.div b x y) σ r K := rfl
theorem e_stp_un (P : Program) (Y : Hd) (d : Option Nat) (σ : St) (r : KT) (K : RK) (u : UnOp) (x : X) : stp P Y d (.un u x) σ r K = stpV P none d (.un u x) σ r K := rfl
theorem e_stp_addo (P : Program) (Y : Hd) (d : Option Nat) (σ : St) (r : KT) (K : RK) (x : X) (o : Nat) : stp P Y d (.addo x o) σ r K = stpV P none d (.addo x o) σ r K := rfl
theorem e_stp_fld (P : Program) (Y : Hd) (d : Option Nat) (σ : St) (r : KT) (K : RK) (x : X) (o m : Nat) (ag : Bool) : stp P Y d (.fld x o m ag) σ r K = stpV P none d (.fld x o m ag) σ r K := rfl
theorem e_stp_idx (P : Program) (Y : Hd) (d : Option Nat) (σ : St) (r : KT) (K : RK) (x i : X) (len m : Nat) (ag : Bool) : stp P Y d (.idx x i len m ag) σ r K = stpV P none d (.idx x i len m ag) σ r K := rfl
theorem e_stp_ixa (P : Program) (Y : Hd) (d : Option Nat) (σ : St) (r : KT) (K : RK) (x i : X) (len m : Nat) : stp P Y d (.ixa x i len m) σ r K = stpV P none d (.ixa x i len m) σ r K := rfl
theorem e_stp_ixs (P : Program) (Y : Hd) (d : Option Nat) (σ : St) (r : KT) (K : RK) (x i : X) (m : Nat) : stp P Y d (.ixs x i m) σ r K = stpV P none d (.ixs x i m) σ r K := rfl
theorem e_stp_len (P : Program) (Y : Hd) (d : Option Nat) (σ : St) (r : KT) (K : RK) (x : X) : stp P Y d (.len x) σ r K = stpV P none d (.len x) σ r K := rfl
theorem e_stp_mm (P : Program) (Y : Hd) (d : Option Nat) (σ : St) (r : KT) (K : RK) (mx : Bool) (xs : List X) : stp P Y d (.mm mx xs) σ r K = stpV P none d (.mm mx xs) σ r K := rfl
theorem e_stp_call (P : Program) (Y : Hd) (d : Option Nat) (σ : St) (r : KT) (K : RK) (f : FuncId) (as : List X) : stp P Y d (.call f as) σ r K = stpV P none d (.call f as) σ r K := rfl
theorem e_stp_calv (P : Program) (Y : Hd) (d : Option Nat) (σ : St) (r : KT) (K : RK) (x : X) (as : List X) : stp P Y d (.calv x as) σ r K = stpV P none d (.calv x as) σ r K := rfl
theorem e_stp_mkf (P : Program) (Y : Hd) (d : Option Nat) (σ : St) (r : KT) (K : RK) (f : FuncId) (cs : List X) : stp P Y d (.mkf f cs) σ r K = stpV P none d (.mkf f cs) σ r K := rfl
theorem e_stp_conv (P : Program) (Y : Hd) (d : Option Nat) (σ : St) (r : KT) (K : RK) (k : IntKind) (x : X) : stp P Y d (.conv k x) σ r K = stpV P none d (.conv k x) σ r K := rfl
theorem e_stp_ext (P : Program) (Y : Hd) (d : Option Nat) (σ : St) (r : KT) (K : RK) (x : X) (i : Nat) : stp P Y d (.ext x i) σ r K = stpV P none d (.ext x i) σ r K := rfl
theorem e_rvs (σ : St) (r : RV) (rs : List RV) : rvs σ (r :: rs) = rvC σ.hp (rv1 σ r) (rvs σ rs) := rfl
theorem e_pv_fld (ρ : X → SV) (x : X) (o m : Nat) (ag : Bool) : pv ρ (.fld x o m ag) = pvF o m ag (ρ x) := rfl
theorem e_pv_conv (ρ : X → SV) (k : IntKind) (x : X) : pv ρ (.conv k x) = pvC k (ρ x) := rfl
theorem e_pv_ext (ρ : X → SV) (x : X) (i : Nat) : pv ρ (.ext x i) = pvE i (ρ x) := rfl
theorem e_entF0 (fr : List (Nat × SV)) : entF [] fr = True := rfl
theorem e_entF (t : Nat) (s : SV) (r fr : List (Nat × SV)) : entF ((t, s) :: r) fr = (lk t fr = s ∧ entF r fr) := rfl
theorem e_stp_eqs (P : Program) (Y : Hd) (d : Option Nat) (σ : St) (r : KT) (K : RK) (ng ag : Bool) (cls : List Nat) (x y : X) : stp P Y d (.eqs ng ag cls x y) σ r K = stpV P none d (.eqs ng ag cls x y) σ r K := rfl
theorem e_stp_slc (P : Program) (Y : Hd) (d : Option Nat) (σ : St) (r : KT) (K : RK) (x h k : X) : stp P Y d (.slc x h k) σ r K = stpV P none d (.slc x h k) σ r K := rfl
theorem e_stp_sub (P : Program) (Y : Hd) (d : Option Nat) (σ : St) (r : KT) (K : RK) (m : Nat) (x : X) (lo hi : Option X) : stp P Y d (.sub m x lo hi) σ r K = stpV P none d (.sub m x lo hi) σ r K := rfl
theorem e_stp_app (P : Program) (Y : Hd) (d : Option Nat) (σ : St) (r : KT) (K : RK) (m b : Nat) (T : TypeId) (x y : X) : stp P Y d (.app m b T x y) σ r K = stpV P none d (.app m b T x y) σ r K := rfl

theorem q_bldE_1 (l : List Go.Sx.SV) : Go.Sx.bldE (Option.some l) = Option.some (Go.Sx.SV.agg l) := rfl
theorem q_bldE_2  : Go.Sx.bldE Option.none = Option.none := rfl
theorem q_mmE_1 (k : Go.IntKind) (z : Int) : Go.Sx.mmE k (Option.some z) = Option.some (Go.Sx.SV.v (Go.Value.int k z)) := rfl
theorem q_mmE_2 (k : Go.IntKind) : Go.Sx.mmE k Option.none = Option.none := rfl
theorem q_vwP_1 (g : Go.Sx.SV → Go.Sx.SV) (o : Nat) (l : List Go.Sx.SV) (T : Go.TypeId) : Go.Sx.vwP g o (Go.Sx.HB.cells l T) = Go.Sx.SV.ps (Go.Sx.mapS g l) o := rfl
theorem q_vwN_1 (m : Nat) (xs : List (List Go.Sx.SV)) : Go.Sx.vwN Bool.true m xs = Go.Sx.SV.sl Bool.false m xs := rfl
theorem q_vwN_2 (m : Nat) (xs : List (List Go.Sx.SV)) : Go.Sx.vwN Bool.false m xs = Go.Sx.SV.any := rfl
theorem q_vwM_1 (v v' m : Nat) (xs : List (List Go.Sx.SV)) (T : Go.TypeId) : Go.Sx.vwM v (Go.Sx.HB.row v' m xs T) = Go.Sx.vwN (Nat.beq v v') m xs := rfl
theorem q_cvtM_1 (v v' m : Nat) (xs : List (List Go.Sx.SV)) (T : Go.TypeId) : Go.Sx.cvtM v (Go.Sx.HB.row v' m xs T) = Go.Sx.vwN (Nat.beq v v') m xs := rfl
theorem q_sprH_1 (m v v' m' : Nat) (xs : List (List Go.Sx.SV)) (T : Go.TypeId) : Go.Sx.sprH m v (Go.Sx.HB.row v' m' xs T) = Go.Sx.rowB xs (Go.Sx.andB (Nat.beq m m') (Nat.beq v v')) := rfl
theorem q_sprH_2 (m v : Nat) (l : List Go.Sx.SV) (T : Go.TypeId) : Go.Sx.sprH m v (Go.Sx.HB.cells l T) = Option.none := rfl
theorem q_sprH_3 (m v : Nat) (φ : Go.Sx.OP) : Go.Sx.sprH m v (Go.Sx.HB.ob φ) = Option.none := rfl
theorem q_sprH_4 (m v : Nat) (es : List (Nat × Go.Value × Go.Sx.SV)) (clk : Nat) : Go.Sx.sprH m v (Go.Sx.HB.map es clk) = Option.none := rfl
theorem q_sprH_5 (m v km since : Nat) (seen : List Nat) (last : Nat) : Go.Sx.sprH m v (Go.Sx.HB.it km since seen last) = Option.none := rfl
theorem q_sprH_6 (m v : Nat) (rec : Go.Loop) (pd : Option Go.Sx.Ex) : Go.Sx.sprH m v (Go.Sx.HB.lp rec pd) = Option.none := rfl
theorem q_sprH_7 (m v : Nat) (rec : Go.Loop) : Go.Sx.sprH m v (Go.Sx.HB.lb rec) = Option.none := rfl
theorem q_sprH_8 (m v : Nat) : Go.Sx.sprH m v Go.Sx.HB.gone = Option.none := rfl
theorem q_rowB_1 (xs : List (List Go.Sx.SV)) : Go.Sx.rowB xs Bool.true = Option.some xs := rfl
theorem q_rowB_2 (xs : List (List Go.Sx.SV)) : Go.Sx.rowB xs Bool.false = Option.none := rfl
theorem q_rvE_1  : Go.Sx.rvE (Option.some []) = Option.some (Go.Sx.SV.tup []) := rfl
theorem q_rvE_2 (s : Go.Sx.SV) : Go.Sx.rvE (Option.some [s]) = Option.some s := rfl
theorem q_rvE_3 (a b : Go.Sx.SV) (l : List Go.Sx.SV) : Go.Sx.rvE (Option.some (a :: b :: l)) = Option.some (Go.Sx.SV.tup (a :: b :: l)) := rfl
theorem q_rvE_4  : Go.Sx.rvE Option.none = Option.none := rfl
theorem q_rvD_1 (s : Go.Sx.SV) (l : List Go.Sx.SV) : Go.Sx.rvD s (Option.some l) = Option.some (s :: l) := rfl
theorem q_rvD_2 (s : Go.Sx.SV) : Go.Sx.rvD s Option.none = Option.none := rfl
theorem q_rvC_1 (hp : List (Nat × Go.Sx.HB)) (x : Option (List Go.Sx.SV)) (s : Go.Sx.SV) : Go.Sx.rvC hp (Option.some s) x = Go.Sx.rvD (Go.Sx.cvt hp s) x := rfl
theorem q_rvC_2 (hp : List (Nat × Go.Sx.HB)) (x : Option (List Go.Sx.SV)) : Go.Sx.rvC hp Option.none x = Option.none := rfl
theorem q_rvH_1 (o m : Nat) (ag : Bool) (l : List Go.Sx.SV) (T : Go.TypeId) : Go.Sx.rvH o m ag (Go.Sx.HB.cells l T) = Go.Sx.partS l o m ag := rfl
theorem q_rvX_1 (hp : List (Nat × Go.Sx.HB)) (m : Nat) (ag : Bool) (k o : Nat) : Go.Sx.rvX hp m ag (Go.Sx.SV.p k o) = Go.Sx.rvH o m ag (Go.Sx.lkh k hp) := rfl
theorem q_pvF_1 (o m : Nat) (ag : Bool) (l : List Go.Sx.SV) : Go.Sx.pvF o m ag (Go.Sx.SV.agg l) = Go.Sx.partS l o m ag := rfl
theorem q_pvC_1 (k k_1 : Go.IntKind) (n : Int) : Go.Sx.pvC k (Go.Sx.SV.v (Go.Value.int k_1 n)) = Option.some (Go.Sx.SV.v (Go.Value.int k (Go.IntKind.wrap k n))) := rfl
theorem q_pvE_1 (i : Nat) (l : List Go.Sx.SV) : Go.Sx.pvE i (Go.Sx.SV.tup l) = Go.Sx.nth l i := rfl
theorem q_putB_1 (x : Nat) (x_1 : Go.Sx.SV) (x_2 : Go.Sx.St) (x_3 : Go.Sx.KT) (x_4 : Go.Sx.RK) : Go.Sx.putB Bool.false Bool.true Bool.false x x_1 x_2 x_3 x_4 = x_3 { fr := (x, x_1) :: Go.Sx.St.fr x_2, hp := Go.Sx.St.hp x_2, n := Go.Sx.St.n x_2, N := Go.Sx.St.N x_2, gs := Go.Sx.St.gs x_2 } x_4 := rfl
theorem q_putG_1 (x x_1 : Nat) (x_2 : Bool) (x_3 : Go.Sx.SV) (x_4 : Go.Sx.St) (x_5 : Go.Sx.KT) (x_6 : Go.Sx.RK) : Go.Sx.putG Bool.false Bool.true Bool.false x x_1 x_2 x_3 x_4 x_5 x_6 = x_5 { fr := (x, Go.Sx.SV.gd x_1 x_2 x_3) :: Go.Sx.St.fr x_4, hp := Go.Sx.St.hp x_4, n := Go.Sx.St.n x_4, N := Go.Sx.St.N x_4, gs := x_1 :: Go.Sx.St.gs x_4 } x_6 := rfl
theorem q_putK_1 (s : Go.Sx.SV) (σ : Go.Sx.St) (r : Go.Sx.KT) (K : Go.Sx.RK) : Go.Sx.putK Option.none s Option.none σ r K = r σ K := rfl
theorem q_putK_2 (s : Go.Sx.SV) (σ : Go.Sx.St) (r : Go.Sx.KT) (K : Go.Sx.RK) (val : Nat × Bool) : Go.Sx.putK Option.none s (Option.some val) σ r K = False := rfl
theorem q_putK_3 (s : Go.Sx.SV) (σ : Go.Sx.St) (r : Go.Sx.KT) (K : Go.Sx.RK) (t : Nat) : Go.Sx.putK (Option.some t) s Option.none σ r K = Go.Sx.putB (Go.Sx.memb t (Go.Sx.St.gs σ)) (Nat.blt t (Go.Sx.St.N σ)) (Go.Sx.gdS s) t s σ r K := rfl
theorem q_putK_4 (s : Go.Sx.SV) (σ : Go.Sx.St) (r : Go.Sx.KT) (K : Go.Sx.RK) (t j : Nat) (w : Bool) : Go.Sx.putK (Option.some t) s (Option.some (j, w)) σ r K = Go.Sx.putG (Go.Sx.memb t (Go.Sx.St.gs σ)) (Nat.blt t (Go.Sx.St.N σ)) (Nat.beq t j) t j w s σ r K := rfl
theorem q_putO_1 (d : Option Nat) (g : Option (Nat × Bool)) (σ : Go.Sx.St) (r : Go.Sx.KT) (K : Go.Sx.RK) (s : Go.Sx.SV) : Go.Sx.putO (Option.some s) d g σ r K = Go.Sx.putK d s g σ r K := rfl
theorem q_putO_2 (d : Option Nat) (g : Option (Nat × Bool)) (σ : Go.Sx.St) (r : Go.Sx.KT) (K : Go.Sx.RK) : Go.Sx.putO Option.none d g σ r K = False := rfl
theorem q_orAny_1 (x : Go.Sx.SV) : Go.Sx.orAny Bool.true x = x := rfl
theorem q_orAny_2 (x : Go.Sx.SV) : Go.Sx.orAny Bool.false x = Go.Sx.SV.any := rfl
theorem q_alwS_1 (x : Go.Sx.SV) (x_1 : Nat → Bool → Nat → Bool → Bool) (x_2 : Nat) (x_3 : Bool) : Go.Sx.alwS Bool.true x x_1 x_2 x_3 = Bool.true := rfl
theorem q_alwS_2 (x : Nat → Bool → Nat → Bool → Bool) (x_1 : Nat) (x_2 : Bool) (j' : Nat) (w' : Bool) (s : Go.Sx.SV) : Go.Sx.alwS Bool.false (Go.Sx.SV.gd j' w' s) x x_1 x_2 = x j' w' x_1 x_2 := rfl
theorem q_sameG_1 (x x_1 : Bool) : Go.Sx.sameG Bool.true x x_1 = Go.Sx.bbq x x_1 := rfl
theorem q_sameG_2 (x x_1 : Bool) : Go.Sx.sameG Bool.false x x_1 = Bool.false := rfl
theorem q_bbq_1  : Go.Sx.bbq Bool.true Bool.true = Bool.true := rfl
theorem q_bbq_2  : Go.Sx.bbq Bool.false Bool.false = Bool.true := rfl
theorem q_pickO_1 (x y : Bool) : Go.Sx.pickO (Go.Sx.SV.v (Go.Value.bool x)) (Go.Sx.SV.v (Go.Value.bool y)) = Option.some (Go.Sx.SV.v (Go.Value.bool (x || y))) := rfl
theorem q_pickA_1 (x y : Bool) : Go.Sx.pickA (Go.Sx.SV.v (Go.Value.bool x)) (Go.Sx.SV.v (Go.Value.bool y)) = Option.some (Go.Sx.SV.v (Go.Value.bool (x && y))) := rfl
theorem q_bslS_1 (m : Nat) (rows : List (List Go.Sx.SV)) : Go.Sx.bslS m (Option.some rows) = Option.some (Go.Sx.SV.sl Bool.true m rows) := rfl
theorem q_bslS_2 (m : Nat) : Go.Sx.bslS m Option.none = Option.none := rfl
theorem q_calvK_1 (P : Go.Program) (g : Option (Nat × Bool)) (d : Option Nat) (σ : Go.Sx.St) (r : Go.Sx.KT) (K : Go.Sx.RK) (args : List Go.Sx.SV) (f : Go.FuncId) (caps : List Go.Sx.SV) : Go.Sx.calvK P g d σ r K (Go.Sx.SV.cl f caps) args = Go.Sx.CALL P g f (args ++ caps) d σ r K := rfl
theorem q_ixrB_1 (g : Option (Nat × Bool)) (d : Option Nat) (σ : Go.Sx.St) (r : Go.Sx.KT) (K : Go.Sx.RK) (k v m len : Nat) (j : Int) : Go.Sx.ixrB g d σ r K Bool.true k v m len j = Go.Sx.IXR g k v m len j d σ r K := rfl
theorem q_ixrB_2 (g : Option (Nat × Bool)) (d : Option Nat) (σ : Go.Sx.St) (r : Go.Sx.KT) (K : Go.Sx.RK) (k v m len : Nat) (j : Int) : Go.Sx.ixrB g d σ r K Bool.false k v m len j = False := rfl
theorem q_ixrK_1 (g : Option (Nat × Bool)) (d : Option Nat) (σ : Go.Sx.St) (r : Go.Sx.KT) (K : Go.Sx.RK) (k v m : Nat) (j : Int) (v' m_1 : Nat) (xs : List (List Go.Sx.SV)) (T : Go.TypeId) : Go.Sx.ixrK g d σ r K (Go.Sx.HB.row v' m_1 xs T) k v m j = Go.Sx.ixrB g d σ r K (Go.Sx.andB (Nat.beq m m_1) (Nat.beq v v')) k v m (List.length xs) j := rfl
theorem q_ixsB_1 (g : Option (Nat × Bool)) (d : Option Nat) (σ : Go.Sx.St) (r : Go.Sx.KT) (K : Go.Sx.RK) (xs : List (List Go.Sx.SV)) (j : Int) : Go.Sx.ixsB g d σ r K Bool.true xs j = Go.Sx.IXS g xs j d σ r K := rfl
theorem q_ixsB_2 (g : Option (Nat × Bool)) (d : Option Nat) (σ : Go.Sx.St) (r : Go.Sx.KT) (K : Go.Sx.RK) (xs : List (List Go.Sx.SV)) (j : Int) : Go.Sx.ixsB g d σ r K Bool.false xs j = False := rfl
theorem q_ixsK_1 (g : Option (Nat × Bool)) (d : Option Nat) (σ : Go.Sx.St) (r : Go.Sx.KT) (K : Go.Sx.RK) (m : Nat) (k : Go.IntKind) (j : Int) (c : Bool) (m' : Nat) (xs : List (List Go.Sx.SV)) : Go.Sx.ixsK g d σ r K (Go.Sx.SV.v (Go.Value.int k j)) (Go.Sx.SV.sl c m' xs) m = Go.Sx.ixsB g d σ r K (Nat.beq m m') xs j := rfl
theorem q_ixsK_2 (g : Option (Nat × Bool)) (d : Option Nat) (σ : Go.Sx.St) (r : Go.Sx.KT) (K : Go.Sx.RK) (m : Nat) (k : Go.IntKind) (j : Int) (k_1 v : Nat) : Go.Sx.ixsK g d σ r K (Go.Sx.SV.v (Go.Value.int k j)) (Go.Sx.SV.mr k_1 v) m = Go.Sx.ixrK g d σ r K (Go.Sx.lkh k_1 (Go.Sx.St.hp σ)) k_1 v m j := rfl
theorem q_ixaK_1 (g : Option (Nat × Bool)) (d : Option Nat) (σ : Go.Sx.St) (r : Go.Sx.KT) (K : Go.Sx.RK) (x : Go.Sx.SV) (len m : Nat) (k : Go.IntKind) (n : Int) : Go.Sx.ixaK g d σ r K (Go.Sx.SV.v (Go.Value.int k n)) x len m = Go.Sx.IXA g len n (fun n => Go.Sx.addoS (n * m) x) d σ r K := rfl
theorem q_idxK_1 (g : Option (Nat × Bool)) (d : Option Nat) (σ : Go.Sx.St) (r : Go.Sx.KT) (K : Go.Sx.RK) (len m : Nat) (ag : Bool) (k : Go.IntKind) (j : Int) (l : List Go.Sx.SV) : Go.Sx.idxK g d σ r K (Go.Sx.SV.v (Go.Value.int k j)) (Go.Sx.SV.agg l) len m ag = Go.Sx.IXA g len j (fun n => Go.Sx.partS l (n * m) m ag) d σ r K := rfl
theorem q_ldC_1 (g : Option (Nat × Bool)) (d : Option Nat) (σ : Go.Sx.St) (r : Go.Sx.KT) (K : Go.Sx.RK) (o m : Nat) (ag : Bool) (l : List Go.Sx.SV) (T : Go.TypeId) : Go.Sx.ldC g d σ r K (Go.Sx.HB.cells l T) o m ag = Go.Sx.putO (Go.Sx.partS l o m ag) d g σ r K := rfl
theorem q_ldB_1 (g : Option (Nat × Bool)) (d : Option Nat) (σ : Go.Sx.St) (r : Go.Sx.KT) (K : Go.Sx.RK) (xs : List (List Go.Sx.SV)) (i o m : Nat) (ag : Bool) : Go.Sx.ldB g d σ r K Bool.true xs i o m ag = Go.Sx.LDR g xs i o m ag d σ r K := rfl
theorem q_ldB_2 (g : Option (Nat × Bool)) (d : Option Nat) (σ : Go.Sx.St) (r : Go.Sx.KT) (K : Go.Sx.RK) (xs : List (List Go.Sx.SV)) (i o m : Nat) (ag : Bool) : Go.Sx.ldB g d σ r K Bool.false xs i o m ag = False := rfl
theorem q_ldR_1 (g : Option (Nat × Bool)) (d : Option Nat) (σ : Go.Sx.St) (r : Go.Sx.KT) (K : Go.Sx.RK) (v m' i o m : Nat) (ag : Bool) (v' m_1 : Nat) (xs : List (List Go.Sx.SV)) (T : Go.TypeId) : Go.Sx.ldR g d σ r K (Go.Sx.HB.row v' m_1 xs T) v m' i o m ag = Go.Sx.ldB g d σ r K (Go.Sx.andB (Nat.beq m' m_1) (Nat.beq v v')) xs i o m ag := rfl
theorem q_ldK_1 (g : Option (Nat × Bool)) (d : Option Nat) (σ : Go.Sx.St) (r : Go.Sx.KT) (K : Go.Sx.RK) (m : Nat) (ag : Bool) (k o : Nat) : Go.Sx.ldK g d σ r K (Go.Sx.SV.p k o) m ag = Go.Sx.ldC g d σ r K (Go.Sx.lkh k (Go.Sx.St.hp σ)) o m ag := rfl
theorem q_ldK_2 (g : Option (Nat × Bool)) (d : Option Nat) (σ : Go.Sx.St) (r : Go.Sx.KT) (K : Go.Sx.RK) (m : Nat) (ag : Bool) (row : List Go.Sx.SV) (o : Nat) : Go.Sx.ldK g d σ r K (Go.Sx.SV.ps row o) m ag = Go.Sx.putO (Go.Sx.partS row o m ag) d g σ r K := rfl
theorem q_ldK_3 (g : Option (Nat × Bool)) (d : Option Nat) (σ : Go.Sx.St) (r : Go.Sx.KT) (K : Go.Sx.RK) (m : Nat) (ag : Bool) (k v m' i o : Nat) : Go.Sx.ldK g d σ r K (Go.Sx.SV.pr k v m' i o) m ag = Go.Sx.ldR g d σ r K (Go.Sx.lkh k (Go.Sx.St.hp σ)) v m' i o m ag := rfl
theorem q_divB_1 (g : Option (Nat × Bool)) (d : Option Nat) (σ : Go.Sx.St) (r : Go.Sx.KT) (K : Go.Sx.RK) (b : Go.BinOp) (k : Go.IntKind) (u v : Int) : Go.Sx.divB g d σ r K Bool.true b k u v = Go.Sx.DIV g b k u v d σ r K := rfl
theorem q_divB_2 (g : Option (Nat × Bool)) (d : Option Nat) (σ : Go.Sx.St) (r : Go.Sx.KT) (K : Go.Sx.RK) (b : Go.BinOp) (k : Go.IntKind) (u v : Int) : Go.Sx.divB g d σ r K Bool.false b k u v = False := rfl
theorem q_divK_1 (g : Option (Nat × Bool)) (d : Option Nat) (σ : Go.Sx.St) (r : Go.Sx.KT) (K : Go.Sx.RK) (b : Go.BinOp) (k : Go.IntKind) (x_3 : Int) (j : Go.IntKind) (y_1 : Int) : Go.Sx.divK g d σ r K b (Go.Sx.SV.v (Go.Value.int k x_3)) (Go.Sx.SV.v (Go.Value.int j y_1)) = Go.Sx.divB g d σ r K (Go.Sx.kbeq k j) b k x_3 y_1 := rfl
theorem q_lenB_1 (g : Option (Nat × Bool)) (d : Option Nat) (σ : Go.Sx.St) (r : Go.Sx.KT) (K : Go.Sx.RK) (xs : List (List Go.Sx.SV)) : Go.Sx.lenB g d σ r K Bool.true xs = Go.Sx.putK d (Go.Sx.SV.v (Go.Value.int Go.IntKind.i64 ↑(List.length xs))) g σ r K := rfl
theorem q_lenB_2 (g : Option (Nat × Bool)) (d : Option Nat) (σ : Go.Sx.St) (r : Go.Sx.KT) (K : Go.Sx.RK) (xs : List (List Go.Sx.SV)) : Go.Sx.lenB g d σ r K Bool.false xs = False := rfl
theorem q_lenR_1 (g : Option (Nat × Bool)) (d : Option Nat) (σ : Go.Sx.St) (r : Go.Sx.KT) (K : Go.Sx.RK) (v v' m : Nat) (xs : List (List Go.Sx.SV)) (T : Go.TypeId) : Go.Sx.lenR g d σ r K (Go.Sx.HB.row v' m xs T) v = Go.Sx.lenB g d σ r K (Nat.beq v v') xs := rfl
theorem q_lenK_1 (g : Option (Nat × Bool)) (d : Option Nat) (σ : Go.Sx.St) (r : Go.Sx.KT) (K : Go.Sx.RK) (k v : Nat) : Go.Sx.lenK g d σ r K (Go.Sx.SV.mr k v) = Go.Sx.lenR g d σ r K (Go.Sx.lkh k (Go.Sx.St.hp σ)) v := rfl
theorem q_lenK_2 (g : Option (Nat × Bool)) (d : Option Nat) (σ : Go.Sx.St) (r : Go.Sx.KT) (K : Go.Sx.RK) (k v m i l : Nat) : Go.Sx.lenK g d σ r K (Go.Sx.SV.ms k v m i l) = Go.Sx.putK d (Go.Sx.SV.v (Go.Value.int Go.IntKind.i64 ↑l)) g σ r K := rfl
theorem q_lenK_3 (g : Option (Nat × Bool)) (d : Option Nat) (σ : Go.Sx.St) (r : Go.Sx.KT) (K : Go.Sx.RK) (c : Bool) (m : Nat) (xs : List (List Go.Sx.SV)) : Go.Sx.lenK g d σ r K (Go.Sx.SV.sl c m xs) = Go.Sx.putK d (Go.Sx.SV.v (Go.Value.int Go.IntKind.i64 ↑(List.length xs))) g σ r K := rfl
theorem q_stpV_1 (P : Go.Program) (g : Option (Nat × Bool)) (d : Option Nat) (σ : Go.Sx.St) (r : Go.Sx.KT) (K : Go.Sx.RK) (f : Go.FuncId) (as : List Go.Sx.X) : Go.Sx.stpV P g d (Go.Sx.SI.call f as) σ r K = Go.Sx.CALL P g f (Go.Sx.mapX (Go.Sx.rdG g (Go.Sx.St.fr σ)) as) d σ r K := rfl
theorem q_stpV_2 (P : Go.Program) (g : Option (Nat × Bool)) (d : Option Nat) (σ : Go.Sx.St) (r : Go.Sx.KT) (K : Go.Sx.RK) (x : Go.Sx.X) (as : List Go.Sx.X) : Go.Sx.stpV P g d (Go.Sx.SI.calv x as) σ r K = Go.Sx.calvK P g d σ r K (Go.Sx.rdG g (Go.Sx.St.fr σ) x) (Go.Sx.mapX (Go.Sx.rdG g (Go.Sx.St.fr σ)) as) := rfl
theorem q_stpV_3 (P : Go.Program) (g : Option (Nat × Bool)) (d : Option Nat) (σ : Go.Sx.St) (r : Go.Sx.KT) (K : Go.Sx.RK) (f : Go.FuncId) (as : List Go.Sx.X) : Go.Sx.stpV P g d (Go.Sx.SI.callm f as) σ r K = False := rfl
theorem q_stpV_4 (P : Go.Program) (g : Option (Nat × Bool)) (d : Option Nat) (σ : Go.Sx.St) (r : Go.Sx.KT) (K : Go.Sx.RK) (x : Go.Sx.X) (as : List Go.Sx.X) : Go.Sx.stpV P g d (Go.Sx.SI.calvm x as) σ r K = False := rfl
theorem q_stpV_5 (P : Go.Program) (g : Option (Nat × Bool)) (d : Option Nat) (σ : Go.Sx.St) (r : Go.Sx.KT) (K : Go.Sx.RK) (c a b : Go.Sx.X) : Go.Sx.stpV P g d (Go.Sx.SI.pick c a b) σ r K = Go.Sx.putO (Go.Sx.pickS (Go.Sx.St.fr σ) g c a b) d g σ r K := rfl
theorem q_stpV_6 (P : Go.Program) (g : Option (Nat × Bool)) (d : Option Nat) (σ : Go.Sx.St) (r : Go.Sx.KT) (K : Go.Sx.RK) (m : Nat) (T : Go.TypeId) (ps : List Go.Sx.X) : Go.Sx.stpV P g d (Go.Sx.SI.bsl m T ps) σ r K = Go.Sx.putO (Go.Sx.bslS m (Go.Sx.bslR (Go.Sx.rdG g (Go.Sx.St.fr σ)) m ps)) d g σ r K := rfl
theorem q_stpV_7 (P : Go.Program) (g : Option (Nat × Bool)) (d : Option Nat) (σ : Go.Sx.St) (r : Go.Sx.KT) (K : Go.Sx.RK) (x i_2 : Go.Sx.X) (m : Nat) : Go.Sx.stpV P g d (Go.Sx.SI.ixs x i_2 m) σ r K = Go.Sx.ixsK g d σ r K (Go.Sx.rdG g (Go.Sx.St.fr σ) i_2) (Go.Sx.rdG g (Go.Sx.St.fr σ) x) m := rfl
theorem q_stpV_8 (P : Go.Program) (g : Option (Nat × Bool)) (d : Option Nat) (σ : Go.Sx.St) (r : Go.Sx.KT) (K : Go.Sx.RK) (x i_2 : Go.Sx.X) (len m : Nat) : Go.Sx.stpV P g d (Go.Sx.SI.ixa x i_2 len m) σ r K = Go.Sx.ixaK g d σ r K (Go.Sx.rdG g (Go.Sx.St.fr σ) i_2) (Go.Sx.rdG g (Go.Sx.St.fr σ) x) len m := rfl
theorem q_stpV_9 (P : Go.Program) (g : Option (Nat × Bool)) (d : Option Nat) (σ : Go.Sx.St) (r : Go.Sx.KT) (K : Go.Sx.RK) (x i_2 : Go.Sx.X) (len m : Nat) (ag : Bool) : Go.Sx.stpV P g d (Go.Sx.SI.idx x i_2 len m ag) σ r K = Go.Sx.idxK g d σ r K (Go.Sx.rdG g (Go.Sx.St.fr σ) i_2) (Go.Sx.rdG g (Go.Sx.St.fr σ) x) len m ag := rfl
theorem q_stpV_10 (P : Go.Program) (g : Option (Nat × Bool)) (d : Option Nat) (σ : Go.Sx.St) (r : Go.Sx.KT) (K : Go.Sx.RK) (x : Go.Sx.X) (m : Nat) (ag : Bool) : Go.Sx.stpV P g d (Go.Sx.SI.ld x m ag) σ r K = Go.Sx.ldK g d σ r K (Go.Sx.rdG g (Go.Sx.St.fr σ) x) m ag := rfl
theorem q_stpV_11 (P : Go.Program) (g : Option (Nat × Bool)) (d : Option Nat) (σ : Go.Sx.St) (r : Go.Sx.KT) (K : Go.Sx.RK) (b : Go.BinOp) (x y : Go.Sx.X) : Go.Sx.stpV P g d (Go.Sx.SI.div b x y) σ r K = Go.Sx.divK g d σ r K b (Go.Sx.rdG g (Go.Sx.St.fr σ) x) (Go.Sx.rdG g (Go.Sx.St.fr σ) y) := rfl
theorem q_stpV_12 (P : Go.Program) (g : Option (Nat × Bool)) (d : Option Nat) (σ : Go.Sx.St) (r : Go.Sx.KT) (K : Go.Sx.RK) (x : Go.Sx.X) : Go.Sx.stpV P g d (Go.Sx.SI.len x) σ r K = Go.Sx.lenK g d σ r K (Go.Sx.rdG g (Go.Sx.St.fr σ) x) := rfl
theorem q_stpV_13 (P : Go.Program) (g : Option (Nat × Bool)) (d : Option Nat) (σ : Go.Sx.St) (r : Go.Sx.KT) (K : Go.Sx.RK) (x : Go.Sx.X) : Go.Sx.stpV P g d (Go.Sx.SI.mv x) σ r K = Go.Sx.putK d (Go.Sx.rdG g (Go.Sx.St.fr σ) x) g σ r K := rfl
theorem q_stpV_14 (P : Go.Program) (g : Option (Nat × Bool)) (d : Option Nat) (σ : Go.Sx.St) (r : Go.Sx.KT) (K : Go.Sx.RK) (z : List Go.Value) (ps : List (Nat × Nat × Go.Sx.X)) : Go.Sx.stpV P g d (Go.Sx.SI.build z ps) σ r K = Go.Sx.putO (Go.Sx.pv (Go.Sx.rdG g (Go.Sx.St.fr σ)) (Go.Sx.SI.build z ps)) d g σ r K := rfl
theorem q_stpV_15 (P : Go.Program) (g : Option (Nat × Bool)) (d : Option Nat) (σ : Go.Sx.St) (r : Go.Sx.KT) (K : Go.Sx.RK) (x : Go.Sx.X) : Go.Sx.stpV P g d (Go.Sx.SI.nilc x) σ r K = Go.Sx.putO (Go.Sx.nilcS (Go.Sx.rdG g (Go.Sx.St.fr σ) x)) d g σ r K := rfl
theorem q_stpV_16 (P : Go.Program) (g : Option (Nat × Bool)) (d : Option Nat) (σ : Go.Sx.St) (r : Go.Sx.KT) (K : Go.Sx.RK) (b : Go.BinOp) (x y : Go.Sx.X) : Go.Sx.stpV P g d (Go.Sx.SI.bin b x y) σ r K = Go.Sx.putO (Go.Sx.bini b (Go.Sx.rdG g (Go.Sx.St.fr σ) x) (Go.Sx.rdG g (Go.Sx.St.fr σ) y)) d g σ r K := rfl
theorem q_stpV_17 (P : Go.Program) (g : Option (Nat × Bool)) (d : Option Nat) (σ : Go.Sx.St) (r : Go.Sx.KT) (K : Go.Sx.RK) (u : Go.UnOp) (x : Go.Sx.X) : Go.Sx.stpV P g d (Go.Sx.SI.un u x) σ r K = Go.Sx.putO (Go.Sx.uni u (Go.Sx.rdG g (Go.Sx.St.fr σ) x)) d g σ r K := rfl
theorem q_stpV_18 (P : Go.Program) (g : Option (Nat × Bool)) (d : Option Nat) (σ : Go.Sx.St) (r : Go.Sx.KT) (K : Go.Sx.RK) (x : Go.Sx.X) (o : Nat) : Go.Sx.stpV P g d (Go.Sx.SI.addo x o) σ r K = Go.Sx.putO (Go.Sx.addoS o (Go.Sx.rdG g (Go.Sx.St.fr σ) x)) d g σ r K := rfl
theorem q_stpV_19 (P : Go.Program) (g : Option (Nat × Bool)) (d : Option Nat) (σ : Go.Sx.St) (r : Go.Sx.KT) (K : Go.Sx.RK) (x : Go.Sx.X) (o m : Nat) (ag : Bool) : Go.Sx.stpV P g d (Go.Sx.SI.fld x o m ag) σ r K = Go.Sx.putO (Go.Sx.pv (Go.Sx.rdG g (Go.Sx.St.fr σ)) (Go.Sx.SI.fld x o m ag)) d g σ r K := rfl
theorem q_stpV_20 (P : Go.Program) (g : Option (Nat × Bool)) (d : Option Nat) (σ : Go.Sx.St) (r : Go.Sx.KT) (K : Go.Sx.RK) (mx : Bool) (xs : List Go.Sx.X) : Go.Sx.stpV P g d (Go.Sx.SI.mm mx xs) σ r K = Go.Sx.putO (Go.Sx.mmS mx (Go.Sx.mapX (Go.Sx.rdG g (Go.Sx.St.fr σ)) xs)) d g σ r K := rfl
theorem q_stpV_21 (P : Go.Program) (g : Option (Nat × Bool)) (d : Option Nat) (σ : Go.Sx.St) (r : Go.Sx.KT) (K : Go.Sx.RK) (f : Go.FuncId) (cs : List Go.Sx.X) : Go.Sx.stpV P g d (Go.Sx.SI.mkf f cs) σ r K = Go.Sx.putK d (Go.Sx.SV.cl f (Go.Sx.mapX (Go.Sx.rdG g (Go.Sx.St.fr σ)) cs)) g σ r K := rfl
theorem q_stpV_22 (P : Go.Program) (g : Option (Nat × Bool)) (d : Option Nat) (σ : Go.Sx.St) (r : Go.Sx.KT) (K : Go.Sx.RK) (k : Go.IntKind) (x : Go.Sx.X) : Go.Sx.stpV P g d (Go.Sx.SI.conv k x) σ r K = Go.Sx.putO (Go.Sx.pv (Go.Sx.rdG g (Go.Sx.St.fr σ)) (Go.Sx.SI.conv k x)) d g σ r K := rfl
theorem q_stpV_23 (P : Go.Program) (g : Option (Nat × Bool)) (d : Option Nat) (σ : Go.Sx.St) (r : Go.Sx.KT) (K : Go.Sx.RK) (x : Go.Sx.X) (i_2 : Nat) : Go.Sx.stpV P g d (Go.Sx.SI.ext x i_2) σ r K = Go.Sx.putO (Go.Sx.pv (Go.Sx.rdG g (Go.Sx.St.fr σ)) (Go.Sx.SI.ext x i_2)) d g σ r K := rfl
theorem q_stpV_24 (P : Go.Program) (g : Option (Nat × Bool)) (d : Option Nat) (σ : Go.Sx.St) (r : Go.Sx.KT) (K : Go.Sx.RK) (x h k : Go.Sx.X) : Go.Sx.stpV P g d (Go.Sx.SI.slc x h k) σ r K = Go.Sx.slcK g (Go.Sx.rdG g (Go.Sx.St.fr σ) x) (Go.Sx.rdG g (Go.Sx.St.fr σ) h) (Go.Sx.rdG g (Go.Sx.St.fr σ) k) d σ r K := rfl
theorem q_stpV_25 (P : Go.Program) (g : Option (Nat × Bool)) (d : Option Nat) (σ : Go.Sx.St) (r : Go.Sx.KT) (K : Go.Sx.RK) (m : Nat) (x : Go.Sx.X) (lo hi : Option Go.Sx.X) : Go.Sx.stpV P g d (Go.Sx.SI.sub m x lo hi) σ r K = Go.Sx.subK g m (Go.Sx.rdG g (Go.Sx.St.fr σ)) lo hi (Go.Sx.rdG g (Go.Sx.St.fr σ) x) d σ r K := rfl
theorem q_stpV_26 (P : Go.Program) (g : Option (Nat × Bool)) (d : Option Nat) (σ : Go.Sx.St) (r : Go.Sx.KT) (K : Go.Sx.RK) (m b : Nat) (T : Go.TypeId) (x y : Go.Sx.X) : Go.Sx.stpV P g d (Go.Sx.SI.cln m b T x y) σ r K = False := rfl
theorem q_stpV_27 (P : Go.Program) (g : Option (Nat × Bool)) (d : Option Nat) (σ : Go.Sx.St) (r : Go.Sx.KT) (K : Go.Sx.RK) (m b : Nat) (T : Go.TypeId) (x y : Go.Sx.X) : Go.Sx.stpV P g d (Go.Sx.SI.appm m b T x y) σ r K = False := rfl
theorem q_stpV_28 (P : Go.Program) (g : Option (Nat × Bool)) (d : Option Nat) (σ : Go.Sx.St) (r : Go.Sx.KT) (K : Go.Sx.RK) (m : Nat) (x y : Go.Sx.X) : Go.Sx.stpV P g d (Go.Sx.SI.cpy m x y) σ r K = False := rfl
theorem q_stpV_29 (P : Go.Program) (g : Option (Nat × Bool)) (d : Option Nat) (σ : Go.Sx.St) (r : Go.Sx.KT) (K : Go.Sx.RK) (m b : Nat) (z : List Go.Value) (T : Go.TypeId) (x : Go.Sx.X) : Go.Sx.stpV P g d (Go.Sx.SI.mks m b z T x) σ r K = False := rfl
theorem q_stpV_30 (P : Go.Program) (g : Option (Nat × Bool)) (d : Option Nat) (σ : Go.Sx.St) (r : Go.Sx.KT) (K : Go.Sx.RK) (x : Go.Sx.X) : Go.Sx.stpV P g d (Go.Sx.SI.isn x) σ r K = False := rfl
theorem q_stpV_31 (P : Go.Program) (g : Option (Nat × Bool)) (d : Option Nat) (σ : Go.Sx.St) (r : Go.Sx.KT) (K : Go.Sx.RK) (m b : Nat) (T : Go.TypeId) (x y : Go.Sx.X) : Go.Sx.stpV P g d (Go.Sx.SI.app m b T x y) σ r K = Go.Sx.appK g m b (Go.Sx.basS m (Go.Sx.rdG g (Go.Sx.St.fr σ) x)) (Go.Sx.sprS m (Go.Sx.St.hp σ) (Go.Sx.rdG g (Go.Sx.St.fr σ) y)) d σ r K := rfl
theorem q_stpV_32 (P : Go.Program) (g : Option (Nat × Bool)) (d : Option Nat) (σ : Go.Sx.St) (r : Go.Sx.KT) (K : Go.Sx.RK) (x : Go.Sx.X) (m : Nat) (T : Go.TypeId) : Go.Sx.stpV P g d (Go.Sx.SI.box x m T) σ r K = False := rfl
theorem q_stpV_33 (P : Go.Program) (g : Option (Nat × Bool)) (d : Option Nat) (σ : Go.Sx.St) (r : Go.Sx.KT) (K : Go.Sx.RK) (z : List Go.Value) (T : Go.TypeId) : Go.Sx.stpV P g d (Go.Sx.SI.alloc z T) σ r K = False := rfl
theorem q_stpV_34 (P : Go.Program) (g : Option (Nat × Bool)) (d : Option Nat) (σ : Go.Sx.St) (r : Go.Sx.KT) (K : Go.Sx.RK) (x y : Go.Sx.X) (m : Nat) : Go.Sx.stpV P g d (Go.Sx.SI.st x y m) σ r K = False := rfl
theorem q_stpV_35 (P : Go.Program) (g : Option (Nat × Bool)) (d : Option Nat) (σ : Go.Sx.St) (r : Go.Sx.KT) (K : Go.Sx.RK) (ng ag : Bool) (cls : List Nat) (x y : Go.Sx.X) : Go.Sx.stpV P g d (Go.Sx.SI.eqs ng ag cls x y) σ r K = Go.Sx.putO (Go.Sx.eqR ng (Go.Sx.eqLO cls ag (Go.Sx.rdG g (Go.Sx.St.fr σ) x) (Go.Sx.rdG g (Go.Sx.St.fr σ) y))) d g σ r K := rfl
theorem q_stpV_36 (P : Go.Program) (g : Option (Nat × Bool)) (d : Option Nat) (σ : Go.Sx.St) (r : Go.Sx.KT) (K : Go.Sx.RK) (op : Go.Op) (ty : Go.TypeId) : Go.Sx.stpV P g d (Go.Sx.SI.raw op ty) σ r K = False := rfl
theorem q_newB_1 (x : Nat) (x_1 : List Go.Sx.SV) (x_2 : Go.TypeId) (x_3 : Go.Sx.St) (x_4 : Go.Sx.KT) (x_5 : Go.Sx.RK) : Go.Sx.newB Bool.false Bool.true x x_1 x_2 x_3 x_4 x_5 = x_4 { fr := (x, Go.Sx.SV.p (Go.Sx.St.n x_3) 0) :: Go.Sx.St.fr x_3, hp := (Go.Sx.St.n x_3, Go.Sx.HB.cells x_1 x_2) :: Go.Sx.St.hp x_3, n := Go.Sx.St.n x_3 + 1, N := Go.Sx.St.N x_3, gs := Go.Sx.St.gs x_3 } x_5 := rfl
theorem q_newK_1 (T : Go.TypeId) (σ : Go.Sx.St) (r : Go.Sx.KT) (K : Go.Sx.RK) (t : Nat) (c_2 : List Go.Sx.SV) : Go.Sx.newK (Option.some t) (Option.some c_2) T σ r K = Go.Sx.newB (Go.Sx.memb t (Go.Sx.St.gs σ)) (Nat.blt t (Go.Sx.St.N σ)) t c_2 T σ r K := rfl
theorem q_cpyPB_1 (x x_1 x_2 x_3 : Nat) (x_4 : List (List Go.Sx.SV)) (x_5 : Nat) (x_6 : Go.TypeId) (x_7 : Go.Sx.St) (x_8 : Go.Sx.KT) (x_9 : Go.Sx.RK) : Go.Sx.cpyPB Bool.false Bool.true x x_1 x_2 x_3 x_4 x_5 x_6 x_7 x_8 x_9 = x_8 { fr := (x, Go.Sx.SV.v (Go.Value.int Go.IntKind.i64 ↑x_5)) :: Go.Sx.St.fr x_7, hp := (x_1, Go.Sx.HB.row x_2 x_3 x_4 x_6) :: Go.Sx.St.hp x_7, n := Go.Sx.St.n x_7, N := Go.Sx.St.N x_7, gs := Go.Sx.St.gs x_7 } x_9 := rfl
theorem q_cpyP_1 (k v m : Nat) (xs : List (List Go.Sx.SV)) (N : Nat) (T : Go.TypeId) (σ : Go.Sx.St) (r : Go.Sx.KT) (K : Go.Sx.RK) (m_1 : Nat) : Go.Sx.cpyP (Option.some m_1) k v m xs N T σ r K = Go.Sx.cpyPB (Go.Sx.memb m_1 (Go.Sx.St.gs σ)) (Nat.blt m_1 (Go.Sx.St.N σ)) m_1 k v m xs N T σ r K := rfl
theorem q_cpyP_2 (k v m : Nat) (xs : List (List Go.Sx.SV)) (N : Nat) (T : Go.TypeId) (σ : Go.Sx.St) (r : Go.Sx.KT) (K : Go.Sx.RK) : Go.Sx.cpyP Option.none k v m xs N T σ r K = r { fr := Go.Sx.St.fr σ, hp := (k, Go.Sx.HB.row v m xs T) :: Go.Sx.St.hp σ, n := Go.Sx.St.n σ, N := Go.Sx.St.N σ, gs := Go.Sx.St.gs σ } K := rfl
theorem q_cpyY_1 (d : Option Nat) (k v m i L : Nat) (xs : List (List Go.Sx.SV)) (T : Go.TypeId) (σ : Go.Sx.St) (r : Go.Sx.KT) (K : Go.Sx.RK) (c : Bool) (m' : Nat) (ys : List (List Go.Sx.SV)) : Go.Sx.cpyY d k v m i L xs T (Go.Sx.SV.sl c m' ys) σ r K = Go.Sx.sbmB (Nat.beq m m') (Go.Sx.CPY d k v m i L xs ys T σ r K) := rfl
theorem q_cpyY_2 (d : Option Nat) (k v m i L : Nat) (xs : List (List Go.Sx.SV)) (T : Go.TypeId) (σ : Go.Sx.St) (r : Go.Sx.KT) (K : Go.Sx.RK) : Go.Sx.cpyY d k v m i L xs T (Go.Sx.SV.v (Go.Value.slice Option.none 0 0)) σ r K = Go.Sx.CPY d k v m i L xs [] T σ r K := rfl
theorem q_cpyY_3 (d : Option Nat) (k v m i L : Nat) (xs : List (List Go.Sx.SV)) (T : Go.TypeId) (σ : Go.Sx.St) (r : Go.Sx.KT) (K : Go.Sx.RK) (k' v' : Nat) : Go.Sx.cpyY d k v m i L xs T (Go.Sx.SV.mr k' v') σ r K = Go.Sx.sbmB (Go.Sx.andB (Nat.beq k k') (Nat.beq v v')) (Go.Sx.CPY d k v m i L xs xs T σ r K) := rfl
theorem q_cpyY_4 (d : Option Nat) (k v m i L : Nat) (xs : List (List Go.Sx.SV)) (T : Go.TypeId) (σ : Go.Sx.St) (r : Go.Sx.KT) (K : Go.Sx.RK) (k' v' m' i' l' : Nat) : Go.Sx.cpyY d k v m i L xs T (Go.Sx.SV.ms k' v' m' i' l') σ r K = Go.Sx.sbmB (Go.Sx.andB (Go.Sx.andB (Nat.beq k k') (Nat.beq v v')) (Nat.beq m m')) (i' + l' ≤ List.length xs ∧ Go.Sx.CPY d k v m i L xs (List.take l' (List.drop i' xs)) T σ r K) := rfl
theorem q_lO_1 (n m : Nat) : Go.Sx.lO (Option.some m) n = m := rfl
theorem q_lO_2 (n : Nat) : Go.Sx.lO Option.none n = n := rfl
theorem q_cpyH_1 (d : Option Nat) (m k v i : Nat) (lo : Option Nat) (s : Go.Sx.SV) (σ : Go.Sx.St) (r : Go.Sx.KT) (K : Go.Sx.RK) (v' m_1 : Nat) (xs : List (List Go.Sx.SV)) (T : Go.TypeId) : Go.Sx.cpyH d m k v i lo (Go.Sx.HB.row v' m_1 xs T) s σ r K = Go.Sx.sbmB (Go.Sx.andB (Nat.beq m m_1) (Nat.beq v v')) (Go.Sx.cpyY d k v m i (Go.Sx.lO lo (List.length xs)) xs T s σ r K) := rfl
theorem q_cpyK_1 (d : Option Nat) (m : Nat) (sy : Go.Sx.SV) (σ : Go.Sx.St) (r : Go.Sx.KT) (K : Go.Sx.RK) (k v : Nat) : Go.Sx.cpyK d m (Go.Sx.SV.mr k v) sy σ r K = Go.Sx.cpyH d m k v 0 Option.none (Go.Sx.lkh k (Go.Sx.St.hp σ)) sy σ r K := rfl
theorem q_cpyK_2 (d : Option Nat) (m : Nat) (sy : Go.Sx.SV) (σ : Go.Sx.St) (r : Go.Sx.KT) (K : Go.Sx.RK) (k v m' i l : Nat) : Go.Sx.cpyK d m (Go.Sx.SV.ms k v m' i l) sy σ r K = Go.Sx.sbmB (Nat.beq m m') (Go.Sx.cpyH d m k v i (Option.some l) (Go.Sx.lkh k (Go.Sx.St.hp σ)) sy σ r K) := rfl
theorem q_sbmJ_1 (g : Option (Nat × Bool)) (k v m : Nat) (xs : List (List Go.Sx.SV)) (d : Option Nat) (σ : Go.Sx.St) (r : Go.Sx.KT) (K : Go.Sx.RK) (i j : Int) : Go.Sx.sbmJ g k v m xs (Option.some i) (Option.some j) d σ r K = Go.Sx.SBM g i j k v m xs d σ r K := rfl
theorem q_sbmJ_2 (g : Option (Nat × Bool)) (k v m : Nat) (xs : List (List Go.Sx.SV)) (d : Option Nat) (σ : Go.Sx.St) (r : Go.Sx.KT) (K : Go.Sx.RK) (val : Int) : Go.Sx.sbmJ g k v m xs (Option.some val) Option.none d σ r K = False := rfl
theorem q_sbmJ_3 (g : Option (Nat × Bool)) (k v m : Nat) (xs : List (List Go.Sx.SV)) (hi : Option Int) (d : Option Nat) (σ : Go.Sx.St) (r : Go.Sx.KT) (K : Go.Sx.RK) : Go.Sx.sbmJ g k v m xs Option.none hi d σ r K = False := rfl
theorem q_sbmB_1 (p : Prop) : Go.Sx.sbmB Bool.true p = p := rfl
theorem q_sbmB_2 (p : Prop) : Go.Sx.sbmB Bool.false p = False := rfl
theorem q_sbmH_1 (g : Option (Nat × Bool)) (m : Nat) (ρ : Go.Sx.X → Go.Sx.SV) (lo hi : Option Go.Sx.X) (k v : Nat) (d : Option Nat) (σ : Go.Sx.St) (r : Go.Sx.KT) (K : Go.Sx.RK) (v' m_1 : Nat) (xs : List (List Go.Sx.SV)) (T : Go.TypeId) : Go.Sx.sbmH g m ρ lo hi k v (Go.Sx.HB.row v' m_1 xs T) d σ r K = Go.Sx.sbmB (Go.Sx.andB (Nat.beq m m_1) (Nat.beq v v')) (Go.Sx.sbmJ g k v m xs (Go.Sx.intO 0 ρ lo) (Go.Sx.intO (↑(List.length xs)) ρ hi) d σ r K) := rfl
theorem q_subK_1 (g : Option (Nat × Bool)) (m : Nat) (ρ : Go.Sx.X → Go.Sx.SV) (lo hi : Option Go.Sx.X) (d : Option Nat) (σ : Go.Sx.St) (r : Go.Sx.KT) (K : Go.Sx.RK) (c : Bool) (m' : Nat) (xs : List (List Go.Sx.SV)) : Go.Sx.subK g m ρ lo hi (Go.Sx.SV.sl c m' xs) d σ r K = bif Nat.beq m m' then Go.Sx.subJ g m xs (Go.Sx.intO 0 ρ lo) (Go.Sx.intO (↑(List.length xs)) ρ hi) d σ r K else False := rfl
theorem q_subK_2 (g : Option (Nat × Bool)) (m : Nat) (ρ : Go.Sx.X → Go.Sx.SV) (lo hi : Option Go.Sx.X) (d : Option Nat) (σ : Go.Sx.St) (r : Go.Sx.KT) (K : Go.Sx.RK) (k v : Nat) : Go.Sx.subK g m ρ lo hi (Go.Sx.SV.mr k v) d σ r K = Go.Sx.sbmH g m ρ lo hi k v (Go.Sx.lkh k (Go.Sx.St.hp σ)) d σ r K := rfl
theorem q_verB_1 (x x_1 x_2 x_3 : Nat) (x_4 : List (List Go.Sx.SV)) (x_5 : Go.TypeId) (x_6 : Go.Sx.St) (x_7 : Go.Sx.KT) (x_8 : Go.Sx.RK) : Go.Sx.verB Bool.false Bool.true x x_1 x_2 x_3 x_4 x_5 x_6 x_7 x_8 = x_7 { fr := (x, Go.Sx.SV.mr x_1 x_2) :: Go.Sx.St.fr x_6, hp := (x_1, Go.Sx.HB.row x_2 x_3 x_4 x_5) :: Go.Sx.St.hp x_6, n := Go.Sx.St.n x_6, N := Go.Sx.St.N x_6, gs := Go.Sx.St.gs x_6 } x_8 := rfl
theorem q_verK_1 (k v m : Nat) (xs : List (List Go.Sx.SV)) (T : Go.TypeId) (σ : Go.Sx.St) (r : Go.Sx.KT) (K : Go.Sx.RK) (m_1 : Nat) : Go.Sx.verK (Option.some m_1) k v m xs T σ r K = Go.Sx.verB (Go.Sx.memb m_1 (Go.Sx.St.gs σ)) (Nat.blt m_1 (Go.Sx.St.N σ)) m_1 k v m xs T σ r K := rfl
theorem q_verK_2 (k v m : Nat) (xs : List (List Go.Sx.SV)) (T : Go.TypeId) (σ : Go.Sx.St) (r : Go.Sx.KT) (K : Go.Sx.RK) : Go.Sx.verK Option.none k v m xs T σ r K = False := rfl
theorem q_apmB_1 (b : Nat) (d : Option Nat) (k v m : Nat) (xs ys : List (List Go.Sx.SV)) (T : Go.TypeId) (σ : Go.Sx.St) (r : Go.Sx.KT) (K : Go.Sx.RK) : Go.Sx.apmB Bool.true b d k v m xs ys T σ r K = Go.Sx.APM b d k v m xs ys T σ r K := rfl
theorem q_apmB_2 (b : Nat) (d : Option Nat) (k v m : Nat) (xs ys : List (List Go.Sx.SV)) (T : Go.TypeId) (σ : Go.Sx.St) (r : Go.Sx.KT) (K : Go.Sx.RK) : Go.Sx.apmB Bool.false b d k v m xs ys T σ r K = False := rfl
theorem q_apmH_1 (b : Nat) (d : Option Nat) (k v m : Nat) (ys : List (List Go.Sx.SV)) (T : Go.TypeId) (σ : Go.Sx.St) (r : Go.Sx.KT) (K : Go.Sx.RK) (v' m_1 : Nat) (xs : List (List Go.Sx.SV)) (T_1 : Go.TypeId) : Go.Sx.apmH b d k v m (Go.Sx.HB.row v' m_1 xs T_1) ys T σ r K = Go.Sx.apmB (Go.Sx.andB (Nat.beq m m_1) (Go.Sx.andB (Nat.beq v v') (Nat.beq T T_1))) b d k v m xs ys T σ r K := rfl
theorem q_apmS_1 (b : Nat) (d : Option Nat) (m : Nat) (ys : List (List Go.Sx.SV)) (T : Go.TypeId) (σ : Go.Sx.St) (r : Go.Sx.KT) (K : Go.Sx.RK) (k v : Nat) : Go.Sx.apmS b d m (Go.Sx.SV.mr k v) ys T σ r K = Go.Sx.apmH b d k v m (Go.Sx.lkh k (Go.Sx.St.hp σ)) ys T σ r K := rfl
theorem q_apmK_1 (b : Nat) (d : Option Nat) (m : Nat) (s : Go.Sx.SV) (T : Go.TypeId) (σ : Go.Sx.St) (r : Go.Sx.KT) (K : Go.Sx.RK) (rows : List (List Go.Sx.SV)) : Go.Sx.apmK b d m s (Option.some rows) T σ r K = Go.Sx.apmS b d m s rows T σ r K := rfl
theorem q_apmK_2 (b : Nat) (d : Option Nat) (m : Nat) (s : Go.Sx.SV) (T : Go.TypeId) (σ : Go.Sx.St) (r : Go.Sx.KT) (K : Go.Sx.RK) : Go.Sx.apmK b d m s Option.none T σ r K = False := rfl
theorem q_stCB_1 (x x_1 : Nat) (x_2 : List Go.Sx.SV) (x_3 : Go.TypeId) (x_4 : List Go.Sx.SV) (x_5 : Go.Sx.St) (x_6 : Go.Sx.KT) (x_7 : Go.Sx.RK) : Go.Sx.stCB Bool.true x x_1 x_2 x_3 x_4 x_5 x_6 x_7 = x_6 { fr := Go.Sx.St.fr x_5, hp := (x, Go.Sx.HB.cells (Go.Sx.splice x_2 x_1 x_4) x_3) :: Go.Sx.St.hp x_5, n := Go.Sx.St.n x_5, N := Go.Sx.St.N x_5, gs := Go.Sx.St.gs x_5 } x_7 := rfl
theorem q_stCB_2 (x x_1 : Nat) (x_2 : List Go.Sx.SV) (x_3 : Go.TypeId) (x_4 : List Go.Sx.SV) (x_5 : Go.Sx.St) (x_6 : Go.Sx.KT) (x_7 : Go.Sx.RK) : Go.Sx.stCB Bool.false x x_1 x_2 x_3 x_4 x_5 x_6 x_7 = False := rfl
theorem q_stC_1 (k o m : Nat) (c : List Go.Sx.SV) (σ : Go.Sx.St) (r : Go.Sx.KT) (K : Go.Sx.RK) (l : List Go.Sx.SV) (T : Go.TypeId) : Go.Sx.stC k o m (Go.Sx.HB.cells l T) c σ r K = Go.Sx.stCB (Nat.ble (o + m) (List.length l)) k o l T c σ r K := rfl
theorem q_stRB_1 (x : Nat) (x_1 : List (List Go.Sx.SV)) (x_2 x_3 x_4 x_5 : Nat) (x_6 : List Go.Sx.SV) (x_7 : Go.TypeId) (x_8 : Go.Sx.St) (x_9 : Go.Sx.KT) (x_10 : Go.Sx.RK) : Go.Sx.stRB Bool.true x x_1 x_2 x_3 x_4 x_5 x_6 x_7 x_8 x_9 x_10 = Go.Sx.STR x x_1 x_2 x_3 x_4 x_5 x_6 x_7 x_8 x_9 x_10 := rfl
theorem q_stRB_2 (x : Nat) (x_1 : List (List Go.Sx.SV)) (x_2 x_3 x_4 x_5 : Nat) (x_6 : List Go.Sx.SV) (x_7 : Go.TypeId) (x_8 : Go.Sx.St) (x_9 : Go.Sx.KT) (x_10 : Go.Sx.RK) : Go.Sx.stRB Bool.false x x_1 x_2 x_3 x_4 x_5 x_6 x_7 x_8 x_9 x_10 = False := rfl
theorem q_stR_1 (k v m' j o : Nat) (c : List Go.Sx.SV) (σ : Go.Sx.St) (r : Go.Sx.KT) (K : Go.Sx.RK) (v' m : Nat) (xs : List (List Go.Sx.SV)) (T : Go.TypeId) : Go.Sx.stR k v m' j o (Go.Sx.HB.row v' m xs T) c σ r K = Go.Sx.stRB (Go.Sx.andB (Nat.beq m' m) (Nat.beq v v')) v' xs j o k m' c T σ r K := rfl
theorem q_stX_1 (m : Nat) (c : List Go.Sx.SV) (σ : Go.Sx.St) (r : Go.Sx.KT) (K : Go.Sx.RK) (k o : Nat) : Go.Sx.stX (Go.Sx.SV.p k o) m c σ r K = Go.Sx.stC k o m (Go.Sx.lkh k (Go.Sx.St.hp σ)) c σ r K := rfl
theorem q_stX_2 (m : Nat) (c : List Go.Sx.SV) (σ : Go.Sx.St) (r : Go.Sx.KT) (K : Go.Sx.RK) (k v m' j o : Nat) : Go.Sx.stX (Go.Sx.SV.pr k v m' j o) m c σ r K = Go.Sx.stR k v m' j o (Go.Sx.lkh k (Go.Sx.St.hp σ)) c σ r K := rfl
theorem q_storeB_1 (x : Go.Sx.SV) (x_1 : Nat) (x_2 : List Go.Sx.SV) (x_3 : Go.Sx.St) (x_4 : Go.Sx.KT) (x_5 : Go.Sx.RK) : Go.Sx.storeB Bool.true Bool.true x x_1 x_2 x_3 x_4 x_5 = Go.Sx.stX x x_1 x_2 x_3 x_4 x_5 := rfl
theorem q_storeK_1 (m : Nat) (x : Go.Sx.SV) (σ : Go.Sx.St) (r : Go.Sx.KT) (K : Go.Sx.RK) (c_2 : List Go.Sx.SV) : Go.Sx.storeK Option.none (Option.some c_2) m x σ r K = Go.Sx.storeB (Go.Sx.chk c_2 m) (Go.Sx.allOne c_2) x m c_2 σ r K := rfl
theorem q_stp_1 (P : Go.Program) (Y : Go.Sx.Hd) (d : Option Nat) (σ : Go.Sx.St) (r : Go.Sx.KT) (K : Go.Sx.RK) (x y : Go.Sx.X) (m : Nat) : Go.Sx.stp P Y d (Go.Sx.SI.st x y m) σ r K = Go.Sx.storeK d (Go.Sx.cellsO (Go.Sx.rdG Option.none (Go.Sx.St.fr σ) y)) m (Go.Sx.rdG Option.none (Go.Sx.St.fr σ) x) σ r K := rfl
theorem q_stp_2 (P : Go.Program) (Y : Go.Sx.Hd) (d : Option Nat) (σ : Go.Sx.St) (r : Go.Sx.KT) (K : Go.Sx.RK) (x : Go.Sx.X) (m : Nat) (T : Go.TypeId) : Go.Sx.stp P Y d (Go.Sx.SI.box x m T) σ r K = Go.Sx.newK d (Go.Sx.cellsO (Go.Sx.rdG Option.none (Go.Sx.St.fr σ) x)) T σ r K := rfl
theorem q_stp_3 (P : Go.Program) (Y : Go.Sx.Hd) (d : Option Nat) (σ : Go.Sx.St) (r : Go.Sx.KT) (K : Go.Sx.RK) (z : List Go.Value) (T : Go.TypeId) : Go.Sx.stp P Y d (Go.Sx.SI.alloc z T) σ r K = Go.Sx.newK d (Option.some (Go.Sx.lit z)) T σ r K := rfl
theorem q_stp_4 (P : Go.Program) (Y : Go.Sx.Hd) (d : Option Nat) (σ : Go.Sx.St) (r : Go.Sx.KT) (K : Go.Sx.RK) (m b : Nat) (T : Go.TypeId) (x y : Go.Sx.X) : Go.Sx.stp P Y d (Go.Sx.SI.cln m b T x y) σ r K = Go.Sx.clnK b d m (Go.Sx.basS m (Go.Sx.rdG Option.none (Go.Sx.St.fr σ) x)) (Go.Sx.sprV m (Go.Sx.rdG Option.none (Go.Sx.St.fr σ) y)) T σ r K := rfl
theorem q_stp_5 (P : Go.Program) (Y : Go.Sx.Hd) (d : Option Nat) (σ : Go.Sx.St) (r : Go.Sx.KT) (K : Go.Sx.RK) (m b : Nat) (z : List Go.Value) (T : Go.TypeId) (x : Go.Sx.X) : Go.Sx.stp P Y d (Go.Sx.SI.mks m b z T x) σ r K = Go.Sx.mksK b d m z (Go.Sx.rdG Option.none (Go.Sx.St.fr σ) x) T σ r K := rfl
theorem q_stp_6 (P : Go.Program) (Y : Go.Sx.Hd) (d : Option Nat) (σ : Go.Sx.St) (r : Go.Sx.KT) (K : Go.Sx.RK) (m : Nat) (x y : Go.Sx.X) : Go.Sx.stp P Y d (Go.Sx.SI.cpy m x y) σ r K = Go.Sx.cpyK d m (Go.Sx.rdG Option.none (Go.Sx.St.fr σ) x) (Go.Sx.rdG Option.none (Go.Sx.St.fr σ) y) σ r K := rfl
theorem q_stp_7 (P : Go.Program) (Y : Go.Sx.Hd) (d : Option Nat) (σ : Go.Sx.St) (r : Go.Sx.KT) (K : Go.Sx.RK) (m b : Nat) (T : Go.TypeId) (x y : Go.Sx.X) : Go.Sx.stp P Y d (Go.Sx.SI.appm m b T x y) σ r K = Go.Sx.apmK b d m (Go.Sx.rdG Option.none (Go.Sx.St.fr σ) x) (Go.Sx.sprV m (Go.Sx.rdG Option.none (Go.Sx.St.fr σ) y)) T σ r K := rfl
theorem q_stp_8 (P : Go.Program) (Y : Go.Sx.Hd) (d : Option Nat) (σ : Go.Sx.St) (r : Go.Sx.KT) (K : Go.Sx.RK) (f : Go.FuncId) (as : List Go.Sx.X) : Go.Sx.stp P Y d (Go.Sx.SI.callm f as) σ r K = Go.Sx.CALLM P f (Go.Sx.mapX (Go.Sx.rdG Option.none (Go.Sx.St.fr σ)) as) d σ r K := rfl
theorem q_stp_9 (P : Go.Program) (Y : Go.Sx.Hd) (d : Option Nat) (σ : Go.Sx.St) (r : Go.Sx.KT) (K : Go.Sx.RK) (x : Go.Sx.X) (as : List Go.Sx.X) : Go.Sx.stp P Y d (Go.Sx.SI.calvm x as) σ r K = Go.Sx.calvM P Y (Go.Sx.rdG Option.none (Go.Sx.St.fr σ) x) (Go.Sx.mapX (Go.Sx.rdG Option.none (Go.Sx.St.fr σ)) as) d σ r K := rfl
theorem q_stp_10 (P : Go.Program) (Y : Go.Sx.Hd) (d : Option Nat) (σ : Go.Sx.St) (r : Go.Sx.KT) (K : Go.Sx.RK) (x : Go.Sx.X) : Go.Sx.stp P Y d (Go.Sx.SI.isn x) σ r K = Go.Sx.isnK d (Go.Sx.rdG Option.none (Go.Sx.St.fr σ) x) σ r K := rfl
theorem q_stp_11 (P : Go.Program) (Y : Go.Sx.Hd) (d : Option Nat) (σ : Go.Sx.St) (r : Go.Sx.KT) (K : Go.Sx.RK) (op : Go.Op) (ty : Go.TypeId) : Go.Sx.stp P Y d (Go.Sx.SI.raw op ty) σ r K = Go.Sx.RAW P d op ty σ r K := rfl
theorem q_skipK_1 (d : Option Nat) (σ : Go.Sx.St) (r : Go.Sx.KT) (K : Go.Sx.RK) : Go.Sx.skipK d σ r K = Go.Sx.putK d (Go.Sx.SV.v Go.undef) Option.none σ r K := rfl
theorem q_gK_1 (P : Go.Program) (Y : Go.Sx.Hd) (j : Nat) (w : Bool) (d : Option Nat) (i : Go.Sx.SI) (σ : Go.Sx.St) (r : Go.Sx.KT) (K : Go.Sx.RK) (b : Bool) : Go.Sx.gK P Y (Go.Sx.SV.v (Go.Value.bool b)) j w d i σ r K = Go.Sx.GB P Y b j w d i σ r K := rfl
theorem q_gK_2 (P : Go.Program) (Y : Go.Sx.Hd) (j : Nat) (w : Bool) (d : Option Nat) (i : Go.Sx.SI) (σ : Go.Sx.St) (r : Go.Sx.KT) (K : Go.Sx.RK) (j_1 : Nat) (w_1 b : Bool) : Go.Sx.gK P Y (Go.Sx.SV.gd j_1 w_1 (Go.Sx.SV.v (Go.Value.bool b))) j w d i σ r K = Go.Sx.stpV P (Option.some (j, w)) d i σ r K := rfl
theorem q_st1_1 (P : Go.Program) (Y : Go.Sx.Hd) (σ : Go.Sx.St) (r : Go.Sx.KT) (K : Go.Sx.RK) (d : Option Nat) (i : Go.Sx.SI) (af : List Nat) : Go.Sx.st1 P Y { d := d, i := i, g := Option.none, af := af } σ r K = Go.Sx.stp P Y d i σ r K := rfl
theorem q_st1_2 (P : Go.Program) (Y : Go.Sx.Hd) (σ : Go.Sx.St) (r : Go.Sx.KT) (K : Go.Sx.RK) (d : Option Nat) (i : Go.Sx.SI) (j : Nat) (w : Bool) (af : List Nat) : Go.Sx.st1 P Y { d := d, i := i, g := Option.some (j, w), af := af } σ r K = Go.Sx.gK P Y (Go.Sx.lk j (Go.Sx.St.fr σ)) j w d i σ r K := rfl
theorem q_cndK_1 (f g : Go.Sx.CT) (σ : Go.Sx.St) (K : Go.Sx.Ex → Go.Sx.St → Prop) (b : Bool) : Go.Sx.cndK (Go.Sx.SV.v (Go.Value.bool b)) f g σ K = Go.Sx.BR b f g σ K := rfl
theorem q_divr_1 (k : Go.IntKind) (x y : Int) : Go.Sx.divr Go.BinOp.quo k x y = Go.IntKind.wrap k (Int.tdiv x y) := rfl
theorem q_st0_1 (args : List Go.Sx.SV) (N : Nat) : Go.Sx.st0 args N = { fr := Go.Sx.enum 0 args, hp := [], n := 0, N := N, gs := [] } := rfl
theorem q_mapX_1 (ρ : Go.Sx.X → Go.Sx.SV) : Go.Sx.mapX ρ [] = [] := rfl
theorem q_mapX_2 (ρ : Go.Sx.X → Go.Sx.SV) (x_1 : Go.Sx.X) (r : List Go.Sx.X) : Go.Sx.mapX ρ (x_1 :: r) = ρ x_1 :: Go.Sx.mapX ρ r := rfl
theorem q_mapS_1 (g : Go.Sx.SV → Go.Sx.SV) : Go.Sx.mapS g [] = [] := rfl
theorem q_mapS_2 (g : Go.Sx.SV → Go.Sx.SV) (s : Go.Sx.SV) (l : List Go.Sx.SV) : Go.Sx.mapS g (s :: l) = g s :: Go.Sx.mapS g l := rfl
theorem q_bslR_1 (ρ : Go.Sx.X → Go.Sx.SV) (m : Nat) : Go.Sx.bslR ρ m [] = Option.some [] := rfl
theorem q_bslR_2 (ρ : Go.Sx.X → Go.Sx.SV) (m : Nat) (x_1 : Go.Sx.X) (r : List Go.Sx.X) : Go.Sx.bslR ρ m (x_1 :: r) = Go.Sx.bslC (Go.Sx.cellsO (ρ x_1)) m (Go.Sx.bslR ρ m r) := rfl
theorem q_cvtL_1 (hp : List (Nat × Go.Sx.HB)) : Go.Sx.cvtL hp [] = [] := rfl
theorem q_cvtL_2 (hp : List (Nat × Go.Sx.HB)) (s : Go.Sx.SV) (l : List Go.Sx.SV) : Go.Sx.cvtL hp (s :: l) = Go.Sx.cvt hp s :: Go.Sx.cvtL hp l := rfl
theorem q_lit_1  : Go.Sx.lit [] = [] := rfl
theorem q_lit_2 (x_1 : Go.Value) (r : List Go.Value) : Go.Sx.lit (x_1 :: r) = Go.Sx.SV.v x_1 :: Go.Sx.lit r := rfl
theorem q_chk_1  : Go.Sx.chk [] 0 = Bool.true := rfl
theorem q_chk_2 (head : Go.Sx.SV) (l : List Go.Sx.SV) (n : Nat) : Go.Sx.chk (head :: l) (Nat.succ n) = Go.Sx.chk l n := rfl
theorem q_nth_1 (x : Nat) : Go.Sx.nth [] x = Option.none := rfl
theorem q_nth_2 (s : Go.Sx.SV) (tail : List Go.Sx.SV) : Go.Sx.nth (s :: tail) 0 = Option.some s := rfl
theorem q_nth_3 (head : Go.Sx.SV) (l : List Go.Sx.SV) (n : Nat) : Go.Sx.nth (head :: l) (Nat.succ n) = Go.Sx.nth l n := rfl
theorem q_splice_2 (head : Go.Sx.SV) (l : List Go.Sx.SV) (c : Go.Sx.SV) (cs : List Go.Sx.SV) : Go.Sx.splice (head :: l) 0 (c :: cs) = c :: Go.Sx.splice l 0 cs := rfl
theorem q_splice_3 (x : List Go.Sx.SV) (x_3 : Go.Sx.SV) (l : List Go.Sx.SV) (o : Nat) : Go.Sx.splice (x_3 :: l) (Nat.succ o) x = x_3 :: Go.Sx.splice l o x := rfl
theorem q_bldZ_1 (o : Nat) (l : List Go.Sx.SV) (t : List (Nat × List Go.Sx.SV)) : Go.Sx.bldZ o l t Bool.true = Option.some ((o, l) :: t) := rfl
theorem q_bldZ_2 (o : Nat) (l : List Go.Sx.SV) (t : List (Nat × List Go.Sx.SV)) : Go.Sx.bldZ o l t Bool.false = Option.none := rfl
theorem q_bldY_1 (o m : Nat) (l : List Go.Sx.SV) (t : List (Nat × List Go.Sx.SV)) : Go.Sx.bldY o m (Option.some l) (Option.some t) = Go.Sx.bldZ o l t (Go.Sx.chk l m) := rfl
theorem q_bldX_1 (ρ : Go.Sx.X → Go.Sx.SV) : Go.Sx.bldX ρ [] = Option.some [] := rfl
theorem q_bldX_2 (ρ : Go.Sx.X → Go.Sx.SV) (o m : Nat) (x_1 : Go.Sx.X) (r : List (Nat × Nat × Go.Sx.X)) : Go.Sx.bldX ρ ((o, m, x_1) :: r) = Go.Sx.bldY o m (Go.Sx.cellsO (ρ x_1)) (Go.Sx.bldX ρ r) := rfl
theorem q_spl_1 (x : List Go.Sx.SV) : Go.Sx.spl x [] = x := rfl
theorem q_spl_2 (x : List Go.Sx.SV) (o : Nat) (l : List Go.Sx.SV) (r : List (Nat × List Go.Sx.SV)) : Go.Sx.spl x ((o, l) :: r) = Go.Sx.spl (Go.Sx.splice x o l) r := rfl
theorem q_bldF_1 (z : List Go.Sx.SV) (t : List (Nat × List Go.Sx.SV)) : Go.Sx.bldF z (Option.some t) = Option.some (Go.Sx.spl z t) := rfl
theorem q_bldF_2 (z : List Go.Sx.SV) : Go.Sx.bldF z Option.none = Option.none := rfl
theorem q_enum_1 (x : Nat) : Go.Sx.enum x [] = [] := rfl
theorem q_enum_2 (x : Nat) (s : Go.Sx.SV) (l : List Go.Sx.SV) : Go.Sx.enum x (s :: l) = (x, s) :: Go.Sx.enum (x + 1) l := rfl
theorem q_gdS_1 (j : Nat) (w : Bool) (s : Go.Sx.SV) : Go.Sx.gdS (Go.Sx.SV.gd j w s) = Bool.true := rfl
theorem q_gdS_2 (x_1 : Go.Value) : Go.Sx.gdS (Go.Sx.SV.v x_1) = Bool.false := rfl
theorem q_gdS_3 (k o : Nat) : Go.Sx.gdS (Go.Sx.SV.p k o) = Bool.false := rfl
theorem q_gdS_4 (l : List Go.Sx.SV) : Go.Sx.gdS (Go.Sx.SV.agg l) = Bool.false := rfl
theorem q_gdS_5 (c : Bool) (m : Nat) (xs : List (List Go.Sx.SV)) : Go.Sx.gdS (Go.Sx.SV.sl c m xs) = Bool.false := rfl
theorem q_gdS_6 (k v : Nat) : Go.Sx.gdS (Go.Sx.SV.mr k v) = Bool.false := rfl
theorem q_gdS_7 (k v m i o : Nat) : Go.Sx.gdS (Go.Sx.SV.pr k v m i o) = Bool.false := rfl
theorem q_gdS_8 (k v m i l : Nat) : Go.Sx.gdS (Go.Sx.SV.ms k v m i l) = Bool.false := rfl
theorem q_gdS_9 (row : List Go.Sx.SV) (o : Nat) : Go.Sx.gdS (Go.Sx.SV.ps row o) = Bool.false := rfl
theorem q_gdS_10 (f : Go.FuncId) (caps : List Go.Sx.SV) : Go.Sx.gdS (Go.Sx.SV.cl f caps) = Bool.false := rfl
theorem q_gdS_11 (l : List Go.Sx.SV) : Go.Sx.gdS (Go.Sx.SV.tup l) = Bool.false := rfl
theorem q_gdS_12 (φ : Go.Sx.VP) : Go.Sx.gdS (Go.Sx.SV.q φ) = Bool.false := rfl
theorem q_gdS_13 (k : Nat) : Go.Sx.gdS (Go.Sx.SV.mp k) = Bool.false := rfl
theorem q_gdS_14 (k : Nat) : Go.Sx.gdS (Go.Sx.SV.yl k) = Bool.false := rfl
theorem q_gdS_15 (T : Go.TypeId) (s : Go.Sx.SV) : Go.Sx.gdS (Go.Sx.SV.ifc T s) = Bool.false := rfl
theorem q_gdS_16  : Go.Sx.gdS Go.Sx.SV.any = Bool.false := rfl
theorem q_rnS_1 (ρ : Nat → Nat) (k o : Nat) : Go.Sx.rnS ρ (Go.Sx.SV.p k o) = Go.Sx.SV.p (ρ k) o := rfl
theorem q_rnS_2 (ρ : Nat → Nat) (k v : Nat) : Go.Sx.rnS ρ (Go.Sx.SV.mr k v) = Go.Sx.SV.mr (ρ k) v := rfl
theorem q_rnS_3 (ρ : Nat → Nat) (k v m i o : Nat) : Go.Sx.rnS ρ (Go.Sx.SV.pr k v m i o) = Go.Sx.SV.pr (ρ k) v m i o := rfl
theorem q_rnS_4 (ρ : Nat → Nat) (k v m i o : Nat) : Go.Sx.rnS ρ (Go.Sx.SV.ms k v m i o) = Go.Sx.SV.ms (ρ k) v m i o := rfl
theorem q_rnS_5 (ρ : Nat → Nat) (k : Nat) : Go.Sx.rnS ρ (Go.Sx.SV.mp k) = Go.Sx.SV.mp (ρ k) := rfl
theorem q_rnS_6 (ρ : Nat → Nat) (k : Nat) : Go.Sx.rnS ρ (Go.Sx.SV.yl k) = Go.Sx.SV.yl (ρ k) := rfl
theorem q_rnS_7 (ρ : Nat → Nat) (l : List Go.Sx.SV) : Go.Sx.rnS ρ (Go.Sx.SV.agg l) = Go.Sx.SV.agg (Go.Sx.rnL ρ l) := rfl
theorem q_rnS_8 (ρ : Nat → Nat) (l : List Go.Sx.SV) : Go.Sx.rnS ρ (Go.Sx.SV.tup l) = Go.Sx.SV.tup (Go.Sx.rnL ρ l) := rfl
theorem q_rnS_9 (ρ : Nat → Nat) (f : Go.FuncId) (l : List Go.Sx.SV) : Go.Sx.rnS ρ (Go.Sx.SV.cl f l) = Go.Sx.SV.cl f (Go.Sx.rnL ρ l) := rfl
theorem q_rnS_10 (ρ : Nat → Nat) (T : Go.TypeId) (s : Go.Sx.SV) : Go.Sx.rnS ρ (Go.Sx.SV.ifc T s) = Go.Sx.SV.ifc T (Go.Sx.rnS ρ s) := rfl
theorem q_rnS_11 (ρ : Nat → Nat) (x_1 : Go.Value) : Go.Sx.rnS ρ (Go.Sx.SV.v x_1) = Go.Sx.SV.v x_1 := rfl
theorem q_rnS_12 (ρ : Nat → Nat) (c : Bool) (m : Nat) (xs : List (List Go.Sx.SV)) : Go.Sx.rnS ρ (Go.Sx.SV.sl c m xs) = Go.Sx.SV.sl c m xs := rfl
theorem q_rnS_13 (ρ : Nat → Nat) (l : List Go.Sx.SV) (o : Nat) : Go.Sx.rnS ρ (Go.Sx.SV.ps l o) = Go.Sx.SV.ps l o := rfl
theorem q_rnS_14 (ρ : Nat → Nat) (φ : Go.Sx.VP) : Go.Sx.rnS ρ (Go.Sx.SV.q φ) = Go.Sx.SV.q φ := rfl
theorem q_rnS_15 (ρ : Nat → Nat) (j : Nat) (w : Bool) (s : Go.Sx.SV) : Go.Sx.rnS ρ (Go.Sx.SV.gd j w s) = Go.Sx.SV.gd j w s := rfl
theorem q_rnS_16 (ρ : Nat → Nat) : Go.Sx.rnS ρ Go.Sx.SV.any = Go.Sx.SV.any := rfl
theorem q_rnL_1 (ρ : Nat → Nat) : Go.Sx.rnL ρ [] = [] := rfl
theorem q_rnL_2 (ρ : Nat → Nat) (s : Go.Sx.SV) (l : List Go.Sx.SV) : Go.Sx.rnL ρ (s :: l) = Go.Sx.rnS ρ s :: Go.Sx.rnL ρ l := rfl
theorem q_rnH_1 (ρ : Nat → Nat) (l : List Go.Sx.SV) (T : Go.TypeId) : Go.Sx.rnH ρ (Go.Sx.HB.cells l T) = Go.Sx.HB.cells (Go.Sx.rnL ρ l) T := rfl
theorem q_rnH_2 (ρ : Nat → Nat) (v m : Nat) (xs : List (List Go.Sx.SV)) (T : Go.TypeId) : Go.Sx.rnH ρ (Go.Sx.HB.row v m xs T) = Go.Sx.HB.row v m xs T := rfl
theorem q_rnH_3 (ρ : Nat → Nat) (φ : Go.Sx.OP) : Go.Sx.rnH ρ (Go.Sx.HB.ob φ) = Go.Sx.HB.ob φ := rfl
theorem q_rnH_4 (ρ : Nat → Nat) (es : List (Nat × Go.Value × Go.Sx.SV)) (c : Nat) : Go.Sx.rnH ρ (Go.Sx.HB.map es c) = Go.Sx.HB.map es c := rfl
theorem q_rnH_5 (ρ : Nat → Nat) (km since : Nat) (seen : List Nat) (last : Nat) : Go.Sx.rnH ρ (Go.Sx.HB.it km since seen last) = Go.Sx.HB.it (ρ km) since seen last := rfl
theorem q_rnH_6 (ρ : Nat → Nat) (rec : Go.Loop) (pd : Option Go.Sx.Ex) : Go.Sx.rnH ρ (Go.Sx.HB.lp rec pd) = Go.Sx.HB.lp rec pd := rfl
theorem q_rnH_7 (ρ : Nat → Nat) (rec : Go.Loop) : Go.Sx.rnH ρ (Go.Sx.HB.lb rec) = Go.Sx.HB.lb rec := rfl
theorem q_rnH_8 (ρ : Nat → Nat) : Go.Sx.rnH ρ Go.Sx.HB.gone = Go.Sx.HB.gone := rfl
theorem q_rnP_1 (ρ : Nat → Nat) : Go.Sx.rnP ρ [] = [] := rfl
theorem q_rnP_2 (ρ : Nat → Nat) (u : Nat) (s : Go.Sx.HB) (r : List (Nat × Go.Sx.HB)) : Go.Sx.rnP ρ ((u, s) :: r) = (ρ u, Go.Sx.rnH ρ s) :: Go.Sx.rnP ρ r := rfl
theorem q_goneP_1 (ρ : Nat → Nat) : Go.Sx.goneP ρ 0 = [] := rfl
theorem q_goneP_2 (ρ : Nat → Nat) (k : Nat) : Go.Sx.goneP ρ (Nat.succ k) = (ρ k, Go.Sx.HB.gone) :: Go.Sx.goneP ρ k := rfl
theorem q_exB_1 (b : Bool) (x y : Nat) : Go.Sx.exB b x y = bif b then x else y := rfl
theorem q_cmK_1 (res : Go.Sx.SV) (hp : List (Nat × Go.Sx.HB)) (n : Nat) (d : Option Nat) (σ : Go.Sx.St) (r : Go.Sx.KT) (K : Go.Sx.RK) : Go.Sx.cmK Bool.false res hp n d σ r K = Go.Sx.putK d res Option.none { fr := Go.Sx.St.fr σ, hp := hp, n := n, N := Go.Sx.St.N σ, gs := Go.Sx.St.gs σ } r K := rfl
theorem q_cmK_2 (res : Go.Sx.SV) (hp : List (Nat × Go.Sx.HB)) (n : Nat) (d : Option Nat) (σ : Go.Sx.St) (r : Go.Sx.KT) (K : Go.Sx.RK) : Go.Sx.cmK Bool.true res hp n d σ r K = K (Go.Sx.Ex.pan res) { fr := Go.Sx.St.fr σ, hp := hp, n := n, N := Go.Sx.St.N σ, gs := Go.Sx.St.gs σ } := rfl
theorem q_calvM_1 (P : Go.Program) (Y : Go.Sx.Hd) (args : List Go.Sx.SV) (d : Option Nat) (σ : Go.Sx.St) (r : Go.Sx.KT) (K : Go.Sx.RK) (f : Go.FuncId) (caps : List Go.Sx.SV) : Go.Sx.calvM P Y (Go.Sx.SV.cl f caps) args d σ r K = Go.Sx.CALLM P f (args ++ caps) d σ r K := rfl
theorem q_calvM_2 (P : Go.Program) (Y : Go.Sx.Hd) (args : List Go.Sx.SV) (d : Option Nat) (σ : Go.Sx.St) (r : Go.Sx.KT) (K : Go.Sx.RK) (k : Nat) : Go.Sx.calvM P Y (Go.Sx.SV.yl k) args d σ r K = Go.Sx.YLD Y k args d σ r K := rfl
theorem q_mtI_1 (p : Go.Sx.SV → Prop) (T T2 : Go.TypeId) (s : Go.Sx.SV) : Go.Sx.mtI p T (Go.Sx.SV.ifc T2 s) = (T2 = T ∧ p s) := rfl
theorem q_mtO_1 (p : List Go.Sx.SV → Prop) (l : List Go.Sx.SV) : Go.Sx.mtO p (Option.some l) = p l := rfl
theorem q_mtO_2 (p : List Go.Sx.SV → Prop) : Go.Sx.mtO p Option.none = False := rfl
theorem q_itE_1 (σ : Go.Sx.St) (K : Go.Sx.Ex → Go.Sx.St → Prop) (hp : List (Nat × Go.Sx.HB)) (n : Nat) (rec : Go.Loop) : Go.Sx.itE σ K hp n (Go.Sx.HB.lp rec Option.none) = K Go.Sx.Ex.n { fr := Go.Sx.St.fr σ, hp := (Go.Sx.St.n σ, Go.Sx.HB.gone) :: hp, n := n, N := Go.Sx.St.N σ, gs := [] } := rfl
theorem q_itE_2 (σ : Go.Sx.St) (K : Go.Sx.Ex → Go.Sx.St → Prop) (hp : List (Nat × Go.Sx.HB)) (n : Nat) (rec : Go.Loop) (i : Nat) : Go.Sx.itE σ K hp n (Go.Sx.HB.lp rec (Option.some (Go.Sx.Ex.ex i))) = K (Go.Sx.Ex.ex i) { fr := Go.Sx.St.fr σ, hp := (Go.Sx.St.n σ, Go.Sx.HB.gone) :: hp, n := n, N := Go.Sx.St.N σ, gs := [] } := rfl
theorem q_itE_3 (σ : Go.Sx.St) (K : Go.Sx.Ex → Go.Sx.St → Prop) (hp : List (Nat × Go.Sx.HB)) (n : Nat) (rec : Go.Loop) : Go.Sx.itE σ K hp n (Go.Sx.HB.lp rec (Option.some Go.Sx.Ex.ret)) = K Go.Sx.Ex.ret { fr := Go.Sx.St.fr σ, hp := (Go.Sx.St.n σ, Go.Sx.HB.gone) :: hp, n := n, N := Go.Sx.St.N σ, gs := [] } := rfl
theorem q_itP_1 (σ : Go.Sx.St) (K : Go.Sx.Ex → Go.Sx.St → Prop) (o : Go.Sx.Ot) : Go.Sx.itP σ K o = match Go.Sx.Ot.pn o with | Bool.false => Go.Sx.itE σ K (Go.Sx.Ot.hp o) (Go.Sx.Ot.n o) (Go.Sx.lkh (Go.Sx.St.n σ) (Go.Sx.Ot.hp o)) | Bool.true => K (Go.Sx.Ex.pan (Go.Sx.Ot.res o)) { fr := Go.Sx.St.fr σ, hp := Go.Sx.Ot.hp o, n := Go.Sx.Ot.n o, N := Go.Sx.St.N σ, gs := [] } := rfl
theorem q_isLp_1 (rec r : Go.Loop) : Go.Sx.isLp rec (Go.Sx.HB.lp r Option.none) = (r = rec) := rfl
theorem q_isLb_1 (rec r : Go.Loop) : Go.Sx.isLb rec (Go.Sx.HB.lb r) = (r = rec) := rfl
theorem q_pmS_1 (p : Nat) (ps : List Nat) (s : Go.Sx.SV) (l : List Go.Sx.SV) : Go.Sx.pmS (p :: ps) (s :: l) = (p, s) :: Go.Sx.pmS ps l := rfl
theorem q_lenQ_1  : Go.Sx.lenQ [] [] = Bool.true := rfl
theorem q_lenQ_2 (head : Go.Sx.SV) (l : List Go.Sx.SV) (head_1 : Nat) (m : List Nat) : Go.Sx.lenQ (head :: l) (head_1 :: m) = Go.Sx.lenQ l m := rfl
theorem q_ltAll_1 (N : Nat) : Go.Sx.ltAll N [] = Bool.true := rfl
theorem q_ltAll_2 (N j : Nat) (r : List Nat) : Go.Sx.ltAll N (j :: r) = bif Nat.blt j N then Go.Sx.ltAll N r else Bool.false := rfl
theorem q_rfB_1 (p : Prop) : Go.Sx.rfB Bool.true p = p := rfl
theorem q_rfB_2 (p : Prop) : Go.Sx.rfB Bool.false p = False := rfl
theorem q_rfK_1 (P : Go.Program) (asg body : Nat → Go.Sx.CT) (ps : List Nat) (σ : Go.Sx.St) (K : Go.Sx.Ex → Go.Sx.St → Prop) (f : Go.FuncId) (caps : List Go.Sx.SV) : Go.Sx.rfK P asg body (Go.Sx.SV.cl f caps) ps σ K = Go.Sx.gs0 (Go.Sx.St.gs σ) (Go.Sx.rfB (Go.Sx.ltAll (Go.Sx.St.N σ) ps) (Go.Sx.RFUN P asg body f caps ps σ K)) := rfl
theorem q_retF_1 (Post : Go.Sx.Ot → Prop) (hp : List (Nat × Go.Sx.HB)) (n : Nat) (s : Go.Sx.SV) : Go.Sx.retF Post hp n (Option.some s) = Post { pn := Bool.false, res := s, hp := hp, n := n } := rfl
theorem q_retF_2 (Post : Go.Sx.Ot → Prop) (hp : List (Nat × Go.Sx.HB)) (n : Nat) : Go.Sx.retF Post hp n Option.none = False := rfl
theorem q_rvKC_1 (x : Option (List Go.Sx.SV)) (s : Go.Sx.SV) : Go.Sx.rvKC (Option.some s) x = Go.Sx.rvD s x := rfl
theorem q_rvKC_2 (x : Option (List Go.Sx.SV)) : Go.Sx.rvKC Option.none x = Option.none := rfl
theorem q_rvsK_1 (σ : Go.Sx.St) : Go.Sx.rvsK σ [] = Option.some [] := rfl
theorem q_rvsK_2 (σ : Go.Sx.St) (r : Go.Sx.RV) (rs : List Go.Sx.RV) : Go.Sx.rvsK σ (r :: rs) = Go.Sx.rvKC (Go.Sx.rv1 σ r) (Go.Sx.rvsK σ rs) := rfl
theorem q_retM_1 (rs : List Go.Sx.RV) (Post : Go.Sx.Ot → Prop) (x : Go.Sx.St) : Go.Sx.retM rs Post Go.Sx.Ex.n x = Go.Sx.retF Post (Go.Sx.St.hp x) (Go.Sx.St.n x) (Go.Sx.rvE (Go.Sx.rvsK x rs)) := rfl
theorem q_retM_2 (rs : List Go.Sx.RV) (Post : Go.Sx.Ot → Prop) (x : Go.Sx.St) : Go.Sx.retM rs Post Go.Sx.Ex.ret x = Go.Sx.retF Post (Go.Sx.St.hp x) (Go.Sx.St.n x) (Go.Sx.rvE (Go.Sx.rvsK x rs)) := rfl
theorem q_retM_3 (rs : List Go.Sx.RV) (Post : Go.Sx.Ot → Prop) (x : Go.Sx.St) (s : Go.Sx.SV) : Go.Sx.retM rs Post (Go.Sx.Ex.pan s) x = Post { pn := Bool.true, res := s, hp := Go.Sx.St.hp x, n := Go.Sx.St.n x } := rfl
theorem q_retM_4 (rs : List Go.Sx.RV) (Post : Go.Sx.Ot → Prop) (x : Go.Sx.St) (id : Nat) : Go.Sx.retM rs Post (Go.Sx.Ex.ex id) x = False := rfl
theorem q_bdE_1 (kl : Nat) (rec : Go.Loop) (Φ : Go.Sx.Ot → Prop) (x : Go.Sx.St) : Go.Sx.bdE kl rec Φ Go.Sx.Ex.n x = (Go.Sx.isLb rec (Go.Sx.lkh kl (Go.Sx.St.hp x)) ∧ Φ { pn := Bool.false, res := Go.Sx.SV.v (Go.Value.bool Bool.true), hp := (kl, Go.Sx.HB.lp rec Option.none) :: Go.Sx.St.hp x, n := Go.Sx.St.n x }) := rfl
theorem q_bdE_2 (kl : Nat) (rec : Go.Loop) (Φ : Go.Sx.Ot → Prop) (x : Go.Sx.St) (i : Nat) : Go.Sx.bdE kl rec Φ (Go.Sx.Ex.ex i) x = (Go.Sx.isLb rec (Go.Sx.lkh kl (Go.Sx.St.hp x)) ∧ Φ { pn := Bool.false, res := Go.Sx.SV.v (Go.Value.bool Bool.false), hp := (kl, Go.Sx.HB.lp rec (Option.some (Go.Sx.Ex.ex i))) :: Go.Sx.St.hp x, n := Go.Sx.St.n x }) := rfl
theorem q_bdE_3 (kl : Nat) (rec : Go.Loop) (Φ : Go.Sx.Ot → Prop) (x : Go.Sx.St) : Go.Sx.bdE kl rec Φ Go.Sx.Ex.ret x = (Go.Sx.isLb rec (Go.Sx.lkh kl (Go.Sx.St.hp x)) ∧ Φ { pn := Bool.false, res := Go.Sx.SV.v (Go.Value.bool Bool.false), hp := (kl, Go.Sx.HB.lp rec (Option.some Go.Sx.Ex.ret)) :: Go.Sx.St.hp x, n := Go.Sx.St.n x }) := rfl
theorem q_bdE_4 (kl : Nat) (rec : Go.Loop) (Φ : Go.Sx.Ot → Prop) (x : Go.Sx.St) (s : Go.Sx.SV) : Go.Sx.bdE kl rec Φ (Go.Sx.Ex.pan s) x = Φ { pn := Bool.true, res := s, hp := Go.Sx.St.hp x, n := Go.Sx.St.n x } := rfl
theorem q_asE_1 (kl : Nat) (rec : Go.Loop) (body : Go.Sx.CT) (K : Go.Sx.Ex → Go.Sx.St → Prop) (x : Go.Sx.St) : Go.Sx.asE kl rec body K Go.Sx.Ex.n x = (Go.Sx.isLp rec (Go.Sx.lkh kl (Go.Sx.St.hp x)) ∧ body { fr := Go.Sx.St.fr x, hp := (kl, Go.Sx.HB.lb rec) :: Go.Sx.St.hp x, n := Go.Sx.St.n x, N := Go.Sx.St.N x, gs := Go.Sx.St.gs x } K) := rfl
theorem q_asE_2 (kl : Nat) (rec : Go.Loop) (body : Go.Sx.CT) (K : Go.Sx.Ex → Go.Sx.St → Prop) (x : Go.Sx.St) (i : Nat) : Go.Sx.asE kl rec body K (Go.Sx.Ex.ex i) x = False := rfl
theorem q_asE_3 (kl : Nat) (rec : Go.Loop) (body : Go.Sx.CT) (K : Go.Sx.Ex → Go.Sx.St → Prop) (x : Go.Sx.St) : Go.Sx.asE kl rec body K Go.Sx.Ex.ret x = False := rfl
theorem q_asE_4 (kl : Nat) (rec : Go.Loop) (body : Go.Sx.CT) (K : Go.Sx.Ex → Go.Sx.St → Prop) (x : Go.Sx.St) (s : Go.Sx.SV) : Go.Sx.asE kl rec body K (Go.Sx.Ex.pan s) x = False := rfl
theorem q_rho_1 (x : Nat) : Go.Sx.rho [] x = 0 := rfl
theorem q_rho_2 (a : Nat) (tail : List Nat) : Go.Sx.rho (a :: tail) 0 = a := rfl
theorem q_rho_3 (head : Nat) (l : List Nat) (k : Nat) : Go.Sx.rho (head :: l) (Nat.succ k) = Go.Sx.rho l k := rfl
theorem q_mtS_1 (ρ : Nat → Nat) (n' : Nat) (x : Go.Sx.SV) : Go.Sx.mtS ρ n' Go.Sx.SV.any x = True := rfl
theorem q_mtS_2 (ρ : Nat → Nat) (n' : Nat) (x : Go.Sx.SV) (k o : Nat) : Go.Sx.mtS ρ n' (Go.Sx.SV.p k o) x = (k < n' ∧ x = Go.Sx.SV.p (ρ k) o) := rfl
theorem q_mtS_3 (ρ : Nat → Nat) (n' : Nat) (x : Go.Sx.SV) (k v : Nat) : Go.Sx.mtS ρ n' (Go.Sx.SV.mr k v) x = (k < n' ∧ x = Go.Sx.SV.mr (ρ k) v) := rfl
theorem q_mtS_4 (ρ : Nat → Nat) (n' : Nat) (x : Go.Sx.SV) (k v m i o : Nat) : Go.Sx.mtS ρ n' (Go.Sx.SV.pr k v m i o) x = (k < n' ∧ x = Go.Sx.SV.pr (ρ k) v m i o) := rfl
theorem q_mtS_5 (ρ : Nat → Nat) (n' : Nat) (x : Go.Sx.SV) (k v m i o : Nat) : Go.Sx.mtS ρ n' (Go.Sx.SV.ms k v m i o) x = (k < n' ∧ x = Go.Sx.SV.ms (ρ k) v m i o) := rfl
theorem q_mtS_6 (ρ : Nat → Nat) (n' : Nat) (x : Go.Sx.SV) (l : List Go.Sx.SV) : Go.Sx.mtS ρ n' (Go.Sx.SV.agg l) x = Go.Sx.mtO (Go.Sx.mtL ρ n' l) (Go.Sx.aggL x) := rfl
theorem q_mtS_7 (ρ : Nat → Nat) (n' : Nat) (x : Go.Sx.SV) (l : List Go.Sx.SV) : Go.Sx.mtS ρ n' (Go.Sx.SV.tup l) x = Go.Sx.mtO (Go.Sx.mtL ρ n' l) (Go.Sx.tupL x) := rfl
theorem q_mtS_8 (ρ : Nat → Nat) (n' : Nat) (x : Go.Sx.SV) (f : Go.FuncId) (l : List Go.Sx.SV) : Go.Sx.mtS ρ n' (Go.Sx.SV.cl f l) x = Go.Sx.mtO (Go.Sx.mtL ρ n' l) (Go.Sx.clL f x) := rfl
theorem q_mtS_9 (ρ : Nat → Nat) (n' : Nat) (x : Go.Sx.SV) (x_2 : Go.Value) : Go.Sx.mtS ρ n' (Go.Sx.SV.v x_2) x = (x = Go.Sx.SV.v x_2) := rfl
theorem q_mtS_10 (ρ : Nat → Nat) (n' : Nat) (x : Go.Sx.SV) (c : Bool) (m : Nat) (xs : List (List Go.Sx.SV)) : Go.Sx.mtS ρ n' (Go.Sx.SV.sl c m xs) x = (x = Go.Sx.SV.sl c m xs ∧ Go.Sx.KFR xs) := rfl
theorem q_mtS_11 (ρ : Nat → Nat) (n' : Nat) (x : Go.Sx.SV) (l : List Go.Sx.SV) (o : Nat) : Go.Sx.mtS ρ n' (Go.Sx.SV.ps l o) x = (x = Go.Sx.SV.ps l o ∧ Go.Sx.KFL l) := rfl
theorem q_mtS_12 (ρ : Nat → Nat) (n' : Nat) (x : Go.Sx.SV) (k : Nat) : Go.Sx.mtS ρ n' (Go.Sx.SV.mp k) x = (k < n' ∧ x = Go.Sx.SV.mp (ρ k)) := rfl
theorem q_mtS_13 (ρ : Nat → Nat) (n' : Nat) (x : Go.Sx.SV) (k : Nat) : Go.Sx.mtS ρ n' (Go.Sx.SV.yl k) x = (k < n' ∧ x = Go.Sx.SV.yl (ρ k)) := rfl
theorem q_mtS_14 (ρ : Nat → Nat) (n' : Nat) (x : Go.Sx.SV) (T : Go.TypeId) (t : Go.Sx.SV) : Go.Sx.mtS ρ n' (Go.Sx.SV.ifc T t) x = Go.Sx.mtI (Go.Sx.mtS ρ n' t) T x := rfl
theorem q_mtS_15 (ρ : Nat → Nat) (n' : Nat) (x : Go.Sx.SV) (φ : Go.Sx.VP) : Go.Sx.mtS ρ n' (Go.Sx.SV.q φ) x = (x = Go.Sx.SV.q φ) := rfl
theorem q_mtS_16 (ρ : Nat → Nat) (n' : Nat) (x : Go.Sx.SV) (j : Nat) (w : Bool) (s : Go.Sx.SV) : Go.Sx.mtS ρ n' (Go.Sx.SV.gd j w s) x = False := rfl
theorem q_mtL_1 (ρ : Nat → Nat) (n' : Nat) (x : List Go.Sx.SV) : Go.Sx.mtL ρ n' [] x = (x = []) := rfl
theorem q_mtL_2 (ρ : Nat → Nat) (n' : Nat) (x : List Go.Sx.SV) (s : Go.Sx.SV) (l : List Go.Sx.SV) : Go.Sx.mtL ρ n' (s :: l) x = Go.Sx.mtB (Go.Sx.mtS ρ n' s) (Go.Sx.mtL ρ n' l) x := rfl
theorem q_mtH_1 (ρ : Nat → Nat) (n' : Nat) (x : Go.Sx.HB) : Go.Sx.mtH ρ n' Go.Sx.HB.gone x = True := rfl
theorem q_mtH_2 (ρ : Nat → Nat) (n' : Nat) (l : List Go.Sx.SV) (T : Go.TypeId) (l2 : List Go.Sx.SV) (T2 : Go.TypeId) : Go.Sx.mtH ρ n' (Go.Sx.HB.cells l T) (Go.Sx.HB.cells l2 T2) = (T2 = T ∧ Go.Sx.mtL ρ n' l l2) := rfl
theorem q_mtH_3 (ρ : Nat → Nat) (n' : Nat) (x : Go.Sx.HB) (v m : Nat) (xs : List (List Go.Sx.SV)) (T : Go.TypeId) : Go.Sx.mtH ρ n' (Go.Sx.HB.row v m xs T) x = (x = Go.Sx.HB.row v m xs T ∧ Go.Sx.KFR xs) := rfl
theorem q_mtH_4 (ρ : Nat → Nat) (n' : Nat) (x : Go.Sx.HB) (φ : Go.Sx.OP) : Go.Sx.mtH ρ n' (Go.Sx.HB.ob φ) x = (x = Go.Sx.HB.ob φ) := rfl
theorem q_mtH_5 (ρ : Nat → Nat) (n' : Nat) (x : Go.Sx.HB) (es : List (Nat × Go.Value × Go.Sx.SV)) (c : Nat) : Go.Sx.mtH ρ n' (Go.Sx.HB.map es c) x = (x = Go.Sx.HB.map es c ∧ ∀ (e : Nat × Go.Value × Go.Sx.SV), e ∈ es → Go.Sx.KF (Prod.snd (Prod.snd e))) := rfl
theorem q_mtH_6 (ρ : Nat → Nat) (n' : Nat) (x : Go.Sx.HB) (km a : Nat) (b : List Nat) (c : Nat) : Go.Sx.mtH ρ n' (Go.Sx.HB.it km a b c) x = (km < n' ∧ x = Go.Sx.HB.it (ρ km) a b c) := rfl
theorem q_mtH_7 (ρ : Nat → Nat) (n' : Nat) (x : Go.Sx.HB) (r : Go.Loop) (pd : Option Go.Sx.Ex) : Go.Sx.mtH ρ n' (Go.Sx.HB.lp r pd) x = (x = Go.Sx.HB.lp r pd) := rfl
theorem q_mtH_8 (ρ : Nat → Nat) (n' : Nat) (x : Go.Sx.HB) (r : Go.Loop) : Go.Sx.mtH ρ n' (Go.Sx.HB.lb r) x = (x = Go.Sx.HB.lb r) := rfl
theorem q_mtH_9 (ρ : Nat → Nat) (n' : Nat) (l : List Go.Sx.SV) (T : Go.TypeId) (v m : Nat) (xs : List (List Go.Sx.SV)) (T_1 : Go.TypeId) : Go.Sx.mtH ρ n' (Go.Sx.HB.cells l T) (Go.Sx.HB.row v m xs T_1) = False := rfl
theorem q_mtH_10 (ρ : Nat → Nat) (n' : Nat) (l : List Go.Sx.SV) (T : Go.TypeId) (φ : Go.Sx.OP) : Go.Sx.mtH ρ n' (Go.Sx.HB.cells l T) (Go.Sx.HB.ob φ) = False := rfl
theorem q_mtH_11 (ρ : Nat → Nat) (n' : Nat) (l : List Go.Sx.SV) (T : Go.TypeId) (es : List (Nat × Go.Value × Go.Sx.SV)) (clk : Nat) : Go.Sx.mtH ρ n' (Go.Sx.HB.cells l T) (Go.Sx.HB.map es clk) = False := rfl
theorem q_mtH_12 (ρ : Nat → Nat) (n' : Nat) (l : List Go.Sx.SV) (T : Go.TypeId) (km since : Nat) (seen : List Nat) (last : Nat) : Go.Sx.mtH ρ n' (Go.Sx.HB.cells l T) (Go.Sx.HB.it km since seen last) = False := rfl
theorem q_mtH_13 (ρ : Nat → Nat) (n' : Nat) (l : List Go.Sx.SV) (T : Go.TypeId) (rec : Go.Loop) (pd : Option Go.Sx.Ex) : Go.Sx.mtH ρ n' (Go.Sx.HB.cells l T) (Go.Sx.HB.lp rec pd) = False := rfl
theorem q_mtH_14 (ρ : Nat → Nat) (n' : Nat) (l : List Go.Sx.SV) (T : Go.TypeId) (rec : Go.Loop) : Go.Sx.mtH ρ n' (Go.Sx.HB.cells l T) (Go.Sx.HB.lb rec) = False := rfl
theorem q_mtH_15 (ρ : Nat → Nat) (n' : Nat) (l : List Go.Sx.SV) (T : Go.TypeId) : Go.Sx.mtH ρ n' (Go.Sx.HB.cells l T) Go.Sx.HB.gone = False := rfl
theorem q_mtM_1 (p : Prop) : Go.Sx.mtM Bool.true p = True := rfl
theorem q_mtM_2 (p : Prop) : Go.Sx.mtM Bool.false p = p := rfl
theorem q_mtF_1 (ρ : Nat → Nat) (n' : Nat) (x : List Nat) (x_1 : List (Nat × Go.Sx.SV)) : Go.Sx.mtF ρ n' x [] x_1 = True := rfl
theorem q_mtF_2 (ρ : Nat → Nat) (n' : Nat) (x : List Nat) (x_1 : List (Nat × Go.Sx.SV)) (t : Nat) (s : Go.Sx.SV) (r : List (Nat × Go.Sx.SV)) : Go.Sx.mtF ρ n' x ((t, s) :: r) x_1 = (Go.Sx.mtM (Go.Sx.memb t x) (Go.Sx.mtS ρ n' s (Go.Sx.lk t x_1)) ∧ Go.Sx.mtF ρ n' (t :: x) r x_1) := rfl
theorem q_mtP_1 (ρ : Nat → Nat) (hp' hp : List (Nat × Go.Sx.HB)) (n' : Nat) : Go.Sx.mtP ρ hp' hp n' 0 = True := rfl
theorem q_mtP_2 (ρ : Nat → Nat) (hp' hp : List (Nat × Go.Sx.HB)) (n' k : Nat) : Go.Sx.mtP ρ hp' hp n' (Nat.succ k) = (Go.Sx.mtH ρ n' (Go.Sx.lkh k hp') (Go.Sx.lkh (ρ k) hp) ∧ Go.Sx.mtP ρ hp' hp n' k) := rfl
theorem q_hpb_1 (n' : Nat) : Go.Sx.hpb n' [] = True := rfl
theorem q_hpb_2 (n' u : Nat) (s : Go.Sx.HB) (r : List (Nat × Go.Sx.HB)) : Go.Sx.hpb n' ((u, s) :: r) = (u < n' ∧ Go.Sx.hpb n' r) := rfl
theorem q_eqC_1 (a b : Bool) : Go.Sx.eqC 0 (Go.Sx.SV.v (Go.Value.bool a)) (Go.Sx.SV.v (Go.Value.bool b)) = Option.some (a == b) := rfl
theorem q_eqC_2 (k : Go.IntKind) (a : Int) (j : Go.IntKind) (b : Int) : Go.Sx.eqC 1 (Go.Sx.SV.v (Go.Value.int k a)) (Go.Sx.SV.v (Go.Value.int j b)) = bif Go.Sx.kbeq k j then Option.some (a == b) else Option.none := rfl
theorem q_eqC_3 (a b : ByteArray) : Go.Sx.eqC 2 (Go.Sx.SV.v (Go.Value.string a)) (Go.Sx.SV.v (Go.Value.string b)) = Option.some (ByteArray.toList a == ByteArray.toList b) := rfl
theorem q_eqA_1 (a b : Bool) : Go.Sx.eqA (Option.some a) (Option.some b) = Option.some (a && b) := rfl
theorem q_eqLS_1  : Go.Sx.eqLS [] [] [] = Option.some Bool.true := rfl
theorem q_eqLS_2 (c : Nat) (cs : List Nat) (x_3 : Go.Sx.SV) (xs : List Go.Sx.SV) (y : Go.Sx.SV) (ys : List Go.Sx.SV) : Go.Sx.eqLS (c :: cs) (x_3 :: xs) (y :: ys) = Go.Sx.eqA (Go.Sx.eqC c x_3 y) (Go.Sx.eqLS cs xs ys) := rfl
theorem q_eqLO_1 (cls : List Nat) (a b : List Go.Sx.SV) : Go.Sx.eqLO cls Bool.true (Go.Sx.SV.agg a) (Go.Sx.SV.agg b) = Go.Sx.eqLS cls a b := rfl
theorem q_eqLO_2 (cls : List Nat) (a b : Bool) : Go.Sx.eqLO cls Bool.false (Go.Sx.SV.v (Go.Value.bool a)) (Go.Sx.SV.v (Go.Value.bool b)) = Option.some (a == b) := rfl
theorem q_eqR_1 (ng b : Bool) : Go.Sx.eqR ng (Option.some b) = Option.some (Go.Sx.SV.v (Go.Value.bool (Go.Sx.ngB ng b))) := rfl
theorem q_eqR_2 (ng : Bool) : Go.Sx.eqR ng Option.none = Option.none := rfl
theorem q_ngB_1 (x : Bool) : Go.Sx.ngB Bool.true x = !x := rfl
theorem q_ngB_2 (x : Bool) : Go.Sx.ngB Bool.false x = x := rfl
theorem q_sprS_1 (m : Nat) (hp : List (Nat × Go.Sx.HB)) (c : Bool) (m' : Nat) (xs : List (List Go.Sx.SV)) : Go.Sx.sprS m hp (Go.Sx.SV.sl c m' xs) = Go.Sx.rowB xs (Nat.beq m m') := rfl
theorem q_sprS_2 (m : Nat) (hp : List (Nat × Go.Sx.HB)) : Go.Sx.sprS m hp (Go.Sx.SV.v (Go.Value.slice Option.none 0 0)) = Option.some [] := rfl
theorem q_sprS_3 (m : Nat) (hp : List (Nat × Go.Sx.HB)) (k v : Nat) : Go.Sx.sprS m hp (Go.Sx.SV.mr k v) = Go.Sx.sprH m v (Go.Sx.lkh k hp) := rfl
theorem q_basS_1 (m m' : Nat) (xs : List (List Go.Sx.SV)) : Go.Sx.basS m (Go.Sx.SV.sl Bool.true m' xs) = Go.Sx.rowB xs (Nat.beq m m') := rfl
theorem q_basS_2 (m : Nat) : Go.Sx.basS m (Go.Sx.SV.v (Go.Value.slice Option.none 0 0)) = Option.some [] := rfl
theorem q_appK_1 (g : Option (Nat × Bool)) (m b : Nat) (d : Option Nat) (σ : Go.Sx.St) (r : Go.Sx.KT) (K : Go.Sx.RK) (xs ys : List (List Go.Sx.SV)) : Go.Sx.appK g m b (Option.some xs) (Option.some ys) d σ r K = Go.Sx.APP g m b xs ys d σ r K := rfl
theorem q_appK_2 (g : Option (Nat × Bool)) (m b : Nat) (d : Option Nat) (σ : Go.Sx.St) (r : Go.Sx.KT) (K : Go.Sx.RK) (val : List (List Go.Sx.SV)) : Go.Sx.appK g m b (Option.some val) Option.none d σ r K = False := rfl
theorem q_appK_3 (g : Option (Nat × Bool)) (m b : Nat) (y : Option (List (List Go.Sx.SV))) (d : Option Nat) (σ : Go.Sx.St) (r : Go.Sx.KT) (K : Go.Sx.RK) : Go.Sx.appK g m b Option.none y d σ r K = False := rfl
theorem q_aggL_1 (l : List Go.Sx.SV) : Go.Sx.aggL (Go.Sx.SV.agg l) = Option.some l := rfl
theorem q_tupL_1 (l : List Go.Sx.SV) : Go.Sx.tupL (Go.Sx.SV.tup l) = Option.some l := rfl
theorem q_clL_1 (f f_1 : Go.FuncId) (caps : List Go.Sx.SV) : Go.Sx.clL f (Go.Sx.SV.cl f_1 caps) = bif Nat.beq f_1 f then Option.some caps else Option.none := rfl
theorem q_mtB_1 (p : Go.Sx.SV → Prop) (q : List Go.Sx.SV → Prop) : Go.Sx.mtB p q [] = False := rfl
theorem q_mtB_2 (p : Go.Sx.SV → Prop) (q : List Go.Sx.SV → Prop) (s : Go.Sx.SV) (l : List Go.Sx.SV) : Go.Sx.mtB p q (s :: l) = (p s ∧ q l) := rfl
theorem q_newRB_1 (x x_1 : Nat) (x_2 : List (List Go.Sx.SV)) (x_3 : Go.TypeId) (x_4 : Go.Sx.St) (x_5 : Go.Sx.KT) (x_6 : Go.Sx.RK) : Go.Sx.newRB Bool.false Bool.true x x_1 x_2 x_3 x_4 x_5 x_6 = x_5 { fr := (x, Go.Sx.SV.mr (Go.Sx.St.n x_4) 0) :: Go.Sx.St.fr x_4, hp := (Go.Sx.St.n x_4, Go.Sx.HB.row 0 x_1 x_2 x_3) :: Go.Sx.St.hp x_4, n := Go.Sx.St.n x_4 + 1, N := Go.Sx.St.N x_4, gs := Go.Sx.St.gs x_4 } x_6 := rfl
theorem q_rowK_1 (m : Nat) (xs : List (List Go.Sx.SV)) (T : Go.TypeId) (σ : Go.Sx.St) (r : Go.Sx.KT) (K : Go.Sx.RK) (m_1 : Nat) : Go.Sx.rowK (Option.some m_1) m xs T σ r K = Go.Sx.newRB (Go.Sx.memb m_1 (Go.Sx.St.gs σ)) (Nat.blt m_1 (Go.Sx.St.N σ)) m_1 m xs T σ r K := rfl
theorem q_rowK_2 (m : Nat) (xs : List (List Go.Sx.SV)) (T : Go.TypeId) (σ : Go.Sx.St) (r : Go.Sx.KT) (K : Go.Sx.RK) : Go.Sx.rowK Option.none m xs T σ r K = False := rfl
theorem q_clnK_1 (b : Nat) (d : Option Nat) (m : Nat) (T : Go.TypeId) (σ : Go.Sx.St) (r : Go.Sx.KT) (K : Go.Sx.RK) (ys : List (List Go.Sx.SV)) : Go.Sx.clnK b d m (Option.some []) (Option.some ys) T σ r K = Go.Sx.CLN b d m ys T σ r K := rfl
theorem q_clnK_2 (b : Nat) (d : Option Nat) (m : Nat) (y : Option (List (List Go.Sx.SV))) (T : Go.TypeId) (σ : Go.Sx.St) (r : Go.Sx.KT) (K : Go.Sx.RK) (head : List Go.Sx.SV) (tail : List (List Go.Sx.SV)) : Go.Sx.clnK b d m (Option.some (head :: tail)) y T σ r K = False := rfl
theorem q_clnK_3 (b : Nat) (d : Option Nat) (m : Nat) (T : Go.TypeId) (σ : Go.Sx.St) (r : Go.Sx.KT) (K : Go.Sx.RK) : Go.Sx.clnK b d m (Option.some []) Option.none T σ r K = False := rfl
theorem q_clnK_4 (b : Nat) (d : Option Nat) (m : Nat) (y : Option (List (List Go.Sx.SV))) (T : Go.TypeId) (σ : Go.Sx.St) (r : Go.Sx.KT) (K : Go.Sx.RK) : Go.Sx.clnK b d m Option.none y T σ r K = False := rfl
theorem q_mksK_1 (b : Nat) (d : Option Nat) (m : Nat) (z : List Go.Value) (T : Go.TypeId) (σ : Go.Sx.St) (r : Go.Sx.KT) (K : Go.Sx.RK) (k : Go.IntKind) (n : Int) : Go.Sx.mksK b d m z (Go.Sx.SV.v (Go.Value.int k n)) T σ r K = Go.Sx.MKS b d m (Go.Sx.lit z) n T σ r K := rfl
theorem q_isnK_1 (d : Option Nat) (σ : Go.Sx.St) (r : Go.Sx.KT) (K : Go.Sx.RK) (c : Bool) (m : Nat) (xs : List (List Go.Sx.SV)) : Go.Sx.isnK d (Go.Sx.SV.sl c m xs) σ r K = Go.Sx.ISN d xs σ r K := rfl
theorem q_slcK_1 (g : Option (Nat × Bool)) (d : Option Nat) (σ : Go.Sx.St) (r : Go.Sx.KT) (K : Go.Sx.RK) (c : Bool) (m : Nat) (xs : List (List Go.Sx.SV)) (k_2 : Go.IntKind) (n : Int) (k_3 : Go.IntKind) (j : Int) : Go.Sx.slcK g (Go.Sx.SV.sl c m xs) (Go.Sx.SV.v (Go.Value.int k_2 n)) (Go.Sx.SV.v (Go.Value.int k_3 j)) d σ r K = Go.Sx.SLC g n j m xs d σ r K := rfl
theorem q_subJ_1 (g : Option (Nat × Bool)) (m : Nat) (xs : List (List Go.Sx.SV)) (d : Option Nat) (σ : Go.Sx.St) (r : Go.Sx.KT) (K : Go.Sx.RK) (i j : Int) : Go.Sx.subJ g m xs (Option.some i) (Option.some j) d σ r K = Go.Sx.SUB g i j m xs d σ r K := rfl
theorem q_subJ_2 (g : Option (Nat × Bool)) (m : Nat) (xs : List (List Go.Sx.SV)) (d : Option Nat) (σ : Go.Sx.St) (r : Go.Sx.KT) (K : Go.Sx.RK) (val : Int) : Go.Sx.subJ g m xs (Option.some val) Option.none d σ r K = False := rfl
theorem q_subJ_3 (g : Option (Nat × Bool)) (m : Nat) (xs : List (List Go.Sx.SV)) (hi : Option Int) (d : Option Nat) (σ : Go.Sx.St) (r : Go.Sx.KT) (K : Go.Sx.RK) : Go.Sx.subJ g m xs Option.none hi d σ r K = False := rfl
theorem q_intO_1 (dflt : Int) (ρ : Go.Sx.X → Go.Sx.SV) : Go.Sx.intO dflt ρ Option.none = Option.some dflt := rfl
theorem q_intO_2 (dflt : Int) (ρ : Go.Sx.X → Go.Sx.SV) (x_1 : Go.Sx.X) : Go.Sx.intO dflt ρ (Option.some x_1) = match ρ x_1 with | Go.Sx.SV.v (Go.Value.int k n) => Option.some n | x => Option.none := rfl
theorem q_sprV_1 (m : Nat) (c : Bool) (m' : Nat) (xs : List (List Go.Sx.SV)) : Go.Sx.sprV m (Go.Sx.SV.sl c m' xs) = Go.Sx.rowB xs (Nat.beq m m') := rfl
theorem q_sprV_2 (m : Nat) : Go.Sx.sprV m (Go.Sx.SV.v (Go.Value.slice Option.none 0 0)) = Option.some [] := rfl
theorem q_alwS_3 (x : Value) (h : Nat → Bool → Nat → Bool → Bool) (j : Nat) (w : Bool) : alwS false (.v x) h j w = false := rfl
theorem q_splice_a (x : SV) (l : List SV) : splice (x :: l) 0 [] = x :: l := rfl
theorem q_splice_b : splice [] 0 [] = [] := rfl
attribute [go_sem] seqK_pan blkK_pan rndK_pan lopK_pan w64_0 w64_1 w64_2 w64_3 w64_4 w64_5 w64_6 e_stO rndK_n rndK_ex rndK_ret rxv_nil rxv_op rxv_hide backK_eq hideK_p hideK_pr hideK_mr hideK_ms rx_nil rx_cons sx_reg sx_regd gs0_nil sx_seq sx_cond sx_ret sx_block sx_loop sx_exit sx_skip sx_scope sx_gh sx_label endK_eq seqK_n seqK_ex seqK_ret blkK_n blkK_ret retK_n retK_ret lopK_n lopK_ex lopK_ret lkB_t lkB_f lkhB_t lkhB_f membB_t membB_f blkE_t blkE_f cellsV_t biniB_t partB_t chkB_t andB_t andB_f e_lk e_lk0 e_lkh e_lkh0 e_memb e_memb0 e_blk e_strip_v e_drop_v e_cvt_v e_vwS_v e_vw0_v e_cells_v e_oneS_v e_strip_p e_drop_p e_cvt_p e_vwS_p e_vw0_p e_cells_p e_oneS_p e_strip_agg e_drop_agg e_cvt_agg e_vwS_agg e_vw0_agg e_cells_agg e_oneS_agg e_strip_sl e_drop_sl e_cvt_sl e_vwS_sl e_vw0_sl e_cells_sl e_oneS_sl e_pmS_0 e_strip_mr e_drop_mr e_cvt_mr e_vwS_mr e_vw0_mr e_cells_mr e_oneS_mr e_strip_pr e_strip_ms e_drop_pr e_drop_ms e_cvt_pr e_cvt_ms e_vwS_pr e_vwS_ms e_vw0_pr e_vw0_ms e_cells_pr e_cells_ms e_oneS_pr e_oneS_ms e_strip_ps e_drop_ps e_cvt_ps e_vwS_ps e_vw0_ps e_cells_ps e_oneS_ps e_strip_cl e_drop_cl e_cvt_cl e_vwS_cl e_vw0_cl e_cells_cl e_oneS_cl e_strip_tup e_drop_tup e_cvt_tup e_vwS_tup e_vw0_tup e_oneS_tup e_strip_q e_drop_q e_cvt_q e_vwS_q e_vw0_q e_cells_q e_oneS_q e_strip_mp e_drop_mp e_cvt_mp e_vwS_mp e_vw0_mp e_cells_mp e_oneS_mp e_strip_yl e_drop_yl e_cells_yl e_oneS_yl e_strip_ifc e_drop_ifc e_cvt_ifc e_vwS_ifc e_vw0_ifc e_cells_ifc e_oneS_ifc e_stp_callm e_stp_calvm e_yld e_exR e_hpM e_sx_rfun e_strip_any e_drop_any e_cvt_any e_vwS_any e_vw0_any e_oneS_any e_drop_gd e_drop0 e_strip_gd0 e_strip_gd e_oneV_bool e_oneV_int e_oneV_string e_oneV_pointer e_oneV_slice e_oneV_nilFunc e_oneV_nilIface e_rdG e_rd_t e_rd_c e_rd_f e_alw e_alw0 e_vw1 e_vw2 e_vw3 e_vw4 e_purge0 e_purge1 e_bini e_uni_not e_uni_neg e_binr_add e_binr_sub e_binr_mul e_binr_eql e_binr_neq e_binr_lss e_binr_leq e_binr_gtr e_binr_geq e_kbeq_i8 e_kbeq_i16 e_kbeq_i32 e_kbeq_i64 e_kbeq_u8 e_kbeq_u16 e_kbeq_u32 e_kbeq_u64 e_addo_p e_nilc_p e_addo_pr e_nilc_pr e_addo_ps e_nilc_ps e_part_t e_part_f e_mmf0 e_mmf_t e_mmf_f e_mm e_bld e_pv_build e_bslC e_allOne e_allOne0 e_pick_o e_pick_a e_pick_f e_rvR e_rvs0 e_rv1_t e_rv1_c e_stp_mv e_stp_pick e_stp_build e_stp_bsl e_stp_ld e_stp_nilc e_stp_bin e_stp_div e_stp_un e_stp_addo e_stp_fld e_stp_idx e_stp_ixa e_stp_ixs e_stp_len e_stp_mm e_stp_call e_stp_calv e_stp_mkf e_stp_conv e_stp_ext e_rvs e_pv_fld e_pv_conv e_pv_ext e_entF0 e_entF e_stp_eqs e_stp_slc e_stp_sub e_stp_app q_bldE_1 q_bldE_2 q_mmE_1 q_mmE_2 q_vwP_1 q_vwN_1 q_vwN_2 q_vwM_1 q_cvtM_1 q_sprH_1 q_sprH_2 q_sprH_3 q_sprH_4 q_sprH_5 q_sprH_6 q_sprH_7 q_sprH_8 q_rowB_1 q_rowB_2 q_rvE_1 q_rvE_2 q_rvE_3 q_rvE_4 q_rvD_1 q_rvD_2 q_rvC_1 q_rvC_2 q_rvH_1 q_rvX_1 q_pvF_1 q_pvC_1 q_pvE_1 q_putB_1 q_putG_1 q_putK_1 q_putK_2 q_putK_3 q_putK_4 q_putO_1 q_putO_2 q_orAny_1 q_orAny_2 q_alwS_1 q_alwS_2 q_sameG_1 q_sameG_2 q_bbq_1 q_bbq_2 q_pickO_1 q_pickA_1 q_bslS_1 q_bslS_2 q_calvK_1 q_ixrB_1 q_ixrB_2 q_ixrK_1 q_ixsB_1 q_ixsB_2 q_ixsK_1 q_ixsK_2 q_ixaK_1 q_idxK_1 q_ldC_1 q_ldB_1 q_ldB_2 q_ldR_1 q_ldK_1 q_ldK_2 q_ldK_3 q_divB_1 q_divB_2 q_divK_1 q_lenB_1 q_lenB_2 q_lenR_1 q_lenK_1 q_lenK_2 q_lenK_3 q_stpV_1 q_stpV_2 q_stpV_3 q_stpV_4 q_stpV_5 q_stpV_6 q_stpV_7 q_stpV_8 q_stpV_9 q_stpV_10 q_stpV_11 q_stpV_12 q_stpV_13 q_stpV_14 q_stpV_15 q_stpV_16 q_stpV_17 q_stpV_18 q_stpV_19 q_stpV_20 q_stpV_21 q_stpV_22 q_stpV_23 q_stpV_24 q_stpV_25 q_stpV_26 q_stpV_27 q_stpV_28 q_stpV_29 q_stpV_30 q_stpV_31 q_stpV_32 q_stpV_33 q_stpV_34 q_stpV_35 q_stpV_36 q_newB_1 q_newK_1 q_cpyPB_1 q_cpyP_1 q_cpyP_2 q_cpyY_1 q_cpyY_2 q_cpyY_3 q_cpyY_4 q_lO_1 q_lO_2 q_cpyH_1 q_cpyK_1 q_cpyK_2 q_sbmJ_1 q_sbmJ_2 q_sbmJ_3 q_sbmB_1 q_sbmB_2 q_sbmH_1 q_subK_1 q_subK_2 q_verB_1 q_verK_1 q_verK_2 q_apmB_1 q_apmB_2 q_apmH_1 q_apmS_1 q_apmK_1 q_apmK_2 q_stCB_1 q_stCB_2 q_stC_1 q_stRB_1 q_stRB_2 q_stR_1 q_stX_1 q_stX_2 q_storeB_1 q_storeK_1 q_stp_1 q_stp_2 q_stp_3 q_stp_4 q_stp_5 q_stp_6 q_stp_7 q_stp_8 q_stp_9 q_stp_10 q_stp_11 q_skipK_1 q_gK_1 q_gK_2 q_st1_1 q_st1_2 q_cndK_1 q_divr_1 q_st0_1 q_mapX_1 q_mapX_2 q_mapS_1 q_mapS_2 q_bslR_1 q_bslR_2 q_cvtL_1 q_cvtL_2 q_lit_1 q_lit_2 q_chk_1 q_chk_2 q_nth_1 q_nth_2 q_nth_3 q_splice_2 q_splice_3 q_bldZ_1 q_bldZ_2 q_bldY_1 q_bldX_1 q_bldX_2 q_spl_1 q_spl_2 q_bldF_1 q_bldF_2 q_enum_1 q_enum_2 q_gdS_1 q_gdS_2 q_gdS_3 q_gdS_4 q_gdS_5 q_gdS_6 q_gdS_7 q_gdS_8 q_gdS_9 q_gdS_10 q_gdS_11 q_gdS_12 q_gdS_13 q_gdS_14 q_gdS_15 q_gdS_16 q_rnS_1 q_rnS_2 q_rnS_3 q_rnS_4 q_rnS_5 q_rnS_6 q_rnS_7 q_rnS_8 q_rnS_9 q_rnS_10 q_rnS_11 q_rnS_12 q_rnS_13 q_rnS_14 q_rnS_15 q_rnS_16 q_rnL_1 q_rnL_2 q_rnH_1 q_rnH_2 q_rnH_3 q_rnH_4 q_rnH_5 q_rnH_6 q_rnH_7 q_rnH_8 q_rnP_1 q_rnP_2 q_goneP_1 q_goneP_2 q_exB_1 q_cmK_1 q_cmK_2 q_calvM_1 q_calvM_2 q_mtI_1 q_mtO_1 q_mtO_2 q_itE_1 q_itE_2 q_itE_3 q_itP_1 q_isLp_1 q_isLb_1 q_pmS_1 q_lenQ_1 q_lenQ_2 q_ltAll_1 q_ltAll_2 q_rfB_1 q_rfB_2 q_rfK_1 q_retF_1 q_retF_2 q_rvKC_1 q_rvKC_2 q_rvsK_1 q_rvsK_2 q_retM_1 q_retM_2 q_retM_3 q_retM_4 q_bdE_1 q_bdE_2 q_bdE_3 q_bdE_4 q_asE_1 q_asE_2 q_asE_3 q_asE_4 q_rho_1 q_rho_2 q_rho_3 q_mtS_1 q_mtS_2 q_mtS_3 q_mtS_4 q_mtS_5 q_mtS_6 q_mtS_7 q_mtS_8 q_mtS_9 q_mtS_10 q_mtS_11 q_mtS_12 q_mtS_13 q_mtS_14 q_mtS_15 q_mtS_16 q_mtL_1 q_mtL_2 q_mtH_1 q_mtH_2 q_mtH_3 q_mtH_4 q_mtH_5 q_mtH_6 q_mtH_7 q_mtH_8 q_mtH_9 q_mtH_10 q_mtH_11 q_mtH_12 q_mtH_13 q_mtH_14 q_mtH_15 q_mtM_1 q_mtM_2 q_mtF_1 q_mtF_2 q_mtP_1 q_mtP_2 q_hpb_1 q_hpb_2 q_eqC_1 q_eqC_2 q_eqC_3 q_eqA_1 q_eqLS_1 q_eqLS_2 q_eqLO_1 q_eqLO_2 q_eqR_1 q_eqR_2 q_ngB_1 q_ngB_2 q_sprS_1 q_sprS_2 q_sprS_3 q_basS_1 q_basS_2 q_appK_1 q_appK_2 q_appK_3 q_aggL_1 q_tupL_1 q_clL_1 q_mtB_1 q_mtB_2 q_newRB_1 q_rowK_1 q_rowK_2 q_clnK_1 q_clnK_2 q_clnK_3 q_clnK_4 q_mksK_1 q_isnK_1 q_slcK_1 q_subJ_1 q_subJ_2 q_subJ_3 q_intO_1 q_intO_2 q_sprV_1 q_sprV_2 q_alwS_3 q_splice_a q_splice_b List.drop List.take List.length List.cons_append List.nil_append Nat.beq Nat.blt Nat.ble Nat.zero_add Nat.add_zero Nat.mul_one Nat.zero_mul Nat.one_mul cond_true cond_false List.set
end Go.Sx
set_option maxRecDepth 100000
namespace Go.Proofs.Ytnlfjchbhgikaaa
open Go Go.Sx
def c3 : SC := (.seq (.reg [
  ⟨some 3, .box (.t 0) 0 25, none, []⟩,
  ⟨some 4, .box (.t 1) 0 27, none, []⟩,
  ⟨some 5, .box (.t 2) 0 29, none, []⟩,
  ⟨some 6, .mv (.c (.bool false)), none, []⟩])
  (.seq (.reg [
  ⟨some 22, .ld (.t 3) 17 true, none, []⟩,
  ⟨some 23, .ld (.t 4) 7 true, none, []⟩,
  ⟨some 24, .call 14 [.t 22, .t 23], none, []⟩,
  ⟨some 21, .mv (.t 24), none, []⟩,
  ⟨some 25, .ext (.t 21) 0, none, []⟩,
  ⟨some 26, .ext (.t 21) 1, none, []⟩,
  ⟨some 7, .alloc [.int .i64 0, .int .i64 0] 23, none, []⟩,
  ⟨none, .st (.t 7) (.t 25) 2, none, []⟩,
  ⟨some 8, .mv (.t 26), none, []⟩])
  (.seq (.reg [
  ⟨some 28, .ld (.t 3) 17 true, none, []⟩,
  ⟨some 29, .ld (.t 4) 7 true, none, []⟩,
  ⟨some 30, .call 15 [.t 28, .t 29], none, []⟩,
  ⟨some 27, .mv (.t 30), none, []⟩,
  ⟨some 31, .ext (.t 27) 0, none, []⟩,
  ⟨some 32, .ext (.t 27) 1, none, []⟩,
  ⟨some 9, .alloc [.int .i64 0, .int .i64 0] 23, none, []⟩,
  ⟨none, .st (.t 9) (.t 31) 2, none, []⟩,
  ⟨some 10, .mv (.t 32), none, []⟩])
  (.seq (.reg [
  ⟨some 34, .ld (.t 3) 17 true, none, []⟩,
  ⟨some 35, .ld (.t 4) 7 true, none, []⟩,
  ⟨some 36, .call 16 [.t 34, .t 35], none, []⟩,
  ⟨some 33, .mv (.t 36), none, []⟩,
  ⟨some 37, .ext (.t 33) 0, none, []⟩,
  ⟨some 38, .ext (.t 33) 1, none, []⟩,
  ⟨some 11, .alloc [.int .i64 0, .int .i64 0] 23, none, []⟩,
  ⟨none, .st (.t 11) (.t 37) 2, none, []⟩,
  ⟨some 12, .mv (.t 38), none, []⟩])
  (.seq (.reg [
  ⟨some 40, .ld (.t 3) 17 true, none, []⟩,
  ⟨some 41, .ld (.t 4) 7 true, none, []⟩,
  ⟨some 42, .call 17 [.t 40, .t 41], none, []⟩,
  ⟨some 39, .mv (.t 42), none, []⟩,
  ⟨some 43, .ext (.t 39) 0, none, []⟩,
  ⟨some 44, .ext (.t 39) 1, none, []⟩,
  ⟨some 13, .alloc [.int .i64 0, .int .i64 0] 23, none, []⟩,
  ⟨none, .st (.t 13) (.t 43) 2, none, []⟩,
  ⟨some 14, .mv (.t 44), none, []⟩])
  (.seq (.reg [
  ⟨some 46, .ld (.t 3) 17 true, none, []⟩,
  ⟨some 47, .addo (.t 4) 6, none, []⟩,
  ⟨some 48, .ld (.t 47) 1 false, none, []⟩,
  ⟨some 49, .ld (.t 5) 8 true, none, []⟩,
  ⟨some 50, .call 18 [.t 46, .t 48, .t 49], none, []⟩,
  ⟨some 45, .mv (.t 50), none, []⟩,
  ⟨some 51, .ext (.t 45) 0, none, []⟩,
  ⟨some 52, .ext (.t 45) 1, none, []⟩,
  ⟨some 53, .ext (.t 45) 2, none, []⟩,
  ⟨some 15, .alloc [.int .i64 0, .int .i64 0] 23, none, []⟩,
  ⟨some 16, .alloc [.int .i64 0, .int .i64 0] 23, none, []⟩,
  ⟨none, .st (.t 15) (.t 51) 2, none, []⟩,
  ⟨none, .st (.t 16) (.t 52) 2, none, []⟩,
  ⟨some 17, .mv (.t 53), none, []⟩])
  (.seq (.reg [
  ⟨some 55, .ld (.t 3) 17 true, none, []⟩,
  ⟨some 56, .addo (.t 4) 6, none, []⟩,
  ⟨some 57, .ld (.t 56) 1 false, none, []⟩,
  ⟨some 58, .ld (.t 5) 8 true, none, []⟩,
  ⟨some 59, .call 19 [.t 55, .t 57, .t 58], none, []⟩,
  ⟨some 54, .mv (.t 59), none, []⟩,
  ⟨some 60, .ext (.t 54) 0, none, []⟩,
  ⟨some 61, .ext (.t 54) 1, none, []⟩,
  ⟨some 62, .ext (.t 54) 2, none, []⟩,
  ⟨some 18, .alloc [.int .i64 0, .int .i64 0] 23, none, []⟩,
  ⟨some 19, .alloc [.int .i64 0, .int .i64 0] 23, none, []⟩,
  ⟨none, .st (.t 18) (.t 60) 2, none, []⟩,
  ⟨none, .st (.t 19) (.t 61) 2, none, []⟩,
  ⟨some 20, .mv (.t 62), none, []⟩])
  (.seq (.regd [0, 1, 2, 3, 4, 5, 6, 7, 8, 9, 10, 11, 12, 13, 14, 15, 16, 17, 18, 19, 20, 21, 22, 23, 24, 25, 26, 27, 28, 29, 30, 31, 32, 33, 34, 35, 36, 37, 38, 39, 40, 41, 42, 43, 44, 45, 46, 47, 48, 49] [
  .op ⟨some 63, .ld (.t 3) 17 true, none, []⟩,
  .op ⟨some 64, .call 20 [.t 63], none, [0]⟩,
  .op ⟨some 65, .ld (.t 3) 17 true, none, []⟩,
  .op ⟨some 66, .call 21 [.t 65], none, [1, 2]⟩,
  .op ⟨some 67, .bin .eql (.t 64) (.t 66), none, [1, 3]⟩,
  .op ⟨some 68, .mv (.t 67), none, [3, 4]⟩,
  .op ⟨some 69, .ld (.t 3) 17 true, some (68, true), [5]⟩,
  .op ⟨some 70, .ld (.t 4) 7 true, some (68, true), [5]⟩,
  .op ⟨some 71, .call 22 [.t 69, .t 70], some (68, true), [5, 6, 7]⟩,
  .op ⟨some 72, .ld (.t 3) 17 true, some (68, true), [5]⟩,
  .op ⟨some 73, .ld (.t 4) 7 true, some (68, true), [5]⟩,
  .op ⟨some 74, .call 23 [.t 72, .t 73], some (68, true), [5, 8, 9, 10]⟩,
  .op ⟨some 75, .bin .eql (.t 71) (.t 74), some (68, true), [5, 8, 11]⟩,
  .op ⟨some 76, .pick (.t 68) (.t 75) (.c (.bool false)), none, [5, 12]⟩,
  .op ⟨some 77, .mv (.t 76), none, [11, 13]⟩,
  .op ⟨some 78, .ld (.t 7) 2 true, some (77, true), [14]⟩,
  .op ⟨some 79, .ld (.t 9) 2 true, some (77, true), [14]⟩,
  .op ⟨some 80, .eqs false true [1, 1] (.t 78) (.t 79), some (77, true), [14, 15, 16]⟩,
  .op ⟨some 81, .pick (.t 77) (.t 80) (.c (.bool false)), none, [14, 17]⟩,
  .op ⟨some 82, .mv (.t 81), none, [14, 18]⟩,
  .op ⟨some 83, .mv (.t 8), some (82, true), [19]⟩,
  .op ⟨some 84, .mv (.t 10), some (82, true), [19]⟩,
  .op ⟨some 85, .bin .eql (.t 83) (.t 84), some (82, true), [19, 20, 21]⟩,
  .op ⟨some 86, .pick (.t 82) (.t 85) (.c (.bool false)), none, [19, 22]⟩,
  .op ⟨some 87, .mv (.t 86), none, [19, 23]⟩,
  .op ⟨some 88, .ld (.t 11) 2 true, some (87, true), [24]⟩,
  .op ⟨some 89, .ld (.t 13) 2 true, some (87, true), [24]⟩,
  .op ⟨some 90, .eqs false true [1, 1] (.t 88) (.t 89), some (87, true), [24, 25, 26]⟩,
  .op ⟨some 91, .pick (.t 87) (.t 90) (.c (.bool false)), none, [24, 27]⟩,
  .op ⟨some 92, .mv (.t 91), none, [24, 28]⟩,
  .op ⟨some 93, .mv (.t 12), some (92, true), [29]⟩,
  .op ⟨some 94, .mv (.t 14), some (92, true), [29]⟩,
  .op ⟨some 95, .bin .eql (.t 93) (.t 94), some (92, true), [29, 30, 31]⟩,
  .op ⟨some 96, .pick (.t 92) (.t 95) (.c (.bool false)), none, [29, 32]⟩,
  .op ⟨some 97, .mv (.t 96), none, [29, 33]⟩,
  .op ⟨some 98, .ld (.t 15) 2 true, some (97, true), [34]⟩,
  .op ⟨some 99, .ld (.t 18) 2 true, some (97, true), [34]⟩,
  .op ⟨some 100, .eqs false true [1, 1] (.t 98) (.t 99), some (97, true), [34, 35, 36]⟩,
  .op ⟨some 101, .pick (.t 97) (.t 100) (.c (.bool false)), none, [34, 37]⟩,
  .op ⟨some 102, .mv (.t 101), none, [34, 38]⟩,
  .op ⟨some 103, .ld (.t 16) 2 true, some (102, true), [39]⟩,
  .op ⟨some 104, .ld (.t 19) 2 true, some (102, true), [39]⟩,
  .op ⟨some 105, .eqs false true [1, 1] (.t 103) (.t 104), some (102, true), [39, 40, 41]⟩,
  .op ⟨some 106, .pick (.t 102) (.t 105) (.c (.bool false)), none, [39, 42]⟩,
  .op ⟨some 107, .mv (.t 106), none, [39, 43]⟩,
  .op ⟨some 108, .mv (.t 17), some (107, true), [44]⟩,
  .op ⟨some 109, .mv (.t 20), some (107, true), [44]⟩,
  .op ⟨some 110, .bin .eql (.t 108) (.t 109), some (107, true), [44, 45, 46]⟩,
  .op ⟨some 111, .pick (.t 107) (.t 110) (.c (.bool false)), none, [44, 47]⟩,
  .op ⟨some 6, .mv (.t 111), none, [0, 1, 2, 3, 4, 5, 6, 7, 8, 9, 10, 11, 12, 13, 14, 15, 16, 17, 18, 19, 20, 21, 22, 23, 24, 25, 26, 27, 28, 29, 30, 31, 32, 33, 34, 35, 36, 37, 38, 39, 40, 41, 42, 43, 44, 45, 46, 47, 48]⟩] 0 0 [
])
  .ret))))))))
def r3 : List RV := [.tmp 6]
theorem n3 : Try.f3.ntmps = 112 := by kernel_rfl
theorem b3 : bodyB Try.prog 3 = true := by kernel_rfl
theorem c3_ok : cmpC Try.prog c3 ((Try.f3.body).getD .skip) = true := by kernel_rfl
theorem r3_ok : cmpR Try.prog r3 Try.f3.results.toList = true := by kernel_rfl
theorem t3 {args : List SV} {res : SV} (ka : KFL args) (kr : KF res) (h : sx Try.prog Y0 0 c3 (st0 args 112) (retK r3 res)) (hA : Nat.ble args.length 112 = true := by rfl) : Ct Try.prog 3 args res := ct_intro Try.func3 rfl b3 c3_ok r3_ok n3 (Nat.le_of_ble_eq_true hA) ka kr h
def c14 : SC := (.seq (.reg [
  ⟨some 2, .box (.t 0) 0 25, none, []⟩,
  ⟨some 3, .box (.t 1) 0 27, none, []⟩,
  ⟨some 4, .alloc [.int .i64 0, .int .i64 0] 23, none, []⟩,
  ⟨some 5, .mv (.c (.int .i64 0)), none, []⟩])
  (.seq (.seq (.reg [
  ⟨some 7, .ld (.t 2) 17 true, none, []⟩,
  ⟨some 8, .ld (.t 3) 7 true, none, []⟩,
  ⟨some 9, .call 22 [.t 7, .t 8], none, []⟩,
  ⟨some 6, .mv (.t 9), none, []⟩])
  (.seq (.reg [
  ⟨some 10, .mv (.t 6), none, []⟩,
  ⟨some 11, .bin .neq (.t 10) (.c (.int .i64 0)), none, []⟩])
  (.cond (.t 11)
  (.seq (.reg [
   ⟨some 12, .build [.int .i64 0, .int .i64 0] [], none, []⟩,
   ⟨some 13, .mv (.t 6), none, []⟩,
   ⟨none, .st (.t 4) (.t 12) 2, none, []⟩,
   ⟨some 5, .mv (.t 13), none, []⟩])
   .ret)
  .skip)))
  (.seq (.reg [
  ⟨some 14, .ld (.t 2) 17 true, none, []⟩,
  ⟨some 15, .ld (.t 3) 7 true, none, []⟩,
  ⟨some 16, .build [.int .i64 0, .int .i64 0, .int .i64 0, .int .i64 0, .int .i64 0, .int .i64 0, .int .i64 0, .int .i64 0, .int .i64 0, .int .i64 0, .int .i64 0, .int .i64 0, .int .i64 0, .int .i64 0, .int .i64 0, .int .i64 0, .int .i64 0, .int .i64 0, .int .i64 0, .int .i64 0, .int .i64 0, .int .i64 0, .int .i64 0, .bool false] [(0, 17, .t 14), (17, 7, .t 15)], none, []⟩,
  ⟨some 17, .call 55 [.t 16], none, []⟩,
  ⟨none, .st (.t 4) (.t 17) 2, none, []⟩,
  ⟨some 5, .mv (.c (.int .i64 0)), none, []⟩])
  .ret)))
def r14 : List RV := [.cell 4 2 true, .tmp 5]
theorem n14 : Try.f14.ntmps = 18 := by kernel_rfl
theorem b14 : bodyB Try.prog 14 = true := by kernel_rfl
theorem c14_ok : cmpC Try.prog c14 ((Try.f14.body).getD .skip) = true := by kernel_rfl
theorem r14_ok : cmpR Try.prog r14 Try.f14.results.toList = true := by kernel_rfl
theorem t14 {args : List SV} {res : SV} (ka : KFL args) (kr : KF res) (h : sx Try.prog Y0 0 c14 (st0 args 18) (retK r14 res)) (hA : Nat.ble args.length 18 = true := by rfl) : Ct Try.prog 14 args res := ct_intro Try.func14 rfl b14 c14_ok r14_ok n14 (Nat.le_of_ble_eq_true hA) ka kr h
def c16 : SC := (.seq (.reg [
  ⟨some 2, .box (.t 0) 0 25, none, []⟩,
  ⟨some 3, .box (.t 1) 0 27, none, []⟩,
  ⟨some 4, .alloc [.int .i64 0, .int .i64 0] 23, none, []⟩,
  ⟨some 5, .mv (.c (.int .i64 0)), none, []⟩])
  (.seq (.seq (.reg [
  ⟨some 7, .ld (.t 2) 17 true, none, []⟩,
  ⟨some 8, .ld (.t 3) 7 true, none, []⟩,
  ⟨some 9, .call 22 [.t 7, .t 8], none, []⟩,
  ⟨some 6, .mv (.t 9), none, []⟩])
  (.seq (.reg [
  ⟨some 10, .mv (.t 6), none, []⟩,
  ⟨some 11, .bin .neq (.t 10) (.c (.int .i64 0)), none, []⟩])
  (.cond (.t 11)
  (.seq (.reg [
   ⟨some 12, .build [.int .i64 0, .int .i64 0] [], none, []⟩,
   ⟨some 13, .mv (.t 6), none, []⟩,
   ⟨none, .st (.t 4) (.t 12) 2, none, []⟩,
   ⟨some 5, .mv (.t 13), none, []⟩])
   .ret)
  .skip)))
  (.seq (.reg [
  ⟨some 14, .ld (.t 2) 17 true, none, []⟩,
  ⟨some 15, .ld (.t 3) 7 true, none, []⟩,
  ⟨some 16, .build [.int .i64 0, .int .i64 0, .int .i64 0, .int .i64 0, .int .i64 0, .int .i64 0, .int .i64 0, .int .i64 0, .int .i64 0, .int .i64 0, .int .i64 0, .int .i64 0, .int .i64 0, .int .i64 0, .int .i64 0, .int .i64 0, .int .i64 0, .int .i64 0, .int .i64 0, .int .i64 0, .int .i64 0, .int .i64 0, .int .i64 0, .bool false] [(0, 17, .t 14), (17, 7, .t 15)], none, []⟩,
  ⟨some 17, .call 57 [.t 16], none, []⟩,
  ⟨none, .st (.t 4) (.t 17) 2, none, []⟩,
  ⟨some 5, .mv (.c (.int .i64 0)), none, []⟩])
  .ret)))
def r16 : List RV := [.cell 4 2 true, .tmp 5]
theorem n16 : Try.f16.ntmps = 18 := by kernel_rfl
theorem b16 : bodyB Try.prog 16 = true := by kernel_rfl
theorem c16_ok : cmpC Try.prog c16 ((Try.f16.body).getD .skip) = true := by kernel_rfl
theorem r16_ok : cmpR Try.prog r16 Try.f16.results.toList = true := by kernel_rfl
theorem t16 {args : List SV} {res : SV} (ka : KFL args) (kr : KF res) (h : sx Try.prog Y0 0 c16 (st0 args 18) (retK r16 res)) (hA : Nat.ble args.length 18 = true := by rfl) : Ct Try.prog 16 args res := ct_intro Try.func16 rfl b16 c16_ok r16_ok n16 (Nat.le_of_ble_eq_true hA) ka kr h
def c18 : SC := (.seq (.reg [
  ⟨some 3, .box (.t 0) 0 25, none, []⟩,
  ⟨some 5, .box (.t 2) 0 29, none, []⟩,
  ⟨some 6, .alloc [.int .i64 0, .int .i64 0] 23, none, []⟩,
  ⟨some 7, .alloc [.int .i64 0, .int .i64 0] 23, none, []⟩,
  ⟨some 8, .mv (.c (.int .i64 0)), none, []⟩])
  (.seq (.seq (.reg [
  ⟨some 12, .ld (.t 3) 17 true, none, []⟩,
  ⟨some 13, .call 20 [.t 12], none, []⟩,
  ⟨some 9, .mv (.t 13), none, []⟩])
  (.seq (.reg [
  ⟨some 14, .mv (.t 9), none, []⟩,
  ⟨some 15, .bin .neq (.t 14) (.c (.int .i64 0)), none, []⟩])
  (.cond (.t 15)
  (.seq (.regd [0, 1, 2, 3, 4, 5] [
   .op ⟨some 16, .ld (.t 6) 2 true, none, []⟩,
   .hide (.t 6),
   .op ⟨some 17, .ld (.t 7) 2 true, none, []⟩,
   .hide (.t 7),
   .op ⟨some 18, .mv (.t 9), none, []⟩] 0 2 [
   ⟨none, .st (.t 6) (.t 16) 2, none, [0]⟩,
   ⟨none, .st (.t 7) (.t 17) 2, none, [0, 1, 3]⟩,
   ⟨some 8, .mv (.t 18), none, [0, 1, 2, 3, 4]⟩])
   .ret)
  .skip)))
  (.seq (.seq (.reg [
  ⟨some 19, .ld (.t 5) 8 true, none, []⟩,
  ⟨some 20, .bsl 8 29 [.t 19], none, []⟩,
  ⟨some 21, .call 59 [.t 20], none, []⟩,
  ⟨some 10, .mv (.t 21), none, []⟩])
  (.seq (.reg [
  ⟨some 22, .mv (.t 10), none, []⟩,
  ⟨some 23, .bin .neq (.t 22) (.c (.int .i64 0)), none, []⟩])
  (.cond (.t 23)
  (.seq (.regd [0, 1, 2, 3, 4, 5] [
   .op ⟨some 24, .ld (.t 6) 2 true, none, []⟩,
   .hide (.t 6),
   .op ⟨some 25, .ld (.t 7) 2 true, none, []⟩,
   .hide (.t 7),
   .op ⟨some 26, .mv (.t 10), none, []⟩] 0 2 [
   ⟨none, .st (.t 6) (.t 24) 2, none, [0]⟩,
   ⟨none, .st (.t 7) (.t 25) 2, none, [0, 1, 3]⟩,
   ⟨some 8, .mv (.t 26), none, [0, 1, 2, 3, 4]⟩])
   .ret)
  .skip)))
  (.seq (.reg [
  ⟨some 27, .ld (.t 3) 17 true, none, []⟩,
  ⟨some 28, .mv (.t 1), none, []⟩,
  ⟨some 29, .ld (.t 5) 8 true, none, []⟩,
  ⟨some 30, .call 60 [.t 27, .t 28, .t 29], none, []⟩,
  ⟨some 11, .alloc [.int .i64 0, .int .i64 0, .int .i64 0, .int .i64 0] 112, none, []⟩,
  ⟨none, .st (.t 11) (.t 30) 4, none, []⟩])
  (.seq (.regd [0, 1, 2, 3, 4, 5, 6] [
  .op ⟨some 31, .ixa (.t 11) (.c (.int .i64 0)) 2 2, none, []⟩,
  .op ⟨some 32, .ld (.t 31) 2 true, none, [0]⟩,
  .hide (.t 6),
  .op ⟨some 33, .ixa (.t 11) (.c (.int .i64 1)) 2 2, none, []⟩,
  .op ⟨some 34, .ld (.t 33) 2 true, none, [2]⟩] 0 2 [
  ⟨none, .st (.t 6) (.t 32) 2, none, [0, 1]⟩,
  ⟨none, .st (.t 7) (.t 34) 2, none, [0, 1, 2, 3, 4]⟩,
  ⟨some 8, .mv (.c (.int .i64 0)), none, [0, 1, 2, 3, 4, 5]⟩])
  .ret)))))
def r18 : List RV := [.cell 6 2 true, .cell 7 2 true, .tmp 8]
theorem n18 : Try.f18.ntmps = 35 := by kernel_rfl
theorem b18 : bodyB Try.prog 18 = true := by kernel_rfl
theorem c18_ok : cmpC Try.prog c18 ((Try.f18.body).getD .skip) = true := by kernel_rfl
theorem r18_ok : cmpR Try.prog r18 Try.f18.results.toList = true := by kernel_rfl
theorem t18 {args : List SV} {res : SV} (ka : KFL args) (kr : KF res) (h : sx Try.prog Y0 0 c18 (st0 args 35) (retK r18 res)) (hA : Nat.ble args.length 35 = true := by rfl) : Ct Try.prog 18 args res := ct_intro Try.func18 rfl b18 c18_ok r18_ok n18 (Nat.le_of_ble_eq_true hA) ka kr h
def c20 : SC := (.seq (.reg [
  ⟨some 1, .box (.t 0) 0 25, none, []⟩,
  ⟨some 2, .mv (.c (.int .i64 0)), none, []⟩])
  (.seq (.seq (.reg [
  ⟨some 3, .addo (.t 1) 0, none, []⟩,
  ⟨some 4, .ld (.t 3) 1 false, none, []⟩,
  ⟨some 5, .addo (.t 1) 1, none, []⟩,
  ⟨some 6, .ld (.t 5) 1 false, none, []⟩,
  ⟨some 7, .bsl 1 3 [.t 4, .t 6], none, []⟩,
  ⟨some 8, .call 64 [.c (.int .i64 1), .c (.int .i64 1000000), .t 7], none, []⟩,
  ⟨some 9, .un .not (.t 8), none, []⟩,
  ⟨some 10, .mv (.t 9), none, []⟩,
  ⟨some 11, .addo (.t 1) 2, some (10, false), []⟩,
  ⟨some 12, .ld (.t 11) 2 true, some (10, false), []⟩,
  ⟨some 13, .addo (.t 1) 4, some (10, false), []⟩,
  ⟨some 14, .ld (.t 13) 2 true, some (10, false), []⟩,
  ⟨some 15, .addo (.t 1) 6, some (10, false), []⟩,
  ⟨some 16, .ld (.t 15) 2 true, some (10, false), []⟩,
  ⟨some 17, .addo (.t 1) 8, some (10, false), []⟩,
  ⟨some 18, .ld (.t 17) 2 true, some (10, false), []⟩,
  ⟨some 19, .addo (.t 1) 10, some (10, false), []⟩,
  ⟨some 20, .ld (.t 19) 2 true, some (10, false), []⟩,
  ⟨some 21, .addo (.t 1) 12, some (10, false), []⟩,
  ⟨some 22, .ld (.t 21) 2 true, some (10, false), []⟩,
  ⟨some 23, .bsl 2 23 [.t 12, .t 14, .t 16, .t 18, .t 20, .t 22], some (10, false), []⟩,
  ⟨some 24, .call 65 [.c (.int .i64 0), .c (.int .i64 100000), .t 23], some (10, false), []⟩,
  ⟨some 25, .un .not (.t 24), some (10, false), []⟩,
  ⟨some 26, .pick (.t 10) (.c (.bool true)) (.t 25), none, []⟩,
  ⟨some 27, .mv (.t 26), none, []⟩,
  ⟨some 28, .addo (.t 1) 15, some (27, false), []⟩,
  ⟨some 29, .ld (.t 28) 2 true, some (27, false), []⟩,
  ⟨some 30, .bsl 2 23 [.t 29], some (27, false), []⟩,
  ⟨some 31, .call 65 [.c (.int .i64 0), .c (.int .i64 1000000), .t 30], some (27, false), []⟩,
  ⟨some 32, .un .not (.t 31), some (27, false), []⟩,
  ⟨some 33, .pick (.t 27) (.c (.bool true)) (.t 32), none, []⟩,
  ⟨some 34, .mv (.t 33), none, []⟩,
  ⟨some 35, .addo (.t 1) 14, some (34, false), []⟩,
  ⟨some 36, .ld (.t 35) 1 false, some (34, false), []⟩,
  ⟨some 37, .bsl 1 3 [.t 36], some (34, false), []⟩,
  ⟨some 38, .call 64 [.c (.int .i64 0), .c (.int .i64 1000), .t 37], some (34, false), []⟩,
  ⟨some 39, .un .not (.t 38), some (34, false), []⟩,
  ⟨some 40, .pick (.t 34) (.c (.bool true)) (.t 39), none, []⟩])
  (.cond (.t 40)
  (.seq (.reg [
   ⟨some 2, .mv (.c (.int .i64 10)), none, []⟩])
   .ret)
  .skip))
  (.seq (.reg [
  ⟨some 2, .mv (.c (.int .i64 0)), none, []⟩])
  .ret)))
def r20 : List RV := [.tmp 2]
theorem n20 : Try.f20.ntmps = 41 := by kernel_rfl
theorem b20 : bodyB Try.prog 20 = true := by kernel_rfl
theorem c20_ok : cmpC Try.prog c20 ((Try.f20.body).getD .skip) = true := by kernel_rfl
theorem r20_ok : cmpR Try.prog r20 Try.f20.results.toList = true := by kernel_rfl
theorem t20 {args : List SV} {res : SV} (ka : KFL args) (kr : KF res) (h : sx Try.prog Y0 0 c20 (st0 args 41) (retK r20 res)) (hA : Nat.ble args.length 41 = true := by rfl) : Ct Try.prog 20 args res := ct_intro Try.func20 rfl b20 c20_ok r20_ok n20 (Nat.le_of_ble_eq_true hA) ka kr h
def c22 : SC := (.seq (.reg [
  ⟨some 2, .box (.t 0) 0 25, none, []⟩,
  ⟨some 3, .box (.t 1) 0 27, none, []⟩,
  ⟨some 4, .mv (.c (.int .i64 0)), none, []⟩])
  (.seq (.seq (.reg [
  ⟨some 6, .ld (.t 2) 17 true, none, []⟩,
  ⟨some 7, .call 20 [.t 6], none, []⟩,
  ⟨some 5, .mv (.t 7), none, []⟩])
  (.seq (.reg [
  ⟨some 8, .mv (.t 5), none, []⟩,
  ⟨some 9, .bin .neq (.t 8) (.c (.int .i64 0)), none, []⟩])
  (.cond (.t 9)
  (.seq (.reg [
   ⟨some 10, .mv (.t 5), none, []⟩,
   ⟨some 4, .mv (.t 10), none, []⟩])
   .ret)
  .skip)))
  (.seq (.seq (.reg [
  ⟨some 11, .addo (.t 2) 0, none, []⟩,
  ⟨some 12, .ld (.t 11) 1 false, none, []⟩,
  ⟨some 13, .addo (.t 3) 0, none, []⟩,
  ⟨some 14, .ld (.t 13) 2 true, none, []⟩,
  ⟨some 15, .bsl 2 23 [.t 14], none, []⟩,
  ⟨some 16, .call 65 [.c (.int .i64 0), .t 12, .t 15], none, []⟩,
  ⟨some 17, .un .not (.t 16), none, []⟩,
  ⟨some 18, .mv (.t 17), none, []⟩,
  ⟨some 19, .addo (.t 2) 1, some (18, false), []⟩,
  ⟨some 20, .ld (.t 19) 1 false, some (18, false), []⟩,
  ⟨some 21, .addo (.t 3) 2, some (18, false), []⟩,
  ⟨some 22, .ld (.t 21) 2 true, some (18, false), []⟩,
  ⟨some 23, .bsl 2 23 [.t 22], some (18, false), []⟩,
  ⟨some 24, .call 65 [.c (.int .i64 0), .t 20, .t 23], some (18, false), []⟩,
  ⟨some 25, .un .not (.t 24), some (18, false), []⟩,
  ⟨some 26, .pick (.t 18) (.c (.bool true)) (.t 25), none, []⟩,
  ⟨some 27, .mv (.t 26), none, []⟩,
  ⟨some 28, .addo (.t 3) 4, some (27, false), []⟩,
  ⟨some 29, .ld (.t 28) 2 true, some (27, false), []⟩,
  ⟨some 30, .bsl 2 23 [.t 29], some (27, false), []⟩,
  ⟨some 31, .call 65 [.c (.int .i64 0), .c (.int .i64 1000), .t 30], some (27, false), []⟩,
  ⟨some 32, .un .not (.t 31), some (27, false), []⟩,
  ⟨some 33, .pick (.t 27) (.c (.bool true)) (.t 32), none, []⟩])
  (.cond (.t 33)
  (.seq (.reg [
   ⟨some 4, .mv (.c (.int .i64 11)), none, []⟩])
   .ret)
  .skip))
  (.seq (.reg [
  ⟨some 4, .mv (.c (.int .i64 0)), none, []⟩])
  .ret))))
def r22 : List RV := [.tmp 4]
theorem n22 : Try.f22.ntmps = 34 := by kernel_rfl
theorem b22 : bodyB Try.prog 22 = true := by kernel_rfl
theorem c22_ok : cmpC Try.prog c22 ((Try.f22.body).getD .skip) = true := by kernel_rfl
theorem r22_ok : cmpR Try.prog r22 Try.f22.results.toList = true := by kernel_rfl
theorem t22 {args : List SV} {res : SV} (ka : KFL args) (kr : KF res) (h : sx Try.prog Y0 0 c22 (st0 args 34) (retK r22 res)) (hA : Nat.ble args.length 34 = true := by rfl) : Ct Try.prog 22 args res := ct_intro Try.func22 rfl b22 c22_ok r22_ok n22 (Nat.le_of_ble_eq_true hA) ka kr h
def c23 : SC := (.seq (.reg [
  ⟨some 2, .box (.t 0) 0 25, none, []⟩,
  ⟨some 3, .box (.t 1) 0 27, none, []⟩,
  ⟨some 4, .mv (.c (.int .i64 0)), none, []⟩])
  (.seq (.seq (.reg [
  ⟨some 5, .ld (.t 2) 17 true, none, []⟩,
  ⟨some 6, .call 61 [.t 5], none, []⟩,
  ⟨some 7, .un .not (.t 6), none, []⟩])
  (.cond (.t 7)
  (.seq (.reg [
   ⟨some 4, .mv (.c (.int .i64 10)), none, []⟩])
   .ret)
  .skip))
  (.seq (.seq (.reg [
  ⟨some 8, .ld (.t 2) 17 true, none, []⟩,
  ⟨some 9, .ld (.t 3) 7 true, none, []⟩,
  ⟨some 10, .call 42 [.t 8, .t 9], none, []⟩,
  ⟨some 11, .un .not (.t 10), none, []⟩])
  (.cond (.t 11)
  (.seq (.reg [
   ⟨some 4, .mv (.c (.int .i64 11)), none, []⟩])
   .ret)
  .skip))
  (.seq (.reg [
  ⟨some 4, .mv (.c (.int .i64 0)), none, []⟩])
  .ret))))
def r23 : List RV := [.tmp 4]
theorem n23 : Try.f23.ntmps = 12 := by kernel_rfl
theorem b23 : bodyB Try.prog 23 = true := by kernel_rfl
theorem c23_ok : cmpC Try.prog c23 ((Try.f23.body).getD .skip) = true := by kernel_rfl
theorem r23_ok : cmpR Try.prog r23 Try.f23.results.toList = true := by kernel_rfl
theorem t23 {args : List SV} {res : SV} (ka : KFL args) (kr : KF res) (h : sx Try.prog Y0 0 c23 (st0 args 12) (retK r23 res)) (hA : Nat.ble args.length 12 = true := by rfl) : Ct Try.prog 23 args res := ct_intro Try.func23 rfl b23 c23_ok r23_ok n23 (Nat.le_of_ble_eq_true hA) ka kr h
def c42 : SC := (.seq (.reg [
  ⟨some 2, .box (.t 0) 0 25, none, []⟩,
  ⟨some 3, .box (.t 1) 0 27, none, []⟩,
  ⟨some 4, .mv (.c (.bool false)), none, []⟩])
  (.seq (.reg [
  ⟨some 5, .addo (.t 3) 0, none, []⟩,
  ⟨some 6, .ld (.t 5) 2 true, none, []⟩,
  ⟨some 7, .addo (.t 2) 0, none, []⟩,
  ⟨some 8, .ld (.t 7) 1 false, none, []⟩,
  ⟨some 9, .call 87 [.t 6, .c (.int .i64 0), .t 8], none, []⟩,
  ⟨some 10, .mv (.t 9), none, []⟩,
  ⟨some 11, .addo (.t 3) 2, some (10, true), []⟩,
  ⟨some 12, .ld (.t 11) 2 true, some (10, true), []⟩,
  ⟨some 13, .addo (.t 2) 1, some (10, true), []⟩,
  ⟨some 14, .ld (.t 13) 1 false, some (10, true), []⟩,
  ⟨some 15, .call 87 [.t 12, .c (.int .i64 0), .t 14], some (10, true), []⟩,
  ⟨some 16, .pick (.t 10) (.t 15) (.c (.bool false)), none, []⟩,
  ⟨some 17, .mv (.t 16), none, []⟩,
  ⟨some 18, .addo (.t 3) 4, some (17, true), []⟩,
  ⟨some 19, .ld (.t 18) 2 true, some (17, true), []⟩,
  ⟨some 20, .call 87 [.t 19, .c (.int .i64 0), .c (.int .i64 1000)], some (17, true), []⟩,
  ⟨some 21, .pick (.t 17) (.t 20) (.c (.bool false)), none, []⟩,
  ⟨some 4, .mv (.t 21), none, []⟩])
  .ret))
def r42 : List RV := [.tmp 4]
theorem n42 : Try.f42.ntmps = 22 := by kernel_rfl
theorem b42 : bodyB Try.prog 42 = true := by kernel_rfl
theorem c42_ok : cmpC Try.prog c42 ((Try.f42.body).getD .skip) = true := by kernel_rfl
theorem r42_ok : cmpR Try.prog r42 Try.f42.results.toList = true := by kernel_rfl
theorem t42 {args : List SV} {res : SV} (ka : KFL args) (kr : KF res) (h : sx Try.prog Y0 0 c42 (st0 args 22) (retK r42 res)) (hA : Nat.ble args.length 22 = true := by rfl) : Ct Try.prog 42 args res := ct_intro Try.func42 rfl b42 c42_ok r42_ok n42 (Nat.le_of_ble_eq_true hA) ka kr h
def c55 : SC := (.seq (.reg [
  ⟨some 1, .box (.t 0) 0 107, none, []⟩,
  ⟨some 2, .alloc [.int .i64 0, .int .i64 0] 23, none, []⟩])
  (.seq (.reg [
  ⟨some 6, .build [.int .i64 0, .int .i64 0] [(0, 1, .c (.int .i64 1000)), (1, 1, .c (.int .i64 1000))], none, []⟩,
  ⟨some 3, .alloc [.int .i64 0, .int .i64 0] 23, none, []⟩,
  ⟨none, .st (.t 3) (.t 6) 2, none, []⟩])
  (.seq (.seq (.regd [0, 1, 2, 3, 4, 5, 6, 7, 8, 9, 10, 11, 12, 13, 14, 15, 16, 17, 18, 19, 20, 21] [
  .op ⟨some 7, .addo (.t 1) 17, none, []⟩,
  .op ⟨some 8, .addo (.t 7) 0, none, [0]⟩,
  .op ⟨some 9, .ld (.t 8) 2 true, none, [1]⟩,
  .op ⟨some 10, .addo (.t 1) 0, none, []⟩,
  .op ⟨some 11, .addo (.t 10) 0, none, [3]⟩,
  .op ⟨some 12, .ld (.t 11) 1 false, none, [4]⟩,
  .op ⟨some 13, .bsl 1 3 [.c (.int .i64 2), .c (.int .i64 1000)], none, []⟩,
  .op ⟨some 14, .call 89 [.t 9, .t 12, .t 13], none, [2, 5, 6]⟩,
  .op ⟨some 15, .addo (.t 1) 17, none, []⟩,
  .op ⟨some 16, .addo (.t 15) 2, none, [8]⟩,
  .op ⟨some 17, .ld (.t 16) 2 true, none, [9]⟩,
  .op ⟨some 18, .addo (.t 1) 0, none, []⟩,
  .op ⟨some 19, .addo (.t 18) 1, none, [11]⟩,
  .op ⟨some 20, .ld (.t 19) 1 false, none, [12]⟩,
  .op ⟨some 21, .bsl 1 3 [.c (.int .i64 2), .c (.int .i64 1000)], none, []⟩,
  .op ⟨some 22, .call 89 [.t 17, .t 20, .t 21], none, [7, 10, 13, 14]⟩,
  .op ⟨some 23, .addo (.t 1) 17, none, []⟩,
  .op ⟨some 24, .addo (.t 23) 4, none, [16]⟩,
  .op ⟨some 25, .ld (.t 24) 2 true, none, [17]⟩,
  .op ⟨some 26, .call 73 [.c (.int .i64 1000), .t 25], none, [15, 18]⟩,
  .op ⟨some 27, .build [.int .i64 0, .int .i64 0, .int .i64 0, .int .i64 0, .int .i64 0, .int .i64 0] [(0, 2, .t 14), (2, 2, .t 22), (4, 2, .t 26)], none, [7, 15, 19]⟩,
  .op ⟨some 28, .mv (.c (.int .i64 0)), none, []⟩] 0 0 [
])
  (.block 0 (.loop (.seq (.reg [
    ⟨some 29, .bin .lss (.t 28) (.c (.int .i64 3)), none, []⟩])
    (.seq (.cond (.t 29)
    .skip
    (.exit 0))
    (.seq (.block 1 (.seq (.reg [
     ⟨some 30, .idx (.t 27) (.t 28) 3 2 true, none, []⟩,
     ⟨some 5, .alloc [.int .i64 0, .int .i64 0] 23, none, []⟩,
     ⟨none, .st (.t 5) (.t 30) 2, none, []⟩])
     (.reg [
     ⟨some 31, .addo (.t 3) 0, none, []⟩,
     ⟨some 32, .ld (.t 31) 1 false, none, []⟩,
     ⟨some 33, .addo (.t 5) 0, none, []⟩,
     ⟨some 34, .ld (.t 33) 1 false, none, []⟩,
     ⟨some 35, .mm false [.t 32, .t 34], none, []⟩,
     ⟨some 36, .addo (.t 3) 1, none, []⟩,
     ⟨some 37, .ld (.t 36) 1 false, none, []⟩,
     ⟨some 38, .addo (.t 5) 1, none, []⟩,
     ⟨some 39, .ld (.t 38) 1 false, none, []⟩,
     ⟨some 40, .mm false [.t 37, .t 39], none, []⟩,
     ⟨some 41, .build [.int .i64 0, .int .i64 0] [(0, 1, .t 35), (1, 1, .t 40)], none, []⟩,
     ⟨none, .st (.t 3) (.t 41) 2, none, []⟩])))
    (.reg [
    ⟨some 42, .bin .add (.t 28) (.c (.int .i64 1)), none, []⟩,
    ⟨some 28, .mv (.t 42), none, []⟩])))))))
  (.seq (.reg [
  ⟨some 43, .ld (.t 3) 2 true, none, []⟩,
  ⟨none, .st (.t 2) (.t 43) 2, none, []⟩])
  .ret))))
def r55 : List RV := [.cell 2 2 true]
theorem n55 : Try.f55.ntmps = 44 := by kernel_rfl
theorem b55 : bodyB Try.prog 55 = true := by kernel_rfl
theorem c55_ok : cmpC Try.prog c55 ((Try.f55.body).getD .skip) = true := by kernel_rfl
theorem r55_ok : cmpR Try.prog r55 Try.f55.results.toList = true := by kernel_rfl
theorem t55 {args : List SV} {res : SV} (ka : KFL args) (kr : KF res) (h : sx Try.prog Y0 0 c55 (st0 args 44) (retK r55 res)) (hA : Nat.ble args.length 44 = true := by rfl) : Ct Try.prog 55 args res := ct_intro Try.func55 rfl b55 c55_ok r55_ok n55 (Nat.le_of_ble_eq_true hA) ka kr h
def c57 : SC := (.seq (.reg [
  ⟨some 1, .box (.t 0) 0 107, none, []⟩,
  ⟨some 2, .alloc [.int .i64 0, .int .i64 0] 23, none, []⟩])
  (.seq (.reg [
  ⟨some 4, .ld (.t 1) 24 true, none, []⟩,
  ⟨some 5, .call 55 [.t 4], none, []⟩,
  ⟨some 3, .alloc [.int .i64 0, .int .i64 0] 23, none, []⟩,
  ⟨none, .st (.t 3) (.t 5) 2, none, []⟩])
  (.seq (.regd [0, 1, 2, 3, 4, 5, 6, 7, 8, 9, 10, 11, 12, 13, 14, 15, 16, 17] [
  .op ⟨some 6, .addo (.t 1) 0, none, []⟩,
  .op ⟨some 7, .addo (.t 6) 15, none, [0]⟩,
  .op ⟨some 8, .addo (.t 7) 0, none, [1]⟩,
  .op ⟨some 9, .ld (.t 8) 1 false, none, [2]⟩,
  .op ⟨some 10, .addo (.t 3) 0, none, []⟩,
  .op ⟨some 11, .ld (.t 10) 1 false, none, [4]⟩,
  .op ⟨some 12, .bin .mul (.t 9) (.t 11), none, [3, 5]⟩,
  .op ⟨some 13, .div .quo (.t 12) (.c (.int .i64 1000)), none, [6]⟩,
  .op ⟨some 14, .addo (.t 1) 0, none, []⟩,
  .op ⟨some 15, .addo (.t 14) 15, none, [8]⟩,
  .op ⟨some 16, .addo (.t 15) 1, none, [9]⟩,
  .op ⟨some 17, .ld (.t 16) 1 false, none, [10]⟩,
  .op ⟨some 18, .addo (.t 3) 1, none, []⟩,
  .op ⟨some 19, .ld (.t 18) 1 false, none, [12]⟩,
  .op ⟨some 20, .bin .mul (.t 17) (.t 19), none, [11, 13]⟩,
  .op ⟨some 21, .call 90 [.t 20, .c (.int .i64 1000)], none, [14]⟩,
  .op ⟨some 22, .build [.int .i64 0, .int .i64 0] [(0, 1, .t 13), (1, 1, .t 21)], none, [7, 15]⟩] 0 1 [
  ⟨none, .st (.t 2) (.t 22) 2, none, [0, 1, 2, 3, 4, 5, 6, 7, 8, 9, 10, 11, 12, 13, 14, 15, 16]⟩])
  .ret)))
def r57 : List RV := [.cell 2 2 true]
theorem n57 : Try.f57.ntmps = 23 := by kernel_rfl
theorem b57 : bodyB Try.prog 57 = true := by kernel_rfl
theorem c57_ok : cmpC Try.prog c57 ((Try.f57.body).getD .skip) = true := by kernel_rfl
theorem r57_ok : cmpR Try.prog r57 Try.f57.results.toList = true := by kernel_rfl
theorem t57 {args : List SV} {res : SV} (ka : KFL args) (kr : KF res) (h : sx Try.prog Y0 0 c57 (st0 args 23) (retK r57 res)) (hA : Nat.ble args.length 23 = true := by rfl) : Ct Try.prog 57 args res := ct_intro Try.func57 rfl b57 c57_ok r57_ok n57 (Nat.le_of_ble_eq_true hA) ka kr h
def c59 : SC := (.seq (.reg [
  ⟨some 2, .mv (.c (.int .i64 0)), none, []⟩])
  (.seq (.seq (.reg [
  ⟨some 5, .mv (.t 0), none, []⟩,
  ⟨some 6, .len (.t 5), none, []⟩,
  ⟨some 7, .mv (.c (.int .i64 0)), none, []⟩])
  (.block 0 (.loop (.seq (.reg [
    ⟨some 8, .bin .lss (.t 7) (.t 6), none, []⟩])
    (.seq (.cond (.t 8)
    .skip
    (.exit 0))
    (.seq (.block 1 (.seq (.reg [
     ⟨some 9, .ixs (.t 5) (.t 7) 8, none, []⟩,
     ⟨some 10, .ld (.t 9) 8 true, none, []⟩,
     ⟨some 4, .alloc [.int .i64 0, .int .i64 0, .int .i64 0, .int .i64 0, .int .i64 0, .int .i64 0, .int .i64 0, .int .i64 0] 29, none, []⟩,
     ⟨none, .st (.t 4) (.t 10) 8, none, []⟩])
     (.seq (.reg [
     ⟨some 11, .addo (.t 4) 0, none, []⟩,
     ⟨some 12, .ld (.t 11) 1 false, none, []⟩,
     ⟨some 13, .bsl 1 3 [.t 12], none, []⟩,
     ⟨some 14, .call 64 [.c (.int .i64 0), .c (.int .i64 24), .t 13], none, []⟩,
     ⟨some 15, .un .not (.t 14), none, []⟩,
     ⟨some 16, .mv (.t 15), none, []⟩,
     ⟨some 17, .addo (.t 4) 1, some (16, false), []⟩,
     ⟨some 18, .ld (.t 17) 1 false, some (16, false), []⟩,
     ⟨some 19, .bsl 1 3 [.t 18], some (16, false), []⟩,
     ⟨some 20, .call 64 [.c (.int .i64 0), .c (.int .i64 1000000), .t 19], some (16, false), []⟩,
     ⟨some 21, .un .not (.t 20), some (16, false), []⟩,
     ⟨some 22, .pick (.t 16) (.c (.bool true)) (.t 21), none, []⟩,
     ⟨some 23, .mv (.t 22), none, []⟩,
     ⟨some 24, .addo (.t 4) 2, some (23, false), []⟩,
     ⟨some 25, .ld (.t 24) 2 true, some (23, false), []⟩,
     ⟨some 26, .bsl 2 23 [.t 25], some (23, false), []⟩,
     ⟨some 27, .call 65 [.c (.int .i64 0), .c (.int .i64 60), .t 26], some (23, false), []⟩,
     ⟨some 28, .un .not (.t 27), some (23, false), []⟩,
     ⟨some 29, .pick (.t 23) (.c (.bool true)) (.t 28), none, []⟩,
     ⟨some 30, .mv (.t 29), none, []⟩,
     ⟨some 31, .addo (.t 4) 4, some (30, false), []⟩,
     ⟨some 32, .ld (.t 31) 2 true, some (30, false), []⟩,
     ⟨some 33, .addo (.t 4) 6, some (30, false), []⟩,
     ⟨some 34, .ld (.t 33) 2 true, some (30, false), []⟩,
     ⟨some 35, .bsl 2 23 [.t 32, .t 34], some (30, false), []⟩,
     ⟨some 36, .call 65 [.c (.int .i64 0), .c (.int .i64 1000000), .t 35], some (30, false), []⟩,
     ⟨some 37, .un .not (.t 36), some (30, false), []⟩,
     ⟨some 38, .pick (.t 30) (.c (.bool true)) (.t 37), none, []⟩])
     (.cond (.t 38)
     (.seq (.reg [
      ⟨some 2, .mv (.c (.int .i64 12)), none, []⟩])
      .ret)
     .skip))))
    (.reg [
    ⟨some 39, .bin .add (.t 7) (.c (.int .i64 1)), none, []⟩,
    ⟨some 7, .mv (.t 39), none, []⟩])))))))
  (.seq (.reg [
  ⟨some 2, .mv (.c (.int .i64 0)), none, []⟩])
  .ret)))
def r59 : List RV := [.tmp 2]
theorem n59 : Try.f59.ntmps = 40 := by kernel_rfl
theorem b59 : bodyB Try.prog 59 = true := by kernel_rfl
theorem c59_ok : cmpC Try.prog c59 ((Try.f59.body).getD .skip) = true := by kernel_rfl
theorem r59_ok : cmpR Try.prog r59 Try.f59.results.toList = true := by kernel_rfl
theorem t59 {args : List SV} {res : SV} (ka : KFL args) (kr : KF res) (h : sx Try.prog Y0 0 c59 (st0 args 40) (retK r59 res)) (hA : Nat.ble args.length 40 = true := by rfl) : Ct Try.prog 59 args res := ct_intro Try.func59 rfl b59 c59_ok r59_ok n59 (Nat.le_of_ble_eq_true hA) ka kr h
def c60 : SC := (.seq (.reg [
  ⟨some 3, .box (.t 0) 0 25, none, []⟩,
  ⟨some 5, .box (.t 2) 0 29, none, []⟩,
  ⟨some 6, .alloc [.int .i64 0, .int .i64 0, .int .i64 0, .int .i64 0] 112, none, []⟩])
  (.seq (.reg [
  ⟨some 10, .addo (.t 5) 2, none, []⟩,
  ⟨some 11, .addo (.t 10) 0, none, []⟩,
  ⟨some 12, .ld (.t 11) 1 false, none, []⟩,
  ⟨some 13, .bin .sub (.t 12) (.c (.int .i64 20)), none, []⟩,
  ⟨some 14, .mm true [.c (.int .i64 0), .t 13], none, []⟩,
  ⟨some 15, .addo (.t 5) 2, none, []⟩,
  ⟨some 16, .addo (.t 15) 1, none, []⟩,
  ⟨some 17, .ld (.t 16) 1 false, none, []⟩,
  ⟨some 18, .bin .sub (.t 17) (.c (.int .i64 20)), none, []⟩,
  ⟨some 19, .mm true [.c (.int .i64 0), .t 18], none, []⟩,
  ⟨some 20, .build [.int .i64 0, .int .i64 0] [(0, 1, .t 14), (1, 1, .t 19)], none, []⟩,
  ⟨some 7, .alloc [.int .i64 0, .int .i64 0] 23, none, []⟩,
  ⟨none, .st (.t 7) (.t 20) 2, none, []⟩])
  (.seq (.reg [
  ⟨some 21, .addo (.t 5) 0, none, []⟩,
  ⟨some 22, .ld (.t 21) 1 false, none, []⟩,
  ⟨some 23, .addo (.t 5) 1, none, []⟩,
  ⟨some 24, .ld (.t 23) 1 false, none, []⟩,
  ⟨some 25, .bin .add (.c (.int .i64 100000)) (.t 24), none, []⟩,
  ⟨some 26, .bin .mul (.t 22) (.t 25), none, []⟩,
  ⟨some 8, .mv (.t 26), none, []⟩])
  (.seq (.regd [0, 1, 2, 3, 4, 5, 6, 7, 8, 9, 10, 11, 12, 13, 14, 15, 16, 17, 18, 19, 20, 21, 22, 23] [
  .op ⟨some 27, .addo (.t 3) 2, none, []⟩,
  .op ⟨some 28, .ld (.t 27) 2 true, none, [0]⟩,
  .op ⟨some 29, .addo (.t 3) 4, none, []⟩,
  .op ⟨some 30, .addo (.t 29) 0, none, [2]⟩,
  .op ⟨some 31, .ld (.t 30) 1 false, none, [3]⟩,
  .op ⟨some 32, .addo (.t 7) 0, none, []⟩,
  .op ⟨some 33, .ld (.t 32) 1 false, none, [5]⟩,
  .op ⟨some 34, .bin .mul (.t 31) (.t 33), none, [4, 6]⟩,
  .op ⟨some 35, .addo (.t 3) 4, none, []⟩,
  .op ⟨some 36, .addo (.t 35) 1, none, [8]⟩,
  .op ⟨some 37, .ld (.t 36) 1 false, none, [9]⟩,
  .op ⟨some 38, .addo (.t 7) 1, none, []⟩,
  .op ⟨some 39, .ld (.t 38) 1 false, none, [11]⟩,
  .op ⟨some 40, .bin .mul (.t 37) (.t 39), none, [10, 12]⟩,
  .op ⟨some 41, .build [.int .i64 0, .int .i64 0] [(0, 1, .t 34), (1, 1, .t 40)], none, [7, 13]⟩,
  .op ⟨some 42, .addo (.t 3) 6, none, []⟩,
  .op ⟨some 43, .ld (.t 42) 2 true, none, [15]⟩,
  .op ⟨some 44, .mv (.t 8), none, []⟩,
  .op ⟨some 45, .bsl 1 3 [.t 44], none, [17]⟩,
  .op ⟨some 46, .call 89 [.t 43, .c (.int .i64 100000), .t 45], none, [16, 18]⟩,
  .op ⟨some 47, .bsl 2 23 [.t 28, .t 41, .t 46], none, [1, 14, 19]⟩,
  .op ⟨some 48, .call 72 [.t 47], none, [19, 20]⟩] 1 1 [
  ⟨some 9, .alloc [.int .i64 0, .int .i64 0] 23, none, []⟩,
  ⟨none, .st (.t 9) (.t 48) 2, none, [0, 1, 2, 3, 4, 5, 6, 7, 8, 9, 10, 11, 12, 13, 14, 15, 16, 17, 18, 19, 20, 21, 22]⟩])
  (.seq (.seq (.reg [
  ⟨some 49, .mv (.t 1), none, []⟩])
  (.cond (.t 49)
  (.reg [
   ⟨some 50, .ld (.t 9) 2 true, none, []⟩,
   ⟨some 51, .addo (.t 3) 12, none, []⟩,
   ⟨some 52, .ld (.t 51) 2 true, none, []⟩,
   ⟨some 53, .bsl 2 23 [.t 50, .t 52], none, []⟩,
   ⟨some 54, .call 72 [.t 53], none, []⟩,
   ⟨none, .st (.t 9) (.t 54) 2, none, []⟩])
  .skip))
  (.seq (.regd [0, 1, 2, 3, 4, 5, 6, 7] [
  .op ⟨some 55, .ld (.t 9) 2 true, none, []⟩,
  .op ⟨some 56, .addo (.t 3) 8, none, []⟩,
  .op ⟨some 57, .ld (.t 56) 2 true, none, [1]⟩,
  .op ⟨some 58, .mv (.t 8), none, []⟩,
  .op ⟨some 59, .bsl 1 3 [.t 58], none, [3]⟩,
  .op ⟨some 60, .call 89 [.t 57, .c (.int .i64 100000), .t 59], none, [2, 4]⟩,
  .op ⟨some 61, .build [.int .i64 0, .int .i64 0, .int .i64 0, .int .i64 0] [(0, 2, .t 55), (2, 2, .t 60)], none, [0, 5]⟩] 0 1 [
  ⟨none, .st (.t 6) (.t 61) 4, none, [0, 1, 2, 3, 4, 5, 6]⟩])
  .ret))))))
def r60 : List RV := [.cell 6 4 true]
theorem n60 : Try.f60.ntmps = 62 := by kernel_rfl
theorem b60 : bodyB Try.prog 60 = true := by kernel_rfl
theorem c60_ok : cmpC Try.prog c60 ((Try.f60.body).getD .skip) = true := by kernel_rfl
theorem r60_ok : cmpR Try.prog r60 Try.f60.results.toList = true := by kernel_rfl
theorem t60 {args : List SV} {res : SV} (ka : KFL args) (kr : KF res) (h : sx Try.prog Y0 0 c60 (st0 args 62) (retK r60 res)) (hA : Nat.ble args.length 62 = true := by rfl) : Ct Try.prog 60 args res := ct_intro Try.func60 rfl b60 c60_ok r60_ok n60 (Nat.le_of_ble_eq_true hA) ka kr h
def c61 : SC := (.seq (.reg [
  ⟨some 1, .box (.t 0) 0 25, none, []⟩,
  ⟨some 2, .mv (.c (.bool false)), none, []⟩])
  (.seq (.seq (.reg [
  ⟨some 3, .addo (.t 1) 0, none, []⟩,
  ⟨some 4, .ld (.t 3) 1 false, none, []⟩,
  ⟨some 5, .call 88 [.t 4, .c (.int .i64 1), .c (.int .i64 1000000)], none, []⟩,
  ⟨some 6, .un .not (.t 5), none, []⟩,
  ⟨some 7, .mv (.t 6), none, []⟩,
  ⟨some 8, .addo (.t 1) 1, some (7, false), []⟩,
  ⟨some 9, .ld (.t 8) 1 false, some (7, false), []⟩,
  ⟨some 10, .call 88 [.t 9, .c (.int .i64 1), .c (.int .i64 1000000)], some (7, false), []⟩,
  ⟨some 11, .un .not (.t 10), some (7, false), []⟩,
  ⟨some 12, .pick (.t 7) (.c (.bool true)) (.t 11), none, []⟩,
  ⟨some 13, .mv (.t 12), none, []⟩,
  ⟨some 14, .addo (.t 1) 14, some (13, false), []⟩,
  ⟨some 15, .ld (.t 14) 1 false, some (13, false), []⟩,
  ⟨some 16, .call 88 [.t 15, .c (.int .i64 0), .c (.int .i64 1000)], some (13, false), []⟩,
  ⟨some 17, .un .not (.t 16), some (13, false), []⟩,
  ⟨some 18, .pick (.t 13) (.c (.bool true)) (.t 17), none, []⟩,
  ⟨some 19, .mv (.t 18), none, []⟩,
  ⟨some 20, .addo (.t 1) 15, some (19, false), []⟩,
  ⟨some 21, .ld (.t 20) 2 true, some (19, false), []⟩,
  ⟨some 22, .call 87 [.t 21, .c (.int .i64 0), .c (.int .i64 1000000)], some (19, false), []⟩,
  ⟨some 23, .un .not (.t 22), some (19, false), []⟩,
  ⟨some 24, .pick (.t 19) (.c (.bool true)) (.t 23), none, []⟩])
  (.cond (.t 24)
  (.seq (.reg [
   ⟨some 2, .mv (.c (.bool false)), none, []⟩])
   .ret)
  .skip))
  (.seq (.reg [
  ⟨some 25, .addo (.t 1) 2, none, []⟩,
  ⟨some 26, .ld (.t 25) 2 true, none, []⟩,
  ⟨some 27, .call 87 [.t 26, .c (.int .i64 0), .c (.int .i64 100000)], none, []⟩,
  ⟨some 28, .mv (.t 27), none, []⟩,
  ⟨some 29, .addo (.t 1) 4, some (28, true), []⟩,
  ⟨some 30, .ld (.t 29) 2 true, some (28, true), []⟩,
  ⟨some 31, .call 87 [.t 30, .c (.int .i64 0), .c (.int .i64 100000)], some (28, true), []⟩,
  ⟨some 32, .pick (.t 28) (.t 31) (.c (.bool false)), none, []⟩,
  ⟨some 33, .mv (.t 32), none, []⟩,
  ⟨some 34, .addo (.t 1) 6, some (33, true), []⟩,
  ⟨some 35, .ld (.t 34) 2 true, some (33, true), []⟩,
  ⟨some 36, .call 87 [.t 35, .c (.int .i64 0), .c (.int .i64 100000)], some (33, true), []⟩,
  ⟨some 37, .pick (.t 33) (.t 36) (.c (.bool false)), none, []⟩,
  ⟨some 38, .mv (.t 37), none, []⟩,
  ⟨some 39, .addo (.t 1) 8, some (38, true), []⟩,
  ⟨some 40, .ld (.t 39) 2 true, some (38, true), []⟩,
  ⟨some 41, .call 87 [.t 40, .c (.int .i64 0), .c (.int .i64 100000)], some (38, true), []⟩,
  ⟨some 42, .pick (.t 38) (.t 41) (.c (.bool false)), none, []⟩,
  ⟨some 43, .mv (.t 42), none, []⟩,
  ⟨some 44, .addo (.t 1) 10, some (43, true), []⟩,
  ⟨some 45, .ld (.t 44) 2 true, some (43, true), []⟩,
  ⟨some 46, .call 87 [.t 45, .c (.int .i64 0), .c (.int .i64 100000)], some (43, true), []⟩,
  ⟨some 47, .pick (.t 43) (.t 46) (.c (.bool false)), none, []⟩,
  ⟨some 48, .mv (.t 47), none, []⟩,
  ⟨some 49, .addo (.t 1) 12, some (48, true), []⟩,
  ⟨some 50, .ld (.t 49) 2 true, some (48, true), []⟩,
  ⟨some 51, .call 87 [.t 50, .c (.int .i64 0), .c (.int .i64 100000)], some (48, true), []⟩,
  ⟨some 52, .pick (.t 48) (.t 51) (.c (.bool false)), none, []⟩,
  ⟨some 2, .mv (.t 52), none, []⟩])
  .ret)))
def r61 : List RV := [.tmp 2]
theorem n61 : Try.f61.ntmps = 53 := by kernel_rfl
theorem b61 : bodyB Try.prog 61 = true := by kernel_rfl
theorem c61_ok : cmpC Try.prog c61 ((Try.f61.body).getD .skip) = true := by kernel_rfl
theorem r61_ok : cmpR Try.prog r61 Try.f61.results.toList = true := by kernel_rfl
theorem t61 {args : List SV} {res : SV} (ka : KFL args) (kr : KF res) (h : sx Try.prog Y0 0 c61 (st0 args 53) (retK r61 res)) (hA : Nat.ble args.length 53 = true := by rfl) : Ct Try.prog 61 args res := ct_intro Try.func61 rfl b61 c61_ok r61_ok n61 (Nat.le_of_ble_eq_true hA) ka kr h
def c62 : SC := (.seq (.reg [
  ⟨some 1, .box (.t 0) 0 29, none, []⟩,
  ⟨some 2, .mv (.c (.bool false)), none, []⟩])
  (.seq (.reg [
  ⟨some 3, .addo (.t 1) 0, none, []⟩,
  ⟨some 4, .ld (.t 3) 1 false, none, []⟩,
  ⟨some 5, .call 88 [.t 4, .c (.int .i64 0), .c (.int .i64 24)], none, []⟩,
  ⟨some 6, .mv (.t 5), none, []⟩,
  ⟨some 7, .addo (.t 1) 1, some (6, true), []⟩,
  ⟨some 8, .ld (.t 7) 1 false, some (6, true), []⟩,
  ⟨some 9, .call 88 [.t 8, .c (.int .i64 0), .c (.int .i64 1000000)], some (6, true), []⟩,
  ⟨some 10, .pick (.t 6) (.t 9) (.c (.bool false)), none, []⟩,
  ⟨some 11, .mv (.t 10), none, []⟩,
  ⟨some 12, .addo (.t 1) 2, some (11, true), []⟩,
  ⟨some 13, .ld (.t 12) 2 true, some (11, true), []⟩,
  ⟨some 14, .call 87 [.t 13, .c (.int .i64 0), .c (.int .i64 60)], some (11, true), []⟩,
  ⟨some 15, .pick (.t 11) (.t 14) (.c (.bool false)), none, []⟩,
  ⟨some 16, .mv (.t 15), none, []⟩,
  ⟨some 17, .addo (.t 1) 4, some (16, true), []⟩,
  ⟨some 18, .ld (.t 17) 2 true, some (16, true), []⟩,
  ⟨some 19, .call 87 [.t 18, .c (.int .i64 0), .c (.int .i64 1000000)], some (16, true), []⟩,
  ⟨some 20, .pick (.t 16) (.t 19) (.c (.bool false)), none, []⟩,
  ⟨some 21, .mv (.t 20), none, []⟩,
  ⟨some 22, .addo (.t 1) 6, some (21, true), []⟩,
  ⟨some 23, .ld (.t 22) 2 true, some (21, true), []⟩,
  ⟨some 24, .call 87 [.t 23, .c (.int .i64 0), .c (.int .i64 1000000)], some (21, true), []⟩,
  ⟨some 25, .pick (.t 21) (.t 24) (.c (.bool false)), none, []⟩,
  ⟨some 2, .mv (.t 25), none, []⟩])
  .ret))
def r62 : List RV := [.tmp 2]
theorem n62 : Try.f62.ntmps = 26 := by kernel_rfl
theorem b62 : bodyB Try.prog 62 = true := by kernel_rfl
theorem c62_ok : cmpC Try.prog c62 ((Try.f62.body).getD .skip) = true := by kernel_rfl
theorem r62_ok : cmpR Try.prog r62 Try.f62.results.toList = true := by kernel_rfl
theorem t62 {args : List SV} {res : SV} (ka : KFL args) (kr : KF res) (h : sx Try.prog Y0 0 c62 (st0 args 26) (retK r62 res)) (hA : Nat.ble args.length 26 = true := by rfl) : Ct Try.prog 62 args res := ct_intro Try.func62 rfl b62 c62_ok r62_ok n62 (Nat.le_of_ble_eq_true hA) ka kr h
def c64 : SC := (.seq (.reg [
  ⟨some 3, .box (.t 0) 0 3, none, []⟩,
  ⟨some 4, .box (.t 1) 0 3, none, []⟩,
  ⟨some 6, .mv (.c (.bool false)), none, []⟩])
  (.seq (.reg [
  ⟨some 7, .mv (.t 2), none, []⟩,
  ⟨some 8, .mkf 92 [.t 3, .t 4], none, []⟩,
  ⟨some 9, .call 91 [.t 7, .t 8], none, []⟩,
  ⟨some 10, .un .not (.t 9), none, []⟩,
  ⟨some 6, .mv (.t 10), none, []⟩])
  .ret))
def r64 : List RV := [.tmp 6]
theorem n64 : Try.f64.ntmps = 11 := by kernel_rfl
theorem b64 : bodyB Try.prog 64 = true := by kernel_rfl
theorem c64_ok : cmpC Try.prog c64 ((Try.f64.body).getD .skip) = true := by kernel_rfl
theorem r64_ok : cmpR Try.prog r64 Try.f64.results.toList = true := by kernel_rfl
theorem t64 {args : List SV} {res : SV} (ka : KFL args) (kr : KF res) (h : sx Try.prog Y0 0 c64 (st0 args 11) (retK r64 res)) (hA : Nat.ble args.length 11 = true := by rfl) : Ct Try.prog 64 args res := ct_intro Try.func64 rfl b64 c64_ok r64_ok n64 (Nat.le_of_ble_eq_true hA) ka kr h
def c65 : SC := (.seq (.reg [
  ⟨some 3, .box (.t 0) 0 3, none, []⟩,
  ⟨some 4, .box (.t 1) 0 3, none, []⟩,
  ⟨some 6, .mv (.c (.bool false)), none, []⟩])
  (.seq (.reg [
  ⟨some 7, .mv (.t 2), none, []⟩,
  ⟨some 8, .mkf 94 [.t 3, .t 4], none, []⟩,
  ⟨some 9, .call 93 [.t 7, .t 8], none, []⟩,
  ⟨some 10, .un .not (.t 9), none, []⟩,
  ⟨some 6, .mv (.t 10), none, []⟩])
  .ret))
def r65 : List RV := [.tmp 6]
theorem n65 : Try.f65.ntmps = 11 := by kernel_rfl
theorem b65 : bodyB Try.prog 65 = true := by kernel_rfl
theorem c65_ok : cmpC Try.prog c65 ((Try.f65.body).getD .skip) = true := by kernel_rfl
theorem r65_ok : cmpR Try.prog r65 Try.f65.results.toList = true := by kernel_rfl
theorem t65 {args : List SV} {res : SV} (ka : KFL args) (kr : KF res) (h : sx Try.prog Y0 0 c65 (st0 args 11) (retK r65 res)) (hA : Nat.ble args.length 11 = true := by rfl) : Ct Try.prog 65 args res := ct_intro Try.func65 rfl b65 c65_ok r65_ok n65 (Nat.le_of_ble_eq_true hA) ka kr h
def c72 : SC := (.seq (.reg [
  ⟨some 2, .alloc [.int .i64 0, .int .i64 0] 23, none, []⟩])
  (.seq (.reg [
  ⟨some 3, .alloc [.int .i64 0, .int .i64 0] 23, none, []⟩])
  (.seq (.seq (.reg [
  ⟨some 6, .mv (.t 0), none, []⟩,
  ⟨some 7, .len (.t 6), none, []⟩,
  ⟨some 8, .mv (.c (.int .i64 0)), none, []⟩])
  (.block 0 (.loop (.seq (.reg [
    ⟨some 9, .bin .lss (.t 8) (.t 7), none, []⟩])
    (.seq (.cond (.t 9)
    .skip
    (.exit 0))
    (.seq (.block 1 (.seq (.reg [
     ⟨some 10, .ixs (.t 6) (.t 8) 2, none, []⟩,
     ⟨some 11, .ld (.t 10) 2 true, none, []⟩,
     ⟨some 5, .alloc [.int .i64 0, .int .i64 0] 23, none, []⟩,
     ⟨none, .st (.t 5) (.t 11) 2, none, []⟩])
     (.reg [
     ⟨some 12, .addo (.t 3) 0, none, []⟩,
     ⟨some 13, .ld (.t 12) 1 false, none, []⟩,
     ⟨some 14, .addo (.t 5) 0, none, []⟩,
     ⟨some 15, .ld (.t 14) 1 false, none, []⟩,
     ⟨some 16, .bin .add (.t 13) (.t 15), none, []⟩,
     ⟨some 17, .addo (.t 3) 1, none, []⟩,
     ⟨some 18, .ld (.t 17) 1 false, none, []⟩,
     ⟨some 19, .addo (.t 5) 1, none, []⟩,
     ⟨some 20, .ld (.t 19) 1 false, none, []⟩,
     ⟨some 21, .bin .add (.t 18) (.t 20), none, []⟩,
     ⟨some 22, .build [.int .i64 0, .int .i64 0] [(0, 1, .t 16), (1, 1, .t 21)], none, []⟩,
     ⟨none, .st (.t 3) (.t 22) 2, none, []⟩])))
    (.reg [
    ⟨some 23, .bin .add (.t 8) (.c (.int .i64 1)), none, []⟩,
    ⟨some 8, .mv (.t 23), none, []⟩])))))))
  (.seq (.reg [
  ⟨some 24, .ld (.t 3) 2 true, none, []⟩,
  ⟨none, .st (.t 2) (.t 24) 2, none, []⟩])
  .ret))))
def r72 : List RV := [.cell 2 2 true]
theorem n72 : Try.f72.ntmps = 25 := by kernel_rfl
theorem b72 : bodyB Try.prog 72 = true := by kernel_rfl
theorem c72_ok : cmpC Try.prog c72 ((Try.f72.body).getD .skip) = true := by kernel_rfl
theorem r72_ok : cmpR Try.prog r72 Try.f72.results.toList = true := by kernel_rfl
theorem t72 {args : List SV} {res : SV} (ka : KFL args) (kr : KF res) (h : sx Try.prog Y0 0 c72 (st0 args 25) (retK r72 res)) (hA : Nat.ble args.length 25 = true := by rfl) : Ct Try.prog 72 args res := ct_intro Try.func72 rfl b72 c72_ok r72_ok n72 (Nat.le_of_ble_eq_true hA) ka kr h
def c73 : SC := (.seq (.reg [
  ⟨some 3, .box (.t 1) 0 23, none, []⟩,
  ⟨some 4, .alloc [.int .i64 0, .int .i64 0] 23, none, []⟩])
  (.seq (.reg [
  ⟨some 5, .mv (.t 0), none, []⟩,
  ⟨some 6, .addo (.t 3) 1, none, []⟩,
  ⟨some 7, .ld (.t 6) 1 false, none, []⟩,
  ⟨some 8, .bin .sub (.t 5) (.t 7), none, []⟩,
  ⟨some 9, .mv (.t 0), none, []⟩,
  ⟨some 10, .addo (.t 3) 0, none, []⟩,
  ⟨some 11, .ld (.t 10) 1 false, none, []⟩,
  ⟨some 12, .bin .sub (.t 9) (.t 11), none, []⟩,
  ⟨some 13, .build [.int .i64 0, .int .i64 0] [(0, 1, .t 8), (1, 1, .t 12)], none, []⟩,
  ⟨none, .st (.t 4) (.t 13) 2, none, []⟩])
  .ret))
def r73 : List RV := [.cell 4 2 true]
theorem n73 : Try.f73.ntmps = 14 := by kernel_rfl
theorem b73 : bodyB Try.prog 73 = true := by kernel_rfl
theorem c73_ok : cmpC Try.prog c73 ((Try.f73.body).getD .skip) = true := by kernel_rfl
theorem r73_ok : cmpR Try.prog r73 Try.f73.results.toList = true := by kernel_rfl
theorem t73 {args : List SV} {res : SV} (ka : KFL args) (kr : KF res) (h : sx Try.prog Y0 0 c73 (st0 args 14) (retK r73 res)) (hA : Nat.ble args.length 14 = true := by rfl) : Ct Try.prog 73 args res := ct_intro Try.func73 rfl b73 c73_ok r73_ok n73 (Nat.le_of_ble_eq_true hA) ka kr h
def c87 : SC := (.seq (.reg [
  ⟨some 3, .box (.t 0) 0 23, none, []⟩,
  ⟨some 6, .mv (.c (.bool false)), none, []⟩])
  (.seq (.reg [
  ⟨some 7, .addo (.t 3) 0, none, []⟩,
  ⟨some 8, .ld (.t 7) 1 false, none, []⟩,
  ⟨some 9, .mv (.t 1), none, []⟩,
  ⟨some 10, .addo (.t 3) 1, none, []⟩,
  ⟨some 11, .ld (.t 10) 1 false, none, []⟩,
  ⟨some 12, .call 88 [.t 8, .t 9, .t 11], none, []⟩,
  ⟨some 13, .mv (.t 12), none, []⟩,
  ⟨some 14, .addo (.t 3) 1, some (13, true), []⟩,
  ⟨some 15, .ld (.t 14) 1 false, some (13, true), []⟩,
  ⟨some 16, .mv (.t 2), some (13, true), []⟩,
  ⟨some 17, .bin .leq (.t 15) (.t 16), some (13, true), []⟩,
  ⟨some 18, .pick (.t 13) (.t 17) (.c (.bool false)), none, []⟩,
  ⟨some 6, .mv (.t 18), none, []⟩])
  .ret))
def r87 : List RV := [.tmp 6]
theorem n87 : Try.f87.ntmps = 19 := by kernel_rfl
theorem b87 : bodyB Try.prog 87 = true := by kernel_rfl
theorem c87_ok : cmpC Try.prog c87 ((Try.f87.body).getD .skip) = true := by kernel_rfl
theorem r87_ok : cmpR Try.prog r87 Try.f87.results.toList = true := by kernel_rfl
theorem t87 {args : List SV} {res : SV} (ka : KFL args) (kr : KF res) (h : sx Try.prog Y0 0 c87 (st0 args 19) (retK r87 res)) (hA : Nat.ble args.length 19 = true := by rfl) : Ct Try.prog 87 args res := ct_intro Try.func87 rfl b87 c87_ok r87_ok n87 (Nat.le_of_ble_eq_true hA) ka kr h
def c88 : SC := (.seq (.reg [
  ⟨some 6, .mv (.c (.bool false)), none, []⟩])
  (.seq (.reg [
  ⟨some 7, .mv (.t 0), none, []⟩,
  ⟨some 8, .mv (.t 1), none, []⟩,
  ⟨some 9, .bin .geq (.t 7) (.t 8), none, []⟩,
  ⟨some 10, .mv (.t 9), none, []⟩,
  ⟨some 11, .mv (.t 0), some (10, true), []⟩,
  ⟨some 12, .mv (.t 2), some (10, true), []⟩,
  ⟨some 13, .bin .leq (.t 11) (.t 12), some (10, true), []⟩,
  ⟨some 14, .pick (.t 10) (.t 13) (.c (.bool false)), none, []⟩,
  ⟨some 6, .mv (.t 14), none, []⟩])
  .ret))
def r88 : List RV := [.tmp 6]
theorem n88 : Try.f88.ntmps = 15 := by kernel_rfl
theorem b88 : bodyB Try.prog 88 = true := by kernel_rfl
theorem c88_ok : cmpC Try.prog c88 ((Try.f88.body).getD .skip) = true := by kernel_rfl
theorem r88_ok : cmpR Try.prog r88 Try.f88.results.toList = true := by kernel_rfl
theorem t88 {args : List SV} {res : SV} (ka : KFL args) (kr : KF res) (h : sx Try.prog Y0 0 c88 (st0 args 15) (retK r88 res)) (hA : Nat.ble args.length 15 = true := by rfl) : Ct Try.prog 88 args res := ct_intro Try.func88 rfl b88 c88_ok r88_ok n88 (Nat.le_of_ble_eq_true hA) ka kr h
def c89 : SC := (.seq (.reg [
  ⟨some 3, .box (.t 0) 0 23, none, []⟩,
  ⟨some 6, .alloc [.int .i64 0, .int .i64 0] 23, none, []⟩])
  (.seq (.seq (.reg [
  ⟨some 9, .mv (.t 2), none, []⟩,
  ⟨some 10, .len (.t 9), none, []⟩,
  ⟨some 11, .mv (.c (.int .i64 0)), none, []⟩])
  (.block 0 (.loop (.seq (.reg [
    ⟨some 12, .bin .lss (.t 11) (.t 10), none, []⟩])
    (.seq (.cond (.t 12)
    .skip
    (.exit 0))
    (.seq (.block 1 (.seq (.reg [
     ⟨some 13, .ixs (.t 9) (.t 11) 1, none, []⟩,
     ⟨some 14, .ld (.t 13) 1 false, none, []⟩,
     ⟨some 8, .mv (.t 14), none, []⟩])
     (.reg [
     ⟨some 15, .addo (.t 3) 0, none, []⟩,
     ⟨some 16, .ld (.t 15) 1 false, none, []⟩,
     ⟨some 17, .mv (.t 8), none, []⟩,
     ⟨some 18, .bin .mul (.t 16) (.t 17), none, []⟩,
     ⟨some 19, .addo (.t 3) 1, none, []⟩,
     ⟨some 20, .ld (.t 19) 1 false, none, []⟩,
     ⟨some 21, .mv (.t 8), none, []⟩,
     ⟨some 22, .bin .mul (.t 20) (.t 21), none, []⟩,
     ⟨some 23, .addo (.t 3) 0, none, []⟩,
     ⟨none, .st (.t 23) (.t 18) 1, none, []⟩,
     ⟨some 24, .addo (.t 3) 1, none, []⟩,
     ⟨none, .st (.t 24) (.t 22) 1, none, []⟩])))
    (.reg [
    ⟨some 25, .bin .add (.t 11) (.c (.int .i64 1)), none, []⟩,
    ⟨some 11, .mv (.t 25), none, []⟩])))))))
  (.seq (.regd [0, 1, 2, 3, 4, 5, 6, 7, 8, 9] [
  .op ⟨some 26, .addo (.t 3) 0, none, []⟩,
  .op ⟨some 27, .ld (.t 26) 1 false, none, [0]⟩,
  .op ⟨some 28, .mv (.t 1), none, []⟩,
  .op ⟨some 29, .div .quo (.t 27) (.t 28), none, [1, 2]⟩,
  .op ⟨some 30, .addo (.t 3) 1, none, []⟩,
  .op ⟨some 31, .ld (.t 30) 1 false, none, [4]⟩,
  .op ⟨some 32, .mv (.t 1), none, []⟩,
  .op ⟨some 33, .call 90 [.t 31, .t 32], none, [5, 6]⟩,
  .op ⟨some 34, .build [.int .i64 0, .int .i64 0] [(0, 1, .t 29), (1, 1, .t 33)], none, [3, 7]⟩] 0 1 [
  ⟨none, .st (.t 6) (.t 34) 2, none, [0, 1, 2, 3, 4, 5, 6, 7, 8]⟩])
  .ret)))
def r89 : List RV := [.cell 6 2 true]
theorem n89 : Try.f89.ntmps = 35 := by kernel_rfl
theorem b89 : bodyB Try.prog 89 = true := by kernel_rfl
theorem c89_ok : cmpC Try.prog c89 ((Try.f89.body).getD .skip) = true := by kernel_rfl
theorem r89_ok : cmpR Try.prog r89 Try.f89.results.toList = true := by kernel_rfl
theorem t89 {args : List SV} {res : SV} (ka : KFL args) (kr : KF res) (h : sx Try.prog Y0 0 c89 (st0 args 35) (retK r89 res)) (hA : Nat.ble args.length 35 = true := by rfl) : Ct Try.prog 89 args res := ct_intro Try.func89 rfl b89 c89_ok r89_ok n89 (Nat.le_of_ble_eq_true hA) ka kr h
def c90 : SC := (.seq (.reg [
  ⟨some 4, .mv (.c (.int .i64 0)), none, []⟩])
  (.seq (.reg [
  ⟨some 5, .mv (.t 0), none, []⟩,
  ⟨some 6, .mv (.t 1), none, []⟩,
  ⟨some 7, .bin .add (.t 5) (.t 6), none, []⟩,
  ⟨some 8, .bin .sub (.t 7) (.c (.int .i64 1)), none, []⟩,
  ⟨some 9, .mv (.t 1), none, []⟩,
  ⟨some 10, .div .quo (.t 8) (.t 9), none, []⟩,
  ⟨some 4, .mv (.t 10), none, []⟩])
  .ret))
def r90 : List RV := [.tmp 4]
theorem n90 : Try.f90.ntmps = 11 := by kernel_rfl
theorem b90 : bodyB Try.prog 90 = true := by kernel_rfl
theorem c90_ok : cmpC Try.prog c90 ((Try.f90.body).getD .skip) = true := by kernel_rfl
theorem r90_ok : cmpR Try.prog r90 Try.f90.results.toList = true := by kernel_rfl
theorem t90 {args : List SV} {res : SV} (ka : KFL args) (kr : KF res) (h : sx Try.prog Y0 0 c90 (st0 args 11) (retK r90 res)) (hA : Nat.ble args.length 11 = true := by rfl) : Ct Try.prog 90 args res := ct_intro Try.func90 rfl b90 c90_ok r90_ok n90 (Nat.le_of_ble_eq_true hA) ka kr h
def c91 : SC := (.seq (.reg [
  ⟨some 4, .mv (.c (.bool false)), none, []⟩])
  (.seq (.reg [
  ⟨some 5, .mv (.t 0), none, []⟩,
  ⟨some 6, .mv (.t 1), none, []⟩,
  ⟨some 7, .call 101 [.t 5, .t 6], none, []⟩,
  ⟨some 8, .bin .geq (.t 7) (.c (.int .i64 0)), none, []⟩,
  ⟨some 4, .mv (.t 8), none, []⟩])
  .ret))
def r91 : List RV := [.tmp 4]
theorem n91 : Try.f91.ntmps = 9 := by kernel_rfl
theorem b91 : bodyB Try.prog 91 = true := by kernel_rfl
theorem c91_ok : cmpC Try.prog c91 ((Try.f91.body).getD .skip) = true := by kernel_rfl
theorem r91_ok : cmpR Try.prog r91 Try.f91.results.toList = true := by kernel_rfl
theorem t91 {args : List SV} {res : SV} (ka : KFL args) (kr : KF res) (h : sx Try.prog Y0 0 c91 (st0 args 9) (retK r91 res)) (hA : Nat.ble args.length 9 = true := by rfl) : Ct Try.prog 91 args res := ct_intro Try.func91 rfl b91 c91_ok r91_ok n91 (Nat.le_of_ble_eq_true hA) ka kr h
def c92 : SC := (.seq (.reg [
  ⟨some 4, .mv (.c (.bool false)), none, []⟩])
  (.seq (.reg [
  ⟨some 5, .mv (.t 0), none, []⟩,
  ⟨some 6, .ld (.t 1) 1 false, none, []⟩,
  ⟨some 7, .bin .lss (.t 5) (.t 6), none, []⟩,
  ⟨some 8, .mv (.t 7), none, []⟩,
  ⟨some 9, .mv (.t 0), some (8, false), []⟩,
  ⟨some 10, .ld (.t 2) 1 false, some (8, false), []⟩,
  ⟨some 11, .bin .gtr (.t 9) (.t 10), some (8, false), []⟩,
  ⟨some 12, .pick (.t 8) (.c (.bool true)) (.t 11), none, []⟩,
  ⟨some 4, .mv (.t 12), none, []⟩])
  .ret))
def r92 : List RV := [.tmp 4]
theorem n92 : Try.f92.ntmps = 13 := by kernel_rfl
theorem b92 : bodyB Try.prog 92 = true := by kernel_rfl
theorem c92_ok : cmpC Try.prog c92 ((Try.f92.body).getD .skip) = true := by kernel_rfl
theorem r92_ok : cmpR Try.prog r92 Try.f92.results.toList = true := by kernel_rfl
theorem t92 {args : List SV} {res : SV} (ka : KFL args) (kr : KF res) (h : sx Try.prog Y0 0 c92 (st0 args 13) (retK r92 res)) (hA : Nat.ble args.length 13 = true := by rfl) : Ct Try.prog 92 args res := ct_intro Try.func92 rfl b92 c92_ok r92_ok n92 (Nat.le_of_ble_eq_true hA) ka kr h
def c93 : SC := (.seq (.reg [
  ⟨some 4, .mv (.c (.bool false)), none, []⟩])
  (.seq (.reg [
  ⟨some 5, .mv (.t 0), none, []⟩,
  ⟨some 6, .mv (.t 1), none, []⟩,
  ⟨some 7, .call 102 [.t 5, .t 6], none, []⟩,
  ⟨some 8, .bin .geq (.t 7) (.c (.int .i64 0)), none, []⟩,
  ⟨some 4, .mv (.t 8), none, []⟩])
  .ret))
def r93 : List RV := [.tmp 4]
theorem n93 : Try.f93.ntmps = 9 := by kernel_rfl
theorem b93 : bodyB Try.prog 93 = true := by kernel_rfl
theorem c93_ok : cmpC Try.prog c93 ((Try.f93.body).getD .skip) = true := by kernel_rfl
theorem r93_ok : cmpR Try.prog r93 Try.f93.results.toList = true := by kernel_rfl
theorem t93 {args : List SV} {res : SV} (ka : KFL args) (kr : KF res) (h : sx Try.prog Y0 0 c93 (st0 args 9) (retK r93 res)) (hA : Nat.ble args.length 9 = true := by rfl) : Ct Try.prog 93 args res := ct_intro Try.func93 rfl b93 c93_ok r93_ok n93 (Nat.le_of_ble_eq_true hA) ka kr h
def c94 : SC := (.seq (.reg [
  ⟨some 3, .box (.t 0) 0 23, none, []⟩,
  ⟨some 4, .mv (.c (.bool false)), none, []⟩])
  (.seq (.reg [
  ⟨some 5, .addo (.t 3) 0, none, []⟩,
  ⟨some 6, .ld (.t 5) 1 false, none, []⟩,
  ⟨some 7, .addo (.t 3) 1, none, []⟩,
  ⟨some 8, .ld (.t 7) 1 false, none, []⟩,
  ⟨some 9, .bin .gtr (.t 6) (.t 8), none, []⟩,
  ⟨some 10, .mv (.t 9), none, []⟩,
  ⟨some 11, .ld (.t 1) 1 false, some (10, false), []⟩,
  ⟨some 12, .ld (.t 2) 1 false, some (10, false), []⟩,
  ⟨some 13, .addo (.t 3) 0, some (10, false), []⟩,
  ⟨some 14, .ld (.t 13) 1 false, some (10, false), []⟩,
  ⟨some 15, .addo (.t 3) 1, some (10, false), []⟩,
  ⟨some 16, .ld (.t 15) 1 false, some (10, false), []⟩,
  ⟨some 17, .bsl 1 3 [.t 14, .t 16], some (10, false), []⟩,
  ⟨some 18, .call 64 [.t 11, .t 12, .t 17], some (10, false), []⟩,
  ⟨some 19, .un .not (.t 18), some (10, false), []⟩,
  ⟨some 20, .pick (.t 10) (.c (.bool true)) (.t 19), none, []⟩,
  ⟨some 4, .mv (.t 20), none, []⟩])
  .ret))
def r94 : List RV := [.tmp 4]
theorem n94 : Try.f94.ntmps = 21 := by kernel_rfl
theorem b94 : bodyB Try.prog 94 = true := by kernel_rfl
theorem c94_ok : cmpC Try.prog c94 ((Try.f94.body).getD .skip) = true := by kernel_rfl
theorem r94_ok : cmpR Try.prog r94 Try.f94.results.toList = true := by kernel_rfl
theorem t94 {args : List SV} {res : SV} (ka : KFL args) (kr : KF res) (h : sx Try.prog Y0 0 c94 (st0 args 21) (retK r94 res)) (hA : Nat.ble args.length 21 = true := by rfl) : Ct Try.prog 94 args res := ct_intro Try.func94 rfl b94 c94_ok r94_ok n94 (Nat.le_of_ble_eq_true hA) ka kr h
def c101 : SC := (.seq (.reg [
  ⟨some 4, .mv (.c (.int .i64 0)), none, []⟩])
  (.seq (.seq (.reg [
  ⟨some 6, .mv (.t 0), none, []⟩,
  ⟨some 7, .len (.t 6), none, []⟩,
  ⟨some 8, .mv (.c (.int .i64 0)), none, []⟩])
  (.block 0 (.loop (.seq (.reg [
    ⟨some 9, .bin .lss (.t 8) (.t 7), none, []⟩])
    (.seq (.cond (.t 9)
    .skip
    (.exit 0))
    (.seq (.block 1 (.seq (.reg [
     ⟨some 10, .mv (.t 8), none, []⟩,
     ⟨some 5, .mv (.t 10), none, []⟩])
     (.seq (.reg [
     ⟨some 11, .mv (.t 1), none, []⟩,
     ⟨some 12, .mv (.t 0), none, []⟩,
     ⟨some 13, .mv (.t 5), none, []⟩,
     ⟨some 14, .ixs (.t 12) (.t 13) 1, none, []⟩,
     ⟨some 15, .ld (.t 14) 1 false, none, []⟩,
     ⟨some 16, .calv (.t 11) [.t 15], none, []⟩])
     (.cond (.t 16)
     (.seq (.reg [
      ⟨some 17, .mv (.t 5), none, []⟩,
      ⟨some 4, .mv (.t 17), none, []⟩])
      .ret)
     .skip))))
    (.reg [
    ⟨some 18, .bin .add (.t 8) (.c (.int .i64 1)), none, []⟩,
    ⟨some 8, .mv (.t 18), none, []⟩])))))))
  (.seq (.reg [
  ⟨some 4, .mv (.c (.int .i64 (-1))), none, []⟩])
  .ret)))
def r101 : List RV := [.tmp 4]
theorem n101 : Try.f101.ntmps = 19 := by kernel_rfl
theorem b101 : bodyB Try.prog 101 = true := by kernel_rfl
theorem c101_ok : cmpC Try.prog c101 ((Try.f101.body).getD .skip) = true := by kernel_rfl
theorem r101_ok : cmpR Try.prog r101 Try.f101.results.toList = true := by kernel_rfl
theorem t101 {args : List SV} {res : SV} (ka : KFL args) (kr : KF res) (h : sx Try.prog Y0 0 c101 (st0 args 19) (retK r101 res)) (hA : Nat.ble args.length 19 = true := by rfl) : Ct Try.prog 101 args res := ct_intro Try.func101 rfl b101 c101_ok r101_ok n101 (Nat.le_of_ble_eq_true hA) ka kr h
def c102 : SC := (.seq (.reg [
  ⟨some 4, .mv (.c (.int .i64 0)), none, []⟩])
  (.seq (.seq (.reg [
  ⟨some 6, .mv (.t 0), none, []⟩,
  ⟨some 7, .len (.t 6), none, []⟩,
  ⟨some 8, .mv (.c (.int .i64 0)), none, []⟩])
  (.block 0 (.loop (.seq (.reg [
    ⟨some 9, .bin .lss (.t 8) (.t 7), none, []⟩])
    (.seq (.cond (.t 9)
    .skip
    (.exit 0))
    (.seq (.block 1 (.seq (.reg [
     ⟨some 10, .mv (.t 8), none, []⟩,
     ⟨some 5, .mv (.t 10), none, []⟩])
     (.seq (.reg [
     ⟨some 11, .mv (.t 1), none, []⟩,
     ⟨some 12, .mv (.t 0), none, []⟩,
     ⟨some 13, .mv (.t 5), none, []⟩,
     ⟨some 14, .ixs (.t 12) (.t 13) 2, none, []⟩,
     ⟨some 15, .ld (.t 14) 2 true, none, []⟩,
     ⟨some 16, .calv (.t 11) [.t 15], none, []⟩])
     (.cond (.t 16)
     (.seq (.reg [
      ⟨some 17, .mv (.t 5), none, []⟩,
      ⟨some 4, .mv (.t 17), none, []⟩])
      .ret)
     .skip))))
    (.reg [
    ⟨some 18, .bin .add (.t 8) (.c (.int .i64 1)), none, []⟩,
    ⟨some 8, .mv (.t 18), none, []⟩])))))))
  (.seq (.reg [
  ⟨some 4, .mv (.c (.int .i64 (-1))), none, []⟩])
  .ret)))
def r102 : List RV := [.tmp 4]
theorem n102 : Try.f102.ntmps = 19 := by kernel_rfl
theorem b102 : bodyB Try.prog 102 = true := by kernel_rfl
theorem c102_ok : cmpC Try.prog c102 ((Try.f102.body).getD .skip) = true := by kernel_rfl
theorem r102_ok : cmpR Try.prog r102 Try.f102.results.toList = true := by kernel_rfl
theorem t102 {args : List SV} {res : SV} (ka : KFL args) (kr : KF res) (h : sx Try.prog Y0 0 c102 (st0 args 19) (retK r102 res)) (hA : Nat.ble args.length 19 = true := by rfl) : Ct Try.prog 102 args res := ct_intro Try.func102 rfl b102 c102_ok r102_ok n102 (Nat.le_of_ble_eq_true hA) ka kr h
def c4 : SC := (.seq (.reg [
  ⟨some 4, .box (.t 0) 0 25, none, []⟩,
  ⟨some 5, .box (.t 1) 0 27, none, []⟩,
  ⟨some 8, .mv (.c (.bool false)), none, []⟩])
  (.seq (.seq (.reg [
  ⟨some 18, .mv (.t 2), none, []⟩,
  ⟨some 19, .len (.t 18), none, []⟩,
  ⟨some 20, .bin .gtr (.t 19) (.c (.int .i64 100)), none, []⟩,
  ⟨some 21, .mv (.t 20), none, []⟩,
  ⟨some 22, .mv (.t 3), some (21, false), []⟩,
  ⟨some 23, .len (.t 22), some (21, false), []⟩,
  ⟨some 24, .bin .gtr (.t 23) (.c (.int .i64 50)), some (21, false), []⟩,
  ⟨some 25, .pick (.t 21) (.c (.bool true)) (.t 24), none, []⟩])
  (.cond (.t 25)
  (.seq (.reg [
   ⟨some 8, .mv (.c (.bool true)), none, []⟩])
   .ret)
  .skip))
  (.seq (.reg [
  ⟨some 26, .bsl 7 27 [], none, []⟩,
  ⟨some 27, .mv (.t 3), none, []⟩,
  ⟨some 28, .app 7 56 27 (.t 26) (.t 27), none, []⟩,
  ⟨some 9, .mv (.t 28), none, []⟩])
  (.seq (.reg [
  ⟨some 30, .ld (.t 4) 17 true, none, []⟩,
  ⟨some 31, .ld (.t 5) 7 true, none, []⟩,
  ⟨some 32, .mv (.t 2), none, []⟩,
  ⟨some 33, .call 24 [.t 30, .t 31, .t 32], none, []⟩,
  ⟨some 29, .mv (.t 33), none, []⟩,
  ⟨some 34, .ext (.t 29) 0, none, []⟩,
  ⟨some 35, .ext (.t 29) 1, none, []⟩,
  ⟨some 10, .mv (.t 34), none, []⟩,
  ⟨some 11, .mv (.t 35), none, []⟩])
  (.seq (.reg [
  ⟨some 37, .ld (.t 4) 17 true, none, []⟩,
  ⟨some 38, .ld (.t 5) 7 true, none, []⟩,
  ⟨some 39, .mv (.t 2), none, []⟩,
  ⟨some 40, .call 25 [.t 37, .t 38, .t 39], none, []⟩,
  ⟨some 36, .mv (.t 40), none, []⟩,
  ⟨some 41, .ext (.t 36) 0, none, []⟩,
  ⟨some 42, .ext (.t 36) 1, none, []⟩,
  ⟨some 12, .mv (.t 41), none, []⟩,
  ⟨some 13, .mv (.t 42), none, []⟩])
  (.seq (.reg [
  ⟨some 44, .ld (.t 4) 17 true, none, []⟩,
  ⟨some 45, .mv (.t 9), none, []⟩,
  ⟨some 46, .call 26 [.t 44, .t 45], none, []⟩,
  ⟨some 43, .mv (.t 46), none, []⟩,
  ⟨some 47, .ext (.t 43) 0, none, []⟩,
  ⟨some 48, .ext (.t 43) 1, none, []⟩,
  ⟨some 14, .alloc [.int .i64 0, .int .i64 0] 23, none, []⟩,
  ⟨none, .st (.t 14) (.t 47) 2, none, []⟩,
  ⟨some 15, .mv (.t 48), none, []⟩])
  (.seq (.reg [
  ⟨some 50, .ld (.t 4) 17 true, none, []⟩,
  ⟨some 51, .mv (.t 3), none, []⟩,
  ⟨some 52, .call 27 [.t 50, .t 51], none, []⟩,
  ⟨some 49, .mv (.t 52), none, []⟩,
  ⟨some 53, .ext (.t 49) 0, none, []⟩,
  ⟨some 54, .ext (.t 49) 1, none, []⟩,
  ⟨some 16, .alloc [.int .i64 0, .int .i64 0] 23, none, []⟩,
  ⟨none, .st (.t 16) (.t 53) 2, none, []⟩,
  ⟨some 17, .mv (.t 54), none, []⟩])
  (.seq (.reg [
  ⟨some 55, .mv (.t 10), none, []⟩,
  ⟨some 56, .mv (.t 12), none, []⟩,
  ⟨some 57, .bin .eql (.t 55) (.t 56), none, []⟩,
  ⟨some 58, .mv (.t 57), none, []⟩,
  ⟨some 59, .mv (.t 11), some (58, true), []⟩,
  ⟨some 60, .mv (.t 13), some (58, true), []⟩,
  ⟨some 61, .bin .eql (.t 59) (.t 60), some (58, true), []⟩,
  ⟨some 62, .pick (.t 58) (.t 61) (.c (.bool false)), none, []⟩,
  ⟨some 63, .mv (.t 62), none, []⟩,
  ⟨some 64, .ld (.t 14) 2 true, some (63, true), []⟩,
  ⟨some 65, .ld (.t 16) 2 true, some (63, true), []⟩,
  ⟨some 66, .eqs false true [1, 1] (.t 64) (.t 65), some (63, true), []⟩,
  ⟨some 67, .pick (.t 63) (.t 66) (.c (.bool false)), none, []⟩,
  ⟨some 68, .mv (.t 67), none, []⟩,
  ⟨some 69, .mv (.t 15), some (68, true), []⟩,
  ⟨some 70, .mv (.t 17), some (68, true), []⟩,
  ⟨some 71, .bin .eql (.t 69) (.t 70), some (68, true), []⟩,
  ⟨some 72, .pick (.t 68) (.t 71) (.c (.bool false)), none, []⟩,
  ⟨some 73, .mv (.t 72), none, []⟩,
  ⟨some 74, .mv (.t 9), some (73, true), []⟩,
  ⟨some 75, .mv (.t 3), some (73, true), []⟩,
  ⟨some 76, .call 28 [.t 74, .t 75], some (73, true), []⟩,
  ⟨some 77, .pick (.t 73) (.t 76) (.c (.bool false)), none, []⟩,
  ⟨some 8, .mv (.t 77), none, []⟩])
  .ret))))))))
def r4 : List RV := [.tmp 8]
theorem n4 : Try.f4.ntmps = 78 := by kernel_rfl
theorem b4 : bodyB Try.prog 4 = true := by kernel_rfl
theorem c4_ok : cmpC Try.prog c4 ((Try.f4.body).getD .skip) = true := by kernel_rfl
theorem r4_ok : cmpR Try.prog r4 Try.f4.results.toList = true := by kernel_rfl
theorem t4 {args : List SV} {res : SV} (ka : KFL args) (kr : KF res) (h : sx Try.prog Y0 0 c4 (st0 args 78) (retK r4 res)) (hA : Nat.ble args.length 78 = true := by rfl) : Ct Try.prog 4 args res := ct_intro Try.func4 rfl b4 c4_ok r4_ok n4 (Nat.le_of_ble_eq_true hA) ka kr h
def r26 : List RV := [.cell 4 2 true, .tmp 5]
def r27 : List RV := [.cell 4 2 true, .tmp 5]
def r28 : List RV := [.tmp 4]
def c66 : SC := (.seq (.reg [
  ⟨some 3, .box (.t 0) 0 25, none, []⟩,
  ⟨some 4, .box (.t 1) 0 27, none, []⟩,
  ⟨some 6, .mv (.c (.int .i64 0)), none, []⟩])
  (.seq (.seq (.reg [
  ⟨some 8, .ld (.t 3) 17 true, none, []⟩,
  ⟨some 9, .ld (.t 4) 7 true, none, []⟩,
  ⟨some 10, .call 22 [.t 8, .t 9], none, []⟩,
  ⟨some 7, .mv (.t 10), none, []⟩])
  (.seq (.reg [
  ⟨some 11, .mv (.t 7), none, []⟩,
  ⟨some 12, .bin .neq (.t 11) (.c (.int .i64 0)), none, []⟩])
  (.cond (.t 12)
  (.seq (.reg [
   ⟨some 13, .mv (.t 7), none, []⟩,
   ⟨some 6, .mv (.t 13), none, []⟩])
   .ret)
  .skip)))
  (.seq (.seq (.reg [
  ⟨some 14, .mv (.t 2), none, []⟩,
  ⟨some 15, .len (.t 14), none, []⟩,
  ⟨some 16, .bin .gtr (.t 15) (.c (.int .i64 60)), none, []⟩])
  (.cond (.t 16)
  (.seq (.reg [
   ⟨some 6, .mv (.c (.int .i64 4)), none, []⟩])
   .ret)
  .skip))
  (.seq (.reg [
  ⟨some 17, .mv (.t 2), none, []⟩,
  ⟨some 18, .call 59 [.t 17], none, []⟩,
  ⟨some 6, .mv (.t 18), none, []⟩])
  .ret))))
def r66 : List RV := [.tmp 6]
theorem n66 : Try.f66.ntmps = 19 := by kernel_rfl
theorem b66 : bodyB Try.prog 66 = true := by kernel_rfl
theorem c66_ok : cmpC Try.prog c66 ((Try.f66.body).getD .skip) = true := by kernel_rfl
theorem r66_ok : cmpR Try.prog r66 Try.f66.results.toList = true := by kernel_rfl
theorem t66 {args : List SV} {res : SV} (ka : KFL args) (kr : KF res) (h : sx Try.prog Y0 0 c66 (st0 args 19) (retK r66 res)) (hA : Nat.ble args.length 19 = true := by rfl) : Ct Try.prog 66 args res := ct_intro Try.func66 rfl b66 c66_ok r66_ok n66 (Nat.le_of_ble_eq_true hA) ka kr h
def c68 : SC := (.seq (.reg [
  ⟨some 2, .box (.t 0) 0 107, none, []⟩,
  ⟨some 3, .box (.t 1) 0 29, none, []⟩,
  ⟨some 4, .alloc [.int .i64 0, .int .i64 0, .int .i64 0, .int .i64 0, .int .i64 0, .int .i64 0, .int .i64 0, .int .i64 0, .int .i64 0, .int .i64 0, .int .i64 0, .int .i64 0, .int .i64 0, .int .i64 0, .int .i64 0, .int .i64 0, .int .i64 0, .int .i64 0, .int .i64 0, .int .i64 0, .int .i64 0, .int .i64 0, .int .i64 0, .bool false] 107, none, []⟩,
  ⟨some 5, .mv (.c (.int .u8 0)), none, []⟩])
  (.seq (.reg [
  ⟨some 16, .addo (.t 2) 17, none, []⟩,
  ⟨some 17, .addo (.t 16) 0, none, []⟩,
  ⟨some 18, .addo (.t 2) 17, none, []⟩,
  ⟨some 19, .addo (.t 18) 2, none, []⟩,
  ⟨some 20, .build [.pointer none, .pointer none] [(0, 1, .t 17), (1, 1, .t 19)], none, []⟩,
  ⟨some 6, .alloc [.pointer none, .pointer none] 151, none, []⟩,
  ⟨none, .st (.t 6) (.t 20) 2, none, []⟩])
  (.seq (.regd [0, 1, 2, 3, 4, 5, 6, 7, 8, 9, 10, 11, 12, 13, 14, 15] [
  .op ⟨some 21, .addo (.t 2) 0, none, []⟩,
  .op ⟨some 22, .addo (.t 21) 0, none, [0]⟩,
  .op ⟨some 23, .ld (.t 22) 1 false, none, [1]⟩,
  .op ⟨some 24, .addo (.t 2) 0, none, []⟩,
  .op ⟨some 25, .addo (.t 24) 1, none, [3]⟩,
  .op ⟨some 26, .ld (.t 25) 1 false, none, [4]⟩,
  .op ⟨some 27, .build [.int .i64 0, .int .i64 0] [(0, 1, .t 23), (1, 1, .t 26)], none, [2, 5]⟩,
  .op ⟨some 28, .addo (.t 3) 6, none, []⟩,
  .op ⟨some 29, .ld (.t 28) 2 true, none, [7]⟩,
  .op ⟨some 30, .addo (.t 3) 4, none, []⟩,
  .op ⟨some 31, .ld (.t 30) 2 true, none, [9]⟩,
  .op ⟨some 32, .build [.int .i64 0, .int .i64 0, .int .i64 0, .int .i64 0] [(0, 2, .t 29), (2, 2, .t 31)], none, [8, 10]⟩] 2 2 [
  ⟨some 7, .alloc [.int .i64 0, .int .i64 0] 97, none, []⟩,
  ⟨some 8, .alloc [.int .i64 0, .int .i64 0, .int .i64 0, .int .i64 0] 112, none, []⟩,
  ⟨none, .st (.t 7) (.t 27) 2, none, [0, 1, 2, 3, 4, 5, 6, 12, 13]⟩,
  ⟨none, .st (.t 8) (.t 32) 4, none, [0, 1, 2, 3, 4, 5, 6, 7, 8, 9, 10, 11, 12, 13, 14]⟩])
  (.seq (.reg [
  ⟨some 9, .mv (.c (.int .u8 0)), none, []⟩])
  (.seq (.seq (.reg [
  ⟨some 33, .addo (.t 2) 0, none, []⟩,
  ⟨some 34, .ld (.t 33) 17 true, none, []⟩,
  ⟨some 35, .addo (.t 2) 17, none, []⟩,
  ⟨some 36, .addo (.t 35) 6, none, []⟩,
  ⟨some 37, .ld (.t 36) 1 false, none, []⟩,
  ⟨some 38, .ld (.t 3) 8 true, none, []⟩,
  ⟨some 39, .call 60 [.t 34, .t 37, .t 38], none, []⟩,
  ⟨some 40, .mv (.c (.int .i64 0)), none, []⟩])
  (.block 0 (.loop (.seq (.reg [
    ⟨some 41, .bin .lss (.t 40) (.c (.int .i64 2)), none, []⟩])
    (.seq (.cond (.t 41)
    .skip
    (.exit 0))
    (.seq (.block 1 (.seq (.reg [
     ⟨some 42, .mv (.t 40), none, []⟩,
     ⟨some 43, .idx (.t 39) (.t 40) 2 2 true, none, []⟩,
     ⟨some 11, .alloc [.int .i64 0, .int .i64 0] 23, none, []⟩,
     ⟨some 10, .mv (.t 42), none, []⟩,
     ⟨none, .st (.t 11) (.t 43) 2, none, []⟩])
     (.seq (.reg [
     ⟨some 44, .mv (.t 10), none, []⟩,
     ⟨some 45, .ixa (.t 6) (.t 44) 2 1, none, []⟩,
     ⟨some 46, .ld (.t 45) 1 false, none, []⟩,
     ⟨some 12, .mv (.t 46), none, []⟩])
     (.seq (.block 2 (.seq (.regd [0, 1, 2, 3, 4, 5, 6, 7] [
      .op ⟨some 48, .mv (.t 12), none, []⟩,
      .op ⟨some 49, .nilc (.t 48), none, [0]⟩,
      .op ⟨some 50, .addo (.t 49) 1, none, [1]⟩,
      .op ⟨some 51, .ld (.t 50) 1 false, none, [2]⟩,
      .op ⟨some 52, .addo (.t 11) 0, none, []⟩,
      .op ⟨some 53, .ld (.t 52) 1 false, none, [4]⟩,
      .op ⟨some 54, .bin .lss (.t 51) (.t 53), none, [3, 5]⟩,
      .op ⟨some 47, .mv (.t 54), none, [6]⟩] 0 0 [
])
      (.cond (.t 47)
      (.seq (.reg [
       ⟨some 55, .build [.int .i64 0, .int .i64 0, .int .i64 0, .int .i64 0, .int .i64 0, .int .i64 0, .int .i64 0, .int .i64 0, .int .i64 0, .int .i64 0, .int .i64 0, .int .i64 0, .int .i64 0, .int .i64 0, .int .i64 0, .int .i64 0, .int .i64 0, .int .i64 0, .int .i64 0, .int .i64 0, .int .i64 0, .int .i64 0, .int .i64 0, .bool false] [], none, []⟩,
       ⟨none, .st (.t 4) (.t 55) 24, none, []⟩,
       ⟨some 5, .mv (.c (.int .u8 2)), none, []⟩])
       .ret)
      (.seq (.regd [0, 1, 2, 3, 4, 5, 6, 7] [
       .op ⟨some 57, .mv (.t 12), none, []⟩,
       .op ⟨some 58, .nilc (.t 57), none, [0]⟩,
       .op ⟨some 59, .addo (.t 58) 0, none, [1]⟩,
       .op ⟨some 60, .ld (.t 59) 1 false, none, [2]⟩,
       .op ⟨some 61, .addo (.t 11) 1, none, []⟩,
       .op ⟨some 62, .ld (.t 61) 1 false, none, [4]⟩,
       .op ⟨some 63, .bin .lss (.t 60) (.t 62), none, [3, 5]⟩,
       .op ⟨some 56, .mv (.t 63), none, [6]⟩] 0 0 [
])
       (.cond (.t 56)
       (.reg [
        ⟨some 9, .mv (.c (.int .u8 1)), none, []⟩])
       .skip)))))
     (.seq (.regd [0, 1, 2, 3, 4, 5, 6, 7, 8, 9, 10, 11, 12, 13, 14, 15, 16, 17, 18, 19, 20, 21, 22] [
     .op ⟨some 64, .mv (.t 12), none, []⟩,
     .op ⟨some 65, .nilc (.t 64), none, [0]⟩,
     .op ⟨some 66, .addo (.t 65) 0, none, [1]⟩,
     .op ⟨some 67, .ld (.t 66) 1 false, none, [2]⟩,
     .op ⟨some 68, .addo (.t 11) 1, none, []⟩,
     .op ⟨some 69, .ld (.t 68) 1 false, none, [4]⟩,
     .op ⟨some 70, .bin .sub (.t 67) (.t 69), none, [3, 5]⟩,
     .op ⟨some 71, .mm true [.c (.int .i64 0), .t 70], none, [6]⟩,
     .op ⟨some 72, .mv (.t 12), none, []⟩,
     .op ⟨some 73, .nilc (.t 72), none, [8]⟩,
     .op ⟨some 74, .addo (.t 73) 1, none, [9]⟩,
     .op ⟨some 75, .ld (.t 74) 1 false, none, [10]⟩,
     .op ⟨some 76, .addo (.t 11) 0, none, []⟩,
     .op ⟨some 77, .ld (.t 76) 1 false, none, [12]⟩,
     .op ⟨some 78, .bin .sub (.t 75) (.t 77), none, [11, 13]⟩,
     .op ⟨some 79, .build [.int .i64 0, .int .i64 0] [(0, 1, .t 71), (1, 1, .t 78)], none, [7, 14]⟩,
     .op ⟨some 80, .mv (.t 10), none, []⟩,
     .op ⟨some 81, .ixa (.t 8) (.t 80) 2 2, none, [16]⟩,
     .op ⟨some 82, .ld (.t 81) 2 true, none, [17]⟩,
     .op ⟨some 83, .bsl 2 23 [.t 79, .t 82], none, [15, 18]⟩,
     .op ⟨some 84, .call 72 [.t 83], none, [19]⟩] 1 1 [
     ⟨some 13, .alloc [.int .i64 0, .int .i64 0] 23, none, []⟩,
     ⟨none, .st (.t 13) (.t 84) 2, none, [0, 1, 2, 3, 4, 5, 6, 7, 8, 9, 10, 11, 12, 13, 14, 15, 16, 17, 18, 19, 20, 21]⟩])
     (.regd [0, 1, 2, 3, 4, 5, 6, 7, 8, 9, 10, 11, 12, 13, 14, 15] [
     .op ⟨some 85, .mv (.t 12), none, []⟩,
     .op ⟨some 86, .mv (.t 10), none, []⟩,
     .op ⟨some 87, .ixa (.t 7) (.t 86) 2 1, none, [1]⟩,
     .op ⟨some 88, .ld (.t 87) 1 false, none, [2]⟩,
     .op ⟨some 89, .addo (.t 13) 0, none, []⟩,
     .op ⟨some 90, .ld (.t 89) 1 false, none, [4]⟩,
     .op ⟨some 91, .mm false [.t 88, .t 90], none, [3, 5]⟩,
     .op ⟨some 92, .mv (.t 10), none, []⟩,
     .op ⟨some 93, .ixa (.t 7) (.t 92) 2 1, none, [7]⟩,
     .op ⟨some 94, .ld (.t 93) 1 false, none, [8]⟩,
     .op ⟨some 95, .addo (.t 13) 1, none, []⟩,
     .op ⟨some 96, .ld (.t 95) 1 false, none, [10]⟩,
     .op ⟨some 97, .mm false [.t 94, .t 96], none, [9, 11]⟩,
     .op ⟨some 98, .build [.int .i64 0, .int .i64 0] [(0, 1, .t 91), (1, 1, .t 97)], none, [6, 12]⟩,
     .op ⟨some 99, .nilc (.t 85), none, [0, 1, 2, 3, 4, 5, 6, 7, 8, 9, 10, 11, 12, 13]⟩] 0 1 [
     ⟨none, .st (.t 99) (.t 98) 2, none, [0, 1, 2, 3, 4, 5, 6, 7, 8, 9, 10, 11, 12, 13, 14]⟩]))))))
    (.reg [
    ⟨some 100, .bin .add (.t 40) (.c (.int .i64 1)), none, []⟩,
    ⟨some 40, .mv (.t 100), none, []⟩])))))))
  (.seq (.reg [
  ⟨some 101, .addo (.t 2) 17, none, []⟩,
  ⟨some 102, .addo (.t 101) 4, none, []⟩,
  ⟨some 14, .mv (.t 102), none, []⟩])
  (.seq (.seq (.reg [
  ⟨some 103, .addo (.t 3) 0, none, []⟩,
  ⟨some 104, .ld (.t 103) 1 false, none, []⟩,
  ⟨some 105, .bin .eql (.t 104) (.c (.int .i64 0)), none, []⟩])
  (.cond (.t 105)
  (.seq (.regd [0, 1, 2, 3, 4, 5, 6, 7, 8, 9, 10, 11, 12, 13, 14, 15, 16, 17, 18, 19, 20, 21] [
   .op ⟨some 106, .mv (.t 14), none, []⟩,
   .op ⟨some 107, .mv (.t 14), none, []⟩,
   .op ⟨some 108, .nilc (.t 107), none, [1]⟩,
   .op ⟨some 109, .addo (.t 108) 0, none, [2]⟩,
   .op ⟨some 110, .ld (.t 109) 1 false, none, [3]⟩,
   .op ⟨some 111, .addo (.t 2) 0, none, []⟩,
   .op ⟨some 112, .addo (.t 111) 14, none, [5]⟩,
   .op ⟨some 113, .ld (.t 112) 1 false, none, [6]⟩,
   .op ⟨some 114, .bin .sub (.t 110) (.t 113), none, [4, 7]⟩,
   .op ⟨some 115, .mm true [.c (.int .i64 0), .t 114], none, [8]⟩,
   .op ⟨some 116, .mv (.t 14), none, []⟩,
   .op ⟨some 117, .nilc (.t 116), none, [10]⟩,
   .op ⟨some 118, .addo (.t 117) 1, none, [11]⟩,
   .op ⟨some 119, .ld (.t 118) 1 false, none, [12]⟩,
   .op ⟨some 120, .addo (.t 2) 0, none, []⟩,
   .op ⟨some 121, .addo (.t 120) 14, none, [14]⟩,
   .op ⟨some 122, .ld (.t 121) 1 false, none, [15]⟩,
   .op ⟨some 123, .bin .sub (.t 119) (.t 122), none, [13, 16]⟩,
   .op ⟨some 124, .mm true [.c (.int .i64 0), .t 123], none, [17]⟩,
   .op ⟨some 125, .build [.int .i64 0, .int .i64 0] [(0, 1, .t 115), (1, 1, .t 124)], none, [9, 18]⟩,
   .op ⟨some 126, .nilc (.t 106), none, [0, 1, 2, 3, 4, 5, 6, 7, 8, 9, 10, 11, 12, 13, 14, 15, 16, 17, 18, 19]⟩] 0 1 [
   ⟨none, .st (.t 126) (.t 125) 2, none, [0, 1, 2, 3, 4, 5, 6, 7, 8, 9, 10, 11, 12, 13, 14, 15, 16, 17, 18, 19, 20]⟩])
   (.seq (.reg [
   ⟨some 127, .ld (.t 2) 24 true, none, []⟩,
   ⟨some 128, .mv (.t 9), none, []⟩,
   ⟨none, .st (.t 4) (.t 127) 24, none, []⟩,
   ⟨some 5, .mv (.t 128), none, []⟩])
   .ret))
  .skip))
  (.seq (.regd [0, 1, 2, 3, 4, 5, 6, 7, 8, 9, 10, 11, 12, 13, 14, 15] [
  .op ⟨some 129, .mv (.t 14), none, []⟩,
  .op ⟨some 130, .nilc (.t 129), none, [0]⟩,
  .op ⟨some 131, .ld (.t 130) 2 true, none, [1]⟩,
  .op ⟨some 132, .addo (.t 2) 0, none, []⟩,
  .op ⟨some 133, .addo (.t 132) 10, none, [3]⟩,
  .op ⟨some 134, .ld (.t 133) 2 true, none, [4]⟩,
  .op ⟨some 135, .addo (.t 3) 0, none, []⟩,
  .op ⟨some 136, .ld (.t 135) 1 false, none, [6]⟩,
  .op ⟨some 137, .addo (.t 3) 1, none, []⟩,
  .op ⟨some 138, .ld (.t 137) 1 false, none, [8]⟩,
  .op ⟨some 139, .bsl 1 3 [.t 136, .t 138], none, [7, 9]⟩,
  .op ⟨some 140, .call 89 [.t 134, .c (.int .i64 1000000), .t 139], none, [5, 10]⟩,
  .op ⟨some 141, .bsl 2 23 [.t 131, .t 140], none, [2, 11]⟩,
  .op ⟨some 142, .call 72 [.t 141], none, [11, 12]⟩] 1 1 [
  ⟨some 15, .alloc [.int .i64 0, .int .i64 0] 23, none, []⟩,
  ⟨none, .st (.t 15) (.t 142) 2, none, [0, 1, 2, 3, 4, 5, 6, 7, 8, 9, 10, 11, 12, 13, 14]⟩])
  (.seq (.reg [
  ⟨some 143, .mv (.t 14), none, []⟩,
  ⟨some 144, .addo (.t 15) 0, none, []⟩,
  ⟨some 145, .ld (.t 144) 1 false, none, []⟩,
  ⟨some 146, .mm false [.c (.int .i64 1000), .t 145], none, []⟩,
  ⟨some 147, .addo (.t 15) 1, none, []⟩,
  ⟨some 148, .ld (.t 147) 1 false, none, []⟩,
  ⟨some 149, .mm false [.c (.int .i64 1000), .t 148], none, []⟩,
  ⟨some 150, .build [.int .i64 0, .int .i64 0] [(0, 1, .t 146), (1, 1, .t 149)], none, []⟩,
  ⟨some 151, .nilc (.t 143), none, []⟩,
  ⟨none, .st (.t 151) (.t 150) 2, none, []⟩])
  (.seq (.reg [
  ⟨some 152, .ld (.t 2) 24 true, none, []⟩,
  ⟨some 153, .mv (.t 9), none, []⟩,
  ⟨none, .st (.t 4) (.t 152) 24, none, []⟩,
  ⟨some 5, .mv (.t 153), none, []⟩])
  .ret))))))))))
def r68 : List RV := [.cell 4 24 true, .tmp 5]
theorem n68 : Try.f68.ntmps = 154 := by kernel_rfl
theorem b68 : bodyB Try.prog 68 = true := by kernel_rfl
theorem c68_ok : cmpC Try.prog c68 ((Try.f68.body).getD .skip) = true := by kernel_rfl
theorem r68_ok : cmpR Try.prog r68 Try.f68.results.toList = true := by kernel_rfl
theorem t68 {args : List SV} {res : SV} (ka : KFL args) (kr : KF res) (h : sx Try.prog Y0 0 c68 (st0 args 154) (retK r68 res)) (hA : Nat.ble args.length 154 = true := by rfl) : Ct Try.prog 68 args res := ct_intro Try.func68 rfl b68 c68_ok r68_ok n68 (Nat.le_of_ble_eq_true hA) ka kr h
def c29 : SC := (.seq (.reg [
  ⟨some 3, .box (.t 0) 0 25, none, []⟩,
  ⟨some 4, .box (.t 1) 0 27, none, []⟩,
  ⟨some 5, .box (.t 2) 0 29, none, []⟩,
  ⟨some 6, .alloc [.int .i64 0, .int .i64 0, .int .i64 0, .int .i64 0, .int .i64 0, .int .i64 0, .bool false] 27, none, []⟩,
  ⟨some 7, .mv (.c (.int .u8 0)), none, []⟩,
  ⟨some 8, .mv (.c (.int .i64 0)), none, []⟩])
  (.seq (.seq (.reg [
  ⟨some 12, .ld (.t 3) 17 true, none, []⟩,
  ⟨some 13, .ld (.t 4) 7 true, none, []⟩,
  ⟨some 14, .call 22 [.t 12, .t 13], none, []⟩,
  ⟨some 9, .mv (.t 14), none, []⟩])
  (.seq (.reg [
  ⟨some 15, .mv (.t 9), none, []⟩,
  ⟨some 16, .bin .neq (.t 15) (.c (.int .i64 0)), none, []⟩])
  (.cond (.t 16)
  (.seq (.reg [
   ⟨some 17, .ld (.t 6) 7 true, none, []⟩,
   ⟨some 18, .mv (.t 9), none, []⟩,
   ⟨none, .st (.t 6) (.t 17) 7, none, []⟩,
   ⟨some 7, .mv (.c (.int .u8 0)), none, []⟩,
   ⟨some 8, .mv (.t 18), none, []⟩])
   .ret)
  .skip)))
  (.seq (.seq (.reg [
  ⟨some 19, .ld (.t 5) 8 true, none, []⟩,
  ⟨some 20, .bsl 8 29 [.t 19], none, []⟩,
  ⟨some 21, .call 59 [.t 20], none, []⟩,
  ⟨some 10, .mv (.t 21), none, []⟩])
  (.seq (.reg [
  ⟨some 22, .mv (.t 10), none, []⟩,
  ⟨some 23, .bin .neq (.t 22) (.c (.int .i64 0)), none, []⟩])
  (.cond (.t 23)
  (.seq (.reg [
   ⟨some 24, .ld (.t 6) 7 true, none, []⟩,
   ⟨some 25, .mv (.t 10), none, []⟩,
   ⟨none, .st (.t 6) (.t 24) 7, none, []⟩,
   ⟨some 7, .mv (.c (.int .u8 0)), none, []⟩,
   ⟨some 8, .mv (.t 25), none, []⟩])
   .ret)
  .skip)))
  (.seq (.reg [
  ⟨some 27, .ld (.t 3) 17 true, none, []⟩,
  ⟨some 28, .ld (.t 4) 7 true, none, []⟩,
  ⟨some 29, .build [.int .i64 0, .int .i64 0, .int .i64 0, .int .i64 0, .int .i64 0, .int .i64 0, .int .i64 0, .int .i64 0, .int .i64 0, .int .i64 0, .int .i64 0, .int .i64 0, .int .i64 0, .int .i64 0, .int .i64 0, .int .i64 0, .int .i64 0, .int .i64 0, .int .i64 0, .int .i64 0, .int .i64 0, .int .i64 0, .int .i64 0, .bool false] [(0, 17, .t 27), (17, 7, .t 28)], none, []⟩,
  ⟨some 30, .ld (.t 5) 8 true, none, []⟩,
  ⟨some 31, .call 68 [.t 29, .t 30], none, []⟩,
  ⟨some 26, .mv (.t 31), none, []⟩,
  ⟨some 32, .ext (.t 26) 0, none, []⟩,
  ⟨some 33, .ext (.t 26) 1, none, []⟩,
  ⟨some 11, .alloc [.int .i64 0, .int .i64 0, .int .i64 0, .int .i64 0, .int .i64 0, .int .i64 0, .int .i64 0, .int .i64 0, .int .i64 0, .int .i64 0, .int .i64 0, .int .i64 0, .int .i64 0, .int .i64 0, .int .i64 0, .int .i64 0, .int .i64 0, .int .i64 0, .int .i64 0, .int .i64 0, .int .i64 0, .int .i64 0, .int .i64 0, .bool false] 107, none, []⟩,
  ⟨none, .st (.t 11) (.t 32) 24, none, []⟩,
  ⟨some 7, .mv (.t 33), none, []⟩])
  (.seq (.seq (.reg [
  ⟨some 34, .mv (.t 7), none, []⟩,
  ⟨some 35, .bin .eql (.t 34) (.c (.int .u8 2)), none, []⟩])
  (.cond (.t 35)
  (.seq (.reg [
   ⟨some 36, .ld (.t 6) 7 true, none, []⟩,
   ⟨none, .st (.t 6) (.t 36) 7, none, []⟩,
   ⟨some 7, .mv (.c (.int .u8 0)), none, []⟩,
   ⟨some 8, .mv (.c (.int .i64 13)), none, []⟩])
   .ret)
  .skip))
  (.seq (.reg [
  ⟨some 37, .addo (.t 11) 17, none, []⟩,
  ⟨some 38, .ld (.t 37) 7 true, none, []⟩,
  ⟨some 39, .mv (.t 7), none, []⟩,
  ⟨none, .st (.t 6) (.t 38) 7, none, []⟩,
  ⟨some 7, .mv (.t 39), none, []⟩,
  ⟨some 8, .mv (.c (.int .i64 0)), none, []⟩])
  .ret))))))
def r29 : List RV := [.cell 6 7 true, .tmp 7, .tmp 8]
theorem n29 : Try.f29.ntmps = 40 := by kernel_rfl
theorem b29 : bodyB Try.prog 29 = true := by kernel_rfl
theorem c29_ok : cmpC Try.prog c29 ((Try.f29.body).getD .skip) = true := by kernel_rfl
theorem r29_ok : cmpR Try.prog r29 Try.f29.results.toList = true := by kernel_rfl
theorem t29 {args : List SV} {res : SV} (ka : KFL args) (kr : KF res) (h : sx Try.prog Y0 0 c29 (st0 args 40) (retK r29 res)) (hA : Nat.ble args.length 40 = true := by rfl) : Ct Try.prog 29 args res := ct_intro Try.func29 rfl b29 c29_ok r29_ok n29 (Nat.le_of_ble_eq_true hA) ka kr h
def r30 : List RV := [.cell 6 7 true, .tmp 7, .tmp 8]
def r31 : List RV := [.cell 6 1 false, .cell 7 1 false, .cell 8 1 false, .cell 9 1 false]
def c33 : SC := (.seq (.reg [
  ⟨some 3, .box (.t 0) 0 25, none, []⟩,
  ⟨some 4, .box (.t 1) 0 27, none, []⟩,
  ⟨some 5, .box (.t 2) 0 29, none, []⟩,
  ⟨some 6, .alloc [.int .i64 0, .int .i64 0] 23, none, []⟩,
  ⟨some 7, .mv (.c (.int .i64 0)), none, []⟩])
  (.seq (.seq (.reg [
  ⟨some 13, .ld (.t 3) 17 true, none, []⟩,
  ⟨some 14, .ld (.t 4) 7 true, none, []⟩,
  ⟨some 15, .ld (.t 5) 8 true, none, []⟩,
  ⟨some 16, .bsl 8 29 [.t 15], none, []⟩,
  ⟨some 17, .call 66 [.t 13, .t 14, .t 16], none, []⟩,
  ⟨some 8, .mv (.t 17), none, []⟩])
  (.seq (.reg [
  ⟨some 18, .mv (.t 8), none, []⟩,
  ⟨some 19, .bin .neq (.t 18) (.c (.int .i64 0)), none, []⟩])
  (.cond (.t 19)
  (.seq (.reg [
   ⟨some 20, .build [.int .i64 0, .int .i64 0] [], none, []⟩,
   ⟨some 21, .mv (.t 8), none, []⟩,
   ⟨none, .st (.t 6) (.t 20) 2, none, []⟩,
   ⟨some 7, .mv (.t 21), none, []⟩])
   .ret)
  .skip)))
  (.seq (.reg [
  ⟨some 9, .alloc [.int .i64 0, .int .i64 0] 23, none, []⟩])
  (.seq (.reg [
  ⟨some 10, .alloc [.bool false] 4, none, []⟩,
  ⟨none, .st (.t 10) (.c (.bool true)) 1, none, []⟩])
  (.seq (.seq (.regd [0, 1, 2, 3, 4, 5, 6] [
  .op ⟨some 22, .ld (.t 3) 17 true, none, []⟩,
  .op ⟨some 23, .ld (.t 4) 7 true, none, []⟩,
  .op ⟨some 24, .build [.int .i64 0, .int .i64 0, .int .i64 0, .int .i64 0, .int .i64 0, .int .i64 0, .int .i64 0, .int .i64 0, .int .i64 0, .int .i64 0, .int .i64 0, .int .i64 0, .int .i64 0, .int .i64 0, .int .i64 0, .int .i64 0, .int .i64 0, .int .i64 0, .int .i64 0, .int .i64 0, .int .i64 0, .int .i64 0, .int .i64 0, .bool false] [(0, 17, .t 22), (17, 7, .t 23)], none, [0, 1]⟩,
  .op ⟨some 25, .ld (.t 5) 8 true, none, []⟩,
  .op ⟨some 26, .bsl 8 29 [.t 25], none, [3]⟩,
  .op ⟨some 27, .call 76 [.t 26, .c (.int .i64 60)], none, [4]⟩] 0 0 [
  ⟨some 28, .callm 75 [.t 24, .t 27], none, [2, 5]⟩])
  (.block 0 (.gh (.rfun (.t 28) [29, 30] (.reg [
    ⟨some 12, .mv (.t 30), none, []⟩])
   (.block 1 (.seq (.seq (.reg [
     ⟨some 31, .mv (.t 12), none, []⟩,
     ⟨some 32, .bin .eql (.t 31) (.c (.int .u8 2)), none, []⟩])
     (.cond (.t 32)
     (.exit 0)
     .skip))
     (.seq (.reg [
     ⟨some 33, .addo (.t 9) 1, none, []⟩,
     ⟨some 34, .ld (.t 33) 1 false, none, []⟩,
     ⟨some 35, .bin .add (.t 34) (.c (.int .i64 1)), none, []⟩,
     ⟨some 36, .addo (.t 9) 1, none, []⟩,
     ⟨none, .st (.t 36) (.t 35) 1, none, []⟩])
     (.seq (.reg [
     ⟨some 37, .ld (.t 10) 1 false, none, []⟩,
     ⟨some 38, .mv (.t 37), none, []⟩,
     ⟨some 39, .mv (.t 12), some (38, true), []⟩,
     ⟨some 40, .bin .eql (.t 39) (.c (.int .u8 0)), some (38, true), []⟩,
     ⟨some 41, .pick (.t 38) (.t 40) (.c (.bool false)), none, []⟩,
     ⟨none, .st (.t 10) (.t 41) 1, none, []⟩])
     (.seq (.reg [
     ⟨some 42, .ld (.t 10) 1 false, none, []⟩])
     (.cond (.t 42)
     (.reg [
      ⟨some 43, .addo (.t 9) 0, none, []⟩,
      ⟨some 44, .ld (.t 43) 1 false, none, []⟩,
      ⟨some 45, .bin .add (.t 44) (.c (.int .i64 1)), none, []⟩,
      ⟨some 46, .addo (.t 9) 0, none, []⟩,
      ⟨none, .st (.t 46) (.t 45) 1, none, []⟩])
     .skip))))))))))
  (.seq (.reg [
  ⟨some 47, .ld (.t 9) 2 true, none, []⟩,
  ⟨none, .st (.t 6) (.t 47) 2, none, []⟩,
  ⟨some 7, .mv (.c (.int .i64 0)), none, []⟩])
  .ret))))))
def r33 : List RV := [.cell 6 2 true, .tmp 7]
theorem n33 : Try.f33.ntmps = 48 := by kernel_rfl
theorem b33 : bodyB Try.prog 33 = true := by kernel_rfl
theorem c33_ok : cmpC Try.prog c33 ((Try.f33.body).getD .skip) = true := by kernel_rfl
theorem r33_ok : cmpR Try.prog r33 Try.f33.results.toList = true := by kernel_rfl
theorem t33 {args : List SV} {res : SV} (ka : KFL args) (kr : KF res) (h : sx Try.prog Y0 0 c33 (st0 args 48) (retK r33 res)) (hA : Nat.ble args.length 48 = true := by rfl) : Ct Try.prog 33 args res := ct_intro Try.func33 rfl b33 c33_ok r33_ok n33 (Nat.le_of_ble_eq_true hA) ka kr h
def c75 : SC := (.seq (.reg [
  ⟨some 2, .box (.t 0) 0 107, none, []⟩,
  ⟨some 3, .box (.t 1) 0 44, none, []⟩,
  ⟨some 4, .mv (.c (.nilFunc)), none, []⟩])
  (.seq (.reg [
  ⟨some 5, .mkf 95 [.t 3, .t 2], none, []⟩,
  ⟨some 4, .mv (.t 5), none, []⟩])
  .ret))
def r75 : List RV := [.tmp 4]
theorem n75 : Try.f75.ntmps = 6 := by kernel_rfl
theorem b75 : bodyB Try.prog 75 = true := by kernel_rfl
theorem c75_ok : cmpC Try.prog c75 ((Try.f75.body).getD .skip) = true := by kernel_rfl
theorem r75_ok : cmpR Try.prog r75 Try.f75.results.toList = true := by kernel_rfl
theorem m75 {n0 : Nat} {hp0 : List (Nat × HB)} {args : List SV} {Post : Ot → Prop} (hh : hpb n0 hp0) (hx : ∀ o, Post o → KX o.res ∧ KXP o.hp) (h : sx Try.prog Y0 n0 c75 ⟨enum 0 args, hp0, n0, 6, []⟩ (retM r75 fun o => ∃ o', Post o' ∧ EntO n0 o o')) (hA : Nat.ble args.length 6 = true := by rfl) : CtM Try.prog 75 hp0 n0 args Post := ctm_intro Try.func75 rfl b75 c75_ok r75_ok n75 (Nat.le_of_ble_eq_true hA) hh hx h
def c95 : SC := (.seq (.reg [
  ⟨some 8, .ld (.t 1) 1 false, none, []⟩,
  ⟨some 9, .len (.t 8), none, []⟩,
  ⟨some 10, .mv (.c (.int .i64 0)), none, []⟩])
  (.block 0 (.loop (.seq (.reg [
    ⟨some 11, .bin .lss (.t 10) (.t 9), none, []⟩])
    (.seq (.cond (.t 11)
    .skip
    (.exit 0))
    (.seq (.block 1 (.seq (.reg [
     ⟨some 12, .ixs (.t 8) (.t 10) 8, none, []⟩,
     ⟨some 13, .ld (.t 12) 8 true, none, []⟩,
     ⟨some 5, .alloc [.int .i64 0, .int .i64 0, .int .i64 0, .int .i64 0, .int .i64 0, .int .i64 0, .int .i64 0, .int .i64 0] 29, none, []⟩,
     ⟨none, .st (.t 5) (.t 13) 8, none, []⟩])
     (.seq (.reg [
     ⟨some 15, .ld (.t 2) 24 true, none, []⟩,
     ⟨some 16, .ld (.t 5) 8 true, none, []⟩,
     ⟨some 17, .call 68 [.t 15, .t 16], none, []⟩,
     ⟨some 14, .mv (.t 17), none, []⟩,
     ⟨some 18, .ext (.t 14) 0, none, []⟩,
     ⟨some 19, .ext (.t 14) 1, none, []⟩,
     ⟨some 6, .alloc [.int .i64 0, .int .i64 0, .int .i64 0, .int .i64 0, .int .i64 0, .int .i64 0, .int .i64 0, .int .i64 0, .int .i64 0, .int .i64 0, .int .i64 0, .int .i64 0, .int .i64 0, .int .i64 0, .int .i64 0, .int .i64 0, .int .i64 0, .int .i64 0, .int .i64 0, .int .i64 0, .int .i64 0, .int .i64 0, .int .i64 0, .bool false] 107, none, []⟩,
     ⟨none, .st (.t 6) (.t 18) 24, none, []⟩,
     ⟨some 7, .mv (.t 19), none, []⟩])
     (.seq (.seq (.reg [
     ⟨some 20, .mv (.t 0), none, []⟩,
     ⟨some 21, .ld (.t 6) 24 true, none, []⟩,
     ⟨some 22, .mv (.t 7), none, []⟩,
     ⟨some 23, .calvm (.t 20) [.t 21, .t 22], none, []⟩,
     ⟨some 24, .un .not (.t 23), none, []⟩,
     ⟨some 25, .mv (.t 24), none, []⟩,
     ⟨some 26, .mv (.t 7), some (25, false), []⟩,
     ⟨some 27, .bin .eql (.t 26) (.c (.int .u8 2)), some (25, false), []⟩,
     ⟨some 28, .pick (.t 25) (.c (.bool true)) (.t 27), none, []⟩])
     (.cond (.t 28)
     .ret
     .skip))
     (.reg [
     ⟨some 29, .ld (.t 6) 24 true, none, []⟩,
     ⟨none, .st (.t 2) (.t 29) 24, none, []⟩])))))
    (.reg [
    ⟨some 30, .bin .add (.t 10) (.c (.int .i64 1)), none, []⟩,
    ⟨some 10, .mv (.t 30), none, []⟩])))))))
def r95 : List RV := []
theorem n95 : Try.f95.ntmps = 31 := by kernel_rfl
theorem b95 : bodyB Try.prog 95 = true := by kernel_rfl
theorem c95_ok : cmpC Try.prog c95 ((Try.f95.body).getD .skip) = true := by kernel_rfl
theorem r95_ok : cmpR Try.prog r95 Try.f95.results.toList = true := by kernel_rfl
theorem y95 {Y : Hd} {n0 : Nat} {hp0 : List (Nat × HB)} {args : List SV} {Post : Ot → Prop} (h : sx Try.prog Y n0 c95 ⟨enum 0 args, hp0, n0, 31, []⟩ (retM r95 Post)) (hA : Nat.ble args.length 31 = true := by rfl) : CtY Try.prog Y 95 hp0 n0 args Post := cty_intro Try.func95 rfl c95_ok r95_ok n95 (Nat.le_of_ble_eq_true hA) h
def c5 : SC := (.seq (.reg [
  ⟨some 4, .box (.t 0) 0 25, none, []⟩,
  ⟨some 5, .box (.t 1) 0 27, none, []⟩,
  ⟨some 7, .box (.t 3) 0 29, none, []⟩,
  ⟨some 8, .mv (.c (.bool false)), none, []⟩])
  (.seq (.seq (.reg [
  ⟨some 29, .mv (.t 2), none, []⟩,
  ⟨some 30, .len (.t 29), none, []⟩,
  ⟨some 31, .bin .gtr (.t 30) (.c (.int .i64 100)), none, []⟩])
  (.cond (.t 31)
  (.seq (.reg [
   ⟨some 8, .mv (.c (.bool true)), none, []⟩])
   .ret)
  .skip))
  (.seq (.reg [
  ⟨some 32, .bsl 8 29 [], none, []⟩,
  ⟨some 33, .mv (.t 2), none, []⟩,
  ⟨some 34, .app 8 64 29 (.t 32) (.t 33), none, []⟩,
  ⟨some 9, .mv (.t 34), none, []⟩])
  (.seq (.reg [
  ⟨some 36, .ld (.t 4) 17 true, none, []⟩,
  ⟨some 37, .ld (.t 5) 7 true, none, []⟩,
  ⟨some 38, .ld (.t 7) 8 true, none, []⟩,
  ⟨some 39, .call 29 [.t 36, .t 37, .t 38], none, []⟩,
  ⟨some 35, .mv (.t 39), none, []⟩,
  ⟨some 40, .ext (.t 35) 0, none, []⟩,
  ⟨some 41, .ext (.t 35) 1, none, []⟩,
  ⟨some 42, .ext (.t 35) 2, none, []⟩,
  ⟨some 10, .alloc [.int .i64 0, .int .i64 0, .int .i64 0, .int .i64 0, .int .i64 0, .int .i64 0, .bool false] 27, none, []⟩,
  ⟨none, .st (.t 10) (.t 40) 7, none, []⟩,
  ⟨some 11, .mv (.t 41), none, []⟩,
  ⟨some 12, .mv (.t 42), none, []⟩])
  (.seq (.reg [
  ⟨some 44, .ld (.t 4) 17 true, none, []⟩,
  ⟨some 45, .ld (.t 5) 7 true, none, []⟩,
  ⟨some 46, .ld (.t 7) 8 true, none, []⟩,
  ⟨some 47, .call 30 [.t 44, .t 45, .t 46], none, []⟩,
  ⟨some 43, .mv (.t 47), none, []⟩,
  ⟨some 48, .ext (.t 43) 0, none, []⟩,
  ⟨some 49, .ext (.t 43) 1, none, []⟩,
  ⟨some 50, .ext (.t 43) 2, none, []⟩,
  ⟨some 13, .alloc [.int .i64 0, .int .i64 0, .int .i64 0, .int .i64 0, .int .i64 0, .int .i64 0, .bool false] 27, none, []⟩,
  ⟨none, .st (.t 13) (.t 48) 7, none, []⟩,
  ⟨some 14, .mv (.t 49), none, []⟩,
  ⟨some 15, .mv (.t 50), none, []⟩])
  (.seq (.reg [
  ⟨some 52, .ld (.t 4) 17 true, none, []⟩,
  ⟨some 53, .ld (.t 5) 7 true, none, []⟩,
  ⟨some 54, .mv (.t 9), none, []⟩,
  ⟨some 55, .call 31 [.t 52, .t 53, .t 54], none, []⟩,
  ⟨some 51, .mv (.t 55), none, []⟩,
  ⟨some 56, .ext (.t 51) 0, none, []⟩,
  ⟨some 57, .ext (.t 51) 1, none, []⟩,
  ⟨some 58, .ext (.t 51) 2, none, []⟩,
  ⟨some 59, .ext (.t 51) 3, none, []⟩,
  ⟨some 16, .mv (.t 56), none, []⟩,
  ⟨some 17, .mv (.t 57), none, []⟩,
  ⟨some 18, .mv (.t 58), none, []⟩,
  ⟨some 19, .mv (.t 59), none, []⟩])
  (.seq (.reg [
  ⟨some 61, .ld (.t 4) 17 true, none, []⟩,
  ⟨some 62, .ld (.t 5) 7 true, none, []⟩,
  ⟨some 63, .mv (.t 2), none, []⟩,
  ⟨some 64, .call 32 [.t 61, .t 62, .t 63], none, []⟩,
  ⟨some 60, .mv (.t 64), none, []⟩,
  ⟨some 65, .ext (.t 60) 0, none, []⟩,
  ⟨some 66, .ext (.t 60) 1, none, []⟩,
  ⟨some 67, .ext (.t 60) 2, none, []⟩,
  ⟨some 68, .ext (.t 60) 3, none, []⟩,
  ⟨some 20, .mv (.t 65), none, []⟩,
  ⟨some 21, .mv (.t 66), none, []⟩,
  ⟨some 22, .mv (.t 67), none, []⟩,
  ⟨some 23, .mv (.t 68), none, []⟩])
  (.seq (.reg [
  ⟨some 70, .ld (.t 4) 17 true, none, []⟩,
  ⟨some 71, .ld (.t 5) 7 true, none, []⟩,
  ⟨some 72, .ld (.t 7) 8 true, none, []⟩,
  ⟨some 73, .call 33 [.t 70, .t 71, .t 72], none, []⟩,
  ⟨some 69, .mv (.t 73), none, []⟩,
  ⟨some 74, .ext (.t 69) 0, none, []⟩,
  ⟨some 75, .ext (.t 69) 1, none, []⟩,
  ⟨some 24, .alloc [.int .i64 0, .int .i64 0] 23, none, []⟩,
  ⟨none, .st (.t 24) (.t 74) 2, none, []⟩,
  ⟨some 25, .mv (.t 75), none, []⟩])
  (.seq (.reg [
  ⟨some 77, .ld (.t 4) 17 true, none, []⟩,
  ⟨some 78, .ld (.t 5) 7 true, none, []⟩,
  ⟨some 79, .ld (.t 7) 8 true, none, []⟩,
  ⟨some 80, .call 34 [.t 77, .t 78, .t 79], none, []⟩,
  ⟨some 76, .mv (.t 80), none, []⟩,
  ⟨some 81, .ext (.t 76) 0, none, []⟩,
  ⟨some 82, .ext (.t 76) 1, none, []⟩,
  ⟨some 26, .alloc [.int .i64 0, .int .i64 0] 23, none, []⟩,
  ⟨none, .st (.t 26) (.t 81) 2, none, []⟩,
  ⟨some 27, .mv (.t 82), none, []⟩])
  (.seq (.seq (.reg [
  ⟨some 83, .mv (.t 2), none, []⟩,
  ⟨some 84, .len (.t 83), none, []⟩,
  ⟨some 85, .mv (.c (.int .i64 0)), none, []⟩])
  (.block 0 (.loop (.seq (.reg [
    ⟨some 86, .bin .lss (.t 85) (.t 84), none, []⟩])
    (.seq (.cond (.t 86)
    .skip
    (.exit 0))
    (.seq (.block 1 (.seq (.reg [
     ⟨some 87, .mv (.t 85), none, []⟩,
     ⟨some 28, .mv (.t 87), none, []⟩])
     (.seq (.regd [0, 1, 2, 3, 4, 5, 6, 7, 8] [
     .op ⟨some 88, .mv (.t 9), none, []⟩,
     .op ⟨some 89, .mv (.t 28), none, []⟩,
     .op ⟨some 90, .ixs (.t 88) (.t 89) 8, none, [0, 1]⟩,
     .op ⟨some 91, .ld (.t 90) 8 true, none, [2]⟩,
     .op ⟨some 92, .mv (.t 2), none, []⟩,
     .op ⟨some 93, .mv (.t 28), none, []⟩,
     .op ⟨some 94, .ixs (.t 92) (.t 93) 8, none, [4, 5]⟩,
     .op ⟨some 95, .ld (.t 94) 8 true, none, [6]⟩,
     .op ⟨some 96, .eqs true true [1, 1, 1, 1, 1, 1, 1, 1] (.t 91) (.t 95), none, [3, 7]⟩] 0 0 [
])
     (.cond (.t 96)
     (.seq (.reg [
      ⟨some 8, .mv (.c (.bool false)), none, []⟩])
      .ret)
     .skip))))
    (.reg [
    ⟨some 97, .bin .add (.t 85) (.c (.int .i64 1)), none, []⟩,
    ⟨some 85, .mv (.t 97), none, []⟩])))))))
  (.seq (.reg [
  ⟨some 98, .ld (.t 10) 7 true, none, []⟩,
  ⟨some 99, .ld (.t 13) 7 true, none, []⟩,
  ⟨some 100, .eqs false true [1, 1, 1, 1, 1, 1, 0] (.t 98) (.t 99), none, []⟩,
  ⟨some 101, .mv (.t 100), none, []⟩,
  ⟨some 102, .mv (.t 11), some (101, true), []⟩,
  ⟨some 103, .conv .i64 (.t 102), some (101, true), []⟩,
  ⟨some 104, .mv (.t 14), some (101, true), []⟩,
  ⟨some 105, .bin .eql (.t 103) (.t 104), some (101, true), []⟩,
  ⟨some 106, .pick (.t 101) (.t 105) (.c (.bool false)), none, []⟩,
  ⟨some 107, .mv (.t 106), none, []⟩,
  ⟨some 108, .mv (.t 12), some (107, true), []⟩,
  ⟨some 109, .mv (.t 15), some (107, true), []⟩,
  ⟨some 110, .bin .eql (.t 108) (.t 109), some (107, true), []⟩,
  ⟨some 111, .pick (.t 107) (.t 110) (.c (.bool false)), none, []⟩,
  ⟨some 112, .mv (.t 111), none, []⟩,
  ⟨some 113, .mv (.t 16), some (112, true), []⟩,
  ⟨some 114, .mv (.t 20), some (112, true), []⟩,
  ⟨some 115, .call 28 [.t 113, .t 114], some (112, true), []⟩,
  ⟨some 116, .pick (.t 112) (.t 115) (.c (.bool false)), none, []⟩,
  ⟨some 117, .mv (.t 116), none, []⟩,
  ⟨some 118, .mv (.t 17), some (117, true), []⟩,
  ⟨some 119, .conv .i64 (.t 118), some (117, true), []⟩,
  ⟨some 120, .mv (.t 21), some (117, true), []⟩,
  ⟨some 121, .bin .eql (.t 119) (.t 120), some (117, true), []⟩,
  ⟨some 122, .pick (.t 117) (.t 121) (.c (.bool false)), none, []⟩,
  ⟨some 123, .mv (.t 122), none, []⟩,
  ⟨some 124, .mv (.t 18), some (123, true), []⟩,
  ⟨some 125, .mv (.t 22), some (123, true), []⟩,
  ⟨some 126, .bin .eql (.t 124) (.t 125), some (123, true), []⟩,
  ⟨some 127, .pick (.t 123) (.t 126) (.c (.bool false)), none, []⟩,
  ⟨some 128, .mv (.t 127), none, []⟩,
  ⟨some 129, .mv (.t 19), some (128, true), []⟩,
  ⟨some 130, .mv (.t 23), some (128, true), []⟩,
  ⟨some 131, .bin .eql (.t 129) (.t 130), some (128, true), []⟩,
  ⟨some 132, .pick (.t 128) (.t 131) (.c (.bool false)), none, []⟩,
  ⟨some 133, .mv (.t 132), none, []⟩,
  ⟨some 134, .ld (.t 24) 2 true, some (133, true), []⟩,
  ⟨some 135, .ld (.t 26) 2 true, some (133, true), []⟩,
  ⟨some 136, .eqs false true [1, 1] (.t 134) (.t 135), some (133, true), []⟩,
  ⟨some 137, .pick (.t 133) (.t 136) (.c (.bool false)), none, []⟩,
  ⟨some 138, .mv (.t 137), none, []⟩,
  ⟨some 139, .mv (.t 25), some (138, true), []⟩,
  ⟨some 140, .mv (.t 27), some (138, true), []⟩,
  ⟨some 141, .bin .eql (.t 139) (.t 140), some (138, true), []⟩,
  ⟨some 142, .pick (.t 138) (.t 141) (.c (.bool false)), none, []⟩,
  ⟨some 8, .mv (.t 142), none, []⟩])
  .ret)))))))))))
def r5 : List RV := [.tmp 8]
theorem b5 : bodyB Try.prog 5 = true := by kernel_rfl
def c76 : SC := (.seq (.reg [
  ⟨some 4, .mv (.c (.slice none 0 0)), none, []⟩])
  (.seq (.seq (.reg [
  ⟨some 9, .mv (.t 1), none, []⟩,
  ⟨some 10, .bin .lss (.t 9) (.c (.int .i64 0)), none, []⟩])
  (.cond (.t 10)
  (.reg [
   ⟨some 11, .raw (Go.Op.makeInterface 9 (Go.Operand.const (Go.Value.string { data := #[99, 97, 110, 110, 111, 116, 32, 98, 101, 32, 110, 101, 103, 97, 116, 105, 118, 101] }))) 20, none, []⟩,
   ⟨none, .raw (Go.Op.panic (Go.Operand.tmp 11)) 0, none, []⟩])
  .skip))
  (.seq (.reg [
  ⟨some 13, .mv (.t 0), none, []⟩,
  ⟨some 14, .len (.t 13), none, []⟩,
  ⟨some 15, .conv .u64 (.t 14), none, []⟩,
  ⟨some 16, .mv (.t 1), none, []⟩,
  ⟨some 17, .conv .u64 (.t 16), none, []⟩,
  ⟨some 18, .call 96 [.t 15, .t 17], none, []⟩,
  ⟨some 12, .mv (.t 18), none, []⟩,
  ⟨some 19, .ext (.t 12) 0, none, []⟩,
  ⟨some 20, .ext (.t 12) 1, none, []⟩,
  ⟨some 5, .mv (.t 19), none, []⟩,
  ⟨some 6, .mv (.t 20), none, []⟩])
  (.seq (.seq (.reg [
  ⟨some 21, .mv (.t 5), none, []⟩,
  ⟨some 22, .bin .gtr (.t 21) (.c (.int .u64 0)), none, []⟩,
  ⟨some 23, .mv (.t 22), none, []⟩,
  ⟨some 24, .mv (.t 6), some (23, false), []⟩,
  ⟨some 25, .bin .gtr (.t 24) (.c (.int .u64 9223372036854775807)), some (23, false), []⟩,
  ⟨some 26, .pick (.t 23) (.c (.bool true)) (.t 25), none, []⟩])
  (.cond (.t 26)
  (.reg [
   ⟨some 27, .raw (Go.Op.makeInterface 9 (Go.Operand.const (Go.Value.string { data := #[116, 104, 101, 32, 114, 101, 115, 117, 108, 116, 32, 111, 102, 32, 40, 108, 101, 110, 40, 120, 41, 32, 42, 32, 99, 111, 117, 110, 116, 41, 32, 111, 118, 101, 114, 102, 108, 111, 119, 115] }))) 20, none, []⟩,
   ⟨none, .raw (Go.Op.panic (Go.Operand.tmp 27)) 0, none, []⟩])
  .skip))
  (.seq (.reg [
  ⟨some 28, .mv (.t 6), none, []⟩,
  ⟨some 29, .conv .i64 (.t 28), none, []⟩,
  ⟨some 30, .mks 8 64 [.int .i64 0, .int .i64 0, .int .i64 0, .int .i64 0, .int .i64 0, .int .i64 0, .int .i64 0, .int .i64 0] 29 (.t 29), none, []⟩,
  ⟨some 7, .mv (.t 30), none, []⟩])
  (.seq (.reg [
  ⟨some 31, .mv (.t 7), none, []⟩,
  ⟨some 32, .mv (.t 0), none, []⟩,
  ⟨some 33, .cpy 8 (.t 31) (.t 32), none, []⟩,
  ⟨some 8, .mv (.t 33), none, []⟩])
  (.seq (.block 0 (.loop (.seq (.seq (.reg [
    ⟨some 34, .mv (.t 8), none, []⟩,
    ⟨some 35, .mv (.t 7), none, []⟩,
    ⟨some 36, .len (.t 35), none, []⟩,
    ⟨some 37, .bin .lss (.t 34) (.t 36), none, []⟩])
    (.cond (.t 37)
    .skip
    (.exit 0)))
    (.block 1 (.regd [1, 2, 3, 4, 5, 6, 0, 7, 8, 9] [
     .op ⟨some 39, .mv (.t 7), none, []⟩,
     .op ⟨some 40, .mv (.t 8), none, []⟩,
     .op ⟨some 41, .sub 8 (.t 39) (some (.t 40)) none, none, [1, 2]⟩,
     .op ⟨some 42, .mv (.t 7), none, []⟩,
     .op ⟨some 43, .mv (.t 8), none, []⟩,
     .op ⟨some 44, .sub 8 (.t 42) none (some (.t 43)), none, [4, 5]⟩,
     .hide (.t 41),
     .op ⟨some 38, .mv (.t 8), none, []⟩] 0 1 [
     ⟨some 45, .cpy 8 (.t 41) (.t 44), none, [3, 6]⟩,
     ⟨some 46, .bin .add (.t 38) (.t 45), none, [0, 7]⟩,
     ⟨some 8, .mv (.t 46), none, [0, 1, 2, 3, 4, 5, 6, 7, 8]⟩])))))
  (.seq (.reg [
  ⟨some 47, .mv (.t 7), none, []⟩,
  ⟨some 4, .mv (.t 47), none, []⟩])
  .ret))))))))
def r76 : List RV := [.tmp 4]
theorem n76 : Try.f76.ntmps = 48 := by kernel_rfl
theorem b76 : bodyB Try.prog 76 = true := by kernel_rfl
theorem c76_ok : cmpC Try.prog c76 ((Try.f76.body).getD .skip) = true := by kernel_rfl
theorem r76_ok : cmpR Try.prog r76 Try.f76.results.toList = true := by kernel_rfl
theorem t76 {args : List SV} {res : SV} (ka : KFL args) (kr : KF res) (h : sx Try.prog Y0 0 c76 (st0 args 48) (retK r76 res)) (hA : Nat.ble args.length 48 = true := by rfl) : Ct Try.prog 76 args res := ct_intro Try.func76 rfl b76 c76_ok r76_ok n76 (Nat.le_of_ble_eq_true hA) ka kr h
def c96 : SC := (.seq (.reg [
  ⟨some 4, .mv (.c (.int .u64 0)), none, []⟩,
  ⟨some 5, .mv (.c (.int .u64 0)), none, []⟩])
  (.seq (.cond (.c (.bool false))
  (.seq (.reg [
   ⟨some 11, .mv (.t 0), none, []⟩,
   ⟨some 12, .conv .u32 (.t 11), none, []⟩,
   ⟨some 13, .mv (.t 1), none, []⟩,
   ⟨some 14, .conv .u32 (.t 13), none, []⟩,
   ⟨some 15, .call 103 [.t 12, .t 14], none, []⟩,
   ⟨some 10, .mv (.t 15), none, []⟩,
   ⟨some 16, .ext (.t 10) 0, none, []⟩,
   ⟨some 17, .ext (.t 10) 1, none, []⟩,
   ⟨some 6, .mv (.t 16), none, []⟩,
   ⟨some 7, .mv (.t 17), none, []⟩])
   (.seq (.reg [
   ⟨some 18, .mv (.t 6), none, []⟩,
   ⟨some 19, .conv .u64 (.t 18), none, []⟩,
   ⟨some 20, .mv (.t 7), none, []⟩,
   ⟨some 21, .conv .u64 (.t 20), none, []⟩,
   ⟨some 4, .mv (.t 19), none, []⟩,
   ⟨some 5, .mv (.t 21), none, []⟩])
   .ret))
  .skip)
  (.seq (.reg [
  ⟨some 23, .mv (.t 0), none, []⟩,
  ⟨some 24, .mv (.t 1), none, []⟩,
  ⟨some 25, .call 104 [.t 23, .t 24], none, []⟩,
  ⟨some 22, .mv (.t 25), none, []⟩,
  ⟨some 26, .ext (.t 22) 0, none, []⟩,
  ⟨some 27, .ext (.t 22) 1, none, []⟩,
  ⟨some 8, .mv (.t 26), none, []⟩,
  ⟨some 9, .mv (.t 27), none, []⟩])
  (.seq (.reg [
  ⟨some 28, .mv (.t 8), none, []⟩,
  ⟨some 29, .mv (.t 9), none, []⟩,
  ⟨some 4, .mv (.t 28), none, []⟩,
  ⟨some 5, .mv (.t 29), none, []⟩])
  .ret))))
def r96 : List RV := [.tmp 4, .tmp 5]
theorem n96 : Try.f96.ntmps = 30 := by kernel_rfl
theorem b96 : bodyB Try.prog 96 = true := by kernel_rfl
theorem c96_ok : cmpC Try.prog c96 ((Try.f96.body).getD .skip) = true := by kernel_rfl
theorem r96_ok : cmpR Try.prog r96 Try.f96.results.toList = true := by kernel_rfl
theorem t96 {args : List SV} {res : SV} (ka : KFL args) (kr : KF res) (h : sx Try.prog Y0 0 c96 (st0 args 30) (retK r96 res)) (hA : Nat.ble args.length 30 = true := by rfl) : Ct Try.prog 96 args res := ct_intro Try.func96 rfl b96 c96_ok r96_ok n96 (Nat.le_of_ble_eq_true hA) ka kr h
def c104 : SC := (.seq (.reg [
  ⟨some 4, .mv (.c (.int .u64 0)), none, []⟩,
  ⟨some 5, .mv (.c (.int .u64 0)), none, []⟩])
  (.seq (.reg [
  ⟨some 14, .mv (.t 0), none, []⟩,
  ⟨some 15, .raw (Go.Op.binOp Go.BinOp.and 164 (Go.Operand.tmp 14) (Go.Operand.const (Go.Value.int Go.IntKind.u64 4294967295)) 164) 164, none, []⟩,
  ⟨some 6, .mv (.t 15), none, []⟩])
  (.seq (.reg [
  ⟨some 16, .mv (.t 0), none, []⟩,
  ⟨some 17, .raw (Go.Op.binOp Go.BinOp.shr 164 (Go.Operand.tmp 16) (Go.Operand.const (Go.Value.int Go.IntKind.u64 32)) 153) 164, none, []⟩,
  ⟨some 7, .mv (.t 17), none, []⟩])
  (.seq (.reg [
  ⟨some 18, .mv (.t 1), none, []⟩,
  ⟨some 19, .raw (Go.Op.binOp Go.BinOp.and 164 (Go.Operand.tmp 18) (Go.Operand.const (Go.Value.int Go.IntKind.u64 4294967295)) 164) 164, none, []⟩,
  ⟨some 8, .mv (.t 19), none, []⟩])
  (.seq (.reg [
  ⟨some 20, .mv (.t 1), none, []⟩,
  ⟨some 21, .raw (Go.Op.binOp Go.BinOp.shr 164 (Go.Operand.tmp 20) (Go.Operand.const (Go.Value.int Go.IntKind.u64 32)) 153) 164, none, []⟩,
  ⟨some 9, .mv (.t 21), none, []⟩])
  (.seq (.reg [
  ⟨some 22, .mv (.t 6), none, []⟩,
  ⟨some 23, .mv (.t 8), none, []⟩,
  ⟨some 24, .bin .mul (.t 22) (.t 23), none, []⟩,
  ⟨some 10, .mv (.t 24), none, []⟩])
  (.seq (.reg [
  ⟨some 25, .mv (.t 7), none, []⟩,
  ⟨some 26, .mv (.t 8), none, []⟩,
  ⟨some 27, .bin .mul (.t 25) (.t 26), none, []⟩,
  ⟨some 28, .mv (.t 10), none, []⟩,
  ⟨some 29, .raw (Go.Op.binOp Go.BinOp.shr 164 (Go.Operand.tmp 28) (Go.Operand.const (Go.Value.int Go.IntKind.u64 32)) 153) 164, none, []⟩,
  ⟨some 30, .bin .add (.t 27) (.t 29), none, []⟩,
  ⟨some 11, .mv (.t 30), none, []⟩])
  (.seq (.reg [
  ⟨some 31, .mv (.t 11), none, []⟩,
  ⟨some 32, .raw (Go.Op.binOp Go.BinOp.and 164 (Go.Operand.tmp 31) (Go.Operand.const (Go.Value.int Go.IntKind.u64 4294967295)) 164) 164, none, []⟩,
  ⟨some 12, .mv (.t 32), none, []⟩])
  (.seq (.reg [
  ⟨some 33, .mv (.t 11), none, []⟩,
  ⟨some 34, .raw (Go.Op.binOp Go.BinOp.shr 164 (Go.Operand.tmp 33) (Go.Operand.const (Go.Value.int Go.IntKind.u64 32)) 153) 164, none, []⟩,
  ⟨some 13, .mv (.t 34), none, []⟩])
  (.seq (.reg [
  ⟨some 35, .mv (.t 12), none, []⟩,
  ⟨some 36, .mv (.t 6), none, []⟩,
  ⟨some 37, .mv (.t 9), none, []⟩,
  ⟨some 38, .bin .mul (.t 36) (.t 37), none, []⟩,
  ⟨some 39, .bin .add (.t 35) (.t 38), none, []⟩,
  ⟨some 12, .mv (.t 39), none, []⟩])
  (.seq (.reg [
  ⟨some 40, .mv (.t 7), none, []⟩,
  ⟨some 41, .mv (.t 9), none, []⟩,
  ⟨some 42, .bin .mul (.t 40) (.t 41), none, []⟩,
  ⟨some 43, .mv (.t 13), none, []⟩,
  ⟨some 44, .bin .add (.t 42) (.t 43), none, []⟩,
  ⟨some 45, .mv (.t 12), none, []⟩,
  ⟨some 46, .raw (Go.Op.binOp Go.BinOp.shr 164 (Go.Operand.tmp 45) (Go.Operand.const (Go.Value.int Go.IntKind.u64 32)) 153) 164, none, []⟩,
  ⟨some 47, .bin .add (.t 44) (.t 46), none, []⟩,
  ⟨some 4, .mv (.t 47), none, []⟩])
  (.seq (.reg [
  ⟨some 48, .mv (.t 0), none, []⟩,
  ⟨some 49, .mv (.t 1), none, []⟩,
  ⟨some 50, .bin .mul (.t 48) (.t 49), none, []⟩,
  ⟨some 5, .mv (.t 50), none, []⟩])
  .ret))))))))))))
def r104 : List RV := [.tmp 4, .tmp 5]
theorem n104 : Try.f104.ntmps = 51 := by kernel_rfl
theorem b104 : bodyB Try.prog 104 = true := by kernel_rfl
theorem c104_ok : cmpC Try.prog c104 ((Try.f104.body).getD .skip) = true := by kernel_rfl
theorem r104_ok : cmpR Try.prog r104 Try.f104.results.toList = true := by kernel_rfl
theorem t104 {args : List SV} {res : SV} (ka : KFL args) (kr : KF res) (h : sx Try.prog Y0 0 c104 (st0 args 51) (retK r104 res)) (hA : Nat.ble args.length 51 = true := by rfl) : Ct Try.prog 104 args res := ct_intro Try.func104 rfl b104 c104_ok r104_ok n104 (Nat.le_of_ble_eq_true hA) ka kr h
end Go.Proofs.Ytnlfjchbhgikaaa
namespace Go.Azalai
structure Span where
  lo : Int
  hi : Int
deriving DecidableEq
structure Breed where
  full : Int
  fed : Int
  rest : Span
  heat : Span
  toil : Span
  burn : Span
  rub : Span
  milk : Span
  heal : Int
  strong : Span
deriving DecidableEq
structure Camel where
  water : Span
  fat : Span
  sore : Span
  milks : Bool
deriving DecidableEq
structure March where
  hours : Int
  load : Int
  heat : Span
  grass : Span
  drinks : Span
deriving DecidableEq
def inR (lo hi n : Int) : Bool := decide (lo ≤ n ∧ n ≤ hi)
def okSp (lo hi : Int) (s : Span) : Bool := decide (lo ≤ s.lo ∧ s.lo ≤ s.hi ∧ s.hi ≤ hi)
def okBreed (b : Breed) : Bool :=
  inR 1 1000000 b.full && inR 1 1000000 b.fed && inR 0 1000 b.heal && okSp 0 1000000 b.strong && okSp 0 100000 b.rest && okSp 0 100000 b.heat && okSp 0 100000 b.toil && okSp 0 100000 b.burn && okSp 0 100000 b.rub && okSp 0 100000 b.milk
def okCamel (b : Breed) (c : Camel) : Bool := okSp 0 b.full c.water && okSp 0 b.fed c.fat && okSp 0 1000 c.sore
def okMarch (m : March) : Bool := inR 0 24 m.hours && inR 0 1000000 m.load && okSp 0 60 m.heat && okSp 0 1000000 m.grass && okSp 0 1000000 m.drinks
def errB (b : Breed) : Int := if okBreed b = true then 0 else 10
def errC (b : Breed) (c : Camel) : Int := if okBreed b = false then 10 else if okCamel b c = false then 11 else 0
def upF (a b : Int) : Int := (a + b - 1).tdiv b
def zeroS : Span := ⟨0, 0⟩
def fitF (b : Breed) (c : Camel) : Span :=
  ⟨min 1000 (min ((2000 * c.water.lo).tdiv b.full) (min ((2000 * c.fat.lo).tdiv b.fed) (1000 - c.sore.hi))), min 1000 (min (upF (2000 * c.water.hi) b.full) (min (upF (2000 * c.fat.hi) b.fed) (1000 - c.sore.lo)))⟩
def carF (b : Breed) (c : Camel) : Span := ⟨(b.strong.lo * (fitF b c).lo).tdiv 1000, upF (b.strong.hi * (fitF b c).hi) 1000⟩
def workF (m : March) : Int := m.hours * (100000 + m.load)
def costW (b : Breed) (milks : Bool) (m : March) : Span :=
  ⟨b.rest.lo + b.heat.lo * max 0 (m.heat.lo - 20) + (b.toil.lo * workF m).tdiv 100000 + (if milks then b.milk.lo else 0), b.rest.hi + b.heat.hi * max 0 (m.heat.hi - 20) + upF (b.toil.hi * workF m) 100000 + (if milks then b.milk.hi else 0)⟩
def costF (b : Breed) (m : March) : Span := ⟨(b.burn.lo * workF m).tdiv 100000, upF (b.burn.hi * workF m) 100000⟩
theorem tdiv_bd {a A d : Int} (h0 : 0 ≤ a) (h1 : a ≤ A) (hd : 1 ≤ d) : 0 ≤ a.tdiv d ∧ a.tdiv d ≤ A :=
  ⟨Int.tdiv_nonneg h0 (by omega), Int.le_trans (Int.tdiv_le_self d h0) h1⟩
theorem up_bd {a A d : Int} (h0 : 0 ≤ a) (h1 : a ≤ A) (hd : 1 ≤ d) : 0 ≤ upF a d ∧ upF a d ≤ A + d := by
  have := tdiv_bd (a := a + d - 1) (A := A + d) (d := d) (by omega) (by omega) hd
  exact this

def idxF {α : Type} (g : α → Bool) : List α → Nat → Int
  | [], _ => -1
  | x :: l, k => if g x then k else idxF g l (k + 1)
theorem idxF_ge {α : Type} (g : α → Bool) : ∀ (l : List α) (k : Nat), decide (idxF g l k ≥ 0) = l.any g
  | [], k => by simp [idxF]
  | x :: l, k => by
    simp only [idxF, List.any_cons]
    by_cases hg : g x = true
    · simp [hg]
    · simpa [hg] using idxF_ge g l (k + 1)
end Go.Azalai
set_option maxRecDepth 100000
set_option maxHeartbeats 4000000
namespace Go.Proofs.Ytnlfjchbhgikaaa
open Go Go.Sx Go.Azalai
def intL (n : Int) : List SV := [I n]
def spanL (s : Span) : List SV := [I s.lo, I s.hi]
def breedL (b : Breed) : List SV := [I b.full, I b.fed, I b.rest.lo, I b.rest.hi, I b.heat.lo, I b.heat.hi, I b.toil.lo, I b.toil.hi, I b.burn.lo, I b.burn.hi, I b.rub.lo, I b.rub.hi, I b.milk.lo, I b.milk.hi, I b.heal, I b.strong.lo, I b.strong.hi]
def camelL (c : Camel) : List SV := [I c.water.lo, I c.water.hi, I c.fat.lo, I c.fat.hi, I c.sore.lo, I c.sore.hi, B c.milks]
def beastL (b : Breed) (c : Camel) : List SV := [I b.full, I b.fed, I b.rest.lo, I b.rest.hi, I b.heat.lo, I b.heat.hi, I b.toil.lo, I b.toil.hi, I b.burn.lo, I b.burn.hi, I b.rub.lo, I b.rub.hi, I b.milk.lo, I b.milk.hi, I b.heal, I b.strong.lo, I b.strong.hi, I c.water.lo, I c.water.hi, I c.fat.lo, I c.fat.hi, I c.sore.lo, I c.sore.hi, B c.milks]
def marchL (m : March) : List SV := [I m.hours, I m.load, I m.heat.lo, I m.heat.hi, I m.grass.lo, I m.grass.hi, I m.drinks.lo, I m.drinks.hi]
theorem idxF_any {α : Type} (g : α → Bool) (l : List α) : decide (idxF g l 0 ≥ 0) = l.any g := idxF_ge g l 0

theorem idx101 (h : Nat) (caps : List SV) (hk : KFL caps) (g : Int → Bool) (l : List Int) (hg : ∀ x ∈ l, Ct Try.prog h (I x :: caps) (B (g x))) (hl : l.length < 4611686018427387904) {c : Bool} :
    Ct Try.prog 101 [.sl c 1 (l.map intL), .cl h caps] (I (idxF g l 0)) := by
  refine t101 ⟨by simp [KF, KFR_iff, KFL, intL], hk, trivial⟩ (by simp [KF]) ?_
  dsimp only [c101, r101, go_sem, Nat.reduceAdd, Nat.reduceMul, Nat.reduceSub]
  refine loopO (fun k : Nat => [(8, I k)]) (fun _ => []) (fun k => k ≤ l.length ∧ idxF g (l.drop k) k = idxF g l 0) (fun k => l.length - k) 0 ⟨Nat.zero_le _, rfl⟩ ?_ ?_
  · (refine ent_id ?_ ?_ ?_ rfl rfl <;> dsimp only [intL, hk, id, go_sem, Nat.reduceAdd, Nat.reduceMul, Nat.reduceSub] <;> simp [intL, hk, KFR_iff, KFR_app, KFR, KFL, KF, mtL_same, mtO, Nat.beq_refl])
  · intro k ⟨hk', hi⟩
    dsimp only [go_sem, Nat.reduceAdd, Nat.reduceMul, Nat.reduceSub]
    refine br ?_ ?_
    · intro hlt
      have hlt : k < l.length := by simpa using hlt
      dsimp only [go_sem, Nat.reduceAdd, Nat.reduceMul, Nat.reduceSub]
      refine ixs_map k hlt rfl ?_
      dsimp only [intL, go_sem, Nat.reduceAdd, Nat.reduceMul, Nat.reduceSub]
      refine call (hg l[k] (List.getElem_mem _)) ?_
      dsimp only [go_sem, Nat.reduceAdd, Nat.reduceMul, Nat.reduceSub]
      refine br ?_ ?_
      · intro hgx
        dsimp only [go_sem, Nat.reduceAdd, Nat.reduceMul, Nat.reduceSub]
        rw [← hi, List.drop_eq_getElem_cons hlt]
        simp [idxF, hgx]
      · intro hgx
        dsimp only [go_sem, Nat.reduceAdd, Nat.reduceMul, Nat.reduceSub]
        refine ⟨k + 1, ⟨by omega, ?_⟩, by omega, ?_⟩
        · rw [← hi, List.drop_eq_getElem_cons hlt]; simp [idxF, hgx]
        · rw [w64_in (by omega) (by omega)]
          (refine ent_id ?_ ?_ ?_ rfl rfl <;> dsimp only [intL, hk, id, go_sem, Nat.reduceAdd, Nat.reduceMul, Nat.reduceSub] <;> simp [intL, hk, KFR_iff, KFR_app, KFR, KFL, KF, mtL_same, mtO, Nat.beq_refl])
    · intro hlt
      have hlt : k = l.length := by simp at hlt; omega
      dsimp only [go_sem, Nat.reduceAdd, Nat.reduceMul, Nat.reduceSub]
      rw [← hi, hlt]; simp [idxF]

theorem con91 (h : Nat) (caps : List SV) (hk : KFL caps) (g : Int → Bool) (l : List Int) (hg : ∀ x ∈ l, Ct Try.prog h (I x :: caps) (B (g x))) (hl : l.length < 4611686018427387904) {c : Bool} :
    Ct Try.prog 91 [.sl c 1 (l.map intL), .cl h caps] (B (l.any g)) := by
  refine t91 ⟨by simp [KF, KFR_iff, KFL, intL], hk, trivial⟩ (by simp [KF]) ?_
  dsimp only [c91, r91, go_sem, Nat.reduceAdd, Nat.reduceMul, Nat.reduceSub]
  refine call (idx101 h caps hk g l hg hl) ?_
  dsimp only [go_sem, Nat.reduceAdd, Nat.reduceMul, Nat.reduceSub]
  rw [idxF_any]

theorem idx102 (h : Nat) (caps : List SV) (hk : KFL caps) (g : Span → Bool) (l : List Span) (hg : ∀ x ∈ l, Ct Try.prog h (.agg (spanL x) :: caps) (B (g x))) (hl : l.length < 4611686018427387904) {c : Bool} :
    Ct Try.prog 102 [.sl c 2 (l.map spanL), .cl h caps] (I (idxF g l 0)) := by
  refine t102 ⟨by simp [KF, KFR_iff, KFL, spanL], hk, trivial⟩ (by simp [KF]) ?_
  dsimp only [c102, r102, go_sem, Nat.reduceAdd, Nat.reduceMul, Nat.reduceSub]
  refine loopO (fun k : Nat => [(8, I k)]) (fun _ => []) (fun k => k ≤ l.length ∧ idxF g (l.drop k) k = idxF g l 0) (fun k => l.length - k) 0 ⟨Nat.zero_le _, rfl⟩ ?_ ?_
  · (refine ent_id ?_ ?_ ?_ rfl rfl <;> dsimp only [spanL, hk, id, go_sem, Nat.reduceAdd, Nat.reduceMul, Nat.reduceSub] <;> simp [spanL, hk, KFR_iff, KFR_app, KFR, KFL, KF, mtL_same, mtO, Nat.beq_refl])
  · intro k ⟨hk', hi⟩
    dsimp only [go_sem, Nat.reduceAdd, Nat.reduceMul, Nat.reduceSub]
    refine br ?_ ?_
    · intro hlt
      have hlt : k < l.length := by simpa using hlt
      dsimp only [go_sem, Nat.reduceAdd, Nat.reduceMul, Nat.reduceSub]
      refine ixs_map k hlt rfl ?_
      dsimp only [spanL, go_sem, Nat.reduceAdd, Nat.reduceMul, Nat.reduceSub]
      refine call (hg l[k] (List.getElem_mem _)) ?_
      dsimp only [go_sem, Nat.reduceAdd, Nat.reduceMul, Nat.reduceSub]
      refine br ?_ ?_
      · intro hgx
        dsimp only [go_sem, Nat.reduceAdd, Nat.reduceMul, Nat.reduceSub]
        rw [← hi, List.drop_eq_getElem_cons hlt]
        simp [idxF, hgx]
      · intro hgx
        dsimp only [go_sem, Nat.reduceAdd, Nat.reduceMul, Nat.reduceSub]
        refine ⟨k + 1, ⟨by omega, ?_⟩, by omega, ?_⟩
        · rw [← hi, List.drop_eq_getElem_cons hlt]; simp [idxF, hgx]
        · rw [w64_in (by omega) (by omega)]
          (refine ent_id ?_ ?_ ?_ rfl rfl <;> dsimp only [spanL, hk, id, go_sem, Nat.reduceAdd, Nat.reduceMul, Nat.reduceSub] <;> simp [spanL, hk, KFR_iff, KFR_app, KFR, KFL, KF, mtL_same, mtO, Nat.beq_refl])
    · intro hlt
      have hlt : k = l.length := by simp at hlt; omega
      dsimp only [go_sem, Nat.reduceAdd, Nat.reduceMul, Nat.reduceSub]
      rw [← hi, hlt]; simp [idxF]

theorem con93 (h : Nat) (caps : List SV) (hk : KFL caps) (g : Span → Bool) (l : List Span) (hg : ∀ x ∈ l, Ct Try.prog h (.agg (spanL x) :: caps) (B (g x))) (hl : l.length < 4611686018427387904) {c : Bool} :
    Ct Try.prog 93 [.sl c 2 (l.map spanL), .cl h caps] (B (l.any g)) := by
  refine t93 ⟨by simp [KF, KFR_iff, KFL, spanL], hk, trivial⟩ (by simp [KF]) ?_
  dsimp only [c93, r93, go_sem, Nat.reduceAdd, Nat.reduceMul, Nat.reduceSub]
  refine call (idx102 h caps hk g l hg hl) ?_
  dsimp only [go_sem, Nat.reduceAdd, Nat.reduceMul, Nat.reduceSub]
  rw [idxF_any]

theorem within_ok (n lo hi : Int) : Ct Try.prog 88 [I n, I lo, I hi] (B (inR lo hi n)) := by
  refine t88 (by simp [KFL, KF]) (by simp [KFL, KF]) ?_
  dsimp only [c88, r88, go_sem, Nat.reduceAdd, Nat.reduceMul, Nat.reduceSub]
  refine gb ?_; dsimp only [go_sem, Nat.reduceAdd, Nat.reduceMul, Nat.reduceSub]
  refine gb ?_; dsimp only [go_sem, Nat.reduceAdd, Nat.reduceMul, Nat.reduceSub]
  refine gb ?_; dsimp only [go_sem, Nat.reduceAdd, Nat.reduceMul, Nat.reduceSub]
  simp [inR]
theorem spanned_ok (s : Span) (lo hi : Int) : Ct Try.prog 87 [.agg (spanL s), I lo, I hi] (B (okSp lo hi s)) := by
  refine t87 (by simp [spanL, KFL, KF]) (by simp [KFL, KF]) ?_
  dsimp only [c87, r87, spanL, go_sem, Nat.reduceAdd, Nat.reduceMul, Nat.reduceSub]
  refine call (within_ok _ _ _) ?_
  dsimp only [go_sem, Nat.reduceAdd, Nat.reduceMul, Nat.reduceSub]
  repeat (refine gb ?_; dsimp only [go_sem, Nat.reduceAdd, Nat.reduceMul, Nat.reduceSub])
  (simp only [okSp, inR, Option.some.injEq, SV.v.injEq, Value.bool.injEq] <;> grind)
theorem from1_ok (lo hi x : Int) : Ct Try.prog 92 [I x, .ps [I lo] 0, .ps [I hi] 0] (B (!inR lo hi x)) := by
  refine t92 (by simp [KFL, KF]) (by simp [KFL, KF]) ?_
  dsimp only [c92, r92, go_sem, Nat.reduceAdd, Nat.reduceMul, Nat.reduceSub]
  repeat (refine gb ?_; dsimp only [go_sem, Nat.reduceAdd, Nat.reduceMul, Nat.reduceSub])
  (simp only [inR, Option.some.injEq, SV.v.injEq, Value.bool.injEq] <;> grind)
theorem from_any (lo hi : Int) (l : List Int) (hl : l.length < 4611686018427387904) (c : Bool) : Ct Try.prog 64 [I lo, I hi, .sl c 1 (l.map intL)] (B (l.all (inR lo hi))) := by
  refine t64 (by simp [KFR_iff, intL, KFL, KF]) (by simp [KFL, KF]) ?_
  dsimp only [c64, r64, go_sem, Nat.reduceAdd, Nat.reduceMul, Nat.reduceSub]
  refine callv (by simp [FLT]) (res := B (l.any fun x => !inR lo hi x)) ?_ ?_
  · dsimp only [go_sem, Nat.reduceAdd, Nat.reduceMul, Nat.reduceSub]
    exact con91 92 [.ps [I lo] 0, .ps [I hi] 0] (by simp [KFL, KF]) (fun x => !inR lo hi x) l (fun x _ => from1_ok lo hi x) hl
  · dsimp only [go_sem, Nat.reduceAdd, Nat.reduceMul, Nat.reduceSub]
    simp [List.all_eq_not_any_not]
theorem from1 (lo hi a : Int) (c : Bool) : Ct Try.prog 64 [I lo, I hi, .sl c 1 [[I a]]] (B (inR lo hi a)) := by
  have := from_any lo hi [a] (by simp) c
  simpa [intL] using this
theorem from2 (lo hi a b : Int) (c : Bool) : Ct Try.prog 64 [I lo, I hi, .sl c 1 [[I a], [I b]]] (B (inR lo hi a && inR lo hi b)) := by
  have := from_any lo hi [a, b] (by simp) c
  simpa [intL] using this
theorem ordered1_ok (lo hi : Int) (s : Span) : Ct Try.prog 94 [.agg (spanL s), .ps [I lo] 0, .ps [I hi] 0] (B (!okSp lo hi s)) := by
  refine t94 (by simp [spanL, KFL, KF]) (by simp [KFL, KF]) ?_
  dsimp only [c94, r94, spanL, go_sem, Nat.reduceAdd, Nat.reduceMul, Nat.reduceSub]
  repeat (first | (refine gb ?_; dsimp only [go_sem, Nat.reduceAdd, Nat.reduceMul, Nat.reduceSub]) | (refine call (from2 _ _ _ _ _) ?_; dsimp only [go_sem, Nat.reduceAdd, Nat.reduceMul, Nat.reduceSub]))
  (simp only [okSp, inR, Option.some.injEq, SV.v.injEq, Value.bool.injEq] <;> grind)
theorem ordered_any (lo hi : Int) (l : List Span) (hl : l.length < 4611686018427387904) (c : Bool) : Ct Try.prog 65 [I lo, I hi, .sl c 2 (l.map spanL)] (B (l.all (okSp lo hi))) := by
  refine t65 (by simp [KFR_iff, spanL, KFL, KF]) (by simp [KFL, KF]) ?_
  dsimp only [c65, r65, go_sem, Nat.reduceAdd, Nat.reduceMul, Nat.reduceSub]
  refine callv (by simp [FLT]) (res := B (l.any fun x => !okSp lo hi x)) ?_ ?_
  · dsimp only [go_sem, Nat.reduceAdd, Nat.reduceMul, Nat.reduceSub]
    exact con93 94 [.ps [I lo] 0, .ps [I hi] 0] (by simp [KFL, KF]) (fun x => !okSp lo hi x) l (fun x _ => ordered1_ok lo hi x) hl
  · dsimp only [go_sem, Nat.reduceAdd, Nat.reduceMul, Nat.reduceSub]
    simp [List.all_eq_not_any_not]
theorem ordered1 (lo hi : Int) (s : Span) (c : Bool) : Ct Try.prog 65 [I lo, I hi, .sl c 2 [[I s.lo, I s.hi]]] (B (okSp lo hi s)) := by
  have := ordered_any lo hi [s] (by simp) c
  simpa [spanL] using this
theorem ordered2 (lo hi : Int) (s t : Span) (c : Bool) : Ct Try.prog 65 [I lo, I hi, .sl c 2 [[I s.lo, I s.hi], [I t.lo, I t.hi]]] (B (okSp lo hi s && okSp lo hi t)) := by
  have := ordered_any lo hi [s, t] (by simp) c
  simpa [spanL] using this
theorem ordered6 (lo hi : Int) (a b c d e f : Span) (k : Bool) : Ct Try.prog 65 [I lo, I hi, .sl k 2 [[I a.lo, I a.hi], [I b.lo, I b.hi], [I c.lo, I c.hi], [I d.lo, I d.hi], [I e.lo, I e.hi], [I f.lo, I f.hi]]]
    (B (okSp lo hi a && (okSp lo hi b && (okSp lo hi c && (okSp lo hi d && (okSp lo hi e && okSp lo hi f)))))) := by
  have := ordered_any lo hi [a, b, c, d, e, f] (by simp) k
  simpa [spanL] using this
theorem checkBreed_ok (b : Breed) : Ct Try.prog 20 [.agg (breedL b)] (I (errB b)) := by
  refine t20 (by simp [breedL, KFL, KF]) (by simp [KFL, KF]) ?_
  dsimp only [c20, r20, breedL, go_sem, Nat.reduceAdd, Nat.reduceMul, Nat.reduceSub]
  repeat (first | (refine gb ?_; dsimp only [go_sem, Nat.reduceAdd, Nat.reduceMul, Nat.reduceSub]) | (refine call (from1 _ _ _ _) ?_; dsimp only [go_sem, Nat.reduceAdd, Nat.reduceMul, Nat.reduceSub]) | (refine call (from2 _ _ _ _ _) ?_; dsimp only [go_sem, Nat.reduceAdd, Nat.reduceMul, Nat.reduceSub]) | (refine call (ordered6 _ _ b.rest b.heat b.toil b.burn b.rub b.milk _) ?_; dsimp only [go_sem, Nat.reduceAdd, Nat.reduceMul, Nat.reduceSub]) | (refine call (ordered1 _ _ b.strong _) ?_; dsimp only [go_sem, Nat.reduceAdd, Nat.reduceMul, Nat.reduceSub]))
  refine br ?_ ?_
  · intro h
    dsimp only [go_sem, Nat.reduceAdd, Nat.reduceMul, Nat.reduceSub]
    have : okBreed b = false := by simp only [okBreed]; grind
    simp [errB, this]
  · intro h
    dsimp only [go_sem, Nat.reduceAdd, Nat.reduceMul, Nat.reduceSub]
    have : okBreed b = true := by simp only [okBreed]; grind
    simp [errB, this]
theorem breedR_ok (b : Breed) : Ct Try.prog 61 [.agg (breedL b)] (B (okBreed b)) := by
  refine t61 (by simp [breedL, KFL, KF]) (by simp [KFL, KF]) ?_
  dsimp only [c61, r61, breedL, go_sem, Nat.reduceAdd, Nat.reduceMul, Nat.reduceSub]
  repeat (first | (refine gb ?_; dsimp only [go_sem, Nat.reduceAdd, Nat.reduceMul, Nat.reduceSub]) | (refine call (within_ok _ _ _) ?_; dsimp only [go_sem, Nat.reduceAdd, Nat.reduceMul, Nat.reduceSub]) | (refine call (spanned_ok b.strong _ _) ?_; dsimp only [go_sem, Nat.reduceAdd, Nat.reduceMul, Nat.reduceSub]))
  refine br ?_ ?_
  · intro h
    dsimp only [go_sem, Nat.reduceAdd, Nat.reduceMul, Nat.reduceSub]
    have : okBreed b = false := by simp only [okBreed]; grind
    simp [this]
  · intro h
    dsimp only [go_sem, Nat.reduceAdd, Nat.reduceMul, Nat.reduceSub]
    repeat (first | (refine gb ?_; dsimp only [go_sem, Nat.reduceAdd, Nat.reduceMul, Nat.reduceSub]) | (refine call (spanned_ok b.rest _ _) ?_; dsimp only [go_sem, Nat.reduceAdd, Nat.reduceMul, Nat.reduceSub]) | (refine call (spanned_ok b.heat _ _) ?_; dsimp only [go_sem, Nat.reduceAdd, Nat.reduceMul, Nat.reduceSub]) | (refine call (spanned_ok b.toil _ _) ?_; dsimp only [go_sem, Nat.reduceAdd, Nat.reduceMul, Nat.reduceSub]) | (refine call (spanned_ok b.burn _ _) ?_; dsimp only [go_sem, Nat.reduceAdd, Nat.reduceMul, Nat.reduceSub]) | (refine call (spanned_ok b.rub _ _) ?_; dsimp only [go_sem, Nat.reduceAdd, Nat.reduceMul, Nat.reduceSub]) | (refine call (spanned_ok b.milk _ _) ?_; dsimp only [go_sem, Nat.reduceAdd, Nat.reduceMul, Nat.reduceSub]))
    (simp only [okBreed, Option.some.injEq, SV.v.injEq, Value.bool.injEq] <;> grind)
theorem checkCamel_ok (b : Breed) (c : Camel) : Ct Try.prog 22 [.agg (breedL b), .agg (camelL c)] (I (errC b c)) := by
  refine t22 (by simp [breedL, camelL, KFL, KF]) (by simp [KFL, KF]) ?_
  dsimp only [c22, r22, breedL, camelL, go_sem, Nat.reduceAdd, Nat.reduceMul, Nat.reduceSub]
  refine call (checkBreed_ok b) ?_
  dsimp only [go_sem, Nat.reduceAdd, Nat.reduceMul, Nat.reduceSub]
  by_cases hb : okBreed b = true
  case neg =>
    refine br_t (by simp [errB, hb]) ?_
    dsimp only [go_sem, Nat.reduceAdd, Nat.reduceMul, Nat.reduceSub]
    simp [errB, errC, hb]
  refine br_f (by simp [errB, hb]) ?_
  dsimp only [go_sem, Nat.reduceAdd, Nat.reduceMul, Nat.reduceSub]
  repeat (first | (refine gb ?_; dsimp only [go_sem, Nat.reduceAdd, Nat.reduceMul, Nat.reduceSub]) | (refine call (ordered1 _ _ c.water _) ?_; dsimp only [go_sem, Nat.reduceAdd, Nat.reduceMul, Nat.reduceSub]) | (refine call (ordered1 _ _ c.fat _) ?_; dsimp only [go_sem, Nat.reduceAdd, Nat.reduceMul, Nat.reduceSub]) | (refine call (ordered1 _ _ c.sore _) ?_; dsimp only [go_sem, Nat.reduceAdd, Nat.reduceMul, Nat.reduceSub]))
  refine br ?_ ?_
  · intro h
    dsimp only [go_sem, Nat.reduceAdd, Nat.reduceMul, Nat.reduceSub]
    have : okCamel b c = false := by simp only [okCamel]; grind
    simp [errC, this, hb]
  · intro h
    dsimp only [go_sem, Nat.reduceAdd, Nat.reduceMul, Nat.reduceSub]
    have : okCamel b c = true := by simp only [okCamel]; grind
    simp [errC, this, hb]
theorem camelR_ok (b : Breed) (c : Camel) : Ct Try.prog 42 [.agg (breedL b), .agg (camelL c)] (B (okCamel b c)) := by
  refine t42 (by simp [breedL, camelL, KFL, KF]) (by simp [KFL, KF]) ?_
  dsimp only [c42, r42, breedL, camelL, go_sem, Nat.reduceAdd, Nat.reduceMul, Nat.reduceSub]
  repeat (first | (refine gb ?_; dsimp only [go_sem, Nat.reduceAdd, Nat.reduceMul, Nat.reduceSub]) | (refine call (spanned_ok c.water _ _) ?_; dsimp only [go_sem, Nat.reduceAdd, Nat.reduceMul, Nat.reduceSub]) | (refine call (spanned_ok c.fat _ _) ?_; dsimp only [go_sem, Nat.reduceAdd, Nat.reduceMul, Nat.reduceSub]) | (refine call (spanned_ok c.sore _ _) ?_; dsimp only [go_sem, Nat.reduceAdd, Nat.reduceMul, Nat.reduceSub]))
  (simp only [okCamel, Option.some.injEq, SV.v.injEq, Value.bool.injEq] <;> grind)
theorem checkCamelR_ok (b : Breed) (c : Camel) : Ct Try.prog 23 [.agg (breedL b), .agg (camelL c)] (I (errC b c)) := by
  refine t23 (by simp [breedL, camelL, KFL, KF]) (by simp [KFL, KF]) ?_
  dsimp only [c23, r23, breedL, camelL, go_sem, Nat.reduceAdd, Nat.reduceMul, Nat.reduceSub]
  refine call (breedR_ok b) ?_
  dsimp only [go_sem, Nat.reduceAdd, Nat.reduceMul, Nat.reduceSub]
  by_cases hb : okBreed b = true
  case neg =>
    refine br_t (by simp [hb]) ?_
    dsimp only [go_sem, Nat.reduceAdd, Nat.reduceMul, Nat.reduceSub]
    simp [errC, hb]
  refine br_f (by simp [hb]) ?_
  dsimp only [go_sem, Nat.reduceAdd, Nat.reduceMul, Nat.reduceSub]
  refine call (camelR_ok b c) ?_
  dsimp only [go_sem, Nat.reduceAdd, Nat.reduceMul, Nat.reduceSub]
  refine br ?_ ?_
  · intro h
    dsimp only [go_sem, Nat.reduceAdd, Nat.reduceMul, Nat.reduceSub]
    have : okCamel b c = false := by simpa using h
    simp [errC, this, hb]
  · intro h
    dsimp only [go_sem, Nat.reduceAdd, Nat.reduceMul, Nat.reduceSub]
    have : okCamel b c = true := by simpa using h
    simp [errC, this, hb]
theorem marchR_ok (m : March) : Ct Try.prog 62 [.agg (marchL m)] (B (okMarch m)) := by
  refine t62 (by simp [marchL, KFL, KF]) (by simp [KFL, KF]) ?_
  dsimp only [c62, r62, marchL, go_sem, Nat.reduceAdd, Nat.reduceMul, Nat.reduceSub]
  repeat (first | (refine gb ?_; dsimp only [go_sem, Nat.reduceAdd, Nat.reduceMul, Nat.reduceSub]) | (refine call (within_ok _ _ _) ?_; dsimp only [go_sem, Nat.reduceAdd, Nat.reduceMul, Nat.reduceSub]) | (refine call (spanned_ok m.heat _ _) ?_; dsimp only [go_sem, Nat.reduceAdd, Nat.reduceMul, Nat.reduceSub]) | (refine call (spanned_ok m.grass _ _) ?_; dsimp only [go_sem, Nat.reduceAdd, Nat.reduceMul, Nat.reduceSub]) | (refine call (spanned_ok m.drinks _ _) ?_; dsimp only [go_sem, Nat.reduceAdd, Nat.reduceMul, Nat.reduceSub]))
  (simp only [okMarch, Option.some.injEq, SV.v.injEq, Value.bool.injEq] <;> grind)
theorem checkDays_ok (l : List March) (hl : l.length < 4611686018427387904) (c : Bool) : Ct Try.prog 59 [.sl c 8 (l.map marchL)] (I (if l.all okMarch = true then 0 else 12)) := by
  refine t59 (by simp [marchL, KFR_iff, KFL, KF]) (by simp [KFL, KF]) ?_
  dsimp only [c59, r59, go_sem, Nat.reduceAdd, Nat.reduceMul, Nat.reduceSub]
  refine loopO (fun k : Nat => [(7, I k)]) (fun _ => []) (fun k => k ≤ l.length ∧ (l.drop k).all okMarch = l.all okMarch) (fun k => l.length - k) 0 ⟨Nat.zero_le _, rfl⟩ ?_ ?_
  · (refine ent_id ?_ ?_ ?_ rfl rfl <;> dsimp only [marchL, id, go_sem, Nat.reduceAdd, Nat.reduceMul, Nat.reduceSub] <;> simp [marchL, KFR_iff, KFR_app, KFR, KFL, KF, mtL_same, mtO, Nat.beq_refl])
  intro k ⟨hk, hi⟩
  dsimp only [go_sem, Nat.reduceAdd, Nat.reduceMul, Nat.reduceSub]
  by_cases hlt : k < l.length
  · refine br_t (by simpa using hlt) ?_
    dsimp only [go_sem, Nat.reduceAdd, Nat.reduceMul, Nat.reduceSub]
    refine ixs_map k hlt rfl ?_
    dsimp only [marchL, go_sem, Nat.reduceAdd, Nat.reduceMul, Nat.reduceSub]
    repeat (first | (refine gb ?_; dsimp only [go_sem, Nat.reduceAdd, Nat.reduceMul, Nat.reduceSub]) | (refine call (from1 _ _ _ _) ?_; dsimp only [go_sem, Nat.reduceAdd, Nat.reduceMul, Nat.reduceSub]) | (refine call (ordered1 _ _ l[k].heat _) ?_; dsimp only [go_sem, Nat.reduceAdd, Nat.reduceMul, Nat.reduceSub]) | (refine call (ordered2 _ _ l[k].grass l[k].drinks _) ?_; dsimp only [go_sem, Nat.reduceAdd, Nat.reduceMul, Nat.reduceSub]))
    rw [List.drop_eq_getElem_cons hlt, List.all_cons] at hi
    refine br ?_ ?_
    · intro h
      dsimp only [go_sem, Nat.reduceAdd, Nat.reduceMul, Nat.reduceSub]
      have : okMarch l[k] = false := by simp only [okMarch]; grind
      rw [← hi, this]; rfl
    · intro h
      dsimp only [go_sem, Nat.reduceAdd, Nat.reduceMul, Nat.reduceSub]
      have : okMarch l[k] = true := by simp only [okMarch]; grind
      rw [this, Bool.true_and] at hi
      rw [w64_in (n := (k : Int) + 1) (by omega) (by omega)]
      refine ⟨k + 1, ⟨hlt, hi⟩, by omega, ?_⟩
      (refine ent_id ?_ ?_ ?_ rfl rfl <;> dsimp only [marchL, id, go_sem, Nat.reduceAdd, Nat.reduceMul, Nat.reduceSub] <;> simp [marchL, KFR_iff, KFR_app, KFR, KFL, KF, mtL_same, mtO, Nat.beq_refl])
  · refine br_f (by simp; omega) ?_
    dsimp only [go_sem, Nat.reduceAdd, Nat.reduceMul, Nat.reduceSub]
    have hke : k = l.length := by omega
    subst hke
    rw [List.drop_length] at hi
    rw [← hi]; rfl
theorem checkDay1 (m : March) (c : Bool) : Ct Try.prog 59 [.sl c 8 [marchL m]] (I (if okMarch m = true then 0 else 12)) := by
  have := checkDays_ok [m] (by simp) c
  simpa using this
end Go.Proofs.Ytnlfjchbhgikaaa
