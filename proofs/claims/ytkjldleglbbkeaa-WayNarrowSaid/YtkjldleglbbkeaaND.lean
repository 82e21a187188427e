/- Walks and plain laws that lead to the given statement, part 4 of 8. -/
import Derived.Test.YtkjldleglbbkeaaNC
open Nat renaming reduceAdd→rA,reduceMul→rM,reduceSub→rS,beq_refl→nbr
namespace Go.Sx
open Go Go.RowKit
variable {Y:Hd}
section
variable (P:Program) (m:Nat) (σ : St) (K:Ex → St → Prop) (L:RK)
theorem rx_nil:rx P Y [] σ L = L .n σ:=rfl
theorem rx_cons (io:Ins) (r:List Ins):rx P Y (io :: r) σ L = st1 P Y io σ (rx P Y r) L:=rfl
theorem sx_reg (ops:List Ins):sx P Y m (.reg ops) σ K = rx P Y ops σ (endK K):=rfl
theorem sx_regs (ord:List Nat) (p:Ph) (ps:List Ph):sx P Y m (.regs ord p ps) σ K = phx P Y p ps σ (endK K):=rfl
theorem phx_1 (vs:List VI) (nA nB:Nat) (rest:List Ins):phx P Y ⟨vs,nA,nB,rest⟩ [] σ L = gs0 σ.gs (rxv P Y (backK σ.hp (rx P Y rest)) vs σ L):=rfl
theorem phx_2 (vs:List VI) (nA nB:Nat) (rest:List Ins) (q:Ph) (ps:List Ph):phx P Y ⟨vs,nA,nB,rest⟩ (q :: ps) σ L = gs0 σ.gs (rxv P Y (backK σ.hp (rx P Y rest)) vs σ (phK (phx P Y q ps) L)):=rfl
theorem phK_n (f:St → RK → Prop):phK f L .n σ = f σ L:=rfl
theorem sx_regd (ord:List Nat) (vs:List VI) (nA nB:Nat) (rest:List Ins):sx P Y m (.regd ord vs nA nB rest) σ K = gs0 σ.gs (rxv P Y (backK σ.hp (rx P Y rest)) vs σ (endK K)):=rfl
theorem rxv_nil (r:KT):rxv P Y r [] σ L = r σ L:=rfl
theorem rxv_op (r:KT) (io:Ins) (l:List VI):rxv P Y r (.op io :: l) σ L = st1 P Y io σ (rxv P Y r l) L:=rfl
theorem rxv_hide (r:KT) (x:X) (l:List VI):rxv P Y r (.hide x :: l) σ L = hideK (rdG none σ.fr x) σ (rxv P Y r l) L:=rfl
theorem backK_eq (hp:List (Nat × HB)) (r:KT):backK hp r σ L = r ⟨σ.fr,hp,σ.n,σ.N,σ.gs⟩ L:=rfl
theorem hideK_p (k o:Nat) (r:KT):hideK (.p k o) σ r L = r ⟨σ.fr,(k,.gone) :: σ.hp,σ.n,σ.N,σ.gs⟩ L:=rfl
theorem hideK_mr (k v:Nat) (r:KT):hideK (.mr k v) σ r L = r ⟨σ.fr,(k,.gone) :: σ.hp,σ.n,σ.N,σ.gs⟩ L:=rfl
theorem hideK_pr (k v m i o:Nat) (r:KT):hideK (.pr k v m i o) σ r L = r ⟨σ.fr,(k,.gone) :: σ.hp,σ.n,σ.N,σ.gs⟩ L:=rfl
theorem hideK_ms (k v m i o:Nat) (r:KT):hideK (.ms k v m i o) σ r L = r ⟨σ.fr,(k,.gone) :: σ.hp,σ.n,σ.N,σ.gs⟩ L:=rfl
theorem gs0_nil (p:Prop):gs0 [] p = p:=rfl
theorem sx_seq (a b:SC):sx P Y m (.seq a b) σ K = sx P Y m a σ (seqK (sx P Y m b) K):=rfl
theorem sx_cond (c:X) (a b:SC):sx P Y m (.cond c a b) σ K = cndK (rdG none σ.fr c) (sx P Y m a) (sx P Y m b) σ K:=rfl
theorem sx_block (id:Nat) (c:SC):sx P Y m (.block id c) σ K = sx P Y m c σ (blkK id K):=rfl
theorem sx_loop (c:SC):sx P Y m (.loop c) σ K = LOOP m (sx P Y m c) σ K:=rfl
theorem sx_exit (id:Nat):sx P Y m (.exit id) σ K = K (.ex id) σ:=rfl
theorem sx_ret:sx P Y m .ret σ K = K .ret σ:=rfl
theorem sx_skip:sx P Y m .skip σ K = K .n σ:=rfl
theorem sx_scope (c:SC):sx P Y m (.scope c) σ K = sx P Y m c σ K:=rfl
theorem sx_gh (c:SC):sx P Y m (.gh c) σ K = GH m (sx P Y m c) σ K:=rfl
theorem sx_label (l:Nat):sx P Y m (.label l) σ K = K .n σ:=rfl
theorem endK_eq (e:Ex):endK K e σ = K e (purge σ):=rfl
theorem seqK_n (f:CT):seqK f K .n σ = f σ K:=rfl
theorem seqK_ex (f:CT) (i:Nat):seqK f K (.ex i) σ = K (.ex i) σ:=rfl
theorem seqK_pan (f:CT) (s:SV):seqK f K (.pan s) σ = K (.pan s) σ:=rfl
theorem seqK_ret (f:CT):seqK f K .ret σ = K .ret σ:=rfl
theorem blkK_n (id:Nat):blkK id K .n σ = K .n σ:=rfl
theorem blkK_pan (id:Nat) (s:SV):blkK id K (.pan s) σ = K (.pan s) σ:=rfl
theorem blkK_ret (id:Nat):blkK id K .ret σ = K .ret σ:=rfl
theorem retK_n (rs:List RV) (res:SV):retK rs res .n σ = (rvR rs σ = some res):=rfl
theorem retK_ret (rs:List RV) (res:SV):retK rs res .ret σ = (rvR rs σ = some res):=rfl
theorem lopK_n {S:Type} (st:S → St) (rel:S → Prop) (μ : S → Nat) (s:S):lopK m st rel μ s K .n σ = ∃ s',rel s' ∧ μ s' < μ s ∧ Ent m σ (st s'):=rfl
theorem lopK_ex {S:Type} (st:S → St) (rel:S → Prop) (μ : S → Nat) (s:S) (i:Nat):lopK m st rel μ s K (.ex i) σ = K (.ex i) σ:=rfl
theorem lopK_pan {S:Type} (st:S → St) (rel:S → Prop) (μ : S → Nat) (s:S) (x:SV):lopK m st rel μ s K (.pan x) σ = K (.pan x) σ:=rfl
theorem lopK_ret {S:Type} (st:S → St) (rel:S → Prop) (μ : S → Nat) (s:S):lopK m st rel μ s K .ret σ = K .ret σ:=rfl
end
section
variable {P:Program} {m:Nat} {σ : St} {K:Ex → St → Prop} {L:RK} {r:KT} {d:Option Nat} {g:Option (Nat × Bool)}
theorem br {b:Bool} {f h:CT} (h1:b = true → f σ K) (h2:b = false → h σ K):BR b f h σ K:=⟨h1,h2⟩
theorem br_t {b:Bool} {f h:CT} (hb:b = true) (h1:f σ K):BR b f h σ K:=⟨fun _=>h1,fun e=>by rw [hb] at e;cases e⟩
theorem br_f {b:Bool} {f h:CT} (hb:b = false) (h1:h σ K):BR b f h σ K:=⟨fun e=>by (rw [hb] at e;cases e),fun _=>h1⟩
theorem gb {b w:Bool} {j:Nat} {i:SI} (h:stpV P (some (j,w)) d i σ r L):GB P Y b j w d i σ r L:=.inr (.inr h)
theorem gb_run {b w:Bool} {j:Nat} {i:SI} (hb:b = w) (h:stp P Y d i σ r L):GB P Y b j w d i σ r L:=.inl ⟨hb,h⟩
theorem gb_skip {b w:Bool} {j:Nat} {i:SI} (hb:b ≠ w) (h:skipK d σ r L):GB P Y b j w d i σ r L:=.inr (.inl ⟨hb,h⟩)
theorem call {f:FuncId} {args:List SV} {res:SV} (h:Ct P f args res) (hk:putK d res g σ r L):CALL P g f args d σ r L:=⟨res,.inl (impP_iff.2 fun _=>h),hk⟩
theorem callv {f:FuncId} {args:List SV} {res:SV} (hf:FLT res) (h:Ct P f (mapS (vw4 σ.hp) args) res) (hk:putK d res g σ r L):CALL P g f args d σ r L:=⟨res,.inr ⟨hf,impP_iff.2 fun _=>h⟩,hk⟩
theorem div0 {b:BinOp} {k:IntKind} {x y:Int} (h:y ≠ 0) (hk:putK d (.v (.int k (divr b k x y))) g σ r L):DIV g b k x y d σ r L:=⟨impP_iff.2 fun _=>h,hk⟩
theorem ixs {xs:List (List SV)} {i:Int} (n:Nat) (row:List SV) (hi:i = (n:Int)) (hr:xs[n]? = some row) (hk:putK d (.ps row 0) g σ r L):IXS g xs i d σ r L:=⟨row,impP_iff.2 fun _=>⟨n,hi,hr⟩,hk⟩
theorem ixs_map {α : Type} {l:List α} {f:α → List SV} {i:Int} (n:Nat) (hn:n < l.length) (hi:i = (n:Int)) (hk:putK d (.ps (f l[n]) 0) g σ r L):IXS g (l.map f) i d σ r L :=
 ixs n _ hi (by simp [hn]) hk
theorem ixa {len:Nat} {i:Int} {F:Nat → Option SV} (n:Nat) (hi:i = (n:Int)) (hn:n < len) (hk:putO (F n) d g σ r L):IXA g len i F d σ r L:=⟨n,impP_iff.2 fun _=>⟨hi,hn⟩,hk⟩
theorem loop {f:CT} {S:Type} (st:S → St) (rel:S → Prop) (μ : S → Nat) (s:S) (h0:rel s) (he:Ent m σ (st s)) (hb:∀ s,rel s → f (st s) (lopK m st rel μ s K)):LOOP m f σ K :=
 .inr ⟨S,st,rel,μ,⟨s,h0,he⟩,hb⟩
theorem unroll {f:CT} (n:Nat) (h:rnds f K n σ):LOOP m f σ K:=.inl ⟨n,h⟩
theorem rnds_succ {f:CT} (n:Nat):rnds f K (n + 1) σ = f σ (rndK (rnds f K n) K):=rfl
theorem rndK_n (p:St → Prop):rndK p K .n σ = p σ:=rfl
theorem rndK_ex (p:St → Prop) (i:Nat):rndK p K (.ex i) σ = K (.ex i) σ:=rfl
theorem rndK_pan (p:St → Prop) (s:SV):rndK p K (.pan s) σ = K (.pan s) σ:=rfl
theorem rndK_ret (p:St → Prop):rndK p K .ret σ = K .ret σ:=rfl
def entF:List (Nat × SV) → List (Nat × SV) → Prop
 | [],_=>True
 | (t,s) :: r,fr=>lk t fr = s ∧ entF r fr
def nogd:List (Nat × SV) → Bool
 | []=>true
 | (_,.gd _ _ _) :: _=>false
 | _ :: r=>nogd r
end
section
variable {w:World} {E:Env} {ok ok':Nat → Prop} {ρ : Nat → Nat} {n':Nat} {n:Nat → Prop}
theorem ent {σ σ':St} (ρ : Nat → Nat) (hf:mtF ρ σ'.n [] σ'.fr σ.fr) (hp:mtP ρ σ'.hp σ.hp σ'.n σ'.n) (hb:hpb σ'.n σ'.hp) (hρ : ∀ i,i < σ'.n → ∀ j,j < σ'.n → ρ i = ρ j → i = j) (hN:Nat.beq σ'.N σ.N = true) {m0:Nat} (hm:Nat.ble m0 σ'.n = true) (hfix:∀ i,i < m0 → ρ i = i):Ent m0 σ σ':=by
 intro C E a w hm0 h
 have hN:=Nat.eq_of_beq_eq_true hN
 have hgone:=hpb_gone hb
 have hH:=mtP_lk hp
 have hocc:∀ k b,occ (rnE E ρ) k (lkh k σ'.hp) b → k < σ'.n ∧ occ E (ρ k) (lkh (ρ k) σ.hp) b:=fun k b ho=>by
  by_cases hk:k < σ'.n
  · refine ⟨hk,?_⟩
    have:=hH k hk
    cases h1:lkh k σ'.hp <;> rw [h1] at ho this
    · cases h2:lkh (ρ k) σ.hp <;> rw [h2] at this <;> simp only [mtH] at this
      exact ho
    · simp only [mtH] at this;rw [this.1];exact ho
    · simp only [mtH] at this;rw [this];exact ho
    · simp only [mtH] at this;rw [this.1];exact ho
    · simp only [mtH] at this;rw [this.2];exact ho
    · simp only [mtH] at this;rw [this];exact ho
    · simp only [mtH] at this;rw [this];exact ho
    · simp only [mtH] at this;rw [this.1];exact ho
    · exact ho.elim
  · rw [hgone k hk] at ho;exact ho.elim
 have hst:Stays w w (okS C E σ.hp) (okS C (rnE E ρ) σ'.hp):=fun b hb _=>⟨⟨hb.1,fun k ho=>hb.2 _ (hocc k b ho).2⟩,rfl⟩
 refine ⟨rnE E ρ,fun t=>?_,by rw [hN];exact h.sz,DF_mono hst h.df,fun t j b s ht=>?_,⟨hgone,fun k=>?_,fun k k' b h1 h2=>?_,fun k b h1=>?_,h.hs.kp,fun k hk=>?_⟩⟩
 · rcases mtF_lk hf t rfl with h1 | h1
   · rw [h1];exact trivial
   · have:=mtS_R hst h1 (h.fr t)
     have hng:=mtS_nogd h1
     cases hs:lk t σ'.fr <;> rw [hs] at this hng <;> first | exact this | exact absurd rfl (hng _ _ _)
 · rcases mtF_lk hf t rfl with h1 | h1
   · rw [h1] at ht;cases ht
   · exact absurd ht (mtS_nogd h1 j b s)
 · by_cases hk:k < σ'.n
   · have:=hH k hk
     have hbk:=h.hs.bk (ρ k)
     cases h1:lkh k σ'.hp <;> rw [h1] at this
     · cases h2:lkh (ρ k) σ.hp <;> rw [h2] at this hbk <;> simp only [mtH] at this
       obtain ⟨rfl,this⟩:=this
       simp only [HBok] at hbk ⊢
       obtain ⟨cs,k1,k2⟩:=hbk
       exact ⟨cs,k1,mtL_ok hst _ _ _ this k2⟩
     · simp only [mtH] at this
       rw [this.1] at hbk
       simp only [HBok] at hbk ⊢
       obtain ⟨hi0,hbk⟩:=hbk
       refine ⟨hi0,?_⟩
       rcases hbk with q | ⟨b,cap,cs,q1,q2,q3,q4,q5,q6,q7⟩
       · exact .inl q
       · exact .inr ⟨b,cap,cs,q1,q2,q3,q4,q5,q6,RL_mono hst (fun _ h=>Ele.rfl) (fun _ h=>h.elim) _ _ (RL_kf (E':=rnE E ρ) (n':=fun _=>False) _ _ (KFR_flat this.2) q7)⟩
     · rename_i φ
       simp only [mtH] at this
       rw [this] at hbk
       simp only [HBok] at hbk ⊢
       obtain ⟨o,k1,k2⟩:=hbk
       exact ⟨o,k1,φ.mono _ _ _ _ _ hst k2⟩
     · simp only [mtH] at this
       obtain ⟨this,hkf⟩:=this
       rw [this] at hbk
       simp only [HBok] at hbk ⊢
       obtain ⟨ys,k1,k2⟩:=hbk
       exact ⟨ys,k1,RM_kf hst _ _ hkf k2⟩
     · simp only [mtH] at this
       rw [this.2] at hbk
       simp only [HBok] at hbk ⊢
       exact ⟨this.1,hbk.2⟩
     · simp only [mtH] at this
       rw [this] at hbk
       simp only [HBok] at hbk ⊢
       exact hbk
     · simp only [mtH] at this
       rw [this] at hbk
       simp only [HBok] at hbk ⊢
       exact hbk
     · simp only [mtH] at this
       obtain ⟨this,k1,k2⟩:=this
       rw [this] at hbk
       exact HBok_rws_tr (E:=E) (k:=ρ k) (E':=rnE E ρ) hst.c (fun _ _=>rfl) rfl hk k1 k2 hbk
     · trivial
   · rw [hgone k hk];trivial
 · have e1:=hocc k b h1
   have e2:=hocc k' b h2
   exact hρ k e1.1 k' e2.1 (h.hs.dj _ _ b e1.2 e2.2)
 · obtain ⟨e1,e2⟩:=hocc k b h1
   rcases h.hs.lo _ b e2 with q | q
   · exact .inl q
   · have q1:=Nat.lt_of_lt_of_le (hm0.2 _ _ q) hm0.1
     have q2:ρ k = k:=hρ _ (Nat.lt_of_lt_of_le q1 (Nat.le_of_ble_eq_true hm)) k e1 (hfix _ q1)
     rw [q2] at q;exact .inr q
 · have hk':k < m0:=Nat.lt_of_lt_of_le hk hm0.1
   obtain ⟨p1,p2,p3,p4⟩:=h.hs.pin k hk
   exact ⟨Nat.lt_of_lt_of_le hk' (Nat.le_of_ble_eq_true hm),by simp only [rnE,hfix k hk'];exact p2,by simp only [rnE,hfix k hk'];exact p3,by simp only [rnE,hfix k hk'];exact p4⟩
end
theorem mtS_same {ρ : Nat → Nat} {n':Nat}:∀ {s:SV},KF s → mtS ρ n' s s:=by
 intro s
 exact SV.rec (motive_1:=fun s=>KF s → mtS ρ n' s s) (motive_2:=fun l=>KFL l → mtL ρ n' l l) (motive_3:=fun _=>True)
  (fun x _=>by simp [mtS]) (fun k o h=>by simp [KF] at h) (fun l ih h=>by simp only [KF] at h;simp only [mtS,aggL,mtO];exact ih h)
  (fun c m xs _ h=>by simp only [KF] at h;simp [mtS,h]) (fun k v h=>by simp [KF] at h) (fun k v m i o h=>by simp [KF] at h) (fun k v m i o h=>by simp [KF] at h)
  (fun l o _ h=>by simp only [KF] at h;simp [mtS,h]) (fun f l ih h=>by simp only [KF] at h;simp only [mtS,clL,nbr,cond_true,mtO];exact ih h)
  (fun l ih h=>by simp only [KF] at h;simp only [mtS,tupL,mtO];exact ih h) (fun k h=>by simp [KF] at h) (fun k h=>by simp [KF] at h) (fun T s ih h=>by simp only [KF] at h;simp only [mtS,mtI];exact ⟨trivial,ih h⟩) (fun φ _=>by simp [mtS]) (fun j w s _ h=>by simp [KF] at h) (fun _=>by simp [mtS])
  (fun _=>by simp [mtL]) (fun s l h1 h2 h=>by simp only [KFL] at h;simp only [mtL,mtB];exact ⟨h1 h.1,h2 h.2⟩)
  trivial (fun _ _ _ _=>trivial) s
theorem mtL_same {ρ : Nat → Nat} {n':Nat}:∀ {l:List SV},KFL l → mtL ρ n' l l
 | [],_=>by simp [mtL]
 | s :: l,h=>by simp only [mtL,mtB];exact ⟨mtS_same h.1,mtL_same h.2⟩
abbrev I (n:Int):SV:=.v (.int .i64 n)
abbrev B (b:Bool):SV:=.v (.bool b)
theorem KFR_app:∀ {xs ys:List (List SV)},KFR (xs ++ ys) ↔ KFR xs ∧ KFR ys
 | [],ys=>by simp [KFR]
 | x :: xs,ys=>by simp [KFR,KFR_app (xs:=xs) (ys:=ys),and_assoc]
theorem KFR_iff {α : Type} {f:α → List SV} {l:List α}:KFR (l.map f) ↔ ∀ x ∈ l,KFL (f x):=by
 induction l with
 | nil=>simp [KFR]
 | cons x l ih=>simp [KFR,ih]
abbrev w64 (n:Int):Int:=IntKind.i64.wrap n
theorem w64_in {n:Int} (h1:-9223372036854775808 ≤ n) (h2:n ≤ 9223372036854775807):IntKind.i64.wrap n = n:=IntWalk.i64_in n ⟨h1,h2⟩
def stO {S:Type} (σ : St) (ov:S → List (Nat × SV)) (hv:S → List (Nat × HB)) (s:S):St:=⟨ov s ++ σ.fr,hv s ++ σ.hp,σ.n,σ.N,[]⟩
theorem e_stO {S:Type} (fr:List (Nat × SV)) (hp:List (Nat × HB)) (n N:Nat) (gs:List Nat) (ov:S → List (Nat × SV)) (hv:S → List (Nat × HB)) (s:S):stO ⟨fr,hp,n,N,gs⟩ ov hv s = ⟨ov s ++ fr,hv s ++ hp,n,N,[]⟩:=rfl
theorem loopO {m:Nat} {f:CT} {σ : St} {K:Ex → St → Prop} {S:Type} (ov:S → List (Nat × SV)) (hv:S → List (Nat × HB)) (rel:S → Prop) (μ : S → Nat) (s0:S) (h0:rel s0) (he:Ent m σ (stO σ ov hv s0))
 (hb:∀ s,rel s → f (stO σ ov hv s) (lopK m (stO σ ov hv) rel μ s K)):LOOP m f σ K :=
 loop (stO σ ov hv) rel μ s0 h0 he hb
theorem loopG {m:Nat} {f:CT} {σ σ1:St} {K:Ex → St → Prop} {S:Type} (hg:Ent m σ σ1) (ov:S → List (Nat × SV)) (hv:S → List (Nat × HB)) (rel:S → Prop) (μ : S → Nat) (s0:S) (h0:rel s0) (he:Ent m σ1 (stO σ1 ov hv s0))
 (hb:∀ s,rel s → f (stO σ1 ov hv s) (lopK m (stO σ1 ov hv) rel μ s K)):LOOP m f σ K :=
 loop (stO σ1 ov hv) rel μ s0 h0 (ent_trans hg he) hb
theorem gh {m:Nat} {r:CT} {σ σ1:St} {K:Ex → St → Prop} (hg:Ent m σ σ1) (h:r σ1 K):GH m r σ K:=⟨σ1,hg,h⟩
theorem ent_rws {m:Nat} {σ : St} (k v:Nat) {mm:Nat} {xs:List (List SV)} {T:TypeId} (o m':Nat) (T':TypeId) (hg:σ.gs = []) (hk:lkh k σ.hp = .row v mm xs T) :
 Ent m σ ⟨σ.fr,(k,.rws v mm xs T o m' [] T') :: σ.hp,σ.n,σ.N,σ.gs⟩:=fun C E a w hmc h=>by
 have hocc:∀ b,occ E k (.rws v mm xs T o m' [] T') b ↔ occ E k (lkh k σ.hp) b:=fun b=>by
  rw [hk];simp only [occ,hdAt,List.length_nil,Nat.le_zero]
  exact ⟨fun ⟨i,hi,h⟩=>by subst hi;exact h,fun h=>⟨0,rfl,h⟩⟩
 have hst:Stays w w (okS C E σ.hp) (okS C E ((k,.rws v mm xs T o m' [] T') :: σ.hp)):=fun b hb _=>⟨(okS_same hocc b).2 hb,rfl⟩
 have hH:HSim C E ((k,.rws v mm xs T o m' [] T') :: σ.hp) (ltn σ.n) w:=by
  have hkn:k < σ.n:=by
   rcases Classical.em (k < σ.n) with h' | h'
   · exact h'
   · have:=h.hs.kn k h';rw [hk] at this;cases this
  refine ⟨fun j hj=>?_,fun j=>?_,fun j j' b h1 h2=>h.hs.dj j j' b ((occ_same hocc j b).1 h1) ((occ_same hocc j' b).1 h2),fun j b h1=>h.hs.lo j b ((occ_same hocc j b).1 h1),h.hs.kp,h.hs.pin⟩
  · rw [lkh_cons,if_neg (by rintro rfl;exact hj hkn)];exact h.hs.kn j hj
  · rw [lkh_cons]
    by_cases hj:j = k
    · subst hj;rw [if_pos rfl]
      have hb:=HBok_mono (n:=ltn σ.n) (n':=ltn σ.n) hst (fun _ _=>Ele.rfl) (fun _ h=>h) (.inr (show ltn σ.n j from hkn)) (fun _ _=>rfl) rfl (h.hs.bk j)
      rw [hk] at hb;simp only [HBok] at hb ⊢
      refine ⟨hb.1,Nat.zero_le _,fun i m1 rows TT hr=>?_,fun i j b hi hj _ _=>by simp at hi hj;omega⟩
      cases i with
      | zero =>
       simp only [rwsAt,rwsX,List.length_nil,Option.some.injEq,Prod.mk.injEq] at hr
       obtain ⟨rfl,rfl,rfl⟩:=hr
       exact hb.2
      | succ i=>simp [rwsAt] at hr
    · rw [if_neg hj]
      refine HBok_mono hst (fun _ _=>Ele.rfl) (fun _ h=>h) ?_ (fun _ _=>rfl) rfl (h.hs.bk j)
      rcases Classical.em (j < σ.n) with h' | h'
      · exact .inr h'
      · exact .inl (h.hs.kn j h')
 exact ⟨E,Sim_same h hst (fun _ _=>Ele.rfl) (Nat.le_refl _) hH⟩
theorem f2_adopt {p:SV → SV → Prop} (hp:∀ s,p s s) {k o:Nat} {x:SV} {row:List SV} (hcell:row[o]? = some x):∀ {N u:Nat} {xs:List (List SV)},xs[N]? = some row → p x (.mr k (u + N)) →
 F2 p (rwsX k o u N xs).flatten (rwsX k o u (N + 1) (xs.set N (row.set o .any))).flatten
 | 0,u,[],h,_=>by simp at h
 | 0,u,r :: xs,h,hx=>by
  simp at h;subst h
  simp only [rwsX,List.set_cons_zero,List.flatten_cons,List.set_set]
  exact f2_app (f2_set1 hp hx hcell) (f2_all hp _)
 | N + 1,u,[],h,_=>by simp at h
 | N + 1,u,r :: xs,h,hx=>by
  simp only [rwsX,List.set_cons_succ,List.flatten_cons]
  exact f2_app (f2_all hp _) (f2_adopt hp hcell (by simpa using h) (by rw [show u + 1 + N = u + (N + 1) from by omega];exact hx))
theorem ent_adopt {m:Nat} {σ : St} (k q:Nat) {v mm vq o m':Nat} {xs:List (List SV)} {T T':TypeId} {inn:List (List (List SV))} {ys:List (List SV)} (row:List SV) (hm:Nat.ble m q = true) (hk:lkh k σ.hp = .rws v mm xs T o m' inn T') (hq:lkh q σ.hp = .row vq m' ys T')
 (hrow:xs[inn.length]? = some row) (hcell:row[o]? = some (.mr q vq)) :
 Ent m σ ⟨σ.fr,(k,.rws v mm (xs.set inn.length (row.set o .any)) T o m' (inn ++ [ys]) T') :: (q,.gone) :: σ.hp,σ.n,σ.N,σ.gs⟩:=fun C E a w hmc h=>by
 have hne:k ≠ q:=by rintro rfl;rw [hk] at hq;cases hq
 have hnk:∀ j,lkh j σ.hp ≠ .gone → j < σ.n:=fun j hj=>by
  rcases Classical.em (j < σ.n) with h' | h'
  · exact h'
  · exact absurd (h.hs.kn j h') hj
 have hkn:k < σ.n:=hnk k (by rw [hk];simp)
 have hqn:q < σ.n:=hnk q (by rw [hq];simp)
 have hbk:=h.hs.bk k
 have hbq:=h.hs.bk q
 rw [hk] at hbk;rw [hq] at hbq
 simp only [HBok] at hbk hbq
 obtain ⟨a1,a2,a3,a4⟩:=hbk
 obtain ⟨b1,b2⟩:=hbq
 have hNl:inn.length < xs.length:=(List.getElem?_eq_some_iff.1 hrow).1
 let E':Env:=⟨E.β,fun j u=>if j = k ∧ u = E.iss k then E.hv q vq else E.hv j u,fun j=>if j = k then E.iss k + 1 else E.iss j⟩
 have hv0:∀ j u,u < E.iss j → E'.hv j u = E.hv j u:=fun j u hu=>by
  simp only [E'];rw [if_neg];rintro ⟨rfl,rfl⟩;omega
 have hvj:∀ j u,j ≠ k → E'.hv j u = E.hv j u:=fun j u hj=>by simp only [E'];rw [if_neg (fun e=>hj e.1)]
 have hvn:E'.hv k (v + (inn.length + 1)) = E.hv q vq:=if_pos ⟨rfl,by omega⟩
 have hik:E'.iss k = E.iss k + 1:=if_pos rfl
 have hE:∀ j,Ele E E' j j:=fun j=>⟨rfl,by simp only [E'];split <;> (try subst j) <;> omega,fun u hu=>hv0 j u hu⟩
 let hp':List (Nat × HB):=(k,.rws v mm (xs.set inn.length (row.set o .any)) T o m' (inn ++ [ys]) T') :: (q,.gone) :: σ.hp
 have lk':lkh k hp' = .rws v mm (xs.set inn.length (row.set o .any)) T o m' (inn ++ [ys]) T':=by simp only [hp'];rw [lkh_cons,if_pos rfl]
 have lq':lkh q hp' = .gone:=by simp only [hp'];rw [lkh_cons,if_neg hne.symm,lkh_cons,if_pos rfl]
 have lj':∀ j,j ≠ k → j ≠ q → lkh j hp' = lkh j σ.hp:=fun j h1 h2=>by simp only [hp'];rw [lkh_cons,if_neg h1,lkh_cons,if_neg h2]
 have hoq:∀ b,hdAt (E.hv q vq) b → occ E q (lkh q σ.hp) b:=fun b hb=>by rw [hq];exact hb
 have hok:∀ i b,i ≤ inn.length → hdAt (E.hv k (v + i)) b → occ E k (lkh k σ.hp) b:=fun i b hi hb=>by rw [hk];exact ⟨i,hi,hb⟩
 have hoc:∀ j b,occ E' j (lkh j hp') b → (j ≠ q ∧ occ E j (lkh j σ.hp) b) ∨ (j = k ∧ occ E q (lkh q σ.hp) b):=fun j b ho=>by
  by_cases h1:j = k
  · subst h1
    rw [lk'] at ho
    obtain ⟨i,hi,hb⟩:=ho
    simp only [List.length_append,List.length_cons,List.length_nil] at hi
    by_cases hi2:i = inn.length + 1
    · subst hi2;rw [hvn] at hb;exact .inr ⟨rfl,hoq b hb⟩
    · rw [hv0 _ _ (by omega)] at hb;exact .inl ⟨hne,hok i b (by omega) hb⟩
  · by_cases h2:j = q
    · subst h2;rw [lq'] at ho;exact ho.elim
    · rw [lj' j h1 h2] at ho
      refine .inl ⟨h2,?_⟩
      cases hl:lkh j σ.hp <;> rw [hl] at ho <;> simp only [occ] at ho ⊢ <;> first | exact ho | (simp only [hvj j _ h1] at ho;exact ho)
 have hoc2:∀ j b,occ E j (lkh j σ.hp) b → ∃ j',occ E' j' (lkh j' hp') b:=fun j b ho=>by
  by_cases h1:j = k
  · subst h1
    rw [hk] at ho
    obtain ⟨i,hi,hb⟩:=ho
    exact ⟨j,by rw [lk'];exact ⟨i,by simp;omega,by rw [hv0 _ _ (by omega)];exact hb⟩⟩
  · by_cases h2:j = q
    · subst h2
      rw [hq] at ho
      exact ⟨k,by rw [lk'];exact ⟨inn.length + 1,by simp,by rw [hvn];exact ho⟩⟩
    · refine ⟨j,?_⟩
      rw [lj' j h1 h2]
      cases hl:lkh j σ.hp <;> rw [hl] at ho <;> simp only [occ] at ho ⊢ <;> first | exact ho | (simp only [hvj j _ h1];exact ho)
 have hst:Stays w w (okS C E σ.hp) (okS C E' hp'):=fun b hb _=>⟨⟨hb.1,fun j ho=>by
  rcases hoc j b ho with ⟨_,q⟩ | ⟨_,q⟩
  · exact hb.2 _ q
  · exact hb.2 _ q⟩,rfl⟩
 have mono:∀ j,HBok w E' (ltn σ.n) (okS C E' hp') j (lkh j σ.hp) ∨ j = k:=fun j=>by
  by_cases h1:j = k
  · exact .inr h1
  · refine .inl (HBok_mono hst (fun j _=>hE j) (fun _ h=>h) ?_ (fun _ _=>rfl) (by simp only [E'];rw [if_neg h1]) (h.hs.bk j))
    rcases Classical.em (j < σ.n) with h' | h'
    · exact .inr h'
    · exact .inl (h.hs.kn j h')
 have hH:HSim C E' hp' (ltn σ.n) w:=by
  refine ⟨fun j hj=>?_,fun j=>?_,fun j j' b h1 h2=>?_,fun j b h1=>?_,h.hs.kp,fun j hj=>⟨(h.hs.pin j hj).1,(h.hs.pin j hj).2.trans (hE j)⟩⟩
  · have e1:j ≠ k:=by rintro rfl;exact hj hkn
    have e2:j ≠ q:=by rintro rfl;exact hj hqn
    rw [lj' j e1 e2];exact h.hs.kn j hj
  · by_cases e1:j = k
    · subst e1
      rw [lk']
      simp only [HBok,List.length_append,List.length_cons,List.length_nil,List.length_set]
      refine ⟨by rw [hik];omega,by omega,fun i m1 rows TT hr=>?_,fun x y b hx hy e1 e2=>?_⟩
      · cases i with
        | zero =>
         simp only [rwsAt,Option.some.injEq,Prod.mk.injEq,List.length_append,List.length_cons,List.length_nil] at hr
         obtain ⟨rfl,rfl,rfl⟩:=hr
         have h0:=a3 0 _ _ _ rfl
         rw [hv0 _ _ (by omega)]
         have hl1:=rwsX_len j o (v + 1) inn.length xs
         have hl2:(rwsX j o (v + 1) (inn.length + (0 + 1)) (xs.set inn.length (row.set o .any))).length = xs.length:=by rw [rwsX_len];simp
         rcases h0 with ⟨q1,q2⟩ | ⟨b,cap,cs,q1,q2,q3,q4,q5,q6,q7⟩
         · have h9:=congrArg List.length q1;rw [hl1,List.length_nil] at h9;omega
         · rw [hl1] at q1 q4 q5 q7
           refine .inr ⟨b,cap,cs,by rw [hl2];exact q1,q2,q3,by rw [hl2];exact q4,by rw [hl2];exact q5,?_,?_⟩
           · refine rwsX_lens.2 fun r hr=>?_
             rcases List.mem_or_eq_of_mem_set hr with hr | rfl
             · exact rwsX_lens.1 q6 r hr
             · rw [List.length_set];exact rwsX_lens.1 q6 row (List.mem_of_getElem? hrow)
           · rw [hl2]
             refine RL_map2 (f2_adopt (p:=fun s s'=>∀ y,R w E (ltn σ.n) (okS C E σ.hp) s y → R w E' (ltn σ.n) (okS C E' hp') s' y) (fun s y hy=>R_mono hst.c (fun j _=>hE j) (fun _ h=>h) _ _ hy) hcell hrow fun y hy=>?_) q7
             simp only [R] at hy ⊢
             refine ⟨hkn,by rw [hik];omega,?_,hy.2.2.2⟩
             rw [show v + 1 + inn.length = v + (inn.length + 1) from by omega,hvn];exact hy.2.2.1
        | succ i =>
         simp only [rwsAt] at hr
         split at hr
         case h_2=>cases hr
         rename_i r hr1
         simp only [Option.some.injEq,Prod.mk.injEq] at hr
         obtain ⟨rfl,rfl,rfl⟩:=hr
         by_cases hi:i < inn.length
         · rw [List.getElem?_append_left hi] at hr1
           rw [hv0 _ _ (by omega)]
           exact (a3 (i + 1) m' r T' (by simp only [rwsAt,hr1])).mono hst.c (fun j _=>hE j) (fun _ h=>h) (fun _ _=>rfl)
         · have hi2:i = inn.length:=by have:=(List.getElem?_eq_some_iff.1 hr1).1;simp at this;omega
           subst hi2
           simp at hr1;subst hr1
           rw [hvn]
           exact RowB.mono hst.c (fun j _=>hE j) (fun _ h=>h) (fun _ _=>rfl) b2
      · have key:∀ z,z ≤ inn.length + (0 + 1) → ∀ b,hdAt (E'.hv j (v + z)) b → (z ≤ inn.length ∧ hdAt (E.hv j (v + z)) b) ∨ (z = inn.length + 1 ∧ hdAt (E.hv q vq) b):=fun z hz b hb=>by
         by_cases h1:z = inn.length + 1
         · subst h1;rw [hvn] at hb;exact .inr ⟨rfl,hb⟩
         · rw [hv0 _ _ (by omega)] at hb;exact .inl ⟨by omega,hb⟩
        rcases key x hx b e1 with ⟨x1,x2⟩ | ⟨x1,x2⟩ <;> rcases key y hy b e2 with ⟨y1,y2⟩ | ⟨y1,y2⟩
        · exact a4 x y b x1 y1 x2 y2
        · exact absurd (h.hs.dj j q b (hok x b x1 x2) (hoq b y2)) hne
        · exact absurd (h.hs.dj j q b (hok y b y1 y2) (hoq b x2)) hne
        · omega
    · by_cases e2:j = q
      · subst e2;rw [lq'];trivial
      · rw [lj' j e1 e2]
        rcases mono j with h' | h'
        · exact h'
        · exact absurd h' e1
  · rcases hoc j b h1 with ⟨x1,x2⟩ | ⟨x1,x2⟩ <;> rcases hoc j' b h2 with ⟨y1,y2⟩ | ⟨y1,y2⟩
    · exact h.hs.dj j j' b x2 y2
    · exact absurd (h.hs.dj j q b x2 y2) x1
    · exact absurd (h.hs.dj j' q b y2 x2) y1
    · rw [x1,y1]
  · rcases hoc j b h1 with ⟨x1,x2⟩ | ⟨x1,x2⟩
    · exact h.hs.lo j b x2
    · rcases h.hs.lo q b x2 with h' | h'
      · exact .inl h'
      · have h3:=hmc.2 q b h'
        have h4:=hmc.1
        have h5:=Nat.le_of_ble_eq_true hm
        omega
 exact ⟨E',Sim_same h hst (fun j _=>hE j) (Nat.le_refl _) hH⟩
theorem entO_of {m:Nat} {b:Bool} {s s':SV} {hp hp':List (Nat × HB)} {n n':Nat} (h:Ent m ⟨[(0,s)],hp,n,1,[]⟩ ⟨[(0,s')],hp',n',1,[]⟩) (hg:∀ j b u,s' ≠ .gd j b u):EntO m ⟨b,s,hp,n⟩ ⟨b,s',hp',n'⟩:=by
 refine ⟨rfl,fun C E w y hm hH hR=>?_⟩
 have hng:=R_nogd hR
 have hS:Sim C E ⟨[(0,s)],hp,n,1,[]⟩ { tmps:=#[y],defers:=C.ds } w:=by
  refine ⟨fun t=>?_,rfl,DF_nil,fun t j b u ht=>?_,hH⟩
  · simp only [lk_cons]
    split
    · rename_i ht;subst ht
      show FR w E (ltn n) _ _ s y
      cases s <;> first | exact hR | exact absurd rfl (hng _ _ _)
    · exact trivial
  · simp only [lk_cons] at ht
    split at ht
    · exact absurd ht (hng _ _ _)
    · cases ht
 obtain ⟨E',h'⟩:=h C E _ w hm hS
 refine ⟨E',h'.hs,?_⟩
 have:=h'.fr 0
 exact FR_R this (fun j b u e=>hg j b u (by simpa [lk] using e))
theorem entO {m:Nat} {b:Bool} {s s':SV} {hp hp':List (Nat × HB)} {n n':Nat} (ρ : Nat → Nat) (hf:mtS ρ n' s' s) (hp0:mtP ρ hp' hp n' n') (hb:hpb n' hp') (hρ : ∀ i,i < n' → ∀ j,j < n' → ρ i = ρ j → i = j) (hm:Nat.ble m n' = true) (hfix:∀ i,i < m → ρ i = i):EntO m ⟨b,s,hp,n⟩ ⟨b,s',hp',n'⟩ :=
 entO_of (ent ρ (show mtF ρ n' [] [(0,s')] [(0,s)] from ⟨hf,trivial⟩) hp0 hb hρ rfl hm hfix) (mtS_nogd hf)
theorem entO_id {m:Nat} {b:Bool} {s s':SV} {hp hp':List (Nat × HB)} {n n':Nat} (hf:mtS id n' s' s) (hp0:mtP id hp' hp n' n') (hb:hpb n' hp') (hm:Nat.ble m n' = true):EntO m ⟨b,s,hp,n⟩ ⟨b,s',hp',n'⟩ :=
 entO id hf hp0 hb (fun _ _ _ _ h=>h) hm (fun _ _=>rfl)
theorem callm {P:Program} {f:FuncId} {args args0:List SV} {d:Option Nat} {σ : St} {r:KT} {K:RK} {hp0:List (Nat × HB)} {n0:Nat} {o:Ot} (ρ : Nat → Nat) (hc:CtM P f hp0 n0 args0 (· = o)) (h1:mtL ρ n0 args0 args) (h2:mtP ρ hp0 σ.hp n0 n0) (h3:injU ρ n0) (h4:∀ i,i < n0 → ρ i < σ.n)
 (h5:cmK o.pn (rnS (exR ρ n0 σ.n) o.res) (hpM ρ n0 σ.n o σ.hp) (σ.n + (o.n - n0)) d σ r K):CALLM P f args d σ r K :=
 ⟨hp0,n0,args0,_,ρ,hc,h1,h2,h3,h4,fun _ e=>e ▸ h5⟩
def rho:List Nat → Nat → Nat
 | [],_=>0
 | a :: _,0=>a
 | _ :: l,k + 1=>rho l k
theorem rho_get:∀ (l:List Nat) (k:Nat) (h:k < l.length),rho l k = l[k]
 | a :: _,0,_=>rfl
 | _ :: l,k + 1,h=>by simpa [rho] using rho_get l k (by simpa using h)
theorem callmL {P:Program} {f:FuncId} {args args0:List SV} {d:Option Nat} {σ : St} {r:KT} {K:RK} {hp0:List (Nat × HB)} {n0:Nat} {o:Ot} (l:List Nat) (hc:CtM P f hp0 n0 args0 (· = o)) (hn:Nat.beq l.length n0 = true) (hi:nodupB l = true) (hl:ltAll σ.n l = true)
 (h1:mtL (rho l) n0 args0 args) (h2:mtP (rho l) hp0 σ.hp n0 n0) (h5:cmK o.pn (rnS (exR (rho l) n0 σ.n) o.res) (hpM (rho l) n0 σ.n o σ.hp) (σ.n + (o.n - n0)) d σ r K):CALLM P f args d σ r K:=by
 have hn:=Nat.eq_of_beq_eq_true hn
 refine callm (rho l) hc h1 h2 (fun i hi' j hj e=>?_) (fun i hi'=>?_) h5
 · rw [rho_get l i (by omega),rho_get l j (by omega)] at e
   have hp:=List.pairwise_iff_getElem.1 (nodupB_sound hi)
   rcases Nat.lt_trichotomy i j with h | h | h
   · exact absurd e (hp i j _ _ h)
   · exact h
   · exact absurd e.symm (hp j i _ _ h)
 · rw [rho_get l i (by omega)];exact ltAll_iff hl _ (List.getElem_mem _)
theorem ent_id {m0:Nat} {σ σ':St} (hf:mtF id σ'.n [] σ'.fr σ.fr) (hp:mtP id σ'.hp σ.hp σ'.n σ'.n) (hb:hpb σ'.n σ'.hp) (hN:Nat.beq σ'.N σ.N = true) (hm:Nat.ble m0 σ'.n = true):Ent m0 σ σ':=ent id hf hp hb (fun _ _ _ _ h=>h) hN hm (fun _ _=>rfl)
theorem imp_v {fr:List (Nat × SV)} {j:Nat} {w b:Bool} {p:Prop} (hl:lk j fr = .v (.bool b)) (h:b = w → p):impP (some (j,w)) fr p:=fun hg=>h (GE_v hg hl)
theorem app0 {g:Option (Nat × Bool)} {m b:Nat} {xs ys:List (List SV)} {d:Option Nat} {σ : St} {r:KT} {L:RK} (h:(xs.length + ys.length) * b ≤ 140737488355328) (hk:putK d (.sl false m (xs ++ ys)) g σ r L):APP g m b xs ys d σ r L:=⟨impP_iff.2 fun _=>h,hk⟩
theorem ixrm {g:Option (Nat × Bool)} {k v m len:Nat} {i:Int} {d:Option Nat} {σ : St} {r:KT} {L:RK} (n:Nat) (hi:i = (n:Int)) (hn:n < len) (hk:putK d (.pr k v m n 0) g σ r L):IXR g k v m len i d σ r L:=⟨n,impP_iff.2 fun _=>⟨hi,hn⟩,hk⟩
theorem ldrm {α : Type} {l:List α} {f:α → List SV} {g:Option (Nat × Bool)} {i o m:Nat} {ag:Bool} {d:Option Nat} {σ : St} {r:KT} {L:RK} (hn:i < l.length) (hk:putO (partS (f l[i]) o m ag) d g σ r L):LDR g (l.map f) i o m ag d σ r L:=⟨f l[i],impP_iff.2 fun _=>by simp [hn],hk⟩
theorem strm {α : Type} {l:List α} {f:α → List SV} {j o k v m:Nat} {c:List SV} {T:TypeId} {σ : St} {r:KT} {L:RK} (y:α) (hn:j < l.length) (ho:o + c.length ≤ (f l[j]).length) (he:splice (f l[j]) o c = f y)
 (h:r ⟨σ.fr,(k,.row v m ((l.set j y).map f) T) :: σ.hp,σ.n,σ.N,σ.gs⟩ L):STR v (l.map f) j o k m c T σ r L :=
 ⟨f l[j],by simp [hn],ho,by rw [he,← List.map_set];exact h⟩
theorem ixrm_v {k v m len:Nat} {i:Int} {d:Option Nat} {σ : St} {r:KT} {L:RK} {j:Nat} {w b:Bool} (n:Nat) (hl:lk j σ.fr = .v (.bool b)) (h:b = w → i = (n:Int) ∧ n < len) (hk:putK d (.pr k v m n 0) (some (j,w)) σ r L):IXR (some (j,w)) k v m len i d σ r L:=⟨n,imp_v hl h,hk⟩
theorem kfr_rep {r:List SV} (h:KFL r):∀ n,KFR (List.replicate n r)
 | 0=>trivial
 | n + 1=>⟨h,kfr_rep h n⟩
theorem callmP {P:Program} {f:FuncId} {args args0:List SV} {d:Option Nat} {σ : St} {r:KT} {K:RK} {hp0:List (Nat × HB)} {n0:Nat} {Post:Ot → Prop} (l:List Nat) (hc:CtM P f hp0 n0 args0 Post) (hn:Nat.beq l.length n0 = true) (hi:nodupB l = true) (hl:ltAll σ.n l = true)
 (h1:mtL (rho l) n0 args0 args) (h2:mtP (rho l) hp0 σ.hp n0 n0) (h5:∀ o,Post o → cmK o.pn (rnS (exR (rho l) n0 σ.n) o.res) (hpM (rho l) n0 σ.n o σ.hp) (σ.n + (o.n - n0)) d σ r K):CALLM P f args d σ r K:=by
 have hn:=Nat.eq_of_beq_eq_true hn
 refine ⟨hp0,n0,args0,Post,rho l,hc,h1,h2,fun i hi' j hj e=>?_,fun i hi'=>?_,h5⟩
 · rw [rho_get l i (by omega),rho_get l j (by omega)] at e
   have hp:=List.pairwise_iff_getElem.1 (nodupB_sound hi)
   rcases Nat.lt_trichotomy i j with h | h | h
   · exact absurd e (hp i j _ _ h)
   · exact h
   · exact absurd e.symm (hp j i _ _ h)
 · rw [rho_get l i (by omega)]
   exact ltAll_iff hl _ (List.getElem_mem _)
theorem raw_bin {P:Program} {d:Option Nat} {op:BinOp} {t t' ty u:Nat} {c x v:Value} {σ : St} {r:KT} {K:RK} (hl:lk u σ.fr = .v x) (hop:op = .and ∨ op = .shr) (hr:∀ w:World,(binOp op t x c).run P w = .ok v w) (hv:v.oneCell' = true) (hk:putK d (.v v) none σ r K) :
 RAW P d (.binOp op t (.tmp u) (.const c) t') ty σ r K:=by
 intro o C E a w next Q h1 h2 h3 hs hn hq
 have hx:a.eval (.tmp u) = x:=by
  have:=hs.fr u
  rw [hl] at this
  simp only [FR,R] at this
  exact this
 have hrun:(execOp a.eval o).run P w = .ok (.value v) w:=by
  obtain ⟨dst,op',ty',pos,after,guard⟩:=o
  simp only at h2;subst h2
  have hc:a.eval (.const c) = c:=rfl
  simp only [execOp,hx,hc]
  rcases hop with rfl | rfl <;> simp [Sem.run_bind,eqGuard,hr]
 refine wpq_res hrun (by simp) ?_
 show next (a.put o.dst v) w
 rcases putK_ex hk with ⟨g1,g2⟩ | ⟨t,g1,g2,g3,g4,g5⟩
 · have hS:=hs
   rw [h1,g1]
   exact hn _ E _ _ g2 hS
 · rw [h1,g1]
   exact hn _ E _ _ g5 (Sim_put hs (fun b hb _=>⟨hb,rfl⟩) (fun _ _=>Ele.rfl) (Nat.le_refl _) hs.hs g2 g3 (fun j b u e=>by rw [e] at g4;cases g4) (by simp only [R]))
theorem w64_0:IntKind.i64.wrap 0 = 0:=rfl
theorem w64_1:IntKind.i64.wrap 1 = 1:=rfl
theorem w64_2:IntKind.i64.wrap 2 = 2:=rfl
theorem w64_3:IntKind.i64.wrap 3 = 3:=rfl
theorem w64_4:IntKind.i64.wrap 4 = 4:=rfl
theorem w64_5:IntKind.i64.wrap 5 = 5:=rfl
theorem w64_6:IntKind.i64.wrap 6 = 6:=rfl
def lkB (b:Bool) (s:SV) (t:Nat) (r:List (Nat × SV)):SV:=bif b then s else lk t r
def lkhB (b:Bool) (s:HB) (t:Nat) (r:List (Nat × HB)):HB:=bif b then s else lkh t r
def membB (b:Bool) (t:Nat) (r:List Nat):Bool:=bif b then true else memb t r
def blkE (b:Bool) (i:Nat) (K:Ex → St → Prop) (σ : St):Prop:=bif b then K .n σ else K (.ex i) σ
def cellsV (b:Bool) (s:SV):Option (List SV):=bif b then some [s] else none
def biniB (c:Bool) (b:BinOp) (k:IntKind) (x y:Int):Option SV:=bif c then binr b k x y else none
def partB (b:Bool) (l:List SV) (o m:Nat):Option SV:=bif b then some (.agg ((l.drop o).take m)) else none
theorem lkB_t (s:SV) (t:Nat) (r:List (Nat × SV)):lkB true s t r = s:=rfl
theorem lkB_f (s:SV) (t:Nat) (r:List (Nat × SV)):lkB false s t r = lk t r:=rfl
theorem lkhB_t (s:HB) (t:Nat) (r:List (Nat × HB)):lkhB true s t r = s:=rfl
theorem lkhB_f (s:HB) (t:Nat) (r:List (Nat × HB)):lkhB false s t r = lkh t r:=rfl
theorem membB_t (t:Nat) (r:List Nat):membB true t r = true:=rfl
theorem membB_f (t:Nat) (r:List Nat):membB false t r = memb t r:=rfl
theorem blkE_t (i:Nat) (K:Ex → St → Prop) (σ : St):blkE true i K σ = K .n σ:=rfl
theorem blkE_f (i:Nat) (K:Ex → St → Prop) (σ : St):blkE false i K σ = K (.ex i) σ:=rfl
theorem cellsV_t (s:SV):cellsV true s = some [s]:=rfl
theorem biniB_t (b:BinOp) (k:IntKind) (x y:Int):biniB true b k x y = binr b k x y:=rfl
theorem partB_t (l:List SV) (o m:Nat):partB true l o m = some (.agg ((l.drop o).take m)):=rfl
def mmE (k:IntKind):Option Int → Option SV
 | some z=>some (.v (.int k z))
 | none=>none
def chkB (b:Bool) (l:List SV) (ls:List (List SV)):Option (List (List SV)):=bif b then some (l :: ls) else none
theorem chkB_t (l:List SV) (ls:List (List SV)):chkB true l ls = some (l :: ls):=rfl
theorem andB_t (b:Bool):andB true b = b:=rfl
theorem andB_f (b:Bool):andB false b = false:=rfl
def vwP (g:SV → SV) (o:Nat):HB → SV
 | .cells l _=>.ps (mapS g l) o
 | _=>.any
def vwM (v:Nat):HB → SV
 | .row v' m xs _=>vwN (Nat.beq v v') m xs
 | .rws v' m xs _ o m' inn _=>vwN (Nat.beq v v') m (frzX o m' inn xs)
 | _=>.any
def cvtM (v:Nat):HB → SV
 | .row v' m xs _=>vwN (Nat.beq v v') m xs
 | _=>.any
def rvH (o m:Nat) (ag:Bool):HB → Option SV
 | .cells l _=>partS l o m ag
 | _=>none
def rvX (hp:List (Nat × HB)) (m:Nat) (ag:Bool):SV → Option SV
 | .p k o=>rvH o m ag (lkh k hp)
 | _=>none
def pvF (o m:Nat) (ag:Bool):SV → Option SV
 | .agg l=>partS l o m ag
 | _=>none
def pvC (k:IntKind):SV → Option SV
 | .v (.int _ n)=>some (.v (.int k (k.wrap n)))
 | _=>none
def pvE (i:Nat):SV → Option SV
 | .tup l=>nth l i
 | _=>none
theorem e_lk (t u:Nat) (s:SV) (r:List (Nat × SV)):lk t ((u,s) :: r) = lkB (Nat.beq t u) s t r:=rfl
theorem e_lk0 (t:Nat):lk t [] = .any:=rfl
theorem e_lkh (t u:Nat) (s:HB) (r:List (Nat × HB)):lkh t ((u,s) :: r) = lkhB (Nat.beq t u) s t r:=rfl
theorem e_lkh0 (t:Nat):lkh t [] = .gone:=rfl
theorem e_memb (t u:Nat) (r:List Nat):memb t (u :: r) = membB (Nat.beq t u) t r:=rfl
theorem e_memb0 (t:Nat):memb t [] = false:=rfl
theorem e_blk (id i:Nat) (K:Ex → St → Prop) (σ : St):blkK id K (.ex i) σ = blkE (Nat.beq i id) i K σ:=rfl
theorem e_strip_v (g:Option (Nat × Bool)) (fr:List (Nat × SV)) (x:Value):strip g fr (.v x) = (.v x):=rfl
theorem e_drop_v (t:Nat) (r:List (Nat × SV)) (x:Value):dropG ((t,(.v x)) :: r) = (t,(.v x)) :: dropG r:=rfl
theorem e_cvt_v (hp:List (Nat × HB)) (x:Value):cvt hp (.v x) = (.v x):=rfl
theorem e_vwS_v (hp:List (Nat × HB)) (g:SV → SV) (x:Value):vwS hp g (.v x) = (.v x):=rfl
theorem e_vw0_v (x:Value):vw0 (.v x) = (.v x):=rfl
theorem e_cells_v (x:Value):cellsO (.v x) = cellsV (oneV x) (.v x):=rfl
theorem e_oneS_v (x:Value):oneS (.v x) = oneV x:=rfl
theorem e_strip_p (g:Option (Nat × Bool)) (fr:List (Nat × SV)) (k o:Nat):strip g fr (.p k o) = (.p k o):=rfl
theorem e_drop_p (t:Nat) (r:List (Nat × SV)) (k o:Nat):dropG ((t,(.p k o)) :: r) = (t,(.p k o)) :: dropG r:=rfl
theorem e_cvt_p (hp:List (Nat × HB)) (k o:Nat):cvt hp (.p k o) = (.p k o):=rfl
theorem e_vwS_p (hp:List (Nat × HB)) (g:SV → SV) (k o:Nat):vwS hp g (.p k o) = vwP g o (lkh k hp):=rfl
theorem e_vw0_p (k o:Nat):vw0 (.p k o) = .any:=rfl
theorem e_cells_p (k o:Nat):cellsO (.p k o) = some [(.p k o)]:=rfl
theorem e_oneS_p (k o:Nat):oneS (.p k o) = true:=rfl
theorem e_strip_agg (g:Option (Nat × Bool)) (fr:List (Nat × SV)) (l:List SV):strip g fr (.agg l) = (.agg l):=rfl
theorem e_drop_agg (t:Nat) (r:List (Nat × SV)) (l:List SV):dropG ((t,(.agg l)) :: r) = (t,(.agg l)) :: dropG r:=rfl
theorem e_cvt_agg (hp:List (Nat × HB)) (l:List SV):cvt hp (.agg l) = .agg (cvtL hp l):=rfl
theorem e_vwS_agg (hp:List (Nat × HB)) (g:SV → SV) (l:List SV):vwS hp g (.agg l) = .agg (mapS g l):=rfl
theorem e_vw0_agg (l:List SV):vw0 (.agg l) = .any:=rfl
theorem e_cells_agg (l:List SV):cellsO (.agg l) = some l:=rfl
theorem e_oneS_agg (l:List SV):oneS (.agg l) = false:=rfl
theorem e_strip_sl (g:Option (Nat × Bool)) (fr:List (Nat × SV)) (c:Bool) (m:Nat) (xs:List (List SV)):strip g fr (.sl c m xs) = (.sl c m xs):=rfl
theorem e_drop_sl (t:Nat) (r:List (Nat × SV)) (c:Bool) (m:Nat) (xs:List (List SV)):dropG ((t,(.sl c m xs)) :: r) = (t,(.sl c m xs)) :: dropG r:=rfl
theorem e_cvt_sl (hp:List (Nat × HB)) (c:Bool) (m:Nat) (xs:List (List SV)):cvt hp (.sl c m xs) = (.sl c m xs):=rfl
theorem e_vwS_sl (hp:List (Nat × HB)) (g:SV → SV) (c:Bool) (m:Nat) (xs:List (List SV)):vwS hp g (.sl c m xs) = (.sl c m xs):=rfl
theorem e_vw0_sl (c:Bool) (m:Nat) (xs:List (List SV)):vw0 (.sl c m xs) = (.sl c m xs):=rfl
theorem e_cells_sl (c:Bool) (m:Nat) (xs:List (List SV)):cellsO (.sl c m xs) = some [(.sl c m xs)]:=rfl
theorem e_oneS_sl (c:Bool) (m:Nat) (xs:List (List SV)):oneS (.sl c m xs) = true:=rfl
theorem e_pmS_0 (l:List SV):pmS [] l = []:=rfl
theorem e_strip_mr (g:Option (Nat × Bool)) (fr:List (Nat × SV)) (k v:Nat):strip g fr (.mr k v) = (.mr k v):=rfl
theorem e_drop_mr (t:Nat) (r:List (Nat × SV)) (k v:Nat):dropG ((t,(.mr k v)) :: r) = (t,(.mr k v)) :: dropG r:=rfl
theorem e_cvt_mr (hp:List (Nat × HB)) (k v:Nat):cvt hp (.mr k v) = cvtM v (lkh k hp):=rfl
theorem e_vwS_mr (hp:List (Nat × HB)) (g:SV → SV) (k v:Nat):vwS hp g (.mr k v) = vwM v (lkh k hp):=rfl
theorem e_vw0_mr (k v:Nat):vw0 (.mr k v) = .any:=rfl
theorem e_cells_mr (k v:Nat):cellsO (.mr k v) = some [(.mr k v)]:=rfl
theorem e_oneS_mr (k v:Nat):oneS (.mr k v) = true:=rfl
theorem e_strip_pr (g:Option (Nat × Bool)) (fr:List (Nat × SV)) (k v m i o:Nat):strip g fr (.pr k v m i o) = (.pr k v m i o):=rfl
theorem e_strip_ms (g:Option (Nat × Bool)) (fr:List (Nat × SV)) (k v m i o:Nat):strip g fr (.ms k v m i o) = (.ms k v m i o):=rfl
theorem e_drop_pr (t:Nat) (r:List (Nat × SV)) (k v m i o:Nat):dropG ((t,(.pr k v m i o)) :: r) = (t,(.pr k v m i o)) :: dropG r:=rfl
theorem e_drop_ms (t:Nat) (r:List (Nat × SV)) (k v m i o:Nat):dropG ((t,(.ms k v m i o)) :: r) = (t,(.ms k v m i o)) :: dropG r:=rfl
theorem e_cvt_pr (hp:List (Nat × HB)) (k v m i o:Nat):cvt hp (.pr k v m i o) = (.pr k v m i o):=rfl
theorem e_cvt_ms (hp:List (Nat × HB)) (k v m i o:Nat):cvt hp (.ms k v m i o) = (.ms k v m i o):=rfl
theorem e_vwS_pr (hp:List (Nat × HB)) (g:SV → SV) (k v m i o:Nat):vwS hp g (.pr k v m i o) = (.pr k v m i o):=rfl
theorem e_vwS_ms (hp:List (Nat × HB)) (g:SV → SV) (k v m i o:Nat):vwS hp g (.ms k v m i o) = (.ms k v m i o):=rfl
theorem e_vw0_pr (k v m i o:Nat):vw0 (.pr k v m i o) = .any:=rfl
theorem e_vw0_ms (k v m i o:Nat):vw0 (.ms k v m i o) = .any:=rfl
theorem e_cells_pr (k v m i o:Nat):cellsO (.pr k v m i o) = some [(.pr k v m i o)]:=rfl
theorem e_cells_ms (k v m i o:Nat):cellsO (.ms k v m i o) = some [(.ms k v m i o)]:=rfl
theorem e_oneS_pr (k v m i o:Nat):oneS (.pr k v m i o) = true:=rfl
theorem e_oneS_ms (k v m i o:Nat):oneS (.ms k v m i o) = true:=rfl
theorem e_strip_ps (g:Option (Nat × Bool)) (fr:List (Nat × SV)) (row:List SV) (o:Nat):strip g fr (.ps row o) = (.ps row o):=rfl
theorem e_drop_ps (t:Nat) (r:List (Nat × SV)) (row:List SV) (o:Nat):dropG ((t,(.ps row o)) :: r) = (t,(.ps row o)) :: dropG r:=rfl
theorem e_cvt_ps (hp:List (Nat × HB)) (row:List SV) (o:Nat):cvt hp (.ps row o) = (.ps row o):=rfl
theorem e_vwS_ps (hp:List (Nat × HB)) (g:SV → SV) (l:List SV) (o:Nat):vwS hp g (.ps l o) = .ps (mapS g l) o:=rfl
theorem e_vw0_ps (row:List SV) (o:Nat):vw0 (.ps row o) = .any:=rfl
theorem e_cells_ps (row:List SV) (o:Nat):cellsO (.ps row o) = some [(.ps row o)]:=rfl
theorem e_oneS_ps (row:List SV) (o:Nat):oneS (.ps row o) = true:=rfl
theorem e_strip_cl (g:Option (Nat × Bool)) (fr:List (Nat × SV)) (f:FuncId) (l:List SV):strip g fr (.cl f l) = (.cl f l):=rfl
theorem e_drop_cl (t:Nat) (r:List (Nat × SV)) (f:FuncId) (l:List SV):dropG ((t,(.cl f l)) :: r) = (t,(.cl f l)) :: dropG r:=rfl
theorem e_cvt_cl (hp:List (Nat × HB)) (f:FuncId) (l:List SV):cvt hp (.cl f l) = (.cl f l):=rfl
theorem e_vwS_cl (hp:List (Nat × HB)) (g:SV → SV) (f:FuncId) (l:List SV):vwS hp g (.cl f l) = .cl f (mapS g l):=rfl
theorem e_vw0_cl (f:FuncId) (l:List SV):vw0 (.cl f l) = .any:=rfl
theorem e_cells_cl (f:FuncId) (l:List SV):cellsO (.cl f l) = some [(.cl f l)]:=rfl
theorem e_oneS_cl (f:FuncId) (l:List SV):oneS (.cl f l) = true:=rfl
theorem e_strip_tup (g:Option (Nat × Bool)) (fr:List (Nat × SV)) (l:List SV):strip g fr (.tup l) = (.tup l):=rfl
theorem e_drop_tup (t:Nat) (r:List (Nat × SV)) (l:List SV):dropG ((t,(.tup l)) :: r) = (t,(.tup l)) :: dropG r:=rfl
theorem e_cvt_tup (hp:List (Nat × HB)) (l:List SV):cvt hp (.tup l) = .tup (cvtL hp l):=rfl
theorem e_vwS_tup (hp:List (Nat × HB)) (g:SV → SV) (l:List SV):vwS hp g (.tup l) = .tup (mapS g l):=rfl
theorem e_vw0_tup (l:List SV):vw0 (.tup l) = .any:=rfl
theorem e_oneS_tup (l:List SV):oneS (.tup l) = false:=rfl
theorem e_strip_q (g:Option (Nat × Bool)) (fr:List (Nat × SV)) (φ : VP):strip g fr (.q φ) = (.q φ):=rfl
theorem e_drop_q (t:Nat) (r:List (Nat × SV)) (φ : VP):dropG ((t,(.q φ)) :: r) = (t,(.q φ)) :: dropG r:=rfl
theorem e_cvt_q (hp:List (Nat × HB)) (φ : VP):cvt hp (.q φ) = (.q φ):=rfl
theorem e_vwS_q (hp:List (Nat × HB)) (g:SV → SV) (φ : VP):vwS hp g (.q φ) = (.q φ):=rfl
theorem e_vw0_q (φ : VP):vw0 (.q φ) = (.q φ):=rfl
theorem e_cells_q (φ : VP):cellsO (.q φ) = some [(.q φ)]:=rfl
theorem e_oneS_q (φ : VP):oneS (.q φ) = true:=rfl
theorem e_strip_mp (g:Option (Nat × Bool)) (fr:List (Nat × SV)) (k:Nat):strip g fr (.mp k) = (.mp k):=rfl
theorem e_drop_mp (t:Nat) (r:List (Nat × SV)) (k:Nat):dropG ((t,(.mp k)) :: r) = (t,(.mp k)) :: dropG r:=rfl
theorem e_cvt_mp (hp:List (Nat × HB)) (k:Nat):cvt hp (.mp k) = (.mp k):=rfl
theorem e_vwS_mp (hp:List (Nat × HB)) (g:SV → SV) (k:Nat):vwS hp g (.mp k) = .any:=rfl
theorem e_vw0_mp (k:Nat):vw0 (.mp k) = .any:=rfl
theorem e_cells_mp (k:Nat):cellsO (.mp k) = some [(.mp k)]:=rfl
theorem e_oneS_mp (k:Nat):oneS (.mp k) = true:=rfl
theorem e_strip_yl (g:Option (Nat × Bool)) (fr:List (Nat × SV)) (k:Nat):strip g fr (.yl k) = (.yl k):=rfl
theorem e_drop_yl (t:Nat) (r:List (Nat × SV)) (k:Nat):dropG ((t,(.yl k)) :: r) = (t,(.yl k)) :: dropG r:=rfl
theorem e_cells_yl (k:Nat):cellsO (.yl k) = some [(.yl k)]:=rfl
theorem e_oneS_yl (k:Nat):oneS (.yl k) = true:=rfl
theorem e_strip_ifc (g:Option (Nat × Bool)) (fr:List (Nat × SV)) (T:TypeId) (s:SV):strip g fr (.ifc T s) = (.ifc T s):=rfl
theorem e_drop_ifc (t:Nat) (r:List (Nat × SV)) (T:TypeId) (s:SV):dropG ((t,(.ifc T s)) :: r) = (t,(.ifc T s)) :: dropG r:=rfl
theorem e_cvt_ifc (hp:List (Nat × HB)) (T:TypeId) (s:SV):cvt hp (.ifc T s) = .ifc T (cvt hp s):=rfl
theorem e_vwS_ifc (hp:List (Nat × HB)) (g:SV → SV) (T:TypeId) (s:SV):vwS hp g (.ifc T s) = .ifc T (g s):=rfl
theorem e_vw0_ifc (T:TypeId) (s:SV):vw0 (.ifc T s) = .any:=rfl
theorem e_cells_ifc (T:TypeId) (s:SV):cellsO (.ifc T s) = some [(.ifc T s)]:=rfl
theorem e_oneS_ifc (T:TypeId) (s:SV):oneS (.ifc T s) = true:=rfl
theorem e_stp_callm (P:Program) (Y:Hd) (d:Option Nat) (σ : St) (r:KT) (K:RK) (f:FuncId) (as:List X):stp P Y d (.callm f as) σ r K = CALLM P f (mapX (rdG none σ.fr) as) d σ r K:=rfl
theorem e_stp_calvm (P:Program) (Y:Hd) (d:Option Nat) (σ : St) (r:KT) (K:RK) (x:X) (as:List X):stp P Y d (.calvm x as) σ r K = calvM P Y (rdG none σ.fr x) (mapX (rdG none σ.fr) as) d σ r K:=rfl
theorem e_yld (asg body:Nat → CT) (ps:List Nat) (kl:Nat) (rec:Loop) (fr:List (Nat × SV)) (N k:Nat) (args:List SV) (d:Option Nat) (σ : St) (r:KT) (K:RK):YLD (hdR asg body ps kl rec fr N) k args d σ r K =
 rfB (Nat.beq k kl) (isLp rec (lkh kl σ.hp) ∧ rfB (lenQ args ps) (asg σ.n ⟨pmS ps args ++ fr,σ.hp,σ.n,N,[]⟩ (asE kl rec (body σ.n) (bdE kl rec fun o=>cmK o.pn o.res o.hp o.n d σ r K)))):=rfl
theorem e_exR (ρ : Nat → Nat) (n0 n k:Nat):exR ρ n0 n k = exB (Nat.blt k n0) (ρ k) (n + (k - n0)):=rfl
theorem e_hpM (ρ : Nat → Nat) (n0 n:Nat) (o:Ot) (hp:List (Nat × HB)):hpM ρ n0 n o hp = rnP (exR ρ n0 n) o.hp ++ (goneP ρ n0 ++ hp):=rfl
theorem e_sx_rfun (P:Program) (Y:Hd) (m:Nat) (g:X) (ps:List Nat) (asg body:SC) (σ : St) (K:Ex → St → Prop):sx P Y m (.rfun g ps asg body) σ K = rfK P (fun n=>sx P Y0 n asg) (fun n=>sx P Y0 n body) (rdG none σ.fr g) ps σ K:=rfl
theorem e_strip_any (g:Option (Nat × Bool)) (fr:List (Nat × SV))  : strip g fr (.any) = (.any):=rfl
theorem e_drop_any (t:Nat) (r:List (Nat × SV))  : dropG ((t,(.any)) :: r) = (t,(.any)) :: dropG r:=rfl
theorem e_cvt_any (hp:List (Nat × HB))  : cvt hp (.any) = (.any):=rfl
theorem e_vwS_any (hp:List (Nat × HB)) (g:SV → SV)  : vwS hp g (.any) = (.any):=rfl
theorem e_vw0_any  : vw0 (.any) = .any:=rfl
theorem e_oneS_any  : oneS (.any) = false:=rfl
theorem e_drop_gd (t j:Nat) (w:Bool) (s:SV) (r:List (Nat × SV)):dropG ((t,.gd j w s) :: r) = (t,.any) :: dropG r:=rfl
theorem e_drop0  : dropG [] = []:=rfl
theorem e_strip_gd0 (fr:List (Nat × SV)) (j:Nat) (w:Bool) (s:SV):strip none fr (.gd j w s) = .any:=rfl
theorem e_strip_gd (fr:List (Nat × SV)) (j j0:Nat) (w w0:Bool) (s:SV):strip (some (j0,w0)) fr (.gd j w s) = orAny (alw 8 fr j0 w0 j w) s:=rfl
theorem e_oneV_bool (b:Bool):oneV (.bool b) = true:=rfl
theorem e_oneV_int (k:IntKind) (n:Int):oneV (.int k n) = true:=rfl
theorem e_oneV_string (s:ByteArray):oneV (.string s) = true:=rfl
theorem e_oneV_pointer (p:Option Addr):oneV (.pointer p) = true:=rfl
theorem e_oneV_slice (a:Option Addr) (l c:Nat):oneV (.slice a l c) = true:=rfl
theorem e_oneV_nilFunc  : oneV .nilFunc = true:=rfl
theorem e_oneV_nilIface  : oneV .nilIface = true:=rfl
theorem e_rdG (g:Option (Nat × Bool)) (fr:List (Nat × SV)) (x:X):rdG g fr x = strip g fr (rd fr x):=rfl
theorem e_rd_t (fr:List (Nat × SV)) (n:Nat):rd fr (.t n) = lk n fr:=rfl
theorem e_rd_c (fr:List (Nat × SV)) (x:Value):rd fr (.c x) = .v x:=rfl
theorem e_rd_f (fr:List (Nat × SV)) (i:Nat):rd fr (.f i) = .cl i []:=rfl
theorem e_alw (f:Nat) (fr:List (Nat × SV)) (j0:Nat) (w0:Bool) (j:Nat) (w:Bool):alw (f + 1) fr j0 w0 j w = alwS (sameG (Nat.beq j0 j) w0 w) (lk j0 fr) (alw f fr) j w:=rfl
theorem e_alw0 (fr:List (Nat × SV)) (j0:Nat) (w0:Bool) (j:Nat) (w:Bool):alw 0 fr j0 w0 j w = false:=rfl
theorem e_vw1 (hp:List (Nat × HB)) (s:SV):vw1 hp s = vwS hp vw0 s:=rfl
theorem e_vw2 (hp:List (Nat × HB)) (s:SV):vw2 hp s = vwS hp (vw1 hp) s:=rfl
theorem e_vw3 (hp:List (Nat × HB)) (s:SV):vw3 hp s = vwS hp (vw2 hp) s:=rfl
theorem e_vw4 (hp:List (Nat × HB)) (s:SV):vw4 hp s = vwS hp (vw3 hp) s:=rfl
theorem e_purge0 (fr:List (Nat × SV)) (hp:List (Nat × HB)) (n N:Nat):purge ⟨fr,hp,n,N,[]⟩ = ⟨fr,hp,n,N,[]⟩:=rfl
theorem e_purge1 (fr:List (Nat × SV)) (hp:List (Nat × HB)) (n N j:Nat) (l:List Nat):purge ⟨fr,hp,n,N,j :: l⟩ = ⟨dropG fr,hp,n,N,[]⟩:=rfl
theorem e_bini (b:BinOp) (k j:IntKind) (x y:Int):bini b (.v (.int k x)) (.v (.int j y)) = biniB (kbeq k j) b k x y:=rfl
theorem e_uni_not (b:Bool):uni .not (.v (.bool b)) = some (.v (.bool (!b))):=rfl
theorem e_uni_neg (k:IntKind) (n:Int):uni .neg (.v (.int k n)) = some (.v (.int k (k.wrap (0 - n)))):=rfl
theorem e_binr_add (k:IntKind) (x y:Int):binr .add k x y = some (.v (.int k (k.wrap (x + y)))):=rfl
theorem e_binr_sub (k:IntKind) (x y:Int):binr .sub k x y = some (.v (.int k (k.wrap (x - y)))):=rfl
theorem e_binr_mul (k:IntKind) (x y:Int):binr .mul k x y = some (.v (.int k (k.wrap (x * y)))):=rfl
theorem e_binr_eql (k:IntKind) (x y:Int):binr .eql k x y = some (.v (.bool (x == y))):=rfl
theorem e_binr_neq (k:IntKind) (x y:Int):binr .neq k x y = some (.v (.bool (x != y))):=rfl
theorem e_binr_lss (k:IntKind) (x y:Int):binr .lss k x y = some (.v (.bool (decide (x < y)))):=rfl
theorem e_binr_leq (k:IntKind) (x y:Int):binr .leq k x y = some (.v (.bool (decide (x ≤ y)))):=rfl
theorem e_binr_gtr (k:IntKind) (x y:Int):binr .gtr k x y = some (.v (.bool (decide (x > y)))):=rfl
theorem e_binr_geq (k:IntKind) (x y:Int):binr .geq k x y = some (.v (.bool (decide (x ≥ y)))):=rfl
theorem e_kbeq_i8  : kbeq .i8 .i8 = true:=rfl
theorem e_kbeq_i16  : kbeq .i16 .i16 = true:=rfl
theorem e_kbeq_i32  : kbeq .i32 .i32 = true:=rfl
theorem e_kbeq_i64  : kbeq .i64 .i64 = true:=rfl
theorem e_kbeq_u8  : kbeq .u8 .u8 = true:=rfl
theorem e_kbeq_u16  : kbeq .u16 .u16 = true:=rfl
theorem e_kbeq_u32  : kbeq .u32 .u32 = true:=rfl
theorem e_kbeq_u64  : kbeq .u64 .u64 = true:=rfl
theorem e_addo_p (o:Nat) (k q:Nat):addoS o (.p k q) = some (.p k (q + o)):=rfl
theorem e_nilc_p (k q:Nat):nilcS (.p k q) = some (.p k q):=rfl
theorem e_addo_pr (o:Nat) (k v m i q:Nat):addoS o (.pr k v m i q) = some (.pr k v m i (q + o)):=rfl
theorem e_nilc_pr (k v m i q:Nat):nilcS (.pr k v m i q) = some (.pr k v m i q):=rfl
theorem e_addo_ps (o:Nat) (row:List SV) (q:Nat):addoS o (.ps row q) = some (.ps row (q + o)):=rfl
theorem e_nilc_ps (row:List SV) (q:Nat):nilcS (.ps row q) = some (.ps row q):=rfl
theorem e_part_t (l:List SV) (o m:Nat):partS l o m true = partB (Nat.ble (o + m) l.length) l o m:=rfl
theorem e_part_f (l:List SV) (o m:Nat):partS l o m false = nth l o:=rfl
theorem e_mmf0 (mx:Bool) (x:Int):mmf mx x [] = some x:=rfl
theorem e_mmf_t (k:IntKind) (x y:Int) (r:List SV):mmf true x (.v (.int k y) :: r) = mmf true (max x y) r:=rfl
theorem e_mmf_f (k:IntKind) (x y:Int) (r:List SV):mmf false x (.v (.int k y) :: r) = mmf false (min x y) r:=rfl
theorem e_mm (mx:Bool) (k:IntKind) (x:Int) (r:List SV):mmS mx (.v (.int k x) :: r) = mmE k (mmf mx x r):=rfl
theorem e_bld (ρ : X → SV) (z:List SV) (ps:List (Nat × Nat × X)):bld ρ z ps = bldF z (bldX ρ ps):=rfl
theorem e_pv_build (ρ : X → SV) (z:List Value) (ps:List (Nat × Nat × X)):pv ρ (.build z ps) = bldE (bld ρ (lit z) ps):=rfl
theorem e_bslC (l:List SV) (m:Nat) (ls:List (List SV)):bslC (some l) m (some ls) = chkB (chk l m) l ls:=rfl
theorem e_allOne (s:SV) (l:List SV):allOne (s :: l) = andB (oneS s) (allOne l):=rfl
theorem e_allOne0  : allOne [] = true:=rfl
theorem e_pick_o (fr:List (Nat × SV)) (g:Option (Nat × Bool)) (t:Nat) (b:X):pickS fr g (.t t) (.c (.bool true)) b = pickO (rdG g fr (.t t)) (rdG (some (t,false)) fr b):=rfl
theorem e_pick_a (fr:List (Nat × SV)) (g:Option (Nat × Bool)) (t n:Nat):pickS fr g (.t t) (.t n) (.c (.bool false)) = pickA (rdG g fr (.t t)) (rdG (some (t,true)) fr (.t n)):=rfl
theorem e_pick_f (fr:List (Nat × SV)) (g:Option (Nat × Bool)) (t:Nat):pickS fr g (.t t) (.c (.bool false)) (.c (.bool false)) = pickA (rdG g fr (.t t)) (rdG (some (t,true)) fr (.c (.bool false))):=rfl
theorem e_pickA_u:pickA (.v (.bool false)) (.v undef) = some (.v (.bool false)):=rfl
theorem e_pickO_u:pickO (.v (.bool true)) (.v undef) = some (.v (.bool true)):=rfl
theorem e_rvR (rs:List RV) (σ : St):rvR rs σ = rvE (rvs σ rs):=rfl
theorem e_rvs0 (σ : St):rvs σ [] = some []:=rfl
theorem e_rv1_t (σ : St) (t:Nat):rv1 σ (.tmp t) = some (rdG none σ.fr (.t t)):=rfl
theorem e_rv1_c (σ : St) (t m:Nat) (ag:Bool):rv1 σ (.cell t m ag) = rvX σ.hp m ag (rdG none σ.fr (.t t)):=rfl
theorem e_stp_mv (P:Program) (Y:Hd) (d:Option Nat) (σ : St) (r:KT) (K:RK) (x:X):stp P Y d (.mv x) σ r K = stpV P none d (.mv x) σ r K:=rfl
theorem e_stp_pick (P:Program) (Y:Hd) (d:Option Nat) (σ : St) (r:KT) (K:RK) (c a b:X):stp P Y d (.pick c a b) σ r K = stpV P none d (.pick c a b) σ r K:=rfl
theorem e_stp_build (P:Program) (Y:Hd) (d:Option Nat) (σ : St) (r:KT) (K:RK) (z:List Value) (ps:List (Nat × Nat × X)):stp P Y d (.build z ps) σ r K = stpV P none d (.build z ps) σ r K:=rfl
theorem e_stp_bsl (P:Program) (Y:Hd) (d:Option Nat) (σ : St) (r:KT) (K:RK) (m:Nat) (T:TypeId) (ps:List X):stp P Y d (.bsl m T ps) σ r K = stpV P none d (.bsl m T ps) σ r K:=rfl
theorem e_stp_ld (P:Program) (Y:Hd) (d:Option Nat) (σ : St) (r:KT) (K:RK) (x:X) (m:Nat) (ag:Bool):stp P Y d (.ld x m ag) σ r K = stpV P none d (.ld x m ag) σ r K:=rfl
theorem e_stp_nilc (P:Program) (Y:Hd) (d:Option Nat) (σ : St) (r:KT) (K:RK) (x:X):stp P Y d (.nilc x) σ r K = stpV P none d (.nilc x) σ r K:=rfl
theorem e_stp_bin (P:Program) (Y:Hd) (d:Option Nat) (σ : St) (r:KT) (K:RK) (b:BinOp) (x y:X):stp P Y d (.bin b x y) σ r K = stpV P none d (.bin b x y) σ r K:=rfl
theorem e_stp_div (P:Program) (Y:Hd) (d:Option Nat) (σ : St) (r:KT) (K:RK) (b:BinOp) (x y:X):stp P Y d (.div b x y) σ r K = stpV P none d (.div b x y) σ r K:=rfl
theorem e_stp_un (P:Program) (Y:Hd) (d:Option Nat) (σ : St) (r:KT) (K:RK) (u:UnOp) (x:X):stp P Y d (.un u x) σ r K = stpV P none d (.un u x) σ r K:=rfl
theorem e_stp_addo (P:Program) (Y:Hd) (d:Option Nat) (σ : St) (r:KT) (K:RK) (x:X) (o:Nat):stp P Y d (.addo x o) σ r K = stpV P none d (.addo x o) σ r K:=rfl
theorem e_stp_fld (P:Program) (Y:Hd) (d:Option Nat) (σ : St) (r:KT) (K:RK) (x:X) (o m:Nat) (ag:Bool):stp P Y d (.fld x o m ag) σ r K = stpV P none d (.fld x o m ag) σ r K:=rfl
theorem e_stp_idx (P:Program) (Y:Hd) (d:Option Nat) (σ : St) (r:KT) (K:RK) (x i:X) (len m:Nat) (ag:Bool):stp P Y d (.idx x i len m ag) σ r K = stpV P none d (.idx x i len m ag) σ r K:=rfl
theorem e_stp_ixa (P:Program) (Y:Hd) (d:Option Nat) (σ : St) (r:KT) (K:RK) (x i:X) (len m:Nat):stp P Y d (.ixa x i len m) σ r K = stpV P none d (.ixa x i len m) σ r K:=rfl
theorem e_stp_ixs (P:Program) (Y:Hd) (d:Option Nat) (σ : St) (r:KT) (K:RK) (x i:X) (m:Nat):stp P Y d (.ixs x i m) σ r K = stpV P none d (.ixs x i m) σ r K:=rfl
theorem e_stp_len (P:Program) (Y:Hd) (d:Option Nat) (σ : St) (r:KT) (K:RK) (x:X):stp P Y d (.len x) σ r K = stpV P none d (.len x) σ r K:=rfl
theorem e_stp_mm (P:Program) (Y:Hd) (d:Option Nat) (σ : St) (r:KT) (K:RK) (mx:Bool) (xs:List X):stp P Y d (.mm mx xs) σ r K = stpV P none d (.mm mx xs) σ r K:=rfl
theorem e_stp_call (P:Program) (Y:Hd) (d:Option Nat) (σ : St) (r:KT) (K:RK) (f:FuncId) (as:List X):stp P Y d (.call f as) σ r K = stpV P none d (.call f as) σ r K:=rfl
theorem e_stp_calv (P:Program) (Y:Hd) (d:Option Nat) (σ : St) (r:KT) (K:RK) (x:X) (as:List X):stp P Y d (.calv x as) σ r K = stpV P none d (.calv x as) σ r K:=rfl
theorem e_stp_mkf (P:Program) (Y:Hd) (d:Option Nat) (σ : St) (r:KT) (K:RK) (f:FuncId) (cs:List X):stp P Y d (.mkf f cs) σ r K = stpV P none d (.mkf f cs) σ r K:=rfl
theorem e_stp_conv (P:Program) (Y:Hd) (d:Option Nat) (σ : St) (r:KT) (K:RK) (k:IntKind) (x:X):stp P Y d (.conv k x) σ r K = stpV P none d (.conv k x) σ r K:=rfl
theorem e_stp_ext (P:Program) (Y:Hd) (d:Option Nat) (σ : St) (r:KT) (K:RK) (x:X) (i:Nat):stp P Y d (.ext x i) σ r K = stpV P none d (.ext x i) σ r K:=rfl
theorem e_rvs (σ : St) (r:RV) (rs:List RV):rvs σ (r :: rs) = rvC σ.hp (rv1 σ r) (rvs σ rs):=rfl
theorem e_pv_fld (ρ : X → SV) (x:X) (o m:Nat) (ag:Bool):pv ρ (.fld x o m ag) = pvF o m ag (ρ x):=rfl
theorem e_pv_conv (ρ : X → SV) (k:IntKind) (x:X):pv ρ (.conv k x) = pvC k (ρ x):=rfl
theorem e_pv_ext (ρ : X → SV) (x:X) (i:Nat):pv ρ (.ext x i) = pvE i (ρ x):=rfl
theorem e_entF0 (fr:List (Nat × SV)):entF [] fr = True:=rfl
theorem e_entF (t:Nat) (s:SV) (r fr:List (Nat × SV)):entF ((t,s) :: r) fr = (lk t fr = s ∧ entF r fr):=rfl
theorem e_stp_eqs (P:Program) (Y:Hd) (d:Option Nat) (σ : St) (r:KT) (K:RK) (ng ag:Bool) (cls:List Nat) (x y:X):stp P Y d (.eqs ng ag cls x y) σ r K = stpV P none d (.eqs ng ag cls x y) σ r K:=rfl
theorem e_stp_slc (P:Program) (Y:Hd) (d:Option Nat) (σ : St) (r:KT) (K:RK) (x h k:X):stp P Y d (.slc x h k) σ r K = stpV P none d (.slc x h k) σ r K:=rfl
theorem e_stp_sub (P:Program) (Y:Hd) (d:Option Nat) (σ : St) (r:KT) (K:RK) (m:Nat) (x:X) (lo hi:Option X):stp P Y d (.sub m x lo hi) σ r K = stpV P none d (.sub m x lo hi) σ r K:=rfl
theorem e_stp_app (P:Program) (Y:Hd) (d:Option Nat) (σ : St) (r:KT) (K:RK) (m b:Nat) (T:TypeId) (x y:X):stp P Y d (.app m b T x y) σ r K = stpV P none d (.app m b T x y) σ r K:=rfl
theorem q_bldE_1 (l:List Go.Sx.SV):Go.Sx.bldE (Option.some l) = Option.some (Go.Sx.SV.agg l):=rfl
theorem q_bldE_2  : Go.Sx.bldE Option.none = Option.none:=rfl
theorem q_mmE_1 (k:Go.IntKind) (z:Int):Go.Sx.mmE k (Option.some z) = Option.some (Go.Sx.SV.v (Go.Value.int k z)):=rfl
theorem q_mmE_2 (k:Go.IntKind):Go.Sx.mmE k Option.none = Option.none:=rfl
theorem q_vwP_1 (g:Go.Sx.SV → Go.Sx.SV) (o:Nat) (l:List Go.Sx.SV) (T:Go.TypeId):Go.Sx.vwP g o (Go.Sx.HB.cells l T) = Go.Sx.SV.ps (Go.Sx.mapS g l) o:=rfl
theorem q_vwN_1 (m:Nat) (xs:List (List Go.Sx.SV)):Go.Sx.vwN Bool.true m xs = Go.Sx.SV.sl Bool.false m xs:=rfl
theorem q_vwN_2 (m:Nat) (xs:List (List Go.Sx.SV)):Go.Sx.vwN Bool.false m xs = Go.Sx.SV.any:=rfl
theorem q_vwM_1 (v v' m:Nat) (xs:List (List Go.Sx.SV)) (T:Go.TypeId):Go.Sx.vwM v (Go.Sx.HB.row v' m xs T) = Go.Sx.vwN (Nat.beq v v') m xs:=rfl
theorem q_vwM_2 (v v' m:Nat) (xs:List (List Go.Sx.SV)) (T:Go.TypeId) (o m':Nat) (inn:List (List (List Go.Sx.SV))) (T':Go.TypeId):Go.Sx.vwM v (Go.Sx.HB.rws v' m xs T o m' inn T') = Go.Sx.vwN (Nat.beq v v') m (Go.Sx.frzX o m' inn xs):=rfl
theorem q_cvtM_1 (v v' m:Nat) (xs:List (List Go.Sx.SV)) (T:Go.TypeId):Go.Sx.cvtM v (Go.Sx.HB.row v' m xs T) = Go.Sx.vwN (Nat.beq v v') m xs:=rfl
theorem q_sprH_1 (m v v' m':Nat) (xs:List (List Go.Sx.SV)) (T:Go.TypeId):Go.Sx.sprH m v (Go.Sx.HB.row v' m' xs T) = Go.Sx.rowB xs (Go.Sx.andB (Nat.beq m m') (Nat.beq v v')):=rfl
theorem q_sprH_2 (m v:Nat) (l:List Go.Sx.SV) (T:Go.TypeId):Go.Sx.sprH m v (Go.Sx.HB.cells l T) = Option.none:=rfl
theorem q_sprH_3 (m v:Nat) (φ : Go.Sx.OP):Go.Sx.sprH m v (Go.Sx.HB.ob φ) = Option.none:=rfl
theorem q_sprH_4 (m v:Nat) (es:List (Nat × Go.Value × Go.Sx.SV)) (clk:Nat):Go.Sx.sprH m v (Go.Sx.HB.map es clk) = Option.none:=rfl
theorem q_sprH_5 (m v km since:Nat) (seen:List Nat) (last:Nat):Go.Sx.sprH m v (Go.Sx.HB.it km since seen last) = Option.none:=rfl
theorem q_sprH_6 (m v:Nat) (rec:Go.Loop) (pd:Option Go.Sx.Ex):Go.Sx.sprH m v (Go.Sx.HB.lp rec pd) = Option.none:=rfl
theorem q_sprH_7 (m v:Nat) (rec:Go.Loop):Go.Sx.sprH m v (Go.Sx.HB.lb rec) = Option.none:=rfl
theorem q_sprH_8 (m v v_1 m_1:Nat) (xs:List (List Go.Sx.SV)) (T:Go.TypeId) (o m':Nat) (inn:List (List (List Go.Sx.SV))) (T':Go.TypeId):Go.Sx.sprH m v (Go.Sx.HB.rws v_1 m_1 xs T o m' inn T') = Option.none:=rfl
theorem q_sprH_9 (m v:Nat):Go.Sx.sprH m v Go.Sx.HB.gone = Option.none:=rfl
theorem q_rowB_1 (xs:List (List Go.Sx.SV)):Go.Sx.rowB xs Bool.true = Option.some xs:=rfl
theorem q_rowB_2 (xs:List (List Go.Sx.SV)):Go.Sx.rowB xs Bool.false = Option.none:=rfl
theorem q_rvE_1  : Go.Sx.rvE (Option.some []) = Option.some (Go.Sx.SV.tup []):=rfl
theorem q_rvE_2 (s:Go.Sx.SV):Go.Sx.rvE (Option.some [s]) = Option.some s:=rfl
theorem q_rvE_3 (a b:Go.Sx.SV) (l:List Go.Sx.SV):Go.Sx.rvE (Option.some (a :: b :: l)) = Option.some (Go.Sx.SV.tup (a :: b :: l)):=rfl
theorem q_rvE_4  : Go.Sx.rvE Option.none = Option.none:=rfl
theorem q_rvD_1 (s:Go.Sx.SV) (l:List Go.Sx.SV):Go.Sx.rvD s (Option.some l) = Option.some (s :: l):=rfl
theorem q_rvD_2 (s:Go.Sx.SV):Go.Sx.rvD s Option.none = Option.none:=rfl
theorem q_rvC_1 (hp:List (Nat × Go.Sx.HB)) (x:Option (List Go.Sx.SV)) (s:Go.Sx.SV):Go.Sx.rvC hp (Option.some s) x = Go.Sx.rvD (Go.Sx.cvt hp s) x:=rfl
theorem q_rvC_2 (hp:List (Nat × Go.Sx.HB)) (x:Option (List Go.Sx.SV)):Go.Sx.rvC hp Option.none x = Option.none:=rfl
theorem q_rvH_1 (o m:Nat) (ag:Bool) (l:List Go.Sx.SV) (T:Go.TypeId):Go.Sx.rvH o m ag (Go.Sx.HB.cells l T) = Go.Sx.partS l o m ag:=rfl
theorem q_rvX_1 (hp:List (Nat × Go.Sx.HB)) (m:Nat) (ag:Bool) (k o:Nat):Go.Sx.rvX hp m ag (Go.Sx.SV.p k o) = Go.Sx.rvH o m ag (Go.Sx.lkh k hp):=rfl
theorem q_pvF_1 (o m:Nat) (ag:Bool) (l:List Go.Sx.SV):Go.Sx.pvF o m ag (Go.Sx.SV.agg l) = Go.Sx.partS l o m ag:=rfl
theorem q_pvC_1 (k k_1:Go.IntKind) (n:Int):Go.Sx.pvC k (Go.Sx.SV.v (Go.Value.int k_1 n)) = Option.some (Go.Sx.SV.v (Go.Value.int k (Go.IntKind.wrap k n))):=rfl
theorem q_pvE_1 (i:Nat) (l:List Go.Sx.SV):Go.Sx.pvE i (Go.Sx.SV.tup l) = Go.Sx.nth l i:=rfl
theorem q_putB_1 (x:Nat) (x_1:Go.Sx.SV) (x_2:Go.Sx.St) (x_3:Go.Sx.KT) (x_4:Go.Sx.RK):Go.Sx.putB Bool.false Bool.true Bool.false x x_1 x_2 x_3 x_4 = x_3 { fr:=(x,x_1) :: Go.Sx.St.fr x_2,hp:=Go.Sx.St.hp x_2,n:=Go.Sx.St.n x_2,N:=Go.Sx.St.N x_2,gs:=Go.Sx.St.gs x_2 } x_4:=rfl
theorem q_putG_1 (x x_1:Nat) (x_2:Bool) (x_3:Go.Sx.SV) (x_4:Go.Sx.St) (x_5:Go.Sx.KT) (x_6:Go.Sx.RK):Go.Sx.putG Bool.false Bool.true Bool.false x x_1 x_2 x_3 x_4 x_5 x_6 = x_5 { fr:=(x,Go.Sx.SV.gd x_1 x_2 x_3) :: Go.Sx.St.fr x_4,hp:=Go.Sx.St.hp x_4,n:=Go.Sx.St.n x_4,N:=Go.Sx.St.N x_4,gs:=x_1 :: Go.Sx.St.gs x_4 } x_6:=rfl
theorem q_putK_1 (s:Go.Sx.SV) (σ : Go.Sx.St) (r:Go.Sx.KT) (K:Go.Sx.RK):Go.Sx.putK Option.none s Option.none σ r K = r σ K:=rfl
theorem q_putK_2 (s:Go.Sx.SV) (σ : Go.Sx.St) (r:Go.Sx.KT) (K:Go.Sx.RK) (val:Nat × Bool):Go.Sx.putK Option.none s (Option.some val) σ r K = False:=rfl
theorem q_putK_3 (s:Go.Sx.SV) (σ : Go.Sx.St) (r:Go.Sx.KT) (K:Go.Sx.RK) (t:Nat):Go.Sx.putK (Option.some t) s Option.none σ r K = Go.Sx.putB (Go.Sx.memb t (Go.Sx.St.gs σ)) (Nat.blt t (Go.Sx.St.N σ)) (Go.Sx.gdS s) t s σ r K:=rfl
theorem q_putK_4 (s:Go.Sx.SV) (σ : Go.Sx.St) (r:Go.Sx.KT) (K:Go.Sx.RK) (t j:Nat) (w:Bool):Go.Sx.putK (Option.some t) s (Option.some (j,w)) σ r K = Go.Sx.putG (Go.Sx.memb t (Go.Sx.St.gs σ)) (Nat.blt t (Go.Sx.St.N σ)) (Nat.beq t j) t j w s σ r K:=rfl
theorem q_putO_1 (d:Option Nat) (g:Option (Nat × Bool)) (σ : Go.Sx.St) (r:Go.Sx.KT) (K:Go.Sx.RK) (s:Go.Sx.SV):Go.Sx.putO (Option.some s) d g σ r K = Go.Sx.putK d s g σ r K:=rfl
theorem q_putO_2 (d:Option Nat) (g:Option (Nat × Bool)) (σ : Go.Sx.St) (r:Go.Sx.KT) (K:Go.Sx.RK):Go.Sx.putO Option.none d g σ r K = False:=rfl
theorem q_orAny_1 (x:Go.Sx.SV):Go.Sx.orAny Bool.true x = x:=rfl
theorem q_orAny_2 (x:Go.Sx.SV):Go.Sx.orAny Bool.false x = Go.Sx.SV.any:=rfl
theorem q_alwS_1 (x:Go.Sx.SV) (x_1:Nat → Bool → Nat → Bool → Bool) (x_2:Nat) (x_3:Bool):Go.Sx.alwS Bool.true x x_1 x_2 x_3 = Bool.true:=rfl
theorem q_alwS_2 (x:Nat → Bool → Nat → Bool → Bool) (x_1:Nat) (x_2:Bool) (j':Nat) (w':Bool) (s:Go.Sx.SV):Go.Sx.alwS Bool.false (Go.Sx.SV.gd j' w' s) x x_1 x_2 = x j' w' x_1 x_2:=rfl
theorem q_sameG_1 (x x_1:Bool):Go.Sx.sameG Bool.true x x_1 = Go.Sx.bbq x x_1:=rfl
theorem q_sameG_2 (x x_1:Bool):Go.Sx.sameG Bool.false x x_1 = Bool.false:=rfl
theorem q_bbq_1  : Go.Sx.bbq Bool.true Bool.true = Bool.true:=rfl
theorem q_bbq_2  : Go.Sx.bbq Bool.false Bool.false = Bool.true:=rfl
theorem q_pickO_1 (x y:Bool):Go.Sx.pickO (Go.Sx.SV.v (Go.Value.bool x)) (Go.Sx.SV.v (Go.Value.bool y)) = Option.some (Go.Sx.SV.v (Go.Value.bool (x || y))):=rfl
theorem q_pickO_2 (x:Bool) (vs:Array Go.Value):Go.Sx.pickO (Go.Sx.SV.v (Go.Value.bool x)) (Go.Sx.SV.v (Go.Value.tuple vs)) = bif x then Option.some (Go.Sx.SV.v (Go.Value.bool Bool.true)) else Option.none:=rfl
theorem q_pickA_1 (x y:Bool):Go.Sx.pickA (Go.Sx.SV.v (Go.Value.bool x)) (Go.Sx.SV.v (Go.Value.bool y)) = Option.some (Go.Sx.SV.v (Go.Value.bool (x && y))):=rfl
theorem q_pickA_2 (x:Bool) (vs:Array Go.Value):Go.Sx.pickA (Go.Sx.SV.v (Go.Value.bool x)) (Go.Sx.SV.v (Go.Value.tuple vs)) = bif x then Option.none else Option.some (Go.Sx.SV.v (Go.Value.bool Bool.false)):=rfl
theorem q_bslS_1 (m:Nat) (r:List (List Go.Sx.SV)):Go.Sx.bslS m (Option.some r) = Option.some (Go.Sx.SV.sl Bool.true m r):=rfl
theorem q_bslS_2 (m:Nat):Go.Sx.bslS m Option.none = Option.none:=rfl
theorem q_calvK_1 (P:Go.Program) (g:Option (Nat × Bool)) (d:Option Nat) (σ : Go.Sx.St) (r:Go.Sx.KT) (K:Go.Sx.RK) (args:List Go.Sx.SV) (f:Go.FuncId) (caps:List Go.Sx.SV):Go.Sx.calvK P g d σ r K (Go.Sx.SV.cl f caps) args = Go.Sx.CALL P g f (args ++ caps) d σ r K:=rfl
theorem q_ixrB_1 (g:Option (Nat × Bool)) (d:Option Nat) (σ : Go.Sx.St) (r:Go.Sx.KT) (K:Go.Sx.RK) (k v m len:Nat) (j:Int):Go.Sx.ixrB g d σ r K Bool.true k v m len j = Go.Sx.IXR g k v m len j d σ r K:=rfl
theorem q_ixrB_2 (g:Option (Nat × Bool)) (d:Option Nat) (σ : Go.Sx.St) (r:Go.Sx.KT) (K:Go.Sx.RK) (k v m len:Nat) (j:Int):Go.Sx.ixrB g d σ r K Bool.false k v m len j = False:=rfl
theorem q_ixrK_1 (g:Option (Nat × Bool)) (d:Option Nat) (σ : Go.Sx.St) (r:Go.Sx.KT) (K:Go.Sx.RK) (k v m:Nat) (j:Int) (v' m_1:Nat) (xs:List (List Go.Sx.SV)) (T:Go.TypeId):Go.Sx.ixrK g d σ r K (Go.Sx.HB.row v' m_1 xs T) k v m j = Go.Sx.ixrB g d σ r K (Go.Sx.andB (Nat.beq m m_1) (Nat.beq v v')) k v m (List.length xs) j:=rfl
theorem q_ixrK_2 (g:Option (Nat × Bool)) (d:Option Nat) (σ : Go.Sx.St) (r:Go.Sx.KT) (K:Go.Sx.RK) (k v m:Nat) (j:Int) (v' m_1:Nat) (xs:List (List Go.Sx.SV)) (T:Go.TypeId) (o m':Nat) (inn:List (List (List Go.Sx.SV))) (T':Go.TypeId):Go.Sx.ixrK g d σ r K (Go.Sx.HB.rws v' m_1 xs T o m' inn T') k v m j = ∃ i rows TT,v = v' + i ∧ Go.Sx.rwsAt k v' m_1 xs T o m' inn T' i = Option.some (m,rows,TT) ∧ Go.Sx.IXR g k v m (List.length rows) j d σ r K:=rfl
theorem q_ixsB_1 (g:Option (Nat × Bool)) (d:Option Nat) (σ : Go.Sx.St) (r:Go.Sx.KT) (K:Go.Sx.RK) (xs:List (List Go.Sx.SV)) (j:Int):Go.Sx.ixsB g d σ r K Bool.true xs j = Go.Sx.IXS g xs j d σ r K:=rfl
theorem q_ixsB_2 (g:Option (Nat × Bool)) (d:Option Nat) (σ : Go.Sx.St) (r:Go.Sx.KT) (K:Go.Sx.RK) (xs:List (List Go.Sx.SV)) (j:Int):Go.Sx.ixsB g d σ r K Bool.false xs j = False:=rfl
theorem q_ixsK_1 (g:Option (Nat × Bool)) (d:Option Nat) (σ : Go.Sx.St) (r:Go.Sx.KT) (K:Go.Sx.RK) (m:Nat) (k:Go.IntKind) (j:Int) (c:Bool) (m':Nat) (xs:List (List Go.Sx.SV)):Go.Sx.ixsK g d σ r K (Go.Sx.SV.v (Go.Value.int k j)) (Go.Sx.SV.sl c m' xs) m = Go.Sx.ixsB g d σ r K (Nat.beq m m') xs j:=rfl
theorem q_ixsK_2 (g:Option (Nat × Bool)) (d:Option Nat) (σ : Go.Sx.St) (r:Go.Sx.KT) (K:Go.Sx.RK) (m:Nat) (k:Go.IntKind) (j:Int) (k_1 v:Nat):Go.Sx.ixsK g d σ r K (Go.Sx.SV.v (Go.Value.int k j)) (Go.Sx.SV.mr k_1 v) m = Go.Sx.ixrK g d σ r K (Go.Sx.lkh k_1 (Go.Sx.St.hp σ)) k_1 v m j:=rfl
theorem q_ixaK_1 (g:Option (Nat × Bool)) (d:Option Nat) (σ : Go.Sx.St) (r:Go.Sx.KT) (K:Go.Sx.RK) (x:Go.Sx.SV) (len m:Nat) (k:Go.IntKind) (n:Int):Go.Sx.ixaK g d σ r K (Go.Sx.SV.v (Go.Value.int k n)) x len m = Go.Sx.IXA g len n (fun n=>Go.Sx.addoS (n * m) x) d σ r K:=rfl
theorem q_idxK_1 (g:Option (Nat × Bool)) (d:Option Nat) (σ : Go.Sx.St) (r:Go.Sx.KT) (K:Go.Sx.RK) (len m:Nat) (ag:Bool) (k:Go.IntKind) (j:Int) (l:List Go.Sx.SV):Go.Sx.idxK g d σ r K (Go.Sx.SV.v (Go.Value.int k j)) (Go.Sx.SV.agg l) len m ag = Go.Sx.IXA g len j (fun n=>Go.Sx.partS l (n * m) m ag) d σ r K:=rfl
theorem q_ldC_1 (g:Option (Nat × Bool)) (d:Option Nat) (σ : Go.Sx.St) (r:Go.Sx.KT) (K:Go.Sx.RK) (o m:Nat) (ag:Bool) (l:List Go.Sx.SV) (T:Go.TypeId):Go.Sx.ldC g d σ r K (Go.Sx.HB.cells l T) o m ag = Go.Sx.putO (Go.Sx.partS l o m ag) d g σ r K:=rfl
theorem q_ldB_1 (g:Option (Nat × Bool)) (d:Option Nat) (σ : Go.Sx.St) (r:Go.Sx.KT) (K:Go.Sx.RK) (xs:List (List Go.Sx.SV)) (i o m:Nat) (ag:Bool):Go.Sx.ldB g d σ r K Bool.true xs i o m ag = Go.Sx.LDR g xs i o m ag d σ r K:=rfl
theorem q_ldB_2 (g:Option (Nat × Bool)) (d:Option Nat) (σ : Go.Sx.St) (r:Go.Sx.KT) (K:Go.Sx.RK) (xs:List (List Go.Sx.SV)) (i o m:Nat) (ag:Bool):Go.Sx.ldB g d σ r K Bool.false xs i o m ag = False:=rfl
theorem q_ldR_1 (g:Option (Nat × Bool)) (d:Option Nat) (σ : Go.Sx.St) (r:Go.Sx.KT) (K:Go.Sx.RK) (k v m' i o m:Nat) (ag:Bool) (v' m_1:Nat) (xs:List (List Go.Sx.SV)) (T:Go.TypeId):Go.Sx.ldR g d σ r K k (Go.Sx.HB.row v' m_1 xs T) v m' i o m ag = Go.Sx.ldB g d σ r K (Go.Sx.andB (Nat.beq m' m_1) (Nat.beq v v')) xs i o m ag:=rfl
theorem q_ldR_2 (g:Option (Nat × Bool)) (d:Option Nat) (σ : Go.Sx.St) (r:Go.Sx.KT) (K:Go.Sx.RK) (k v m' i o m:Nat) (ag:Bool) (v' m_1:Nat) (xs:List (List Go.Sx.SV)) (T:Go.TypeId) (o_1 m'_1:Nat) (inn:List (List (List Go.Sx.SV))) (T':Go.TypeId):Go.Sx.ldR g d σ r K k (Go.Sx.HB.rws v' m_1 xs T o_1 m'_1 inn T') v m' i o m ag = ∃ a rows TT,v = v' + a ∧ Go.Sx.rwsAt k v' m_1 xs T o_1 m'_1 inn T' a = Option.some (m',rows,TT) ∧ Go.Sx.LDR g rows i o m ag d σ r K:=rfl
theorem q_ldK_1 (g:Option (Nat × Bool)) (d:Option Nat) (σ : Go.Sx.St) (r:Go.Sx.KT) (K:Go.Sx.RK) (m:Nat) (ag:Bool) (k o:Nat):Go.Sx.ldK g d σ r K (Go.Sx.SV.p k o) m ag = Go.Sx.ldC g d σ r K (Go.Sx.lkh k (Go.Sx.St.hp σ)) o m ag:=rfl
theorem q_ldK_2 (g:Option (Nat × Bool)) (d:Option Nat) (σ : Go.Sx.St) (r:Go.Sx.KT) (K:Go.Sx.RK) (m:Nat) (ag:Bool) (row:List Go.Sx.SV) (o:Nat):Go.Sx.ldK g d σ r K (Go.Sx.SV.ps row o) m ag = Go.Sx.putO (Go.Sx.partS row o m ag) d g σ r K:=rfl
theorem q_ldK_3 (g:Option (Nat × Bool)) (d:Option Nat) (σ : Go.Sx.St) (r:Go.Sx.KT) (K:Go.Sx.RK) (m:Nat) (ag:Bool) (k v m' i o:Nat):Go.Sx.ldK g d σ r K (Go.Sx.SV.pr k v m' i o) m ag = Go.Sx.ldR g d σ r K k (Go.Sx.lkh k (Go.Sx.St.hp σ)) v m' i o m ag:=rfl
theorem q_divB_1 (g:Option (Nat × Bool)) (d:Option Nat) (σ : Go.Sx.St) (r:Go.Sx.KT) (K:Go.Sx.RK) (b:Go.BinOp) (k:Go.IntKind) (u v:Int):Go.Sx.divB g d σ r K Bool.true b k u v = Go.Sx.DIV g b k u v d σ r K:=rfl
theorem q_divB_2 (g:Option (Nat × Bool)) (d:Option Nat) (σ : Go.Sx.St) (r:Go.Sx.KT) (K:Go.Sx.RK) (b:Go.BinOp) (k:Go.IntKind) (u v:Int):Go.Sx.divB g d σ r K Bool.false b k u v = False:=rfl
theorem q_divK_1 (g:Option (Nat × Bool)) (d:Option Nat) (σ : Go.Sx.St) (r:Go.Sx.KT) (K:Go.Sx.RK) (b:Go.BinOp) (k:Go.IntKind) (x_3:Int) (j:Go.IntKind) (y_1:Int):Go.Sx.divK g d σ r K b (Go.Sx.SV.v (Go.Value.int k x_3)) (Go.Sx.SV.v (Go.Value.int j y_1)) = Go.Sx.divB g d σ r K (Go.Sx.kbeq k j) b k x_3 y_1:=rfl
theorem q_lenB_1 (g:Option (Nat × Bool)) (d:Option Nat) (σ : Go.Sx.St) (r:Go.Sx.KT) (K:Go.Sx.RK) (xs:List (List Go.Sx.SV)):Go.Sx.lenB g d σ r K Bool.true xs = Go.Sx.putK d (Go.Sx.SV.v (Go.Value.int Go.IntKind.i64 ↑(List.length xs))) g σ r K:=rfl
theorem q_lenB_2 (g:Option (Nat × Bool)) (d:Option Nat) (σ : Go.Sx.St) (r:Go.Sx.KT) (K:Go.Sx.RK) (xs:List (List Go.Sx.SV)):Go.Sx.lenB g d σ r K Bool.false xs = False:=rfl
theorem q_lenR_1 (g:Option (Nat × Bool)) (d:Option Nat) (σ : Go.Sx.St) (r:Go.Sx.KT) (K:Go.Sx.RK) (k v v' m:Nat) (xs:List (List Go.Sx.SV)) (T:Go.TypeId):Go.Sx.lenR g d σ r K k (Go.Sx.HB.row v' m xs T) v = Go.Sx.lenB g d σ r K (Nat.beq v v') xs:=rfl
theorem q_lenR_2 (g:Option (Nat × Bool)) (d:Option Nat) (σ : Go.Sx.St) (r:Go.Sx.KT) (K:Go.Sx.RK) (k v v' m:Nat) (xs:List (List Go.Sx.SV)) (T:Go.TypeId) (o m':Nat) (inn:List (List (List Go.Sx.SV))) (T':Go.TypeId):Go.Sx.lenR g d σ r K k (Go.Sx.HB.rws v' m xs T o m' inn T') v = ∃ a mm rows TT,v = v' + a ∧ Go.Sx.rwsAt k v' m xs T o m' inn T' a = Option.some (mm,rows,TT) ∧ Go.Sx.putK d (Go.Sx.SV.v (Go.Value.int Go.IntKind.i64 ↑(List.length rows))) g σ r K:=rfl
theorem q_lenK_1 (g:Option (Nat × Bool)) (d:Option Nat) (σ : Go.Sx.St) (r:Go.Sx.KT) (K:Go.Sx.RK) (k v:Nat):Go.Sx.lenK g d σ r K (Go.Sx.SV.mr k v) = Go.Sx.lenR g d σ r K k (Go.Sx.lkh k (Go.Sx.St.hp σ)) v:=rfl
theorem q_lenK_2 (g:Option (Nat × Bool)) (d:Option Nat) (σ : Go.Sx.St) (r:Go.Sx.KT) (K:Go.Sx.RK) (k v m i l:Nat):Go.Sx.lenK g d σ r K (Go.Sx.SV.ms k v m i l) = Go.Sx.putK d (Go.Sx.SV.v (Go.Value.int Go.IntKind.i64 ↑l)) g σ r K:=rfl
theorem q_lenK_3 (g:Option (Nat × Bool)) (d:Option Nat) (σ : Go.Sx.St) (r:Go.Sx.KT) (K:Go.Sx.RK) (c:Bool) (m:Nat) (xs:List (List Go.Sx.SV)):Go.Sx.lenK g d σ r K (Go.Sx.SV.sl c m xs) = Go.Sx.putK d (Go.Sx.SV.v (Go.Value.int Go.IntKind.i64 ↑(List.length xs))) g σ r K:=rfl
theorem q_stpV_1 (P:Go.Program) (g:Option (Nat × Bool)) (d:Option Nat) (σ : Go.Sx.St) (r:Go.Sx.KT) (K:Go.Sx.RK) (f:Go.FuncId) (as:List Go.Sx.X):Go.Sx.stpV P g d (Go.Sx.SI.call f as) σ r K = Go.Sx.CALL P g f (Go.Sx.mapX (Go.Sx.rdG g (Go.Sx.St.fr σ)) as) d σ r K:=rfl
theorem q_stpV_2 (P:Go.Program) (g:Option (Nat × Bool)) (d:Option Nat) (σ : Go.Sx.St) (r:Go.Sx.KT) (K:Go.Sx.RK) (x:Go.Sx.X) (as:List Go.Sx.X):Go.Sx.stpV P g d (Go.Sx.SI.calv x as) σ r K = Go.Sx.calvK P g d σ r K (Go.Sx.rdG g (Go.Sx.St.fr σ) x) (Go.Sx.mapX (Go.Sx.rdG g (Go.Sx.St.fr σ)) as):=rfl
theorem q_stpV_3 (P:Go.Program) (g:Option (Nat × Bool)) (d:Option Nat) (σ : Go.Sx.St) (r:Go.Sx.KT) (K:Go.Sx.RK) (f:Go.FuncId) (as:List Go.Sx.X):Go.Sx.stpV P g d (Go.Sx.SI.callm f as) σ r K = False:=rfl
theorem q_stpV_4 (P:Go.Program) (g:Option (Nat × Bool)) (d:Option Nat) (σ : Go.Sx.St) (r:Go.Sx.KT) (K:Go.Sx.RK) (x:Go.Sx.X) (as:List Go.Sx.X):Go.Sx.stpV P g d (Go.Sx.SI.calvm x as) σ r K = False:=rfl
theorem q_stpV_5 (P:Go.Program) (g:Option (Nat × Bool)) (d:Option Nat) (σ : Go.Sx.St) (r:Go.Sx.KT) (K:Go.Sx.RK) (c a b:Go.Sx.X):Go.Sx.stpV P g d (Go.Sx.SI.pick c a b) σ r K = Go.Sx.putO (Go.Sx.pickS (Go.Sx.St.fr σ) g c a b) d g σ r K:=rfl
theorem q_stpV_6 (P:Go.Program) (g:Option (Nat × Bool)) (d:Option Nat) (σ : Go.Sx.St) (r:Go.Sx.KT) (K:Go.Sx.RK) (m:Nat) (T:Go.TypeId) (ps:List Go.Sx.X):Go.Sx.stpV P g d (Go.Sx.SI.bsl m T ps) σ r K = Go.Sx.putO (Go.Sx.bslS m (Go.Sx.bslR (Go.Sx.rdG g (Go.Sx.St.fr σ)) m ps)) d g σ r K:=rfl
theorem q_stpV_7 (P:Go.Program) (g:Option (Nat × Bool)) (d:Option Nat) (σ : Go.Sx.St) (r:Go.Sx.KT) (K:Go.Sx.RK) (x i_2:Go.Sx.X) (m:Nat):Go.Sx.stpV P g d (Go.Sx.SI.ixs x i_2 m) σ r K = Go.Sx.ixsK g d σ r K (Go.Sx.rdG g (Go.Sx.St.fr σ) i_2) (Go.Sx.rdG g (Go.Sx.St.fr σ) x) m:=rfl
theorem q_stpV_8 (P:Go.Program) (g:Option (Nat × Bool)) (d:Option Nat) (σ : Go.Sx.St) (r:Go.Sx.KT) (K:Go.Sx.RK) (x i_2:Go.Sx.X) (len m:Nat):Go.Sx.stpV P g d (Go.Sx.SI.ixa x i_2 len m) σ r K = Go.Sx.ixaK g d σ r K (Go.Sx.rdG g (Go.Sx.St.fr σ) i_2) (Go.Sx.rdG g (Go.Sx.St.fr σ) x) len m:=rfl
theorem q_stpV_9 (P:Go.Program) (g:Option (Nat × Bool)) (d:Option Nat) (σ : Go.Sx.St) (r:Go.Sx.KT) (K:Go.Sx.RK) (x i_2:Go.Sx.X) (len m:Nat) (ag:Bool):Go.Sx.stpV P g d (Go.Sx.SI.idx x i_2 len m ag) σ r K = Go.Sx.idxK g d σ r K (Go.Sx.rdG g (Go.Sx.St.fr σ) i_2) (Go.Sx.rdG g (Go.Sx.St.fr σ) x) len m ag:=rfl
theorem q_stpV_10 (P:Go.Program) (g:Option (Nat × Bool)) (d:Option Nat) (σ : Go.Sx.St) (r:Go.Sx.KT) (K:Go.Sx.RK) (x:Go.Sx.X) (m:Nat) (ag:Bool):Go.Sx.stpV P g d (Go.Sx.SI.ld x m ag) σ r K = Go.Sx.ldK g d σ r K (Go.Sx.rdG g (Go.Sx.St.fr σ) x) m ag:=rfl
theorem q_stpV_11 (P:Go.Program) (g:Option (Nat × Bool)) (d:Option Nat) (σ : Go.Sx.St) (r:Go.Sx.KT) (K:Go.Sx.RK) (b:Go.BinOp) (x y:Go.Sx.X):Go.Sx.stpV P g d (Go.Sx.SI.div b x y) σ r K = Go.Sx.divK g d σ r K b (Go.Sx.rdG g (Go.Sx.St.fr σ) x) (Go.Sx.rdG g (Go.Sx.St.fr σ) y):=rfl
theorem q_stpV_12 (P:Go.Program) (g:Option (Nat × Bool)) (d:Option Nat) (σ : Go.Sx.St) (r:Go.Sx.KT) (K:Go.Sx.RK) (x:Go.Sx.X):Go.Sx.stpV P g d (Go.Sx.SI.len x) σ r K = Go.Sx.lenK g d σ r K (Go.Sx.rdG g (Go.Sx.St.fr σ) x):=rfl
theorem q_stpV_13 (P:Go.Program) (g:Option (Nat × Bool)) (d:Option Nat) (σ : Go.Sx.St) (r:Go.Sx.KT) (K:Go.Sx.RK) (x:Go.Sx.X):Go.Sx.stpV P g d (Go.Sx.SI.mv x) σ r K = Go.Sx.putK d (Go.Sx.rdG g (Go.Sx.St.fr σ) x) g σ r K:=rfl
theorem q_stpV_14 (P:Go.Program) (g:Option (Nat × Bool)) (d:Option Nat) (σ : Go.Sx.St) (r:Go.Sx.KT) (K:Go.Sx.RK) (z:List Go.Value) (ps:List (Nat × Nat × Go.Sx.X)):Go.Sx.stpV P g d (Go.Sx.SI.build z ps) σ r K = Go.Sx.putO (Go.Sx.pv (Go.Sx.rdG g (Go.Sx.St.fr σ)) (Go.Sx.SI.build z ps)) d g σ r K:=rfl
theorem q_stpV_15 (P:Go.Program) (g:Option (Nat × Bool)) (d:Option Nat) (σ : Go.Sx.St) (r:Go.Sx.KT) (K:Go.Sx.RK) (x:Go.Sx.X):Go.Sx.stpV P g d (Go.Sx.SI.nilc x) σ r K = Go.Sx.putO (Go.Sx.nilcS (Go.Sx.rdG g (Go.Sx.St.fr σ) x)) d g σ r K:=rfl
theorem q_stpV_16 (P:Go.Program) (g:Option (Nat × Bool)) (d:Option Nat) (σ : Go.Sx.St) (r:Go.Sx.KT) (K:Go.Sx.RK) (b:Go.BinOp) (x y:Go.Sx.X):Go.Sx.stpV P g d (Go.Sx.SI.bin b x y) σ r K = Go.Sx.putO (Go.Sx.bini b (Go.Sx.rdG g (Go.Sx.St.fr σ) x) (Go.Sx.rdG g (Go.Sx.St.fr σ) y)) d g σ r K:=rfl
theorem q_stpV_17 (P:Go.Program) (g:Option (Nat × Bool)) (d:Option Nat) (σ : Go.Sx.St) (r:Go.Sx.KT) (K:Go.Sx.RK) (u:Go.UnOp) (x:Go.Sx.X):Go.Sx.stpV P g d (Go.Sx.SI.un u x) σ r K = Go.Sx.putO (Go.Sx.uni u (Go.Sx.rdG g (Go.Sx.St.fr σ) x)) d g σ r K:=rfl
theorem q_stpV_18 (P:Go.Program) (g:Option (Nat × Bool)) (d:Option Nat) (σ : Go.Sx.St) (r:Go.Sx.KT) (K:Go.Sx.RK) (x:Go.Sx.X) (o:Nat):Go.Sx.stpV P g d (Go.Sx.SI.addo x o) σ r K = Go.Sx.putO (Go.Sx.addoS o (Go.Sx.rdG g (Go.Sx.St.fr σ) x)) d g σ r K:=rfl
theorem q_stpV_19 (P:Go.Program) (g:Option (Nat × Bool)) (d:Option Nat) (σ : Go.Sx.St) (r:Go.Sx.KT) (K:Go.Sx.RK) (x:Go.Sx.X) (o m:Nat) (ag:Bool):Go.Sx.stpV P g d (Go.Sx.SI.fld x o m ag) σ r K = Go.Sx.putO (Go.Sx.pv (Go.Sx.rdG g (Go.Sx.St.fr σ)) (Go.Sx.SI.fld x o m ag)) d g σ r K:=rfl
theorem q_stpV_20 (P:Go.Program) (g:Option (Nat × Bool)) (d:Option Nat) (σ : Go.Sx.St) (r:Go.Sx.KT) (K:Go.Sx.RK) (mx:Bool) (xs:List Go.Sx.X):Go.Sx.stpV P g d (Go.Sx.SI.mm mx xs) σ r K = Go.Sx.putO (Go.Sx.mmS mx (Go.Sx.mapX (Go.Sx.rdG g (Go.Sx.St.fr σ)) xs)) d g σ r K:=rfl
theorem q_stpV_21 (P:Go.Program) (g:Option (Nat × Bool)) (d:Option Nat) (σ : Go.Sx.St) (r:Go.Sx.KT) (K:Go.Sx.RK) (f:Go.FuncId) (cs:List Go.Sx.X):Go.Sx.stpV P g d (Go.Sx.SI.mkf f cs) σ r K = Go.Sx.putK d (Go.Sx.SV.cl f (Go.Sx.mapX (Go.Sx.rdG g (Go.Sx.St.fr σ)) cs)) g σ r K:=rfl
theorem q_stpV_22 (P:Go.Program) (g:Option (Nat × Bool)) (d:Option Nat) (σ : Go.Sx.St) (r:Go.Sx.KT) (K:Go.Sx.RK) (k:Go.IntKind) (x:Go.Sx.X):Go.Sx.stpV P g d (Go.Sx.SI.conv k x) σ r K = Go.Sx.putO (Go.Sx.pv (Go.Sx.rdG g (Go.Sx.St.fr σ)) (Go.Sx.SI.conv k x)) d g σ r K:=rfl
theorem q_stpV_23 (P:Go.Program) (g:Option (Nat × Bool)) (d:Option Nat) (σ : Go.Sx.St) (r:Go.Sx.KT) (K:Go.Sx.RK) (x:Go.Sx.X) (i_2:Nat):Go.Sx.stpV P g d (Go.Sx.SI.ext x i_2) σ r K = Go.Sx.putO (Go.Sx.pv (Go.Sx.rdG g (Go.Sx.St.fr σ)) (Go.Sx.SI.ext x i_2)) d g σ r K:=rfl
theorem q_stpV_24 (P:Go.Program) (g:Option (Nat × Bool)) (d:Option Nat) (σ : Go.Sx.St) (r:Go.Sx.KT) (K:Go.Sx.RK) (x h k:Go.Sx.X):Go.Sx.stpV P g d (Go.Sx.SI.slc x h k) σ r K = Go.Sx.slcK g (Go.Sx.rdG g (Go.Sx.St.fr σ) x) (Go.Sx.rdG g (Go.Sx.St.fr σ) h) (Go.Sx.rdG g (Go.Sx.St.fr σ) k) d σ r K:=rfl
theorem q_stpV_25 (P:Go.Program) (g:Option (Nat × Bool)) (d:Option Nat) (σ : Go.Sx.St) (r:Go.Sx.KT) (K:Go.Sx.RK) (m:Nat) (x:Go.Sx.X) (lo hi:Option Go.Sx.X):Go.Sx.stpV P g d (Go.Sx.SI.sub m x lo hi) σ r K = Go.Sx.subK g m (Go.Sx.rdG g (Go.Sx.St.fr σ)) lo hi (Go.Sx.rdG g (Go.Sx.St.fr σ) x) d σ r K:=rfl
theorem q_stpV_26 (P:Go.Program) (g:Option (Nat × Bool)) (d:Option Nat) (σ : Go.Sx.St) (r:Go.Sx.KT) (K:Go.Sx.RK) (m b:Nat) (T:Go.TypeId) (x y:Go.Sx.X):Go.Sx.stpV P g d (Go.Sx.SI.cln m b T x y) σ r K = False:=rfl
theorem q_stpV_27 (P:Go.Program) (g:Option (Nat × Bool)) (d:Option Nat) (σ : Go.Sx.St) (r:Go.Sx.KT) (K:Go.Sx.RK) (m b:Nat) (T:Go.TypeId) (x y:Go.Sx.X):Go.Sx.stpV P g d (Go.Sx.SI.appm m b T x y) σ r K = False:=rfl
theorem q_stpV_28 (P:Go.Program) (g:Option (Nat × Bool)) (d:Option Nat) (σ : Go.Sx.St) (r:Go.Sx.KT) (K:Go.Sx.RK) (m:Nat) (x y:Go.Sx.X):Go.Sx.stpV P g d (Go.Sx.SI.cpy m x y) σ r K = False:=rfl
theorem q_stpV_29 (P:Go.Program) (g:Option (Nat × Bool)) (d:Option Nat) (σ : Go.Sx.St) (r:Go.Sx.KT) (K:Go.Sx.RK) (m b:Nat) (z:List Go.Value) (T:Go.TypeId) (x:Go.Sx.X):Go.Sx.stpV P g d (Go.Sx.SI.mks m b z T x) σ r K = False:=rfl
theorem q_stpV_30 (P:Go.Program) (g:Option (Nat × Bool)) (d:Option Nat) (σ : Go.Sx.St) (r:Go.Sx.KT) (K:Go.Sx.RK) (x:Go.Sx.X):Go.Sx.stpV P g d (Go.Sx.SI.isn x) σ r K = False:=rfl
theorem q_stpV_31 (P:Go.Program) (g:Option (Nat × Bool)) (d:Option Nat) (σ : Go.Sx.St) (r:Go.Sx.KT) (K:Go.Sx.RK) (m b:Nat) (T:Go.TypeId) (x y:Go.Sx.X):Go.Sx.stpV P g d (Go.Sx.SI.app m b T x y) σ r K = Go.Sx.appK g m b (Go.Sx.basS m (Go.Sx.rdG g (Go.Sx.St.fr σ) x)) (Go.Sx.sprS m (Go.Sx.St.hp σ) (Go.Sx.rdG g (Go.Sx.St.fr σ) y)) d σ r K:=rfl
theorem q_stpV_32 (P:Go.Program) (g:Option (Nat × Bool)) (d:Option Nat) (σ : Go.Sx.St) (r:Go.Sx.KT) (K:Go.Sx.RK) (x:Go.Sx.X) (m:Nat) (T:Go.TypeId):Go.Sx.stpV P g d (Go.Sx.SI.box x m T) σ r K = False:=rfl
theorem q_stpV_33 (P:Go.Program) (g:Option (Nat × Bool)) (d:Option Nat) (σ : Go.Sx.St) (r:Go.Sx.KT) (K:Go.Sx.RK) (z:List Go.Value) (T:Go.TypeId):Go.Sx.stpV P g d (Go.Sx.SI.alloc z T) σ r K = False:=rfl
theorem q_stpV_34 (P:Go.Program) (g:Option (Nat × Bool)) (d:Option Nat) (σ : Go.Sx.St) (r:Go.Sx.KT) (K:Go.Sx.RK) (x y:Go.Sx.X) (m:Nat):Go.Sx.stpV P g d (Go.Sx.SI.st x y m) σ r K = False:=rfl
theorem q_stpV_35 (P:Go.Program) (g:Option (Nat × Bool)) (d:Option Nat) (σ : Go.Sx.St) (r:Go.Sx.KT) (K:Go.Sx.RK) (ng ag:Bool) (cls:List Nat) (x y:Go.Sx.X):Go.Sx.stpV P g d (Go.Sx.SI.eqs ng ag cls x y) σ r K = Go.Sx.putO (Go.Sx.eqR ng (Go.Sx.eqLO cls ag (Go.Sx.rdG g (Go.Sx.St.fr σ) x) (Go.Sx.rdG g (Go.Sx.St.fr σ) y))) d g σ r K:=rfl
theorem q_stpV_36 (P:Go.Program) (g:Option (Nat × Bool)) (d:Option Nat) (σ : Go.Sx.St) (r:Go.Sx.KT) (K:Go.Sx.RK) (op:Go.Op) (ty:Go.TypeId):Go.Sx.stpV P g d (Go.Sx.SI.raw op ty) σ r K = False:=rfl
theorem q_stpV_37 (P:Go.Program) (g:Option (Nat × Bool)) (d:Option Nat) (σ : Go.Sx.St) (r:Go.Sx.KT) (K:Go.Sx.RK) (op:Go.Op) (xs:List Go.Sx.X):Go.Sx.stpV P g d (Go.Sx.SI.rv op xs) σ r K = False:=rfl
theorem q_stpV_38 (P:Go.Program) (g:Option (Nat × Bool)) (d:Option Nat) (σ : Go.Sx.St) (r:Go.Sx.KT) (K:Go.Sx.RK) (op:Go.Op) (x:Go.Sx.X) (xs:List Go.Sx.X):Go.Sx.stpV P g d (Go.Sx.SI.rb op x xs) σ r K = False:=rfl
theorem q_newB_1 (x:Nat) (x_1:List Go.Sx.SV) (x_2:Go.TypeId) (x_3:Go.Sx.St) (x_4:Go.Sx.KT) (x_5:Go.Sx.RK):Go.Sx.newB Bool.false Bool.true x x_1 x_2 x_3 x_4 x_5 = x_4 { fr:=(x,Go.Sx.SV.p (Go.Sx.St.n x_3) 0) :: Go.Sx.St.fr x_3,hp:=(Go.Sx.St.n x_3,Go.Sx.HB.cells x_1 x_2) :: Go.Sx.St.hp x_3,n:=Go.Sx.St.n x_3 + 1,N:=Go.Sx.St.N x_3,gs:=Go.Sx.St.gs x_3 } x_5:=rfl
theorem q_newK_1 (T:Go.TypeId) (σ : Go.Sx.St) (r:Go.Sx.KT) (K:Go.Sx.RK) (t:Nat) (c_2:List Go.Sx.SV):Go.Sx.newK (Option.some t) (Option.some c_2) T σ r K = Go.Sx.newB (Go.Sx.memb t (Go.Sx.St.gs σ)) (Nat.blt t (Go.Sx.St.N σ)) t c_2 T σ r K:=rfl
theorem q_cpyPB_1 (x x_1 x_2 x_3:Nat) (x_4:List (List Go.Sx.SV)) (x_5:Nat) (x_6:Go.TypeId) (x_7:Go.Sx.St) (x_8:Go.Sx.KT) (x_9:Go.Sx.RK):Go.Sx.cpyPB Bool.false Bool.true x x_1 x_2 x_3 x_4 x_5 x_6 x_7 x_8 x_9 = x_8 { fr:=(x,Go.Sx.SV.v (Go.Value.int Go.IntKind.i64 ↑x_5)) :: Go.Sx.St.fr x_7,hp:=(x_1,Go.Sx.HB.row x_2 x_3 x_4 x_6) :: Go.Sx.St.hp x_7,n:=Go.Sx.St.n x_7,N:=Go.Sx.St.N x_7,gs:=Go.Sx.St.gs x_7 } x_9:=rfl
theorem q_cpyP_1 (k v m:Nat) (xs:List (List Go.Sx.SV)) (N:Nat) (T:Go.TypeId) (σ : Go.Sx.St) (r:Go.Sx.KT) (K:Go.Sx.RK) (m_1:Nat):Go.Sx.cpyP (Option.some m_1) k v m xs N T σ r K = Go.Sx.cpyPB (Go.Sx.memb m_1 (Go.Sx.St.gs σ)) (Nat.blt m_1 (Go.Sx.St.N σ)) m_1 k v m xs N T σ r K:=rfl
theorem q_cpyP_2 (k v m:Nat) (xs:List (List Go.Sx.SV)) (N:Nat) (T:Go.TypeId) (σ : Go.Sx.St) (r:Go.Sx.KT) (K:Go.Sx.RK):Go.Sx.cpyP Option.none k v m xs N T σ r K = r { fr:=Go.Sx.St.fr σ,hp:=(k,Go.Sx.HB.row v m xs T) :: Go.Sx.St.hp σ,n:=Go.Sx.St.n σ,N:=Go.Sx.St.N σ,gs:=Go.Sx.St.gs σ } K:=rfl
theorem q_cpyY_1 (d:Option Nat) (k v m i L:Nat) (xs:List (List Go.Sx.SV)) (T:Go.TypeId) (σ : Go.Sx.St) (r:Go.Sx.KT) (K:Go.Sx.RK) (c:Bool) (m':Nat) (ys:List (List Go.Sx.SV)):Go.Sx.cpyY d k v m i L xs T (Go.Sx.SV.sl c m' ys) σ r K = Go.Sx.sbmB (Nat.beq m m') (Go.Sx.CPY d k v m i L xs ys T σ r K):=rfl
theorem q_cpyY_2 (d:Option Nat) (k v m i L:Nat) (xs:List (List Go.Sx.SV)) (T:Go.TypeId) (σ : Go.Sx.St) (r:Go.Sx.KT) (K:Go.Sx.RK):Go.Sx.cpyY d k v m i L xs T (Go.Sx.SV.v (Go.Value.slice Option.none 0 0)) σ r K = Go.Sx.CPY d k v m i L xs [] T σ r K:=rfl
theorem q_cpyY_3 (d:Option Nat) (k v m i L:Nat) (xs:List (List Go.Sx.SV)) (T:Go.TypeId) (σ : Go.Sx.St) (r:Go.Sx.KT) (K:Go.Sx.RK) (k' v':Nat):Go.Sx.cpyY d k v m i L xs T (Go.Sx.SV.mr k' v') σ r K = Go.Sx.sbmB (Go.Sx.andB (Nat.beq k k') (Nat.beq v v')) (Go.Sx.CPY d k v m i L xs xs T σ r K):=rfl
theorem q_cpyY_4 (d:Option Nat) (k v m i L:Nat) (xs:List (List Go.Sx.SV)) (T:Go.TypeId) (σ : Go.Sx.St) (r:Go.Sx.KT) (K:Go.Sx.RK) (k' v' m' i' l':Nat):Go.Sx.cpyY d k v m i L xs T (Go.Sx.SV.ms k' v' m' i' l') σ r K = Go.Sx.sbmB (Go.Sx.andB (Go.Sx.andB (Nat.beq k k') (Nat.beq v v')) (Nat.beq m m')) (i' + l' ≤ List.length xs ∧ Go.Sx.CPY d k v m i L xs (List.take l' (List.drop i' xs)) T σ r K):=rfl
theorem q_lO_1 (n m:Nat):Go.Sx.lO (Option.some m) n = m:=rfl
theorem q_lO_2 (n:Nat):Go.Sx.lO Option.none n = n:=rfl
theorem q_cpyH_1 (d:Option Nat) (m k v i:Nat) (lo:Option Nat) (s:Go.Sx.SV) (σ : Go.Sx.St) (r:Go.Sx.KT) (K:Go.Sx.RK) (v' m':Nat) (xs:List (List Go.Sx.SV)) (T:Go.TypeId):Go.Sx.cpyH d m k v i lo (Go.Sx.HB.row v' m' xs T) s σ r K = Go.Sx.sbmB (Go.Sx.andB (Nat.beq m m') (Nat.beq v v')) (Go.Sx.cpyY d k v m i (Go.Sx.lO lo (List.length xs)) xs T s σ r K):=rfl
theorem q_cpyK_1 (d:Option Nat) (m:Nat) (sy:Go.Sx.SV) (σ : Go.Sx.St) (r:Go.Sx.KT) (K:Go.Sx.RK) (k v:Nat):Go.Sx.cpyK d m (Go.Sx.SV.mr k v) sy σ r K = Go.Sx.cpyH d m k v 0 Option.none (Go.Sx.lkh k (Go.Sx.St.hp σ)) sy σ r K:=rfl
theorem q_cpyK_2 (d:Option Nat) (m:Nat) (sy:Go.Sx.SV) (σ : Go.Sx.St) (r:Go.Sx.KT) (K:Go.Sx.RK) (k v m' i l:Nat):Go.Sx.cpyK d m (Go.Sx.SV.ms k v m' i l) sy σ r K = Go.Sx.sbmB (Nat.beq m m') (Go.Sx.cpyH d m k v i (Option.some l) (Go.Sx.lkh k (Go.Sx.St.hp σ)) sy σ r K):=rfl
theorem q_sbmJ_1 (g:Option (Nat × Bool)) (k v m:Nat) (xs:List (List Go.Sx.SV)) (d:Option Nat) (σ : Go.Sx.St) (r:Go.Sx.KT) (K:Go.Sx.RK) (i j:Int):Go.Sx.sbmJ g k v m xs (Option.some i) (Option.some j) d σ r K = Go.Sx.SBM g i j k v m xs d σ r K:=rfl
theorem q_sbmJ_2 (g:Option (Nat × Bool)) (k v m:Nat) (xs:List (List Go.Sx.SV)) (d:Option Nat) (σ : Go.Sx.St) (r:Go.Sx.KT) (K:Go.Sx.RK) (val:Int):Go.Sx.sbmJ g k v m xs (Option.some val) Option.none d σ r K = False:=rfl
theorem q_sbmJ_3 (g:Option (Nat × Bool)) (k v m:Nat) (xs:List (List Go.Sx.SV)) (hi:Option Int) (d:Option Nat) (σ : Go.Sx.St) (r:Go.Sx.KT) (K:Go.Sx.RK):Go.Sx.sbmJ g k v m xs Option.none hi d σ r K = False:=rfl
theorem q_sbmB_1 (p:Prop):Go.Sx.sbmB Bool.true p = p:=rfl
theorem q_sbmB_2 (p:Prop):Go.Sx.sbmB Bool.false p = False:=rfl
theorem q_sbmH_1 (g:Option (Nat × Bool)) (m:Nat) (ρ : Go.Sx.X → Go.Sx.SV) (lo hi:Option Go.Sx.X) (k v:Nat) (d:Option Nat) (σ : Go.Sx.St) (r:Go.Sx.KT) (K:Go.Sx.RK) (v' m':Nat) (xs:List (List Go.Sx.SV)) (T:Go.TypeId):Go.Sx.sbmH g m ρ lo hi k v (Go.Sx.HB.row v' m' xs T) d σ r K = Go.Sx.sbmB (Go.Sx.andB (Nat.beq m m') (Nat.beq v v')) (Go.Sx.sbmJ g k v m xs (Go.Sx.intO 0 ρ lo) (Go.Sx.intO (↑(List.length xs)) ρ hi) d σ r K):=rfl
theorem q_subK_1 (g:Option (Nat × Bool)) (m:Nat) (ρ : Go.Sx.X → Go.Sx.SV) (lo hi:Option Go.Sx.X) (d:Option Nat) (σ : Go.Sx.St) (r:Go.Sx.KT) (K:Go.Sx.RK) (c:Bool) (m':Nat) (xs:List (List Go.Sx.SV)):Go.Sx.subK g m ρ lo hi (Go.Sx.SV.sl c m' xs) d σ r K = bif Nat.beq m m' then Go.Sx.subJ g m xs (Go.Sx.intO 0 ρ lo) (Go.Sx.intO (↑(List.length xs)) ρ hi) d σ r K else False:=rfl
theorem q_subK_2 (g:Option (Nat × Bool)) (m:Nat) (ρ : Go.Sx.X → Go.Sx.SV) (lo hi:Option Go.Sx.X) (d:Option Nat) (σ : Go.Sx.St) (r:Go.Sx.KT) (K:Go.Sx.RK) (k v:Nat):Go.Sx.subK g m ρ lo hi (Go.Sx.SV.mr k v) d σ r K = Go.Sx.sbmH g m ρ lo hi k v (Go.Sx.lkh k (Go.Sx.St.hp σ)) d σ r K:=rfl
theorem q_verB_1 (x x_1 x_2 x_3:Nat) (x_4:List (List Go.Sx.SV)) (x_5:Go.TypeId) (x_6:Go.Sx.St) (x_7:Go.Sx.KT) (x_8:Go.Sx.RK):Go.Sx.verB Bool.false Bool.true x x_1 x_2 x_3 x_4 x_5 x_6 x_7 x_8 = x_7 { fr:=(x,Go.Sx.SV.mr x_1 x_2) :: Go.Sx.St.fr x_6,hp:=(x_1,Go.Sx.HB.row x_2 x_3 x_4 x_5) :: Go.Sx.St.hp x_6,n:=Go.Sx.St.n x_6,N:=Go.Sx.St.N x_6,gs:=Go.Sx.St.gs x_6 } x_8:=rfl
theorem q_verK_1 (k v m:Nat) (xs:List (List Go.Sx.SV)) (T:Go.TypeId) (σ : Go.Sx.St) (r:Go.Sx.KT) (K:Go.Sx.RK) (m_1:Nat):Go.Sx.verK (Option.some m_1) k v m xs T σ r K = Go.Sx.verB (Go.Sx.memb m_1 (Go.Sx.St.gs σ)) (Nat.blt m_1 (Go.Sx.St.N σ)) m_1 k v m xs T σ r K:=rfl
theorem q_verK_2 (k v m:Nat) (xs:List (List Go.Sx.SV)) (T:Go.TypeId) (σ : Go.Sx.St) (r:Go.Sx.KT) (K:Go.Sx.RK):Go.Sx.verK Option.none k v m xs T σ r K = False:=rfl
theorem q_apmB_1 (b:Nat) (d:Option Nat) (k v m:Nat) (xs ys:List (List Go.Sx.SV)) (T:Go.TypeId) (σ : Go.Sx.St) (r:Go.Sx.KT) (K:Go.Sx.RK):Go.Sx.apmB Bool.true b d k v m xs ys T σ r K = Go.Sx.APM b d k v m xs ys T σ r K:=rfl
theorem q_apmB_2 (b:Nat) (d:Option Nat) (k v m:Nat) (xs ys:List (List Go.Sx.SV)) (T:Go.TypeId) (σ : Go.Sx.St) (r:Go.Sx.KT) (K:Go.Sx.RK):Go.Sx.apmB Bool.false b d k v m xs ys T σ r K = False:=rfl
theorem q_apmH_1 (b:Nat) (d:Option Nat) (k v m:Nat) (ys:List (List Go.Sx.SV)) (T:Go.TypeId) (σ : Go.Sx.St) (r:Go.Sx.KT) (K:Go.Sx.RK) (v' m':Nat) (xs:List (List Go.Sx.SV)) (T_1:Go.TypeId):Go.Sx.apmH b d k v m (Go.Sx.HB.row v' m' xs T_1) ys T σ r K = Go.Sx.apmB (Go.Sx.andB (Nat.beq m m') (Go.Sx.andB (Nat.beq v v') (Nat.beq T T_1))) b d k v m xs ys T σ r K:=rfl
theorem q_apmS_1 (b:Nat) (d:Option Nat) (m:Nat) (ys:List (List Go.Sx.SV)) (T:Go.TypeId) (σ : Go.Sx.St) (r:Go.Sx.KT) (K:Go.Sx.RK) (k v:Nat):Go.Sx.apmS b d m (Go.Sx.SV.mr k v) ys T σ r K = Go.Sx.apmH b d k v m (Go.Sx.lkh k (Go.Sx.St.hp σ)) ys T σ r K:=rfl
theorem q_apmK_1 (b:Nat) (d:Option Nat) (m:Nat) (s:Go.Sx.SV) (T:Go.TypeId) (σ : Go.Sx.St) (r:Go.Sx.KT) (K:Go.Sx.RK) (r_1:List (List Go.Sx.SV)):Go.Sx.apmK b d m s (Option.some r_1) T σ r K = Go.Sx.apmS b d m s r_1 T σ r K:=rfl
theorem q_apmK_2 (b:Nat) (d:Option Nat) (m:Nat) (s:Go.Sx.SV) (T:Go.TypeId) (σ : Go.Sx.St) (r:Go.Sx.KT) (K:Go.Sx.RK):Go.Sx.apmK b d m s Option.none T σ r K = False:=rfl
theorem q_stCB_1 (x x_1:Nat) (x_2:List Go.Sx.SV) (x_3:Go.TypeId) (x_4:List Go.Sx.SV) (x_5:Go.Sx.St) (x_6:Go.Sx.KT) (x_7:Go.Sx.RK):Go.Sx.stCB Bool.true x x_1 x_2 x_3 x_4 x_5 x_6 x_7 = x_6 { fr:=Go.Sx.St.fr x_5,hp:=(x,Go.Sx.HB.cells (Go.Sx.splice x_2 x_1 x_4) x_3) :: Go.Sx.St.hp x_5,n:=Go.Sx.St.n x_5,N:=Go.Sx.St.N x_5,gs:=Go.Sx.St.gs x_5 } x_7:=rfl
theorem q_stCB_2 (x x_1:Nat) (x_2:List Go.Sx.SV) (x_3:Go.TypeId) (x_4:List Go.Sx.SV) (x_5:Go.Sx.St) (x_6:Go.Sx.KT) (x_7:Go.Sx.RK):Go.Sx.stCB Bool.false x x_1 x_2 x_3 x_4 x_5 x_6 x_7 = False:=rfl
theorem q_stC_1 (k o m:Nat) (c:List Go.Sx.SV) (σ : Go.Sx.St) (r:Go.Sx.KT) (K:Go.Sx.RK) (l:List Go.Sx.SV) (T:Go.TypeId):Go.Sx.stC k o m (Go.Sx.HB.cells l T) c σ r K = Go.Sx.stCB (Nat.ble (o + m) (List.length l)) k o l T c σ r K:=rfl
theorem q_stRB_1 (x:Nat) (x_1:List (List Go.Sx.SV)) (x_2 x_3 x_4 x_5:Nat) (x_6:List Go.Sx.SV) (x_7:Go.TypeId) (x_8:Go.Sx.St) (x_9:Go.Sx.KT) (x_10:Go.Sx.RK):Go.Sx.stRB Bool.true x x_1 x_2 x_3 x_4 x_5 x_6 x_7 x_8 x_9 x_10 = Go.Sx.STR x x_1 x_2 x_3 x_4 x_5 x_6 x_7 x_8 x_9 x_10:=rfl
theorem q_stRB_2 (x:Nat) (x_1:List (List Go.Sx.SV)) (x_2 x_3 x_4 x_5:Nat) (x_6:List Go.Sx.SV) (x_7:Go.TypeId) (x_8:Go.Sx.St) (x_9:Go.Sx.KT) (x_10:Go.Sx.RK):Go.Sx.stRB Bool.false x x_1 x_2 x_3 x_4 x_5 x_6 x_7 x_8 x_9 x_10 = False:=rfl
theorem q_stR_1 (k v m' j o:Nat) (c:List Go.Sx.SV) (σ : Go.Sx.St) (r:Go.Sx.KT) (K:Go.Sx.RK) (v' m:Nat) (xs:List (List Go.Sx.SV)) (T:Go.TypeId):Go.Sx.stR k v m' j o (Go.Sx.HB.row v' m xs T) c σ r K = Go.Sx.stRB (Go.Sx.andB (Nat.beq m' m) (Nat.beq v v')) v' xs j o k m' c T σ r K:=rfl
theorem q_stR_2 (k v m' j o:Nat) (c:List Go.Sx.SV) (σ : Go.Sx.St) (r:Go.Sx.KT) (K:Go.Sx.RK) (v' m:Nat) (xs:List (List Go.Sx.SV)) (T:Go.TypeId) (o_1 m'_1:Nat) (inn:List (List (List Go.Sx.SV))) (T':Go.TypeId):Go.Sx.stR k v m' j o (Go.Sx.HB.rws v' m xs T o_1 m'_1 inn T') c σ r K = Go.Sx.STW v' m xs T o_1 m'_1 inn T' v m' j o k c σ r K:=rfl
theorem q_stX_1 (m:Nat) (c:List Go.Sx.SV) (σ : Go.Sx.St) (r:Go.Sx.KT) (K:Go.Sx.RK) (k o:Nat):Go.Sx.stX (Go.Sx.SV.p k o) m c σ r K = Go.Sx.stC k o m (Go.Sx.lkh k (Go.Sx.St.hp σ)) c σ r K:=rfl
theorem q_stX_2 (m:Nat) (c:List Go.Sx.SV) (σ : Go.Sx.St) (r:Go.Sx.KT) (K:Go.Sx.RK) (k v m' j o:Nat):Go.Sx.stX (Go.Sx.SV.pr k v m' j o) m c σ r K = Go.Sx.stR k v m' j o (Go.Sx.lkh k (Go.Sx.St.hp σ)) c σ r K:=rfl
theorem q_storeB_1 (x:Go.Sx.SV) (x_1:Nat) (x_2:List Go.Sx.SV) (x_3:Go.Sx.St) (x_4:Go.Sx.KT) (x_5:Go.Sx.RK):Go.Sx.storeB Bool.true Bool.true x x_1 x_2 x_3 x_4 x_5 = Go.Sx.stX x x_1 x_2 x_3 x_4 x_5:=rfl
theorem q_storeK_1 (m:Nat) (x:Go.Sx.SV) (σ : Go.Sx.St) (r:Go.Sx.KT) (K:Go.Sx.RK) (c_2:List Go.Sx.SV):Go.Sx.storeK Option.none (Option.some c_2) m x σ r K = Go.Sx.storeB (Go.Sx.chk c_2 m) (Go.Sx.allOne c_2) x m c_2 σ r K:=rfl
theorem q_stp_1 (P:Go.Program) (Y:Go.Sx.Hd) (d:Option Nat) (σ : Go.Sx.St) (r:Go.Sx.KT) (K:Go.Sx.RK) (x y:Go.Sx.X) (m:Nat):Go.Sx.stp P Y d (Go.Sx.SI.st x y m) σ r K = Go.Sx.storeK d (Go.Sx.cellsO (Go.Sx.rdG Option.none (Go.Sx.St.fr σ) y)) m (Go.Sx.rdG Option.none (Go.Sx.St.fr σ) x) σ r K:=rfl
theorem q_stp_2 (P:Go.Program) (Y:Go.Sx.Hd) (d:Option Nat) (σ : Go.Sx.St) (r:Go.Sx.KT) (K:Go.Sx.RK) (x:Go.Sx.X) (m:Nat) (T:Go.TypeId):Go.Sx.stp P Y d (Go.Sx.SI.box x m T) σ r K = Go.Sx.newK d (Go.Sx.cellsO (Go.Sx.rdG Option.none (Go.Sx.St.fr σ) x)) T σ r K:=rfl
theorem q_stp_3 (P:Go.Program) (Y:Go.Sx.Hd) (d:Option Nat) (σ : Go.Sx.St) (r:Go.Sx.KT) (K:Go.Sx.RK) (z:List Go.Value) (T:Go.TypeId):Go.Sx.stp P Y d (Go.Sx.SI.alloc z T) σ r K = Go.Sx.newK d (Option.some (Go.Sx.lit z)) T σ r K:=rfl
theorem q_stp_4 (P:Go.Program) (Y:Go.Sx.Hd) (d:Option Nat) (σ : Go.Sx.St) (r:Go.Sx.KT) (K:Go.Sx.RK) (m b:Nat) (T:Go.TypeId) (x y:Go.Sx.X):Go.Sx.stp P Y d (Go.Sx.SI.cln m b T x y) σ r K = Go.Sx.clnK b d m (Go.Sx.basS m (Go.Sx.rdG Option.none (Go.Sx.St.fr σ) x)) (Go.Sx.sprV m (Go.Sx.rdG Option.none (Go.Sx.St.fr σ) y)) T σ r K:=rfl
theorem q_stp_5 (P:Go.Program) (Y:Go.Sx.Hd) (d:Option Nat) (σ : Go.Sx.St) (r:Go.Sx.KT) (K:Go.Sx.RK) (m b:Nat) (z:List Go.Value) (T:Go.TypeId) (x:Go.Sx.X):Go.Sx.stp P Y d (Go.Sx.SI.mks m b z T x) σ r K = Go.Sx.mksK b d m z (Go.Sx.rdG Option.none (Go.Sx.St.fr σ) x) T σ r K:=rfl
theorem q_stp_6 (P:Go.Program) (Y:Go.Sx.Hd) (d:Option Nat) (σ : Go.Sx.St) (r:Go.Sx.KT) (K:Go.Sx.RK) (m:Nat) (x y:Go.Sx.X):Go.Sx.stp P Y d (Go.Sx.SI.cpy m x y) σ r K = Go.Sx.cpyK d m (Go.Sx.rdG Option.none (Go.Sx.St.fr σ) x) (Go.Sx.rdG Option.none (Go.Sx.St.fr σ) y) σ r K:=rfl
theorem q_stp_7 (P:Go.Program) (Y:Go.Sx.Hd) (d:Option Nat) (σ : Go.Sx.St) (r:Go.Sx.KT) (K:Go.Sx.RK) (m b:Nat) (T:Go.TypeId) (x y:Go.Sx.X):Go.Sx.stp P Y d (Go.Sx.SI.appm m b T x y) σ r K = Go.Sx.apmK b d m (Go.Sx.rdG Option.none (Go.Sx.St.fr σ) x) (Go.Sx.sprV m (Go.Sx.rdG Option.none (Go.Sx.St.fr σ) y)) T σ r K:=rfl
theorem q_stp_8 (P:Go.Program) (Y:Go.Sx.Hd) (d:Option Nat) (σ : Go.Sx.St) (r:Go.Sx.KT) (K:Go.Sx.RK) (f:Go.FuncId) (as:List Go.Sx.X):Go.Sx.stp P Y d (Go.Sx.SI.callm f as) σ r K = Go.Sx.CALLM P f (Go.Sx.mapX (Go.Sx.rdG Option.none (Go.Sx.St.fr σ)) as) d σ r K:=rfl
theorem q_stp_9 (P:Go.Program) (Y:Go.Sx.Hd) (d:Option Nat) (σ : Go.Sx.St) (r:Go.Sx.KT) (K:Go.Sx.RK) (x:Go.Sx.X) (as:List Go.Sx.X):Go.Sx.stp P Y d (Go.Sx.SI.calvm x as) σ r K = Go.Sx.calvM P Y (Go.Sx.rdG Option.none (Go.Sx.St.fr σ) x) (Go.Sx.mapX (Go.Sx.rdG Option.none (Go.Sx.St.fr σ)) as) d σ r K:=rfl
theorem q_stp_10 (P:Go.Program) (Y:Go.Sx.Hd) (d:Option Nat) (σ : Go.Sx.St) (r:Go.Sx.KT) (K:Go.Sx.RK) (x:Go.Sx.X):Go.Sx.stp P Y d (Go.Sx.SI.isn x) σ r K = Go.Sx.isnK d (Go.Sx.rdG Option.none (Go.Sx.St.fr σ) x) σ r K:=rfl
theorem q_stp_11 (P:Go.Program) (Y:Go.Sx.Hd) (d:Option Nat) (σ : Go.Sx.St) (r:Go.Sx.KT) (K:Go.Sx.RK) (op:Go.Op) (ty:Go.TypeId):Go.Sx.stp P Y d (Go.Sx.SI.raw op ty) σ r K = Go.Sx.RAW P d op ty σ r K:=rfl
theorem q_stp_12 (P:Go.Program) (Y:Go.Sx.Hd) (d:Option Nat) (σ : Go.Sx.St) (r:Go.Sx.KT) (K:Go.Sx.RK) (op:Go.Op) (xs:List Go.Sx.X):Go.Sx.stp P Y d (Go.Sx.SI.rv op xs) σ r K = ∃ s,Go.Sx.RBE P op xs σ s ∧ Go.Sx.putK d s Option.none σ r K:=rfl
theorem q_stp_13 (P:Go.Program) (Y:Go.Sx.Hd) (d:Option Nat) (σ : Go.Sx.St) (r:Go.Sx.KT) (K:Go.Sx.RK) (op:Go.Op) (x:Go.Sx.X) (xs:List Go.Sx.X):Go.Sx.stp P Y d (Go.Sx.SI.rb op x xs) σ r K = ∃ k h1 s,Go.Sx.rdG Option.none (Go.Sx.St.fr σ) x = Go.Sx.SV.mp k ∧ Go.Sx.WK (Go.Sx.lkh k (Go.Sx.St.hp σ)) h1 ∧ Go.Sx.RBB P op (x :: xs) k (Go.Sx.lkh k (Go.Sx.St.hp σ)) h1 σ s ∧ Go.Sx.putK d s Option.none { fr:=Go.Sx.St.fr σ,hp:=(k,h1) :: Go.Sx.St.hp σ,n:=Go.Sx.St.n σ,N:=Go.Sx.St.N σ,gs:=Go.Sx.St.gs σ } r K:=rfl
theorem q_skipK_1 (d:Option Nat) (σ : Go.Sx.St) (r:Go.Sx.KT) (K:Go.Sx.RK):Go.Sx.skipK d σ r K = Go.Sx.putK d (Go.Sx.SV.v Go.undef) Option.none σ r K:=rfl
theorem q_gK_1 (P:Go.Program) (Y:Go.Sx.Hd) (j:Nat) (w:Bool) (d:Option Nat) (i:Go.Sx.SI) (σ : Go.Sx.St) (r:Go.Sx.KT) (K:Go.Sx.RK) (b:Bool):Go.Sx.gK P Y (Go.Sx.SV.v (Go.Value.bool b)) j w d i σ r K = Go.Sx.GB P Y b j w d i σ r K:=rfl
theorem q_gK_2 (P:Go.Program) (Y:Go.Sx.Hd) (j:Nat) (w:Bool) (d:Option Nat) (i:Go.Sx.SI) (σ : Go.Sx.St) (r:Go.Sx.KT) (K:Go.Sx.RK) (j_1:Nat) (w_1 b:Bool):Go.Sx.gK P Y (Go.Sx.SV.gd j_1 w_1 (Go.Sx.SV.v (Go.Value.bool b))) j w d i σ r K = Go.Sx.stpV P (Option.some (j,w)) d i σ r K:=rfl
theorem q_st1_1 (P:Go.Program) (Y:Go.Sx.Hd) (σ : Go.Sx.St) (r:Go.Sx.KT) (K:Go.Sx.RK) (d:Option Nat) (i:Go.Sx.SI) (af:List Nat):Go.Sx.st1 P Y { d:=d,i:=i,g:=Option.none,af:=af } σ r K = Go.Sx.stp P Y d i σ r K:=rfl
theorem q_st1_2 (P:Go.Program) (Y:Go.Sx.Hd) (σ : Go.Sx.St) (r:Go.Sx.KT) (K:Go.Sx.RK) (d:Option Nat) (i:Go.Sx.SI) (j:Nat) (w:Bool) (af:List Nat):Go.Sx.st1 P Y { d:=d,i:=i,g:=Option.some (j,w),af:=af } σ r K = Go.Sx.gK P Y (Go.Sx.lk j (Go.Sx.St.fr σ)) j w d i σ r K:=rfl
theorem q_cndK_1 (f g:Go.Sx.CT) (σ : Go.Sx.St) (K:Go.Sx.Ex → Go.Sx.St → Prop) (b:Bool):Go.Sx.cndK (Go.Sx.SV.v (Go.Value.bool b)) f g σ K = Go.Sx.BR b f g σ K:=rfl
theorem q_divr_1 (k:Go.IntKind) (x y:Int):Go.Sx.divr Go.BinOp.quo k x y = Go.IntKind.wrap k (Int.tdiv x y):=rfl
theorem q_st0_1 (args:List Go.Sx.SV) (N:Nat):Go.Sx.st0 args N = { fr:=Go.Sx.enum 0 args,hp:=[],n:=0,N:=N,gs:=[] }:=rfl
theorem q_mapX_1 (ρ : Go.Sx.X → Go.Sx.SV):Go.Sx.mapX ρ [] = []:=rfl
theorem q_mapX_2 (ρ : Go.Sx.X → Go.Sx.SV) (x_1:Go.Sx.X) (r:List Go.Sx.X):Go.Sx.mapX ρ (x_1 :: r) = ρ x_1 :: Go.Sx.mapX ρ r:=rfl
theorem q_mapS_1 (g:Go.Sx.SV → Go.Sx.SV):Go.Sx.mapS g [] = []:=rfl
theorem q_mapS_2 (g:Go.Sx.SV → Go.Sx.SV) (s:Go.Sx.SV) (l:List Go.Sx.SV):Go.Sx.mapS g (s :: l) = g s :: Go.Sx.mapS g l:=rfl
theorem q_bslR_1 (ρ : Go.Sx.X → Go.Sx.SV) (m:Nat):Go.Sx.bslR ρ m [] = Option.some []:=rfl
theorem q_bslR_2 (ρ : Go.Sx.X → Go.Sx.SV) (m:Nat) (x_1:Go.Sx.X) (r:List Go.Sx.X):Go.Sx.bslR ρ m (x_1 :: r) = Go.Sx.bslC (Go.Sx.cellsO (ρ x_1)) m (Go.Sx.bslR ρ m r):=rfl
theorem q_cvtL_1 (hp:List (Nat × Go.Sx.HB)):Go.Sx.cvtL hp [] = []:=rfl
theorem q_cvtL_2 (hp:List (Nat × Go.Sx.HB)) (s:Go.Sx.SV) (l:List Go.Sx.SV):Go.Sx.cvtL hp (s :: l) = Go.Sx.cvt hp s :: Go.Sx.cvtL hp l:=rfl
theorem q_lit_1  : Go.Sx.lit [] = []:=rfl
theorem q_lit_2 (x_1:Go.Value) (r:List Go.Value):Go.Sx.lit (x_1 :: r) = Go.Sx.SV.v x_1 :: Go.Sx.lit r:=rfl
theorem q_chk_1  : Go.Sx.chk [] 0 = Bool.true:=rfl
theorem q_chk_2 (head:Go.Sx.SV) (l:List Go.Sx.SV) (n:Nat):Go.Sx.chk (head :: l) (Nat.succ n) = Go.Sx.chk l n:=rfl
theorem q_nth_1 (x:Nat):Go.Sx.nth [] x = Option.none:=rfl
theorem q_nth_2 (s:Go.Sx.SV) (tail:List Go.Sx.SV):Go.Sx.nth (s :: tail) 0 = Option.some s:=rfl
theorem q_nth_3 (head:Go.Sx.SV) (l:List Go.Sx.SV) (n:Nat):Go.Sx.nth (head :: l) (Nat.succ n) = Go.Sx.nth l n:=rfl
theorem q_splice_2 (head:Go.Sx.SV) (l:List Go.Sx.SV) (c:Go.Sx.SV) (cs:List Go.Sx.SV):Go.Sx.splice (head :: l) 0 (c :: cs) = c :: Go.Sx.splice l 0 cs:=rfl
theorem q_splice_3 (x:List Go.Sx.SV) (x_3:Go.Sx.SV) (l:List Go.Sx.SV) (o:Nat):Go.Sx.splice (x_3 :: l) (Nat.succ o) x = x_3 :: Go.Sx.splice l o x:=rfl
theorem q_bldZ_1 (o:Nat) (l:List Go.Sx.SV) (t:List (Nat × List Go.Sx.SV)):Go.Sx.bldZ o l t Bool.true = Option.some ((o,l) :: t):=rfl
theorem q_bldZ_2 (o:Nat) (l:List Go.Sx.SV) (t:List (Nat × List Go.Sx.SV)):Go.Sx.bldZ o l t Bool.false = Option.none:=rfl
theorem q_bldY_1 (o m:Nat) (l:List Go.Sx.SV) (t:List (Nat × List Go.Sx.SV)):Go.Sx.bldY o m (Option.some l) (Option.some t) = Go.Sx.bldZ o l t (Go.Sx.chk l m):=rfl
theorem q_bldX_1 (ρ : Go.Sx.X → Go.Sx.SV):Go.Sx.bldX ρ [] = Option.some []:=rfl
theorem q_bldX_2 (ρ : Go.Sx.X → Go.Sx.SV) (o m:Nat) (x_1:Go.Sx.X) (r:List (Nat × Nat × Go.Sx.X)):Go.Sx.bldX ρ ((o,m,x_1) :: r) = Go.Sx.bldY o m (Go.Sx.cellsO (ρ x_1)) (Go.Sx.bldX ρ r):=rfl
theorem q_spl_1 (x:List Go.Sx.SV):Go.Sx.spl x [] = x:=rfl
theorem q_spl_2 (x:List Go.Sx.SV) (o:Nat) (l:List Go.Sx.SV) (r:List (Nat × List Go.Sx.SV)):Go.Sx.spl x ((o,l) :: r) = Go.Sx.spl (Go.Sx.splice x o l) r:=rfl
theorem q_bldF_1 (z:List Go.Sx.SV) (t:List (Nat × List Go.Sx.SV)):Go.Sx.bldF z (Option.some t) = Option.some (Go.Sx.spl z t):=rfl
theorem q_bldF_2 (z:List Go.Sx.SV):Go.Sx.bldF z Option.none = Option.none:=rfl
theorem q_enum_1 (x:Nat):Go.Sx.enum x [] = []:=rfl
theorem q_enum_2 (x:Nat) (s:Go.Sx.SV) (l:List Go.Sx.SV):Go.Sx.enum x (s :: l) = (x,s) :: Go.Sx.enum (x + 1) l:=rfl
theorem q_gdS_1 (j:Nat) (w:Bool) (s:Go.Sx.SV):Go.Sx.gdS (Go.Sx.SV.gd j w s) = Bool.true:=rfl
theorem q_gdS_2 (x_1:Go.Value):Go.Sx.gdS (Go.Sx.SV.v x_1) = Bool.false:=rfl
theorem q_gdS_3 (k o:Nat):Go.Sx.gdS (Go.Sx.SV.p k o) = Bool.false:=rfl
theorem q_gdS_4 (l:List Go.Sx.SV):Go.Sx.gdS (Go.Sx.SV.agg l) = Bool.false:=rfl
theorem q_gdS_5 (c:Bool) (m:Nat) (xs:List (List Go.Sx.SV)):Go.Sx.gdS (Go.Sx.SV.sl c m xs) = Bool.false:=rfl
theorem q_gdS_6 (k v:Nat):Go.Sx.gdS (Go.Sx.SV.mr k v) = Bool.false:=rfl
theorem q_gdS_7 (k v m i o:Nat):Go.Sx.gdS (Go.Sx.SV.pr k v m i o) = Bool.false:=rfl
theorem q_gdS_8 (k v m i l:Nat):Go.Sx.gdS (Go.Sx.SV.ms k v m i l) = Bool.false:=rfl
theorem q_gdS_9 (row:List Go.Sx.SV) (o:Nat):Go.Sx.gdS (Go.Sx.SV.ps row o) = Bool.false:=rfl
theorem q_gdS_10 (f:Go.FuncId) (caps:List Go.Sx.SV):Go.Sx.gdS (Go.Sx.SV.cl f caps) = Bool.false:=rfl
theorem q_gdS_11 (l:List Go.Sx.SV):Go.Sx.gdS (Go.Sx.SV.tup l) = Bool.false:=rfl
theorem q_gdS_12 (φ : Go.Sx.VP):Go.Sx.gdS (Go.Sx.SV.q φ) = Bool.false:=rfl
theorem q_gdS_13 (k:Nat):Go.Sx.gdS (Go.Sx.SV.mp k) = Bool.false:=rfl
theorem q_gdS_14 (k:Nat):Go.Sx.gdS (Go.Sx.SV.yl k) = Bool.false:=rfl
theorem q_gdS_15 (T:Go.TypeId) (s:Go.Sx.SV):Go.Sx.gdS (Go.Sx.SV.ifc T s) = Bool.false:=rfl
theorem q_gdS_16  : Go.Sx.gdS Go.Sx.SV.any = Bool.false:=rfl
theorem q_rnS_1 (ρ : Nat → Nat) (k o:Nat):Go.Sx.rnS ρ (Go.Sx.SV.p k o) = Go.Sx.SV.p (ρ k) o:=rfl
theorem q_rnS_2 (ρ : Nat → Nat) (k v:Nat):Go.Sx.rnS ρ (Go.Sx.SV.mr k v) = Go.Sx.SV.mr (ρ k) v:=rfl
theorem q_rnS_3 (ρ : Nat → Nat) (k v m i o:Nat):Go.Sx.rnS ρ (Go.Sx.SV.pr k v m i o) = Go.Sx.SV.pr (ρ k) v m i o:=rfl
theorem q_rnS_4 (ρ : Nat → Nat) (k v m i o:Nat):Go.Sx.rnS ρ (Go.Sx.SV.ms k v m i o) = Go.Sx.SV.ms (ρ k) v m i o:=rfl
theorem q_rnS_5 (ρ : Nat → Nat) (k:Nat):Go.Sx.rnS ρ (Go.Sx.SV.mp k) = Go.Sx.SV.mp (ρ k):=rfl
theorem q_rnS_6 (ρ : Nat → Nat) (k:Nat):Go.Sx.rnS ρ (Go.Sx.SV.yl k) = Go.Sx.SV.yl (ρ k):=rfl
theorem q_rnS_7 (ρ : Nat → Nat) (l:List Go.Sx.SV):Go.Sx.rnS ρ (Go.Sx.SV.agg l) = Go.Sx.SV.agg (Go.Sx.rnL ρ l):=rfl
theorem q_rnS_8 (ρ : Nat → Nat) (l:List Go.Sx.SV):Go.Sx.rnS ρ (Go.Sx.SV.tup l) = Go.Sx.SV.tup (Go.Sx.rnL ρ l):=rfl
theorem q_rnS_9 (ρ : Nat → Nat) (f:Go.FuncId) (l:List Go.Sx.SV):Go.Sx.rnS ρ (Go.Sx.SV.cl f l) = Go.Sx.SV.cl f (Go.Sx.rnL ρ l):=rfl
theorem q_rnS_10 (ρ : Nat → Nat) (T:Go.TypeId) (s:Go.Sx.SV):Go.Sx.rnS ρ (Go.Sx.SV.ifc T s) = Go.Sx.SV.ifc T (Go.Sx.rnS ρ s):=rfl
theorem q_rnS_11 (ρ : Nat → Nat) (x_1:Go.Value):Go.Sx.rnS ρ (Go.Sx.SV.v x_1) = Go.Sx.SV.v x_1:=rfl
theorem q_rnS_12 (ρ : Nat → Nat) (c:Bool) (m:Nat) (xs:List (List Go.Sx.SV)):Go.Sx.rnS ρ (Go.Sx.SV.sl c m xs) = Go.Sx.SV.sl c m xs:=rfl
theorem q_rnS_13 (ρ : Nat → Nat) (l:List Go.Sx.SV) (o:Nat):Go.Sx.rnS ρ (Go.Sx.SV.ps l o) = Go.Sx.SV.ps l o:=rfl
theorem q_rnS_14 (ρ : Nat → Nat) (φ : Go.Sx.VP):Go.Sx.rnS ρ (Go.Sx.SV.q φ) = Go.Sx.SV.q φ:=rfl
theorem q_rnS_15 (ρ : Nat → Nat) (j:Nat) (w:Bool) (s:Go.Sx.SV):Go.Sx.rnS ρ (Go.Sx.SV.gd j w s) = Go.Sx.SV.gd j w s:=rfl
theorem q_rnS_16 (ρ : Nat → Nat):Go.Sx.rnS ρ Go.Sx.SV.any = Go.Sx.SV.any:=rfl
theorem q_rnL_1 (ρ : Nat → Nat):Go.Sx.rnL ρ [] = []:=rfl
theorem q_rnL_2 (ρ : Nat → Nat) (s:Go.Sx.SV) (l:List Go.Sx.SV):Go.Sx.rnL ρ (s :: l) = Go.Sx.rnS ρ s :: Go.Sx.rnL ρ l:=rfl
theorem q_rnH_1 (ρ : Nat → Nat) (l:List Go.Sx.SV) (T:Go.TypeId):Go.Sx.rnH ρ (Go.Sx.HB.cells l T) = Go.Sx.HB.cells (Go.Sx.rnL ρ l) T:=rfl
theorem q_rnH_2 (ρ : Nat → Nat) (v m:Nat) (xs:List (List Go.Sx.SV)) (T:Go.TypeId):Go.Sx.rnH ρ (Go.Sx.HB.row v m xs T) = Go.Sx.HB.row v m xs T:=rfl
theorem q_rnH_3 (ρ : Nat → Nat) (φ : Go.Sx.OP):Go.Sx.rnH ρ (Go.Sx.HB.ob φ) = Go.Sx.HB.ob φ:=rfl
theorem q_rnH_4 (ρ : Nat → Nat) (es:List (Nat × Go.Value × Go.Sx.SV)) (c:Nat):Go.Sx.rnH ρ (Go.Sx.HB.map es c) = Go.Sx.HB.map es c:=rfl
theorem q_rnH_5 (ρ : Nat → Nat) (km since:Nat) (seen:List Nat) (last:Nat):Go.Sx.rnH ρ (Go.Sx.HB.it km since seen last) = Go.Sx.HB.it (ρ km) since seen last:=rfl
theorem q_rnH_6 (ρ : Nat → Nat) (rec:Go.Loop) (pd:Option Go.Sx.Ex):Go.Sx.rnH ρ (Go.Sx.HB.lp rec pd) = Go.Sx.HB.lp rec pd:=rfl
theorem q_rnH_7 (ρ : Nat → Nat) (rec:Go.Loop):Go.Sx.rnH ρ (Go.Sx.HB.lb rec) = Go.Sx.HB.lb rec:=rfl
theorem q_rnH_8 (ρ : Nat → Nat) (v m:Nat) (xs:List (List Go.Sx.SV)) (T:Go.TypeId) (o m':Nat) (inn:List (List (List Go.Sx.SV))) (T':Go.TypeId):Go.Sx.rnH ρ (Go.Sx.HB.rws v m xs T o m' inn T') = Go.Sx.HB.rws v m xs T o m' inn T':=rfl
theorem q_rnH_9 (ρ : Nat → Nat):Go.Sx.rnH ρ Go.Sx.HB.gone = Go.Sx.HB.gone:=rfl
theorem q_rnP_1 (ρ : Nat → Nat):Go.Sx.rnP ρ [] = []:=rfl
theorem q_rnP_2 (ρ : Nat → Nat) (u:Nat) (s:Go.Sx.HB) (r:List (Nat × Go.Sx.HB)):Go.Sx.rnP ρ ((u,s) :: r) = (ρ u,Go.Sx.rnH ρ s) :: Go.Sx.rnP ρ r:=rfl
theorem q_goneP_1 (ρ : Nat → Nat):Go.Sx.goneP ρ 0 = []:=rfl
theorem q_goneP_2 (ρ : Nat → Nat) (j:Nat):Go.Sx.goneP ρ (Nat.succ j) = (ρ j,Go.Sx.HB.gone) :: Go.Sx.goneP ρ j:=rfl
theorem q_exB_1 (b:Bool) (x y:Nat):Go.Sx.exB b x y = bif b then x else y:=rfl
theorem q_cmK_1 (res:Go.Sx.SV) (hp:List (Nat × Go.Sx.HB)) (n:Nat) (d:Option Nat) (σ : Go.Sx.St) (r:Go.Sx.KT) (K:Go.Sx.RK):Go.Sx.cmK Bool.false res hp n d σ r K = Go.Sx.putK d res Option.none { fr:=Go.Sx.St.fr σ,hp:=hp,n:=n,N:=Go.Sx.St.N σ,gs:=Go.Sx.St.gs σ } r K:=rfl
theorem q_cmK_2 (res:Go.Sx.SV) (hp:List (Nat × Go.Sx.HB)) (n:Nat) (d:Option Nat) (σ : Go.Sx.St) (r:Go.Sx.KT) (K:Go.Sx.RK):Go.Sx.cmK Bool.true res hp n d σ r K = K (Go.Sx.Ex.pan res) { fr:=Go.Sx.St.fr σ,hp:=hp,n:=n,N:=Go.Sx.St.N σ,gs:=Go.Sx.St.gs σ }:=rfl
theorem q_calvM_1 (P:Go.Program) (Y:Go.Sx.Hd) (args:List Go.Sx.SV) (d:Option Nat) (σ : Go.Sx.St) (r:Go.Sx.KT) (K:Go.Sx.RK) (f:Go.FuncId) (caps:List Go.Sx.SV):Go.Sx.calvM P Y (Go.Sx.SV.cl f caps) args d σ r K = Go.Sx.CALLM P f (args ++ caps) d σ r K:=rfl
theorem q_calvM_2 (P:Go.Program) (Y:Go.Sx.Hd) (args:List Go.Sx.SV) (d:Option Nat) (σ : Go.Sx.St) (r:Go.Sx.KT) (K:Go.Sx.RK) (k:Nat):Go.Sx.calvM P Y (Go.Sx.SV.yl k) args d σ r K = Go.Sx.YLD Y k args d σ r K:=rfl
theorem q_mtI_1 (p:Go.Sx.SV → Prop) (T T2:Go.TypeId) (s:Go.Sx.SV):Go.Sx.mtI p T (Go.Sx.SV.ifc T2 s) = (T2 = T ∧ p s):=rfl
theorem q_mtO_1 (p:List Go.Sx.SV → Prop) (l:List Go.Sx.SV):Go.Sx.mtO p (Option.some l) = p l:=rfl
theorem q_mtO_2 (p:List Go.Sx.SV → Prop):Go.Sx.mtO p Option.none = False:=rfl
theorem q_itE_1 (σ : Go.Sx.St) (K:Go.Sx.Ex → Go.Sx.St → Prop) (hp:List (Nat × Go.Sx.HB)) (n:Nat) (rec:Go.Loop):Go.Sx.itE σ K hp n (Go.Sx.HB.lp rec Option.none) = K Go.Sx.Ex.n { fr:=Go.Sx.St.fr σ,hp:=(Go.Sx.St.n σ,Go.Sx.HB.gone) :: hp,n:=n,N:=Go.Sx.St.N σ,gs:=[] }:=rfl
theorem q_itE_2 (σ : Go.Sx.St) (K:Go.Sx.Ex → Go.Sx.St → Prop) (hp:List (Nat × Go.Sx.HB)) (n:Nat) (rec:Go.Loop) (i:Nat):Go.Sx.itE σ K hp n (Go.Sx.HB.lp rec (Option.some (Go.Sx.Ex.ex i))) = K (Go.Sx.Ex.ex i) { fr:=Go.Sx.St.fr σ,hp:=(Go.Sx.St.n σ,Go.Sx.HB.gone) :: hp,n:=n,N:=Go.Sx.St.N σ,gs:=[] }:=rfl
theorem q_itE_3 (σ : Go.Sx.St) (K:Go.Sx.Ex → Go.Sx.St → Prop) (hp:List (Nat × Go.Sx.HB)) (n:Nat) (rec:Go.Loop):Go.Sx.itE σ K hp n (Go.Sx.HB.lp rec (Option.some Go.Sx.Ex.ret)) = K Go.Sx.Ex.ret { fr:=Go.Sx.St.fr σ,hp:=(Go.Sx.St.n σ,Go.Sx.HB.gone) :: hp,n:=n,N:=Go.Sx.St.N σ,gs:=[] }:=rfl
theorem q_itP_1 (σ : Go.Sx.St) (K:Go.Sx.Ex → Go.Sx.St → Prop) (o:Go.Sx.Ot):Go.Sx.itP σ K o = match Go.Sx.Ot.pn o with | Bool.false=>Go.Sx.itE σ K (Go.Sx.Ot.hp o) (Go.Sx.Ot.n o) (Go.Sx.lkh (Go.Sx.St.n σ) (Go.Sx.Ot.hp o)) | Bool.true=>K (Go.Sx.Ex.pan (Go.Sx.Ot.res o)) { fr:=Go.Sx.St.fr σ,hp:=Go.Sx.Ot.hp o,n:=Go.Sx.Ot.n o,N:=Go.Sx.St.N σ,gs:=[] }:=rfl
theorem q_isLp_1 (rec r:Go.Loop):Go.Sx.isLp rec (Go.Sx.HB.lp r Option.none) = (r = rec):=rfl
theorem q_isLb_1 (rec r:Go.Loop):Go.Sx.isLb rec (Go.Sx.HB.lb r) = (r = rec):=rfl
theorem q_pmS_1 (p:Nat) (ps:List Nat) (s:Go.Sx.SV) (l:List Go.Sx.SV):Go.Sx.pmS (p :: ps) (s :: l) = (p,s) :: Go.Sx.pmS ps l:=rfl
theorem q_lenQ_1  : Go.Sx.lenQ [] [] = Bool.true:=rfl
theorem q_lenQ_2 (head:Go.Sx.SV) (l:List Go.Sx.SV) (head_1:Nat) (m:List Nat):Go.Sx.lenQ (head :: l) (head_1 :: m) = Go.Sx.lenQ l m:=rfl
theorem q_ltAll_1 (N:Nat):Go.Sx.ltAll N [] = Bool.true:=rfl
theorem q_ltAll_2 (N j:Nat) (r:List Nat):Go.Sx.ltAll N (j :: r) = bif Nat.blt j N then Go.Sx.ltAll N r else Bool.false:=rfl
theorem q_rfB_1 (p:Prop):Go.Sx.rfB Bool.true p = p:=rfl
theorem q_rfB_2 (p:Prop):Go.Sx.rfB Bool.false p = False:=rfl
theorem q_rfK_1 (P:Go.Program) (asg body:Nat → Go.Sx.CT) (ps:List Nat) (σ : Go.Sx.St) (K:Go.Sx.Ex → Go.Sx.St → Prop) (f:Go.FuncId) (caps:List Go.Sx.SV):Go.Sx.rfK P asg body (Go.Sx.SV.cl f caps) ps σ K = Go.Sx.gs0 (Go.Sx.St.gs σ) (Go.Sx.rfB (Go.Sx.ltAll (Go.Sx.St.N σ) ps) (Go.Sx.RFUN P asg body f caps ps σ K)):=rfl
theorem q_retF_1 (Post:Go.Sx.Ot → Prop) (hp:List (Nat × Go.Sx.HB)) (n:Nat) (s:Go.Sx.SV):Go.Sx.retF Post hp n (Option.some s) = Post { pn:=Bool.false,res:=s,hp:=hp,n:=n }:=rfl
theorem q_retF_2 (Post:Go.Sx.Ot → Prop) (hp:List (Nat × Go.Sx.HB)) (n:Nat):Go.Sx.retF Post hp n Option.none = False:=rfl
theorem q_rvKC_1 (x:Option (List Go.Sx.SV)) (s:Go.Sx.SV):Go.Sx.rvKC (Option.some s) x = Go.Sx.rvD s x:=rfl
theorem q_rvKC_2 (x:Option (List Go.Sx.SV)):Go.Sx.rvKC Option.none x = Option.none:=rfl
theorem q_rvsK_1 (σ : Go.Sx.St):Go.Sx.rvsK σ [] = Option.some []:=rfl
theorem q_rvsK_2 (σ : Go.Sx.St) (r:Go.Sx.RV) (rs:List Go.Sx.RV):Go.Sx.rvsK σ (r :: rs) = Go.Sx.rvKC (Go.Sx.rv1 σ r) (Go.Sx.rvsK σ rs):=rfl
theorem q_retM_1 (rs:List Go.Sx.RV) (Post:Go.Sx.Ot → Prop) (x:Go.Sx.St):Go.Sx.retM rs Post Go.Sx.Ex.n x = Go.Sx.retF Post (Go.Sx.St.hp x) (Go.Sx.St.n x) (Go.Sx.rvE (Go.Sx.rvsK x rs)):=rfl
theorem q_retM_2 (rs:List Go.Sx.RV) (Post:Go.Sx.Ot → Prop) (x:Go.Sx.St):Go.Sx.retM rs Post Go.Sx.Ex.ret x = Go.Sx.retF Post (Go.Sx.St.hp x) (Go.Sx.St.n x) (Go.Sx.rvE (Go.Sx.rvsK x rs)):=rfl
theorem q_retM_3 (rs:List Go.Sx.RV) (Post:Go.Sx.Ot → Prop) (x:Go.Sx.St) (s:Go.Sx.SV):Go.Sx.retM rs Post (Go.Sx.Ex.pan s) x = Post { pn:=Bool.true,res:=s,hp:=Go.Sx.St.hp x,n:=Go.Sx.St.n x }:=rfl
theorem q_retM_4 (rs:List Go.Sx.RV) (Post:Go.Sx.Ot → Prop) (x:Go.Sx.St) (id:Nat):Go.Sx.retM rs Post (Go.Sx.Ex.ex id) x = False:=rfl
theorem q_bdE_1 (kl:Nat) (rec:Go.Loop) (Φ : Go.Sx.Ot → Prop) (x:Go.Sx.St):Go.Sx.bdE kl rec Φ Go.Sx.Ex.n x = (Go.Sx.isLb rec (Go.Sx.lkh kl (Go.Sx.St.hp x)) ∧ Φ { pn:=Bool.false,res:=Go.Sx.SV.v (Go.Value.bool Bool.true),hp:=(kl,Go.Sx.HB.lp rec Option.none) :: Go.Sx.St.hp x,n:=Go.Sx.St.n x }):=rfl
theorem q_bdE_2 (kl:Nat) (rec:Go.Loop) (Φ : Go.Sx.Ot → Prop) (x:Go.Sx.St) (i:Nat):Go.Sx.bdE kl rec Φ (Go.Sx.Ex.ex i) x = (Go.Sx.isLb rec (Go.Sx.lkh kl (Go.Sx.St.hp x)) ∧ Φ { pn:=Bool.false,res:=Go.Sx.SV.v (Go.Value.bool Bool.false),hp:=(kl,Go.Sx.HB.lp rec (Option.some (Go.Sx.Ex.ex i))) :: Go.Sx.St.hp x,n:=Go.Sx.St.n x }):=rfl
theorem q_bdE_3 (kl:Nat) (rec:Go.Loop) (Φ : Go.Sx.Ot → Prop) (x:Go.Sx.St):Go.Sx.bdE kl rec Φ Go.Sx.Ex.ret x = (Go.Sx.isLb rec (Go.Sx.lkh kl (Go.Sx.St.hp x)) ∧ Φ { pn:=Bool.false,res:=Go.Sx.SV.v (Go.Value.bool Bool.false),hp:=(kl,Go.Sx.HB.lp rec (Option.some Go.Sx.Ex.ret)) :: Go.Sx.St.hp x,n:=Go.Sx.St.n x }):=rfl
theorem q_bdE_4 (kl:Nat) (rec:Go.Loop) (Φ : Go.Sx.Ot → Prop) (x:Go.Sx.St) (s:Go.Sx.SV):Go.Sx.bdE kl rec Φ (Go.Sx.Ex.pan s) x = Φ { pn:=Bool.true,res:=s,hp:=Go.Sx.St.hp x,n:=Go.Sx.St.n x }:=rfl
theorem q_asE_1 (kl:Nat) (rec:Go.Loop) (body:Go.Sx.CT) (K:Go.Sx.Ex → Go.Sx.St → Prop) (x:Go.Sx.St):Go.Sx.asE kl rec body K Go.Sx.Ex.n x = (Go.Sx.isLp rec (Go.Sx.lkh kl (Go.Sx.St.hp x)) ∧ body { fr:=Go.Sx.St.fr x,hp:=(kl,Go.Sx.HB.lb rec) :: Go.Sx.St.hp x,n:=Go.Sx.St.n x,N:=Go.Sx.St.N x,gs:=Go.Sx.St.gs x } K):=rfl
theorem q_asE_2 (kl:Nat) (rec:Go.Loop) (body:Go.Sx.CT) (K:Go.Sx.Ex → Go.Sx.St → Prop) (x:Go.Sx.St) (i:Nat):Go.Sx.asE kl rec body K (Go.Sx.Ex.ex i) x = False:=rfl
theorem q_asE_3 (kl:Nat) (rec:Go.Loop) (body:Go.Sx.CT) (K:Go.Sx.Ex → Go.Sx.St → Prop) (x:Go.Sx.St):Go.Sx.asE kl rec body K Go.Sx.Ex.ret x = False:=rfl
theorem q_asE_4 (kl:Nat) (rec:Go.Loop) (body:Go.Sx.CT) (K:Go.Sx.Ex → Go.Sx.St → Prop) (x:Go.Sx.St) (s:Go.Sx.SV):Go.Sx.asE kl rec body K (Go.Sx.Ex.pan s) x = False:=rfl
theorem q_rho_1 (x:Nat):Go.Sx.rho [] x = 0:=rfl
theorem q_rho_2 (a:Nat) (tail:List Nat):Go.Sx.rho (a :: tail) 0 = a:=rfl
theorem q_rho_3 (head:Nat) (l:List Nat) (k:Nat):Go.Sx.rho (head :: l) (Nat.succ k) = Go.Sx.rho l k:=rfl
theorem q_mtS_1 (ρ : Nat → Nat) (n':Nat) (x:Go.Sx.SV):Go.Sx.mtS ρ n' Go.Sx.SV.any x = True:=rfl
theorem q_mtS_2 (ρ : Nat → Nat) (n':Nat) (x:Go.Sx.SV) (k o:Nat):Go.Sx.mtS ρ n' (Go.Sx.SV.p k o) x = (k < n' ∧ x = Go.Sx.SV.p (ρ k) o):=rfl
theorem q_mtS_3 (ρ : Nat → Nat) (n':Nat) (x:Go.Sx.SV) (k v:Nat):Go.Sx.mtS ρ n' (Go.Sx.SV.mr k v) x = (k < n' ∧ x = Go.Sx.SV.mr (ρ k) v):=rfl
theorem q_mtS_4 (ρ : Nat → Nat) (n':Nat) (x:Go.Sx.SV) (k v m i o:Nat):Go.Sx.mtS ρ n' (Go.Sx.SV.pr k v m i o) x = (k < n' ∧ x = Go.Sx.SV.pr (ρ k) v m i o):=rfl
theorem q_mtS_5 (ρ : Nat → Nat) (n':Nat) (x:Go.Sx.SV) (k v m i o:Nat):Go.Sx.mtS ρ n' (Go.Sx.SV.ms k v m i o) x = (k < n' ∧ x = Go.Sx.SV.ms (ρ k) v m i o):=rfl
theorem q_mtS_6 (ρ : Nat → Nat) (n':Nat) (x:Go.Sx.SV) (l:List Go.Sx.SV):Go.Sx.mtS ρ n' (Go.Sx.SV.agg l) x = Go.Sx.mtO (Go.Sx.mtL ρ n' l) (Go.Sx.aggL x):=rfl
theorem q_mtS_7 (ρ : Nat → Nat) (n':Nat) (x:Go.Sx.SV) (l:List Go.Sx.SV):Go.Sx.mtS ρ n' (Go.Sx.SV.tup l) x = Go.Sx.mtO (Go.Sx.mtL ρ n' l) (Go.Sx.tupL x):=rfl
theorem q_mtS_8 (ρ : Nat → Nat) (n':Nat) (x:Go.Sx.SV) (f:Go.FuncId) (l:List Go.Sx.SV):Go.Sx.mtS ρ n' (Go.Sx.SV.cl f l) x = Go.Sx.mtO (Go.Sx.mtL ρ n' l) (Go.Sx.clL f x):=rfl
theorem q_mtS_9 (ρ : Nat → Nat) (n':Nat) (x:Go.Sx.SV) (x_2:Go.Value):Go.Sx.mtS ρ n' (Go.Sx.SV.v x_2) x = (x = Go.Sx.SV.v x_2):=rfl
theorem q_mtS_10 (ρ : Nat → Nat) (n':Nat) (x:Go.Sx.SV) (c:Bool) (m:Nat) (xs:List (List Go.Sx.SV)):Go.Sx.mtS ρ n' (Go.Sx.SV.sl c m xs) x = (x = Go.Sx.SV.sl c m xs ∧ Go.Sx.KFR xs):=rfl
theorem q_mtS_11 (ρ : Nat → Nat) (n':Nat) (x:Go.Sx.SV) (l:List Go.Sx.SV) (o:Nat):Go.Sx.mtS ρ n' (Go.Sx.SV.ps l o) x = (x = Go.Sx.SV.ps l o ∧ Go.Sx.KFL l):=rfl
theorem q_mtS_12 (ρ : Nat → Nat) (n':Nat) (x:Go.Sx.SV) (k:Nat):Go.Sx.mtS ρ n' (Go.Sx.SV.mp k) x = (k < n' ∧ x = Go.Sx.SV.mp (ρ k)):=rfl
theorem q_mtS_13 (ρ : Nat → Nat) (n':Nat) (x:Go.Sx.SV) (k:Nat):Go.Sx.mtS ρ n' (Go.Sx.SV.yl k) x = (k < n' ∧ x = Go.Sx.SV.yl (ρ k)):=rfl
theorem q_mtS_14 (ρ : Nat → Nat) (n':Nat) (x:Go.Sx.SV) (T:Go.TypeId) (t:Go.Sx.SV):Go.Sx.mtS ρ n' (Go.Sx.SV.ifc T t) x = Go.Sx.mtI (Go.Sx.mtS ρ n' t) T x:=rfl
theorem q_mtS_15 (ρ : Nat → Nat) (n':Nat) (x:Go.Sx.SV) (φ : Go.Sx.VP):Go.Sx.mtS ρ n' (Go.Sx.SV.q φ) x = (x = Go.Sx.SV.q φ):=rfl
theorem q_mtS_16 (ρ : Nat → Nat) (n':Nat) (x:Go.Sx.SV) (j:Nat) (w:Bool) (s:Go.Sx.SV):Go.Sx.mtS ρ n' (Go.Sx.SV.gd j w s) x = False:=rfl
theorem q_mtL_1 (ρ : Nat → Nat) (n':Nat) (x:List Go.Sx.SV):Go.Sx.mtL ρ n' [] x = (x = []):=rfl
theorem q_mtL_2 (ρ : Nat → Nat) (n':Nat) (x:List Go.Sx.SV) (s:Go.Sx.SV) (l:List Go.Sx.SV):Go.Sx.mtL ρ n' (s :: l) x = Go.Sx.mtB (Go.Sx.mtS ρ n' s) (Go.Sx.mtL ρ n' l) x:=rfl
theorem q_mtH_1 (ρ : Nat → Nat) (n':Nat) (x:Go.Sx.HB):Go.Sx.mtH ρ n' Go.Sx.HB.gone x = True:=rfl
theorem q_mtH_2 (ρ : Nat → Nat) (n':Nat) (l:List Go.Sx.SV) (T:Go.TypeId) (l2:List Go.Sx.SV) (T2:Go.TypeId):Go.Sx.mtH ρ n' (Go.Sx.HB.cells l T) (Go.Sx.HB.cells l2 T2) = (T2 = T ∧ Go.Sx.mtL ρ n' l l2):=rfl
theorem q_mtH_3 (ρ : Nat → Nat) (n':Nat) (x:Go.Sx.HB) (v m:Nat) (xs:List (List Go.Sx.SV)) (T:Go.TypeId):Go.Sx.mtH ρ n' (Go.Sx.HB.row v m xs T) x = (x = Go.Sx.HB.row v m xs T ∧ Go.Sx.KFR xs):=rfl
theorem q_mtH_4 (ρ : Nat → Nat) (n':Nat) (x:Go.Sx.HB) (φ : Go.Sx.OP):Go.Sx.mtH ρ n' (Go.Sx.HB.ob φ) x = (x = Go.Sx.HB.ob φ):=rfl
theorem q_mtH_5 (ρ : Nat → Nat) (n':Nat) (x:Go.Sx.HB) (es:List (Nat × Go.Value × Go.Sx.SV)) (c:Nat):Go.Sx.mtH ρ n' (Go.Sx.HB.map es c) x = (x = Go.Sx.HB.map es c ∧ ∀ (e:Nat × Go.Value × Go.Sx.SV),e ∈ es → Go.Sx.KF (Prod.snd (Prod.snd e))):=rfl
theorem q_mtH_6 (ρ : Nat → Nat) (n':Nat) (x:Go.Sx.HB) (km a:Nat) (b:List Nat) (c:Nat):Go.Sx.mtH ρ n' (Go.Sx.HB.it km a b c) x = (km < n' ∧ x = Go.Sx.HB.it (ρ km) a b c):=rfl
theorem q_mtH_7 (ρ : Nat → Nat) (n':Nat) (x:Go.Sx.HB) (r:Go.Loop) (pd:Option Go.Sx.Ex):Go.Sx.mtH ρ n' (Go.Sx.HB.lp r pd) x = (x = Go.Sx.HB.lp r pd):=rfl
theorem q_mtH_8 (ρ : Nat → Nat) (n':Nat) (x:Go.Sx.HB) (r:Go.Loop):Go.Sx.mtH ρ n' (Go.Sx.HB.lb r) x = (x = Go.Sx.HB.lb r):=rfl
theorem q_mtH_9 (ρ : Nat → Nat) (n':Nat) (x:Go.Sx.HB) (v m:Nat) (xs:List (List Go.Sx.SV)) (T:Go.TypeId) (o m':Nat) (inn:List (List (List Go.Sx.SV))) (T':Go.TypeId):Go.Sx.mtH ρ n' (Go.Sx.HB.rws v m xs T o m' inn T') x = (x = Go.Sx.HB.rws v m xs T o m' inn T' ∧ Go.Sx.KFR xs ∧ ∀ (r:List (List Go.Sx.SV)),r ∈ inn → Go.Sx.KFR r):=rfl
theorem q_mtH_10 (ρ : Nat → Nat) (n':Nat) (l:List Go.Sx.SV) (T:Go.TypeId) (v m:Nat) (xs:List (List Go.Sx.SV)) (T_1:Go.TypeId):Go.Sx.mtH ρ n' (Go.Sx.HB.cells l T) (Go.Sx.HB.row v m xs T_1) = False:=rfl
theorem q_mtH_11 (ρ : Nat → Nat) (n':Nat) (l:List Go.Sx.SV) (T:Go.TypeId) (φ : Go.Sx.OP):Go.Sx.mtH ρ n' (Go.Sx.HB.cells l T) (Go.Sx.HB.ob φ) = False:=rfl
theorem q_mtH_12 (ρ : Nat → Nat) (n':Nat) (l:List Go.Sx.SV) (T:Go.TypeId) (es:List (Nat × Go.Value × Go.Sx.SV)) (clk:Nat):Go.Sx.mtH ρ n' (Go.Sx.HB.cells l T) (Go.Sx.HB.map es clk) = False:=rfl
theorem q_mtH_13 (ρ : Nat → Nat) (n':Nat) (l:List Go.Sx.SV) (T:Go.TypeId) (km since:Nat) (seen:List Nat) (last:Nat):Go.Sx.mtH ρ n' (Go.Sx.HB.cells l T) (Go.Sx.HB.it km since seen last) = False:=rfl
theorem q_mtH_14 (ρ : Nat → Nat) (n':Nat) (l:List Go.Sx.SV) (T:Go.TypeId) (rec:Go.Loop) (pd:Option Go.Sx.Ex):Go.Sx.mtH ρ n' (Go.Sx.HB.cells l T) (Go.Sx.HB.lp rec pd) = False:=rfl
theorem q_mtH_15 (ρ : Nat → Nat) (n':Nat) (l:List Go.Sx.SV) (T:Go.TypeId) (rec:Go.Loop):Go.Sx.mtH ρ n' (Go.Sx.HB.cells l T) (Go.Sx.HB.lb rec) = False:=rfl
theorem q_mtH_16 (ρ : Nat → Nat) (n':Nat) (l:List Go.Sx.SV) (T:Go.TypeId) (v m:Nat) (xs:List (List Go.Sx.SV)) (T_1:Go.TypeId) (o m':Nat) (inn:List (List (List Go.Sx.SV))) (T':Go.TypeId):Go.Sx.mtH ρ n' (Go.Sx.HB.cells l T) (Go.Sx.HB.rws v m xs T_1 o m' inn T') = False:=rfl
theorem q_mtH_17 (ρ : Nat → Nat) (n':Nat) (l:List Go.Sx.SV) (T:Go.TypeId):Go.Sx.mtH ρ n' (Go.Sx.HB.cells l T) Go.Sx.HB.gone = False:=rfl
theorem q_mtM_1 (p:Prop):Go.Sx.mtM Bool.true p = True:=rfl
theorem q_mtM_2 (p:Prop):Go.Sx.mtM Bool.false p = p:=rfl
theorem q_mtF_1 (ρ : Nat → Nat) (n':Nat) (x:List Nat) (x_1:List (Nat × Go.Sx.SV)):Go.Sx.mtF ρ n' x [] x_1 = True:=rfl
theorem q_mtF_2 (ρ : Nat → Nat) (n':Nat) (x:List Nat) (x_1:List (Nat × Go.Sx.SV)) (t:Nat) (s:Go.Sx.SV) (r:List (Nat × Go.Sx.SV)):Go.Sx.mtF ρ n' x ((t,s) :: r) x_1 = (Go.Sx.mtM (Go.Sx.memb t x) (Go.Sx.mtS ρ n' s (Go.Sx.lk t x_1)) ∧ Go.Sx.mtF ρ n' (t :: x) r x_1):=rfl
theorem q_mtP_1 (ρ : Nat → Nat) (hp' hp:List (Nat × Go.Sx.HB)) (n':Nat):Go.Sx.mtP ρ hp' hp n' 0 = True:=rfl
theorem q_mtP_2 (ρ : Nat → Nat) (hp' hp:List (Nat × Go.Sx.HB)) (n' j:Nat):Go.Sx.mtP ρ hp' hp n' (Nat.succ j) = (Go.Sx.mtH ρ n' (Go.Sx.lkh j hp') (Go.Sx.lkh (ρ j) hp) ∧ Go.Sx.mtP ρ hp' hp n' j):=rfl
theorem q_hpb_1 (n':Nat):Go.Sx.hpb n' [] = True:=rfl
theorem q_hpb_2 (n' u:Nat) (s:Go.Sx.HB) (r:List (Nat × Go.Sx.HB)):Go.Sx.hpb n' ((u,s) :: r) = (u < n' ∧ Go.Sx.hpb n' r):=rfl
theorem q_eqC_1 (a b:Bool):Go.Sx.eqC 0 (Go.Sx.SV.v (Go.Value.bool a)) (Go.Sx.SV.v (Go.Value.bool b)) = Option.some (a == b):=rfl
theorem q_eqC_2 (k:Go.IntKind) (a:Int) (j:Go.IntKind) (b:Int):Go.Sx.eqC 1 (Go.Sx.SV.v (Go.Value.int k a)) (Go.Sx.SV.v (Go.Value.int j b)) = bif Go.Sx.kbeq k j then Option.some (a == b) else Option.none:=rfl
theorem q_eqC_3 (a b:ByteArray):Go.Sx.eqC 2 (Go.Sx.SV.v (Go.Value.string a)) (Go.Sx.SV.v (Go.Value.string b)) = Option.some (ByteArray.toList a == ByteArray.toList b):=rfl
theorem q_eqA_1 (a b:Bool):Go.Sx.eqA (Option.some a) (Option.some b) = Option.some (a && b):=rfl
theorem q_eqLS_1  : Go.Sx.eqLS [] [] [] = Option.some Bool.true:=rfl
theorem q_eqLS_2 (c:Nat) (cs:List Nat) (x_3:Go.Sx.SV) (xs:List Go.Sx.SV) (y:Go.Sx.SV) (ys:List Go.Sx.SV):Go.Sx.eqLS (c :: cs) (x_3 :: xs) (y :: ys) = Go.Sx.eqA (Go.Sx.eqC c x_3 y) (Go.Sx.eqLS cs xs ys):=rfl
theorem q_eqLO_1 (cls:List Nat) (a b:List Go.Sx.SV):Go.Sx.eqLO cls Bool.true (Go.Sx.SV.agg a) (Go.Sx.SV.agg b) = Go.Sx.eqLS cls a b:=rfl
theorem q_eqLO_2 (cls:List Nat) (a b:Bool):Go.Sx.eqLO cls Bool.false (Go.Sx.SV.v (Go.Value.bool a)) (Go.Sx.SV.v (Go.Value.bool b)) = Option.some (a == b):=rfl
theorem q_eqR_1 (ng b:Bool):Go.Sx.eqR ng (Option.some b) = Option.some (Go.Sx.SV.v (Go.Value.bool (Go.Sx.ngB ng b))):=rfl
theorem q_eqR_2 (ng:Bool):Go.Sx.eqR ng Option.none = Option.none:=rfl
theorem q_ngB_1 (x:Bool):Go.Sx.ngB Bool.true x = !x:=rfl
theorem q_ngB_2 (x:Bool):Go.Sx.ngB Bool.false x = x:=rfl
theorem q_sprS_1 (m:Nat) (hp:List (Nat × Go.Sx.HB)) (c:Bool) (m':Nat) (xs:List (List Go.Sx.SV)):Go.Sx.sprS m hp (Go.Sx.SV.sl c m' xs) = Go.Sx.rowB xs (Nat.beq m m'):=rfl
theorem q_sprS_2 (m:Nat) (hp:List (Nat × Go.Sx.HB)):Go.Sx.sprS m hp (Go.Sx.SV.v (Go.Value.slice Option.none 0 0)) = Option.some []:=rfl
theorem q_sprS_3 (m:Nat) (hp:List (Nat × Go.Sx.HB)) (k v:Nat):Go.Sx.sprS m hp (Go.Sx.SV.mr k v) = Go.Sx.sprH m v (Go.Sx.lkh k hp):=rfl
theorem q_basS_1 (m m':Nat) (xs:List (List Go.Sx.SV)):Go.Sx.basS m (Go.Sx.SV.sl Bool.true m' xs) = Go.Sx.rowB xs (Nat.beq m m'):=rfl
theorem q_basS_2 (m:Nat):Go.Sx.basS m (Go.Sx.SV.v (Go.Value.slice Option.none 0 0)) = Option.some []:=rfl
theorem q_appK_1 (g:Option (Nat × Bool)) (m b:Nat) (d:Option Nat) (σ : Go.Sx.St) (r:Go.Sx.KT) (K:Go.Sx.RK) (xs ys:List (List Go.Sx.SV)):Go.Sx.appK g m b (Option.some xs) (Option.some ys) d σ r K = Go.Sx.APP g m b xs ys d σ r K:=rfl
theorem q_appK_2 (g:Option (Nat × Bool)) (m b:Nat) (d:Option Nat) (σ : Go.Sx.St) (r:Go.Sx.KT) (K:Go.Sx.RK) (val:List (List Go.Sx.SV)):Go.Sx.appK g m b (Option.some val) Option.none d σ r K = False:=rfl
theorem q_appK_3 (g:Option (Nat × Bool)) (m b:Nat) (y:Option (List (List Go.Sx.SV))) (d:Option Nat) (σ : Go.Sx.St) (r:Go.Sx.KT) (K:Go.Sx.RK):Go.Sx.appK g m b Option.none y d σ r K = False:=rfl
theorem q_aggL_1 (l:List Go.Sx.SV):Go.Sx.aggL (Go.Sx.SV.agg l) = Option.some l:=rfl
theorem q_tupL_1 (l:List Go.Sx.SV):Go.Sx.tupL (Go.Sx.SV.tup l) = Option.some l:=rfl
theorem q_clL_1 (f f_1:Go.FuncId) (caps:List Go.Sx.SV):Go.Sx.clL f (Go.Sx.SV.cl f_1 caps) = bif Nat.beq f_1 f then Option.some caps else Option.none:=rfl
theorem q_mtB_1 (p:Go.Sx.SV → Prop) (q:List Go.Sx.SV → Prop):Go.Sx.mtB p q [] = False:=rfl
theorem q_mtB_2 (p:Go.Sx.SV → Prop) (q:List Go.Sx.SV → Prop) (s:Go.Sx.SV) (l:List Go.Sx.SV):Go.Sx.mtB p q (s :: l) = (p s ∧ q l):=rfl
theorem q_newRB_1 (x x_1:Nat) (x_2:List (List Go.Sx.SV)) (x_3:Go.TypeId) (x_4:Go.Sx.St) (x_5:Go.Sx.KT) (x_6:Go.Sx.RK):Go.Sx.newRB Bool.false Bool.true x x_1 x_2 x_3 x_4 x_5 x_6 = x_5 { fr:=(x,Go.Sx.SV.mr (Go.Sx.St.n x_4) 0) :: Go.Sx.St.fr x_4,hp:=(Go.Sx.St.n x_4,Go.Sx.HB.row 0 x_1 x_2 x_3) :: Go.Sx.St.hp x_4,n:=Go.Sx.St.n x_4 + 1,N:=Go.Sx.St.N x_4,gs:=Go.Sx.St.gs x_4 } x_6:=rfl
theorem q_rowK_1 (m:Nat) (xs:List (List Go.Sx.SV)) (T:Go.TypeId) (σ : Go.Sx.St) (r:Go.Sx.KT) (K:Go.Sx.RK) (m_1:Nat):Go.Sx.rowK (Option.some m_1) m xs T σ r K = Go.Sx.newRB (Go.Sx.memb m_1 (Go.Sx.St.gs σ)) (Nat.blt m_1 (Go.Sx.St.N σ)) m_1 m xs T σ r K:=rfl
theorem q_rowK_2 (m:Nat) (xs:List (List Go.Sx.SV)) (T:Go.TypeId) (σ : Go.Sx.St) (r:Go.Sx.KT) (K:Go.Sx.RK):Go.Sx.rowK Option.none m xs T σ r K = False:=rfl
theorem q_clnK_1 (b:Nat) (d:Option Nat) (m:Nat) (T:Go.TypeId) (σ : Go.Sx.St) (r:Go.Sx.KT) (K:Go.Sx.RK) (ys:List (List Go.Sx.SV)):Go.Sx.clnK b d m (Option.some []) (Option.some ys) T σ r K = Go.Sx.CLN b d m ys T σ r K:=rfl
theorem q_clnK_2 (b:Nat) (d:Option Nat) (m:Nat) (y:Option (List (List Go.Sx.SV))) (T:Go.TypeId) (σ : Go.Sx.St) (r:Go.Sx.KT) (K:Go.Sx.RK) (head:List Go.Sx.SV) (tail:List (List Go.Sx.SV)):Go.Sx.clnK b d m (Option.some (head :: tail)) y T σ r K = False:=rfl
theorem q_clnK_3 (b:Nat) (d:Option Nat) (m:Nat) (T:Go.TypeId) (σ : Go.Sx.St) (r:Go.Sx.KT) (K:Go.Sx.RK):Go.Sx.clnK b d m (Option.some []) Option.none T σ r K = False:=rfl
theorem q_clnK_4 (b:Nat) (d:Option Nat) (m:Nat) (y:Option (List (List Go.Sx.SV))) (T:Go.TypeId) (σ : Go.Sx.St) (r:Go.Sx.KT) (K:Go.Sx.RK):Go.Sx.clnK b d m Option.none y T σ r K = False:=rfl
theorem q_mksK_1 (b:Nat) (d:Option Nat) (m:Nat) (z:List Go.Value) (T:Go.TypeId) (σ : Go.Sx.St) (r:Go.Sx.KT) (K:Go.Sx.RK) (k:Go.IntKind) (n:Int):Go.Sx.mksK b d m z (Go.Sx.SV.v (Go.Value.int k n)) T σ r K = Go.Sx.MKS b d m (Go.Sx.lit z) n T σ r K:=rfl
theorem q_isnK_1 (d:Option Nat) (σ : Go.Sx.St) (r:Go.Sx.KT) (K:Go.Sx.RK) (c:Bool) (m:Nat) (xs:List (List Go.Sx.SV)):Go.Sx.isnK d (Go.Sx.SV.sl c m xs) σ r K = Go.Sx.ISN d xs σ r K:=rfl
theorem q_slcK_1 (g:Option (Nat × Bool)) (d:Option Nat) (σ : Go.Sx.St) (r:Go.Sx.KT) (K:Go.Sx.RK) (c:Bool) (m:Nat) (xs:List (List Go.Sx.SV)) (k_2:Go.IntKind) (n:Int) (k_3:Go.IntKind) (j:Int):Go.Sx.slcK g (Go.Sx.SV.sl c m xs) (Go.Sx.SV.v (Go.Value.int k_2 n)) (Go.Sx.SV.v (Go.Value.int k_3 j)) d σ r K = Go.Sx.SLC g n j m xs d σ r K:=rfl
theorem q_subJ_1 (g:Option (Nat × Bool)) (m:Nat) (xs:List (List Go.Sx.SV)) (d:Option Nat) (σ : Go.Sx.St) (r:Go.Sx.KT) (K:Go.Sx.RK) (i j:Int):Go.Sx.subJ g m xs (Option.some i) (Option.some j) d σ r K = Go.Sx.SUB g i j m xs d σ r K:=rfl
theorem q_subJ_2 (g:Option (Nat × Bool)) (m:Nat) (xs:List (List Go.Sx.SV)) (d:Option Nat) (σ : Go.Sx.St) (r:Go.Sx.KT) (K:Go.Sx.RK) (val:Int):Go.Sx.subJ g m xs (Option.some val) Option.none d σ r K = False:=rfl
theorem q_subJ_3 (g:Option (Nat × Bool)) (m:Nat) (xs:List (List Go.Sx.SV)) (hi:Option Int) (d:Option Nat) (σ : Go.Sx.St) (r:Go.Sx.KT) (K:Go.Sx.RK):Go.Sx.subJ g m xs Option.none hi d σ r K = False:=rfl
theorem q_intO_1 (dflt:Int) (ρ : Go.Sx.X → Go.Sx.SV):Go.Sx.intO dflt ρ Option.none = Option.some dflt:=rfl
theorem q_intO_2 (dflt:Int) (ρ : Go.Sx.X → Go.Sx.SV) (x_1:Go.Sx.X):Go.Sx.intO dflt ρ (Option.some x_1) = match ρ x_1 with | Go.Sx.SV.v (Go.Value.int k n)=>Option.some n | x=>Option.none:=rfl
theorem q_sprV_1 (m:Nat) (c:Bool) (m':Nat) (xs:List (List Go.Sx.SV)):Go.Sx.sprV m (Go.Sx.SV.sl c m' xs) = Go.Sx.rowB xs (Nat.beq m m'):=rfl
theorem q_sprV_2 (m:Nat):Go.Sx.sprV m (Go.Sx.SV.v (Go.Value.slice Option.none 0 0)) = Option.some []:=rfl
theorem q_alwS_3 (x:Value) (h:Nat → Bool → Nat → Bool → Bool) (j:Nat) (w:Bool):alwS false (.v x) h j w = false:=rfl
theorem q_splice_a (x:SV) (l:List SV):splice (x :: l) 0 [] = x :: l:=rfl
theorem q_splice_b:splice [] 0 [] = []:=rfl
attribute [go_sem] seqK_pan blkK_pan rndK_pan lopK_pan w64_0 w64_1 w64_2 w64_3 w64_4 w64_5 w64_6 e_stO rndK_n rndK_ex rndK_ret rxv_nil rxv_op rxv_hide backK_eq hideK_p hideK_pr hideK_mr hideK_ms rx_nil rx_cons sx_reg sx_regd sx_regs phx_1 phx_2 phK_n gs0_nil sx_seq sx_cond sx_ret sx_block sx_loop sx_exit sx_skip sx_scope sx_gh sx_label endK_eq seqK_n seqK_ex seqK_ret blkK_n blkK_ret retK_n retK_ret lopK_n lopK_ex lopK_ret lkB_t lkB_f lkhB_t lkhB_f membB_t membB_f blkE_t blkE_f cellsV_t biniB_t partB_t chkB_t andB_t andB_f e_lk e_lk0 e_lkh e_lkh0 e_memb e_memb0 e_blk e_strip_v e_drop_v e_cvt_v e_vwS_v e_vw0_v e_cells_v e_oneS_v e_strip_p e_drop_p e_cvt_p e_vwS_p e_vw0_p e_cells_p e_oneS_p e_strip_agg e_drop_agg e_cvt_agg e_vwS_agg e_vw0_agg e_cells_agg e_oneS_agg e_strip_sl e_drop_sl e_cvt_sl e_vwS_sl e_vw0_sl e_cells_sl e_oneS_sl e_pmS_0 e_strip_mr e_drop_mr e_cvt_mr e_vwS_mr e_vw0_mr e_cells_mr e_oneS_mr e_strip_pr e_strip_ms e_drop_pr e_drop_ms e_cvt_pr e_cvt_ms e_vwS_pr e_vwS_ms e_vw0_pr e_vw0_ms e_cells_pr e_cells_ms e_oneS_pr e_oneS_ms e_strip_ps e_drop_ps e_cvt_ps e_vwS_ps e_vw0_ps e_cells_ps e_oneS_ps e_strip_cl e_drop_cl e_cvt_cl e_vwS_cl e_vw0_cl e_cells_cl e_oneS_cl e_strip_tup e_drop_tup e_cvt_tup e_vwS_tup e_vw0_tup e_oneS_tup e_strip_q e_drop_q e_cvt_q e_vwS_q e_vw0_q e_cells_q e_oneS_q e_strip_mp e_drop_mp e_cvt_mp e_vwS_mp e_vw0_mp e_cells_mp e_oneS_mp e_strip_yl e_drop_yl e_cells_yl e_oneS_yl e_strip_ifc e_drop_ifc e_cvt_ifc e_vwS_ifc e_vw0_ifc e_cells_ifc e_oneS_ifc e_stp_callm e_stp_calvm e_yld e_exR e_hpM e_sx_rfun e_strip_any e_drop_any e_cvt_any e_vwS_any e_vw0_any e_oneS_any e_drop_gd e_drop0 e_strip_gd0 e_strip_gd e_oneV_bool e_oneV_int e_oneV_string e_oneV_pointer e_oneV_slice e_oneV_nilFunc e_oneV_nilIface e_rdG e_rd_t e_rd_c e_rd_f e_alw e_alw0 e_vw1 e_vw2 e_vw3 e_vw4 e_purge0 e_purge1 e_bini e_uni_not e_uni_neg e_binr_add e_binr_sub e_binr_mul e_binr_eql e_binr_neq e_binr_lss e_binr_leq e_binr_gtr e_binr_geq e_kbeq_i8 e_kbeq_i16 e_kbeq_i32 e_kbeq_i64 e_kbeq_u8 e_kbeq_u16 e_kbeq_u32 e_kbeq_u64 e_addo_p e_nilc_p e_addo_pr e_nilc_pr e_addo_ps e_nilc_ps e_part_t e_part_f e_mmf0 e_mmf_t e_mmf_f e_mm e_bld e_pv_build e_bslC e_allOne e_allOne0 e_pick_o e_pick_a e_pick_f e_pickA_u e_pickO_u e_rvR e_rvs0 e_rv1_t e_rv1_c e_stp_mv e_stp_pick e_stp_build e_stp_bsl e_stp_ld e_stp_nilc e_stp_bin e_stp_div e_stp_un e_stp_addo e_stp_fld e_stp_idx e_stp_ixa e_stp_ixs e_stp_len e_stp_mm e_stp_call e_stp_calv e_stp_mkf e_stp_conv e_stp_ext e_rvs e_pv_fld e_pv_conv e_pv_ext e_entF0 e_entF e_stp_eqs e_stp_slc e_stp_sub e_stp_app q_bldE_1 q_bldE_2 q_mmE_1 q_mmE_2 q_vwP_1 q_vwN_1 q_vwN_2 q_vwM_1 q_vwM_2 q_cvtM_1 q_sprH_1 q_sprH_2 q_sprH_3 q_sprH_4 q_sprH_5 q_sprH_6 q_sprH_7 q_sprH_8 q_sprH_9 q_rowB_1 q_rowB_2 q_rvE_1 q_rvE_2 q_rvE_3 q_rvE_4 q_rvD_1 q_rvD_2 q_rvC_1 q_rvC_2 q_rvH_1 q_rvX_1 q_pvF_1 q_pvC_1 q_pvE_1 q_putB_1 q_putG_1 q_putK_1 q_putK_2 q_putK_3 q_putK_4 q_putO_1 q_putO_2 q_orAny_1 q_orAny_2 q_alwS_1 q_alwS_2 q_sameG_1 q_sameG_2 q_bbq_1 q_bbq_2 q_pickO_1 q_pickO_2 q_pickA_1 q_pickA_2 q_bslS_1 q_bslS_2 q_calvK_1 q_ixrB_1 q_ixrB_2 q_ixrK_1 q_ixrK_2 q_ixsB_1 q_ixsB_2 q_ixsK_1 q_ixsK_2 q_ixaK_1 q_idxK_1 q_ldC_1 q_ldB_1 q_ldB_2 q_ldR_1 q_ldR_2 q_ldK_1 q_ldK_2 q_ldK_3 q_divB_1 q_divB_2 q_divK_1 q_lenB_1 q_lenB_2 q_lenR_1 q_lenR_2 q_lenK_1 q_lenK_2 q_lenK_3 q_stpV_1 q_stpV_2 q_stpV_3 q_stpV_4 q_stpV_5 q_stpV_6 q_stpV_7 q_stpV_8 q_stpV_9 q_stpV_10 q_stpV_11 q_stpV_12 q_stpV_13 q_stpV_14 q_stpV_15 q_stpV_16 q_stpV_17 q_stpV_18 q_stpV_19 q_stpV_20 q_stpV_21 q_stpV_22 q_stpV_23 q_stpV_24 q_stpV_25 q_stpV_26 q_stpV_27 q_stpV_28 q_stpV_29 q_stpV_30 q_stpV_31 q_stpV_32 q_stpV_33 q_stpV_34 q_stpV_35 q_stpV_36 q_stpV_37 q_stpV_38 q_newB_1 q_newK_1 q_cpyPB_1 q_cpyP_1 q_cpyP_2 q_cpyY_1 q_cpyY_2 q_cpyY_3 q_cpyY_4 q_lO_1 q_lO_2 q_cpyH_1 q_cpyK_1 q_cpyK_2 q_sbmJ_1 q_sbmJ_2 q_sbmJ_3 q_sbmB_1 q_sbmB_2 q_sbmH_1 q_subK_1 q_subK_2 q_verB_1 q_verK_1 q_verK_2 q_apmB_1 q_apmB_2 q_apmH_1 q_apmS_1 q_apmK_1 q_apmK_2 q_stCB_1 q_stCB_2 q_stC_1 q_stRB_1 q_stRB_2 q_stR_1 q_stR_2 q_stX_1 q_stX_2 q_storeB_1 q_storeK_1 q_stp_1 q_stp_2 q_stp_3 q_stp_4 q_stp_5 q_stp_6 q_stp_7 q_stp_8 q_stp_9 q_stp_10 q_stp_11 q_stp_12 q_stp_13 q_skipK_1 q_gK_1 q_gK_2 q_st1_1 q_st1_2 q_cndK_1 q_divr_1 q_st0_1 q_mapX_1 q_mapX_2 q_mapS_1 q_mapS_2 q_bslR_1 q_bslR_2 q_cvtL_1 q_cvtL_2 q_lit_1 q_lit_2 q_chk_1 q_chk_2 q_nth_1 q_nth_2 q_nth_3 q_splice_2 q_splice_3 q_bldZ_1 q_bldZ_2 q_bldY_1 q_bldX_1 q_bldX_2 q_spl_1 q_spl_2 q_bldF_1 q_bldF_2 q_enum_1 q_enum_2 q_gdS_1 q_gdS_2 q_gdS_3 q_gdS_4 q_gdS_5 q_gdS_6 q_gdS_7 q_gdS_8 q_gdS_9 q_gdS_10 q_gdS_11 q_gdS_12 q_gdS_13 q_gdS_14 q_gdS_15 q_gdS_16 q_rnS_1 q_rnS_2 q_rnS_3 q_rnS_4 q_rnS_5 q_rnS_6 q_rnS_7 q_rnS_8 q_rnS_9 q_rnS_10 q_rnS_11 q_rnS_12 q_rnS_13 q_rnS_14 q_rnS_15 q_rnS_16 q_rnL_1 q_rnL_2 q_rnH_1 q_rnH_2 q_rnH_3 q_rnH_4 q_rnH_5 q_rnH_6 q_rnH_7 q_rnH_8 q_rnH_9 q_rnP_1 q_rnP_2 q_goneP_1 q_goneP_2 q_exB_1 q_cmK_1 q_cmK_2 q_calvM_1 q_calvM_2 q_mtI_1 q_mtO_1 q_mtO_2 q_itE_1 q_itE_2 q_itE_3 q_itP_1 q_isLp_1 q_isLb_1 q_pmS_1 q_lenQ_1 q_lenQ_2 q_ltAll_1 q_ltAll_2 q_rfB_1 q_rfB_2 q_rfK_1 q_retF_1 q_retF_2 q_rvKC_1 q_rvKC_2 q_rvsK_1 q_rvsK_2 q_retM_1 q_retM_2 q_retM_3 q_retM_4 q_bdE_1 q_bdE_2 q_bdE_3 q_bdE_4 q_asE_1 q_asE_2 q_asE_3 q_asE_4 q_rho_1 q_rho_2 q_rho_3 q_mtS_1 q_mtS_2 q_mtS_3 q_mtS_4 q_mtS_5 q_mtS_6 q_mtS_7 q_mtS_8 q_mtS_9 q_mtS_10 q_mtS_11 q_mtS_12 q_mtS_13 q_mtS_14 q_mtS_15 q_mtS_16 q_mtL_1 q_mtL_2 q_mtH_1 q_mtH_2 q_mtH_3 q_mtH_4 q_mtH_5 q_mtH_6 q_mtH_7 q_mtH_8 q_mtH_9 q_mtH_10 q_mtH_11 q_mtH_12 q_mtH_13 q_mtH_14 q_mtH_15 q_mtH_16 q_mtH_17 q_mtM_1 q_mtM_2 q_mtF_1 q_mtF_2 q_mtP_1 q_mtP_2 q_hpb_1 q_hpb_2 q_eqC_1 q_eqC_2 q_eqC_3 q_eqA_1 q_eqLS_1 q_eqLS_2 q_eqLO_1 q_eqLO_2 q_eqR_1 q_eqR_2 q_ngB_1 q_ngB_2 q_sprS_1 q_sprS_2 q_sprS_3 q_basS_1 q_basS_2 q_appK_1 q_appK_2 q_appK_3 q_aggL_1 q_tupL_1 q_clL_1 q_mtB_1 q_mtB_2 q_newRB_1 q_rowK_1 q_rowK_2 q_clnK_1 q_clnK_2 q_clnK_3 q_clnK_4 q_mksK_1 q_isnK_1 q_slcK_1 q_subJ_1 q_subJ_2 q_subJ_3 q_intO_1 q_intO_2 q_sprV_1 q_sprV_2 q_alwS_3 q_splice_a q_splice_b List.drop List.take List.length List.cons_append List.nil_append Nat.beq Nat.blt Nat.ble Nat.zero_add Nat.add_zero Nat.mul_one Nat.zero_mul Nat.one_mul cond_true cond_false List.set
end Go.Sx
