/- Walks and plain laws that lead to the given statement, part 4 of 9. -/
import Derived.Test.YtkjldleglbbkeaaQC
set_option linter.all false
open Nat renaming reduceAdd->rA,reduceMul->rM,reduceSub->rS,beq_refl->nbr
namespace Go.Sx
open Go Go.RowKit
variable {Y:Hd}
section
variable (P:Program) (m:Nat) (σ : St) (K:Ex->St->Prop) (L:RK)
theorem Zus:rx P Y [] σ L=L .n σ:=rfl
theorem ZqA (io:Ins) (r:List Ins):rx P Y (io :: r) σ L=st1 P Y io σ (rx P Y r) L:=rfl
theorem Zur (ops:List Ins):sx P Y m (.reg ops) σ K=rx P Y ops σ (Zbh K):=rfl
theorem Zpy (ord:List Nat) (p:Ph) (ps:List Ph):sx P Y m (.regs ord p ps) σ K=phx P Y p ps σ (Zbh K):=rfl
theorem phx_1 (vs:List VI) (nA nB:Nat) (rest:List Ins):phx P Y ⟨vs,nA,nB,rest⟩ [] σ L=gs0 σ.gs (rxv P Y (Zby σ.hp (rx P Y rest)) vs σ L):=rfl
theorem phx_2 (vs:List VI) (nA nB:Nat) (rest:List Ins) (q:Ph) (ps:List Ph):phx P Y ⟨vs,nA,nB,rest⟩ (q :: ps) σ L=gs0 σ.gs (rxv P Y (Zby σ.hp (rx P Y rest)) vs σ (phK (phx P Y q ps) L)):=rfl
theorem phK_n (f:St->RK->Prop):phK f L .n σ = f σ L:=rfl
theorem Zrp (ord:List Nat) (vs:List VI) (nA nB:Nat) (rest:List Ins):sx P Y m (.regd ord vs nA nB rest) σ K=gs0 σ.gs (rxv P Y (Zby σ.hp (rx P Y rest)) vs σ (Zbh K)):=rfl
theorem Zqh (r:KT):rxv P Y r [] σ L=r σ L:=rfl
theorem Zuk (r:KT) (io:Ins) (l:List VI):rxv P Y r (.op io :: l) σ L=st1 P Y io σ (rxv P Y r l) L:=rfl
theorem Zoy (r:KT) (x:X) (l:List VI):rxv P Y r (.hide x :: l) σ L=Zcm (rdG none σ.fr x) σ (rxv P Y r l) L:=rfl
theorem Zoz (hp:List (Nat × HB)) (r:KT):Zby hp r σ L=r ⟨σ.fr,hp,σ.n,σ.N,σ.gs⟩ L:=rfl
theorem ZtD (k o:Nat) (r:KT):Zcm (.p k o) σ r L=r ⟨σ.fr,(k,.gone) :: σ.hp,σ.n,σ.N,σ.gs⟩ L:=rfl
theorem Zmq (k v:Nat) (r:KT):Zcm (.mr k v) σ r L=r ⟨σ.fr,(k,.gone) :: σ.hp,σ.n,σ.N,σ.gs⟩ L:=rfl
theorem ZlH (k v m i o:Nat) (r:KT):Zcm (.pr k v m i o) σ r L=r ⟨σ.fr,(k,.gone) :: σ.hp,σ.n,σ.N,σ.gs⟩ L:=rfl
theorem ZkX (k v m i o:Nat) (r:KT):Zcm (.ms k v m i o) σ r L=r ⟨σ.fr,(k,.gone) :: σ.hp,σ.n,σ.N,σ.gs⟩ L:=rfl
theorem Zsw (p:Prop):gs0 [] p=p:=rfl
theorem Zvt (a b:SC):sx P Y m (.seq a b) σ K=sx P Y m a σ (ZqT (sx P Y m b) K):=rfl
theorem ZpM (c:X) (a b:SC):sx P Y m (.cond c a b) σ K=Zwm (rdG none σ.fr c) (sx P Y m a) (sx P Y m b) σ K:=rfl
theorem ZnQ (id:Nat) (c:SC):sx P Y m (.block id c) σ K=sx P Y m c σ (Zpe id K):=rfl
theorem ZqI (c:SC):sx P Y m (.loop c) σ K=ZtJ m (sx P Y m c) σ K:=rfl
theorem Zta (id:Nat):sx P Y m (.exit id) σ K=K (.ex id) σ:=rfl
theorem Zv4:sx P Y m .ret σ K=K .ret σ:=rfl
theorem Zrn:sx P Y m .skip σ K=K .n σ:=rfl
theorem Zko (c:SC):sx P Y m (.scope c) σ K=sx P Y m c σ K:=rfl
theorem sx_gh (c:SC):sx P Y m (.gh c) σ K=GH m (sx P Y m c) σ K:=rfl
theorem ZjX (l:Nat):sx P Y m (.label l) σ K=K .n σ:=rfl
theorem Zs3 (e:Ex):Zbh K e σ = K e (WX σ):=rfl
theorem Zvo (f:CT):ZqT f K .n σ = f σ K:=rfl
theorem Zrj (f:CT) (i:Nat):ZqT f K (.ex i) σ = K (.ex i) σ:=rfl
theorem ZkI (f:CT) (s:SV):ZqT f K (.pan s) σ = K (.pan s) σ:=rfl
theorem Zm6 (f:CT):ZqT f K .ret σ = K .ret σ:=rfl
theorem ZvH (id:Nat):Zpe id K .n σ = K .n σ:=rfl
theorem Zln (id:Nat) (s:SV):Zpe id K (.pan s) σ = K (.pan s) σ:=rfl
theorem ZmC (id:Nat):Zpe id K .ret σ = K .ret σ:=rfl
theorem Zuy (rs:List RV) (res:SV):Zwf rs res .n σ = (rvR rs σ = some res):=rfl
theorem ZnB (rs:List RV) (res:SV):Zwf rs res .ret σ = (rvR rs σ = some res):=rfl
theorem ZvD {S:Type} (st:S->St) (rel:S->Prop) (μ : S->Nat) (s:S):Zph m st rel μ s K .n σ = ∃ s',rel s'/\μ s' < μ s/\Ent m σ (st s'):=rfl
theorem ZtA {S:Type} (st:S->St) (rel:S->Prop) (μ : S->Nat) (s:S) (i:Nat):Zph m st rel μ s K (.ex i) σ = K (.ex i) σ:=rfl
theorem ZnX {S:Type} (st:S->St) (rel:S->Prop) (μ : S->Nat) (s:S) (x:SV):Zph m st rel μ s K (.pan x) σ = K (.pan x) σ:=rfl
theorem ZmQ {S:Type} (st:S->St) (rel:S->Prop) (μ : S->Nat) (s:S):Zph m st rel μ s K .ret σ = K .ret σ:=rfl
end
section
variable {P:Program} {m:Nat} {σ : St} {K:Ex->St->Prop} {L:RK} {r:KT} {d:Option Nat} {g:Option (Nat × Bool)}
theorem br {b:Bool} {f h:CT} (h1:b=true->f σ K) (h2:b=false->h σ K):BR b f h σ K:=⟨h1,h2⟩
theorem ZP {b:Bool} {f h:CT} (hb:b=true) (h1:f σ K):BR b f h σ K:=⟨fun _=>h1,fun e=>by rw [hb] at e;cases e⟩
theorem ZF {b:Bool} {f h:CT} (hb:b=false) (h1:h σ K):BR b f h σ K:=⟨fun e=>by (rw [hb] at e;cases e),fun _=>h1⟩
theorem gb {b w:Bool} {j:Nat} {i:SI} (h:Ya P (some (j,w)) d i σ r L):GB P Y b j w d i σ r L:=.inr (.inr h)
theorem ZU {b w:Bool} {j:Nat} {i:SI} (hb:b=w) (h:stp P Y d i σ r L):GB P Y b j w d i σ r L:=.inl ⟨hb,h⟩
theorem Xu {b w:Bool} {j:Nat} {i:SI} (hb:b≠w) (h:ZqV d σ r L):GB P Y b j w d i σ r L:=.inr (.inl ⟨hb,h⟩)
theorem call {f:FuncId} {args:List SV} {res:SV} (h:Ct P f args res) (hk:Yp d res g σ r L):ZtQ P g f args d σ r L:=⟨res,.inl (ZK.2 fun _=>h),hk⟩
theorem Zf4 {f:FuncId} {args:List SV} {res:SV} (hf:FLT res) (h:Ct P f (ZaS (vw4 σ.hp) args) res) (hk:Yp d res g σ r L):ZtQ P g f args d σ r L:=⟨res,.inr ⟨hf,ZK.2 fun _=>h⟩,hk⟩
theorem div0 {b:BinOp} {k:IntKind} {x y:Int} (h:y≠0) (hk:Yp d (.v (.int k (Zvb b k x y))) g σ r L):DIV g b k x y d σ r L:=⟨ZK.2 fun _=>h,hk⟩
theorem ixs {xs:List (List SV)} {i:Int} (n:Nat) (row:List SV) (hi:i=(n:Int)) (hr:xs[n]? = some row) (hk:Yp d (.ps row 0) g σ r L):IXS g xs i d σ r L:=⟨row,ZK.2 fun _=>⟨n,hi,hr⟩,hk⟩
theorem Zy {α : Type} {l:List α} {f:α->List SV} {i:Int} (n:Nat) (hn:n < l.length) (hi:i=(n:Int)) (hk:Yp d (.ps (f l[n]) 0) g σ r L):IXS g (l.map f) i d σ r L :=
 ixs n _ hi (by simp [hn]) hk
theorem ixa {len:Nat} {i:Int} {F:Nat->Option SV} (n:Nat) (hi:i=(n:Int)) (hn:n < len) (hk:XU (F n) d g σ r L):IXA g len i F d σ r L:=⟨n,ZK.2 fun _=>⟨hi,hn⟩,hk⟩
theorem loop {f:CT} {S:Type} (st:S->St) (rel:S->Prop) (μ : S->Nat) (s:S) (h0:rel s) (he:Ent m σ (st s)) (hb:∀ s,rel s->f (st s) (Zph m st rel μ s K)):ZtJ m f σ K :=
 .inr ⟨S,st,rel,μ,⟨s,h0,he⟩,hb⟩
theorem ZdD {f:CT} (n:Nat) (h:Zt3 f K n σ):ZtJ m f σ K:=.inl ⟨n,h⟩
theorem Zs {f:CT} (n:Nat):Zt3 f K (n+1) σ = f σ (ZtH (Zt3 f K n) K):=rfl
theorem ZuY (p:St->Prop):ZtH p K .n σ = p σ:=rfl
theorem Ztu (p:St->Prop) (i:Nat):ZtH p K (.ex i) σ = K (.ex i) σ:=rfl
theorem Zl3 (p:St->Prop) (s:SV):ZtH p K (.pan s) σ = K (.pan s) σ:=rfl
theorem ZlB (p:St->Prop):ZtH p K .ret σ = K .ret σ:=rfl
def Zwh:List (Nat × SV)->List (Nat × SV)->Prop
 | [],_=>True
 | (t,s) :: r,fr=>lk t fr=s/\Zwh r fr
end
section
variable {w:World} {E:Env} {ok ok':Nat->Prop} {ρ : Nat->Nat} {n':Nat} {n:Nat->Prop}
theorem ent {σ σ':St} (ρ : Nat->Nat) (hf:mtF ρ σ'.n [] σ'.fr σ.fr) (hp:mtP ρ σ'.hp σ.hp σ'.n σ'.n) (hb:hpb σ'.n σ'.hp) (hρ : ∀ i,i < σ'.n->∀ j,j < σ'.n->ρ i = ρ j->i=j) (hN:Nat.beq σ'.N σ.N=true) {m0:Nat} (hm:Nat.ble m0 σ'.n=true) (hfix:∀ i,i < m0->ρ i=i):Ent m0 σ σ':=by
 intro C E a w hm0 h
 have hN:=Nat.eq_of_beq_eq_true hN
 have hgone:=Zbn hb
 have hH:=Zgk hp
 have hocc:∀ k b,occ (rnE E ρ) k (lkh k σ'.hp) b->k < σ'.n/\occ E (ρ k) (lkh (ρ k) σ.hp) b:=fun k b ho=>by
  by_cases hk:k < σ'.n
  . refine ⟨hk,?_⟩
    have:=hH k hk
    cases h1:lkh k σ'.hp<;>rw [h1] at ho this
    . cases h2:lkh (ρ k) σ.hp<;>rw [h2] at this<;>simp only [mtH] at this
      exact ho
    . simp only [mtH] at this;rw [this.1];exact ho
    . simp only [mtH] at this;rw [this];exact ho
    . simp only [mtH] at this;rw [this.1];exact ho
    . simp only [mtH] at this;rw [this.2];exact ho
    . simp only [mtH] at this;rw [this];exact ho
    . simp only [mtH] at this;rw [this];exact ho
    . simp only [mtH] at this;rw [this.1];exact ho
    . exact ho.elim
  . rw [hgone k hk] at ho;exact ho.elim
 have hst:Zz w w (okS C E σ.hp) (okS C (rnE E ρ) σ'.hp):=fun b hb _=>⟨⟨hb.1,fun k ho=>hb.2 _ (hocc k b ho).2⟩,rfl⟩
 refine ⟨rnE E ρ,fun t=>?_,by rw [hN];exact h.sz,X1 hst h.df,fun t j b s ht=>?_,⟨hgone,fun k=>?_,fun k k' b h1 h2=>?_,fun k b h1=>?_,h.hs.kp,fun k hk=>?_⟩⟩
 . rcases Zg8 hf t rfl with h1 | h1
   . rw [h1];exact trivial
   . have:=mtS_R hst h1 (h.fr t)
     have hng:=ZbG h1
     cases hs:lk t σ'.fr<;>rw [hs] at this hng<;>first | exact this | exact absurd rfl (hng _ _ _)
 . rcases Zg8 hf t rfl with h1 | h1
   . rw [h1] at ht;cases ht
   . exact absurd ht (ZbG h1 j b s)
 . by_cases hk:k < σ'.n
   . have:=hH k hk
     have hbk:=h.hs.bk (ρ k)
     cases h1:lkh k σ'.hp<;>rw [h1] at this
     . cases h2:lkh (ρ k) σ.hp<;>rw [h2] at this hbk<;>simp only [mtH] at this
       obtain ⟨rfl,this⟩:=this
       simp only [ZZ] at hbk ⊢
       obtain ⟨cs,k1,k2⟩:=hbk
       exact ⟨cs,k1,Zaa hst _ _ _ this k2⟩
     . simp only [mtH] at this
       rw [this.1] at hbk
       simp only [ZZ] at hbk ⊢
       obtain ⟨hi0,hbk⟩:=hbk
       refine ⟨hi0,?_⟩
       rcases hbk with q | ⟨b,cap,cs,q1,q2,q3,q4,q5,q6,q7⟩
       . exact .inl q
       . exact .inr ⟨b,cap,cs,q1,q2,q3,q4,q5,q6,ZC hst (fun _ h=>Ele.rfl) (fun _ h=>h.elim) _ _ (Zax (E':=rnE E ρ) (n':=fun _=>False) _ _ (WS this.2) q7)⟩
     . rename_i φ
       simp only [mtH] at this
       rw [this] at hbk
       simp only [ZZ] at hbk ⊢
       obtain ⟨o,k1,k2⟩:=hbk
       exact ⟨o,k1,φ.mono _ _ _ _ _ hst k2⟩
     . simp only [mtH] at this
       obtain ⟨this,hkf⟩:=this
       rw [this] at hbk
       simp only [ZZ] at hbk ⊢
       obtain ⟨ys,k1,k2⟩:=hbk
       exact ⟨ys,k1,Zkh hst _ _ hkf k2⟩
     . simp only [mtH] at this
       rw [this.2] at hbk
       simp only [ZZ] at hbk ⊢
       exact ⟨this.1,hbk.2⟩
     . simp only [mtH] at this
       rw [this] at hbk
       simp only [ZZ] at hbk ⊢
       exact hbk
     . simp only [mtH] at this
       rw [this] at hbk
       simp only [ZZ] at hbk ⊢
       exact hbk
     . simp only [mtH] at this
       obtain ⟨this,k1,k2⟩:=this
       rw [this] at hbk
       exact Vj (E:=E) (k:=ρ k) (E':=rnE E ρ) hst.c (fun _ _=>rfl) rfl hk k1 k2 hbk
     . trivial
   . rw [hgone k hk];trivial
 . have e1:=hocc k b h1
   have e2:=hocc k' b h2
   exact hρ k e1.1 k' e2.1 (h.hs.dj _ _ b e1.2 e2.2)
 . obtain ⟨e1,e2⟩:=hocc k b h1
   rcases h.hs.lo _ b e2 with q | q
   . exact .inl q
   . have q1:=Nat.lt_of_lt_of_le (hm0.2 _ _ q) hm0.1
     have q2:ρ k=k:=hρ _ (Nat.lt_of_lt_of_le q1 (Nat.le_of_ble_eq_true hm)) k e1 (hfix _ q1)
     rw [q2] at q;exact .inr q
 . have hk':k < m0:=Nat.lt_of_lt_of_le hk hm0.1
   obtain ⟨p1,p2,p3,p4⟩:=h.hs.pin k hk
   exact ⟨Nat.lt_of_lt_of_le hk' (Nat.le_of_ble_eq_true hm),by simp only [rnE,hfix k hk'];exact p2,by simp only [rnE,hfix k hk'];exact p3,by simp only [rnE,hfix k hk'];exact p4⟩
end
theorem Zmo {ρ : Nat->Nat} {n':Nat}:∀ {s:SV},KF s->mtS ρ n' s s:=by
 intro s
 exact SV.rec (motive_1:=fun s=>KF s->mtS ρ n' s s) (motive_2:=fun l=>KFL l->mtL ρ n' l l) (motive_3:=fun _=>True)
  (fun x _=>by simp [mtS]) (fun k o h=>by simp [KF] at h) (fun l ih h=>by simp only [KF] at h;simp only [mtS,Zt1,mtO];exact ih h)
  (fun c m xs _ h=>by simp only [KF] at h;simp [mtS,h]) (fun k v h=>by simp [KF] at h) (fun k v m i o h=>by simp [KF] at h) (fun k v m i o h=>by simp [KF] at h)
  (fun l o _ h=>by simp only [KF] at h;simp [mtS,h]) (fun f l ih h=>by simp only [KF] at h;simp only [mtS,clL,nbr,cond_true,mtO];exact ih h)
  (fun l ih h=>by simp only [KF] at h;simp only [mtS,ZtR,mtO];exact ih h) (fun k h=>by simp [KF] at h) (fun k h=>by simp [KF] at h) (fun T s ih h=>by simp only [KF] at h;simp only [mtS,mtI];exact ⟨trivial,ih h⟩) (fun φ _=>by simp [mtS]) (fun j w s _ h=>by simp [KF] at h) (fun _=>by simp [mtS])
  (fun _=>by simp [mtL]) (fun s l h1 h2 h=>by simp only [KFL] at h;simp only [mtL,mtB];exact ⟨h1 h.1,h2 h.2⟩)
  trivial (fun _ _ _ _=>trivial) s
theorem Zb {ρ : Nat->Nat} {n':Nat}:∀ {l:List SV},KFL l->mtL ρ n' l l
 | [],_=>by simp [mtL]
 | s :: l,h=>by simp only [mtL,mtB];exact ⟨Zmo h.1,Zb h.2⟩
abbrev I (n:Int):SV:=.v (.int .i64 n)
abbrev B (b:Bool):SV:=.v (.bool b)
theorem Zd:∀ {xs ys:List (List SV)},KFR (xs ++ ys)↔KFR xs/\KFR ys
 | [],ys=>by simp [KFR]
 | x :: xs,ys=>by simp [KFR,Zd (xs:=xs) (ys:=ys),and_assoc]
theorem Za {α : Type} {f:α->List SV} {l:List α}:KFR (l.map f)↔∀ x ∈ l,KFL (f x):=by
 induction l with
 | nil=>simp [KFR]
 | cons x l ih=>simp [KFR,ih]
theorem Zp {n:Int} (h1:-9223372036854775808<=n) (h2:n<=9223372036854775807):IntKind.i64.wrap n=n:=IntWalk.i64_in n ⟨h1,h2⟩
def stO {S:Type} (σ : St) (ov:S->List (Nat × SV)) (hv:S->List (Nat × HB)) (s:S):St:=⟨ov s ++ σ.fr,hv s ++ σ.hp,σ.n,σ.N,[]⟩
theorem e_stO {S:Type} (fr:List (Nat × SV)) (hp:List (Nat × HB)) (n N:Nat) (gs:List Nat) (ov:S->List (Nat × SV)) (hv:S->List (Nat × HB)) (s:S):stO ⟨fr,hp,n,N,gs⟩ ov hv s=⟨ov s ++ fr,hv s ++ hp,n,N,[]⟩:=rfl
theorem YR {m:Nat} {f:CT} {σ : St} {K:Ex->St->Prop} {S:Type} (ov:S->List (Nat × SV)) (hv:S->List (Nat × HB)) (rel:S->Prop) (μ : S->Nat) (s0:S) (h0:rel s0) (he:Ent m σ (stO σ ov hv s0))
 (hb:∀ s,rel s->f (stO σ ov hv s) (Zph m (stO σ ov hv) rel μ s K)):ZtJ m f σ K :=
 loop (stO σ ov hv) rel μ s0 h0 he hb
theorem Zqn {m:Nat} {f:CT} {σ σ1:St} {K:Ex->St->Prop} {S:Type} (hg:Ent m σ σ1) (ov:S->List (Nat × SV)) (hv:S->List (Nat × HB)) (rel:S->Prop) (μ : S->Nat) (s0:S) (h0:rel s0) (he:Ent m σ1 (stO σ1 ov hv s0))
 (hb:∀ s,rel s->f (stO σ1 ov hv s) (Zph m (stO σ1 ov hv) rel μ s K)):ZtJ m f σ K :=
 loop (stO σ1 ov hv) rel μ s0 h0 (ZiC hg he) hb
theorem gh {m:Nat} {r:CT} {σ σ1:St} {K:Ex->St->Prop} (hg:Ent m σ σ1) (h:r σ1 K):GH m r σ K:=⟨σ1,hg,h⟩
theorem ZpT {m:Nat} {b:Bool} {s s':SV} {hp hp':List (Nat × HB)} {n n':Nat} (h:Ent m ⟨[(0,s)],hp,n,1,[]⟩ ⟨[(0,s')],hp',n',1,[]⟩) (hg:∀ j b u,s'≠.gd j b u):Zkb m ⟨b,s,hp,n⟩ ⟨b,s',hp',n'⟩:=by
 refine ⟨rfl,fun C E w y hm hH hR=>?_⟩
 have hng:=VL hR
 have hS:Sim C E ⟨[(0,s)],hp,n,1,[]⟩ { tmps:=#[y],defers:=C.ds } w:=by
  refine ⟨fun t=>?_,rfl,Uu,fun t j b u ht=>?_,hH⟩
  . simp only [ZI]
    split
    . rename_i ht;subst ht
      show FR w E (ltn n) _ _ s y
      cases s<;>first | exact hR | exact absurd rfl (hng _ _ _)
    . exact trivial
  . simp only [ZI] at ht
    split at ht
    . exact absurd ht (hng _ _ _)
    . cases ht
 obtain ⟨E',h'⟩:=h C E _ w hm hS
 refine ⟨E',h'.hs,?_⟩
 have:=h'.fr 0
 exact ZtY this (fun j b u e=>hg j b u (by simpa [lk] using e))
theorem entO {m:Nat} {b:Bool} {s s':SV} {hp hp':List (Nat × HB)} {n n':Nat} (ρ : Nat->Nat) (hf:mtS ρ n' s' s) (hp0:mtP ρ hp' hp n' n') (hb:hpb n' hp') (hρ : ∀ i,i < n'->∀ j,j < n'->ρ i = ρ j->i=j) (hm:Nat.ble m n'=true) (hfix:∀ i,i < m->ρ i=i):Zkb m ⟨b,s,hp,n⟩ ⟨b,s',hp',n'⟩ :=
 ZpT (ent ρ (show mtF ρ n' [] [(0,s')] [(0,s)] from ⟨hf,trivial⟩) hp0 hb hρ rfl hm hfix) (ZbG hf)
theorem Xc {m:Nat} {b:Bool} {s s':SV} {hp hp':List (Nat × HB)} {n n':Nat} (hf:mtS id n' s' s) (hp0:mtP id hp' hp n' n') (hb:hpb n' hp') (hm:Nat.ble m n'=true):Zkb m ⟨b,s,hp,n⟩ ⟨b,s',hp',n'⟩ :=
 entO id hf hp0 hb (fun _ _ _ _ h=>h) hm (fun _ _=>rfl)
theorem callm {P:Program} {f:FuncId} {args args0:List SV} {d:Option Nat} {σ : St} {r:KT} {K:RK} {hp0:List (Nat × HB)} {n0:Nat} {o:Ot} (ρ : Nat->Nat) (hc:CtM P f hp0 n0 args0 (· = o)) (h1:mtL ρ n0 args0 args) (h2:mtP ρ hp0 σ.hp n0 n0) (h3:ZwC ρ n0) (h4:∀ i,i < n0->ρ i < σ.n)
 (h5:cmK o.pn (rnS (exR ρ n0 σ.n) o.res) (hpM ρ n0 σ.n o σ.hp) (σ.n+(o.n - n0)) d σ r K):Zbz P f args d σ r K :=
 ⟨hp0,n0,args0,_,ρ,hc,h1,h2,h3,h4,fun _ e=>e ▸ h5⟩
def rho:List Nat->Nat->Nat
 | [],_=>0
 | a :: _,0=>a
 | _ :: l,k+1=>rho l k
theorem X0:∀ (l:List Nat) (k:Nat) (h:k < l.length),rho l k=l[k]
 | a :: _,0,_=>rfl
 | _ :: l,k+1,h=>by simpa [rho] using X0 l k (by simpa using h)
theorem Za5 {P:Program} {f:FuncId} {args args0:List SV} {d:Option Nat} {σ : St} {r:KT} {K:RK} {hp0:List (Nat × HB)} {n0:Nat} {o:Ot} (l:List Nat) (hc:CtM P f hp0 n0 args0 (· = o)) (hn:Nat.beq l.length n0=true) (hi:Uv l=true) (hl:VW σ.n l=true)
 (h1:mtL (rho l) n0 args0 args) (h2:mtP (rho l) hp0 σ.hp n0 n0) (h5:cmK o.pn (rnS (exR (rho l) n0 σ.n) o.res) (hpM (rho l) n0 σ.n o σ.hp) (σ.n+(o.n - n0)) d σ r K):Zbz P f args d σ r K:=by
 have hn:=Nat.eq_of_beq_eq_true hn
 refine callm (rho l) hc h1 h2 (fun i hi' j hj e=>?_) (fun i hi'=>?_) h5
 . rw [X0 l i (by omega),X0 l j (by omega)] at e
   have hp:=List.pairwise_iff_getElem.1 (Y6 hi)
   rcases Nat.lt_trichotomy i j with h | h | h
   . exact absurd e (hp i j _ _ h)
   . exact h
   . exact absurd e.symm (hp j i _ _ h)
 . rw [X0 l i (by omega)];exact Vq hl _ (List.getElem_mem _)
theorem Zi {m0:Nat} {σ σ':St} (hf:mtF id σ'.n [] σ'.fr σ.fr) (hp:mtP id σ'.hp σ.hp σ'.n σ'.n) (hb:hpb σ'.n σ'.hp) (hN:Nat.beq σ'.N σ.N=true) (hm:Nat.ble m0 σ'.n=true):Ent m0 σ σ':=ent id hf hp hb (fun _ _ _ _ h=>h) hN hm (fun _ _=>rfl)
theorem ZuH {fr:List (Nat × SV)} {j j':Nat} {w w' b:Bool} {p:Prop} (hl:lk j fr = .gd j' w' (.v (.bool b))) (h:b=w->p):ZcU (some (j,w)) fr p:=fun hg=>h (by have:=(ZeR hg hl).2;simpa using this)
theorem imp_v {fr:List (Nat × SV)} {j:Nat} {w b:Bool} {p:Prop} (hl:lk j fr = .v (.bool b)) (h:b=w->p):ZcU (some (j,w)) fr p:=fun hg=>h (Zu5 hg hl)
theorem ZoW {xs:List (List SV)} {i:Int} {σ : St} {r:KT} {L:RK} {d:Option Nat} {j j':Nat} {w w' b:Bool} (n:Nat) (row:List SV) (hl:lk j σ.fr = .gd j' w' (.v (.bool b))) (h:b=w->i=(n:Int)/\xs[n]? = some row) (hk:Yp d (.ps row 0) (some (j,w)) σ r L) :
 IXS (some (j,w)) xs i d σ r L:=⟨row,ZuH hl fun e=>⟨n,(h e).1,(h e).2⟩,hk⟩
theorem Zwz {g:Option (Nat × Bool)} {m b:Nat} {xs ys:List (List SV)} {d:Option Nat} {σ : St} {r:KT} {L:RK} (h:(xs.length+ys.length) * b<=140737488355328) (hk:Yp d (.sl false m (xs ++ ys)) g σ r L):APP g m b xs ys d σ r L:=⟨ZK.2 fun _=>h,hk⟩
theorem ZfL {g:Option (Nat × Bool)} {k v m len:Nat} {i:Int} {d:Option Nat} {σ : St} {r:KT} {L:RK} (n:Nat) (hi:i=(n:Int)) (hn:n < len) (hk:Yp d (.pr k v m n 0) g σ r L):IXR g k v m len i d σ r L:=⟨n,ZK.2 fun _=>⟨hi,hn⟩,hk⟩
theorem Zgv {α : Type} {l:List α} {f:α->List SV} {g:Option (Nat × Bool)} {i o m:Nat} {ag:Bool} {d:Option Nat} {σ : St} {r:KT} {L:RK} (hn:i < l.length) (hk:XU (Xx (f l[i]) o m ag) d g σ r L):LDR g (l.map f) i o m ag d σ r L:=⟨f l[i],ZK.2 fun _=>by simp [hn],hk⟩
theorem strm {α : Type} {l:List α} {f:α->List SV} {j o k v m:Nat} {c:List SV} {T:TypeId} {σ : St} {r:KT} {L:RK} (y:α) (hn:j < l.length) (ho:o+c.length<=(f l[j]).length) (he:Zw (f l[j]) o c=f y)
 (h:r ⟨σ.fr,(k,.row v m ((l.set j y).map f) T) :: σ.hp,σ.n,σ.N,σ.gs⟩ L):STR v (l.map f) j o k m c T σ r L :=
 ⟨f l[j],by simp [hn],ho,by rw [he,<- List.map_set];exact h⟩
theorem Zpi {k v m len:Nat} {i:Int} {d:Option Nat} {σ : St} {r:KT} {L:RK} {j:Nat} {w b:Bool} (n:Nat) (hl:lk j σ.fr = .v (.bool b)) (h:b=w->i=(n:Int)/\n < len) (hk:Yp d (.pr k v m n 0) (some (j,w)) σ r L):IXR (some (j,w)) k v m len i d σ r L:=⟨n,imp_v hl h,hk⟩
theorem Vi {r:List SV} (h:KFL r):∀ n,KFR (List.replicate n r)
 | 0=>trivial
 | n+1=>⟨h,Vi h n⟩
theorem Zce {P:Program} {f:FuncId} {args args0:List SV} {d:Option Nat} {σ : St} {r:KT} {K:RK} {hp0:List (Nat × HB)} {n0:Nat} {YE:Ot->Prop} (l:List Nat) (hc:CtM P f hp0 n0 args0 YE) (hn:Nat.beq l.length n0=true) (hi:Uv l=true) (hl:VW σ.n l=true)
 (h1:mtL (rho l) n0 args0 args) (h2:mtP (rho l) hp0 σ.hp n0 n0) (h5:∀ o,YE o->cmK o.pn (rnS (exR (rho l) n0 σ.n) o.res) (hpM (rho l) n0 σ.n o σ.hp) (σ.n+(o.n - n0)) d σ r K):Zbz P f args d σ r K:=by
 have hn:=Nat.eq_of_beq_eq_true hn
 refine ⟨hp0,n0,args0,YE,rho l,hc,h1,h2,fun i hi' j hj e=>?_,fun i hi'=>?_,h5⟩
 . rw [X0 l i (by omega),X0 l j (by omega)] at e
   have hp:=List.pairwise_iff_getElem.1 (Y6 hi)
   rcases Nat.lt_trichotomy i j with h | h | h
   . exact absurd e (hp i j _ _ h)
   . exact h
   . exact absurd e.symm (hp j i _ _ h)
 . rw [X0 l i (by omega)]
   exact Vq hl _ (List.getElem_mem _)
theorem Wt {P:Program} {d:Option Nat} {op:BinOp} {t t' ty u:Nat} {c x v:Value} {σ : St} {r:KT} {K:RK} (hl:lk u σ.fr = .v x) (hop:op = .and\/op = .shr) (hr:∀ w:World,(binOp op t x c).run P w = .ok v w) (hv:v.oneCell'=true) (hk:Yp d (.v v) none σ r K) :
 RAW P d (.binOp op t (.tmp u) (.const c) t') ty σ r K:=by
 intro o C E a w next Q h1 h2 h3 hs hn hq
 have hx:a.eval (.tmp u)=x:=by
  have:=hs.fr u
  rw [hl] at this
  simp only [FR,R] at this
  exact this
 have hrun:(execOp a.eval o).run P w = .ok (.value v) w:=by
  obtain ⟨dst,op',ty',pos,after,guard⟩:=o
  simp only at h2;subst h2
  have hc:a.eval (.const c)=c:=rfl
  simp only [execOp,hx,hc]
  rcases hop with rfl | rfl<;>simp [Sem.run_bind,eqGuard,hr]
 refine ZJ hrun (by simp) ?_
 show next (a.put o.dst v) w
 rcases Ug hk with ⟨g1,g2⟩ | ⟨t,g1,g2,g3,g4,g5⟩
 . have hS:=hs
   rw [h1,g1]
   exact hn _ E _ _ g2 hS
 . rw [h1,g1]
   exact hn _ E _ _ g5 (Xk hs (fun b hb _=>⟨hb,rfl⟩) (fun _ _=>Ele.rfl) (Nat.le_refl _) hs.hs g2 g3 (fun j b u e=>by rw [e] at g4;cases g4) (by simp only [R]))
theorem w64_0:IntKind.i64.wrap 0=0:=rfl
theorem w64_1:IntKind.i64.wrap 1=1:=rfl
theorem w64_2:IntKind.i64.wrap 2=2:=rfl
theorem w64_3:IntKind.i64.wrap 3=3:=rfl
theorem w64_4:IntKind.i64.wrap 4=4:=rfl
theorem w64_5:IntKind.i64.wrap 5=5:=rfl
theorem w64_6:IntKind.i64.wrap 6=6:=rfl
def lkB (b:Bool) (s:SV) (t:Nat) (r:List (Nat × SV)):SV:=bif b then s else lk t r
def lkhB (b:Bool) (s:HB) (t:Nat) (r:List (Nat × HB)):HB:=bif b then s else lkh t r
def Zte (b:Bool) (t:Nat) (r:List Nat):Bool:=bif b then true else Y3 t r
def blkE (b:Bool) (i:Nat) (K:Ex->St->Prop) (σ : St):Prop:=bif b then K .n σ else K (.ex i) σ
def ZoV (b:Bool) (s:SV):Option (List SV):=bif b then some [s] else none
def ZuB (c:Bool) (b:BinOp) (k:IntKind) (x y:Int):Option SV:=bif c then Zfv b k x y else none
def Zu9 (b:Bool) (l:List SV) (o m:Nat):Option SV:=bif b then some (.agg ((l.drop o).take m)) else none
theorem lkB_t (s:SV) (t:Nat) (r:List (Nat × SV)):lkB true s t r=s:=rfl
theorem lkB_f (s:SV) (t:Nat) (r:List (Nat × SV)):lkB false s t r=lk t r:=rfl
theorem ZuN (s:HB) (t:Nat) (r:List (Nat × HB)):lkhB true s t r=s:=rfl
theorem Zvz (s:HB) (t:Nat) (r:List (Nat × HB)):lkhB false s t r=lkh t r:=rfl
theorem ZpX (t:Nat) (r:List Nat):Zte true t r=true:=rfl
theorem ZrT (t:Nat) (r:List Nat):Zte false t r=Y3 t r:=rfl
theorem Zup (i:Nat) (K:Ex->St->Prop) (σ : St):blkE true i K σ = K .n σ:=rfl
theorem Zwc (i:Nat) (K:Ex->St->Prop) (σ : St):blkE false i K σ = K (.ex i) σ:=rfl
theorem ZlZ (s:SV):ZoV true s=some [s]:=rfl
theorem ZrV (b:BinOp) (k:IntKind) (x y:Int):ZuB true b k x y=Zfv b k x y:=rfl
theorem ZpV (l:List SV) (o m:Nat):Zu9 true l o m=some (.agg ((l.drop o).take m)):=rfl
def mmE (k:IntKind):Option Int->Option SV
 | some z=>some (.v (.int k z))
 | none=>none
def chkB (b:Bool) (l:List SV) (ls:List (List SV)):Option (List (List SV)):=bif b then some (l :: ls) else none
theorem ZvY (l:List SV) (ls:List (List SV)):chkB true l ls=some (l :: ls):=rfl
theorem ZuD (b:Bool):WW true b=b:=rfl
theorem Zul (b:Bool):WW false b=false:=rfl
def vwP (g:SV->SV) (o:Nat):HB->SV
 | .cells l _=>.ps (ZaS g l) o
 | _=>.any
def vwM (v:Nat):HB->SV
 | .row v' m xs _=>vwN (Nat.beq v v') m xs
 | .rws v' m xs _ o m' inn _=>vwN (Nat.beq v v') m (Zdd o m' inn xs)
 | _=>.any
def cvtM (v:Nat):HB->SV
 | .row v' m xs _=>vwN (Nat.beq v v') m xs
 | _=>.any
def rvH (o m:Nat) (ag:Bool):HB->Option SV
 | .cells l _=>Xx l o m ag
 | _=>none
def rvX (hp:List (Nat × HB)) (m:Nat) (ag:Bool):SV->Option SV
 | .p k o=>rvH o m ag (lkh k hp)
 | _=>none
def pvF (o m:Nat) (ag:Bool):SV->Option SV
 | .agg l=>Xx l o m ag
 | _=>none
def pvC (k:IntKind):SV->Option SV
 | .v (.int _ n)=>some (.v (.int k (k.wrap n)))
 | _=>none
def pvE (i:Nat):SV->Option SV
 | .tup l=>nth l i
 | _=>none
theorem e_lk (t u:Nat) (s:SV) (r:List (Nat × SV)):lk t ((u,s) :: r)=lkB (Nat.beq t u) s t r:=rfl
theorem e_lk0 (t:Nat):lk t [] = .any:=rfl
theorem e_lkh (t u:Nat) (s:HB) (r:List (Nat × HB)):lkh t ((u,s) :: r)=lkhB (Nat.beq t u) s t r:=rfl
theorem ZvS (t:Nat):lkh t [] = .gone:=rfl
theorem ZvM (t u:Nat) (r:List Nat):Y3 t (u :: r)=Zte (Nat.beq t u) t r:=rfl
theorem ZrB (t:Nat):Y3 t []=false:=rfl
theorem e_blk (id i:Nat) (K:Ex->St->Prop) (σ : St):Zpe id K (.ex i) σ = blkE (Nat.beq i id) i K σ:=rfl
theorem Zik (g:Option (Nat × Bool)) (fr:List (Nat × SV)) (x:Value):YW g fr (.v x)=(.v x):=rfl
theorem ZoL (t:Nat) (r:List (Nat × SV)) (x:Value):Ym ((t,(.v x)) :: r)=(t,(.v x)) :: Ym r:=rfl
theorem ZpZ (hp:List (Nat × HB)) (x:Value):cvt hp (.v x)=(.v x):=rfl
theorem ZpI (hp:List (Nat × HB)) (g:SV->SV) (x:Value):vwS hp g (.v x)=(.v x):=rfl
theorem Zsm (x:Value):vw0 (.v x)=(.v x):=rfl
theorem Zgw (x:Value):Yh (.v x)=ZoV (Zc8 x) (.v x):=rfl
theorem Zmy (x:Value):VS (.v x)=Zc8 x:=rfl
theorem ZgV (g:Option (Nat × Bool)) (fr:List (Nat × SV)) (k o:Nat):YW g fr (.p k o)=(.p k o):=rfl
theorem Zl9 (t:Nat) (r:List (Nat × SV)) (k o:Nat):Ym ((t,(.p k o)) :: r)=(t,(.p k o)) :: Ym r:=rfl
theorem ZsA (hp:List (Nat × HB)) (k o:Nat):cvt hp (.p k o)=(.p k o):=rfl
theorem Zsf (hp:List (Nat × HB)) (g:SV->SV) (k o:Nat):vwS hp g (.p k o)=vwP g o (lkh k hp):=rfl
theorem Zp1 (k o:Nat):vw0 (.p k o) = .any:=rfl
theorem Zgb (k o:Nat):Yh (.p k o)=some [(.p k o)]:=rfl
theorem ZmZ (k o:Nat):VS (.p k o)=true:=rfl
theorem Zdl (g:Option (Nat × Bool)) (fr:List (Nat × SV)) (l:List SV):YW g fr (.agg l)=(.agg l):=rfl
theorem ZfA (t:Nat) (r:List (Nat × SV)) (l:List SV):Ym ((t,(.agg l)) :: r)=(t,(.agg l)) :: Ym r:=rfl
theorem Zg0 (hp:List (Nat × HB)) (l:List SV):cvt hp (.agg l) = .agg (Zf9 hp l):=rfl
theorem ZgX (hp:List (Nat × HB)) (g:SV->SV) (l:List SV):vwS hp g (.agg l) = .agg (ZaS g l):=rfl
theorem Zjq (l:List SV):vw0 (.agg l) = .any:=rfl
theorem Zde (l:List SV):Yh (.agg l)=some l:=rfl
theorem Zey (l:List SV):VS (.agg l)=false:=rfl
theorem Ze9 (g:Option (Nat × Bool)) (fr:List (Nat × SV)) (c:Bool) (m:Nat) (xs:List (List SV)):YW g fr (.sl c m xs)=(.sl c m xs):=rfl
theorem Zhm (t:Nat) (r:List (Nat × SV)) (c:Bool) (m:Nat) (xs:List (List SV)):Ym ((t,(.sl c m xs)) :: r)=(t,(.sl c m xs)) :: Ym r:=rfl
theorem Zm9 (hp:List (Nat × HB)) (c:Bool) (m:Nat) (xs:List (List SV)):cvt hp (.sl c m xs)=(.sl c m xs):=rfl
theorem Zov (hp:List (Nat × HB)) (g:SV->SV) (c:Bool) (m:Nat) (xs:List (List SV)):vwS hp g (.sl c m xs)=(.sl c m xs):=rfl
theorem Zoc (c:Bool) (m:Nat) (xs:List (List SV)):vw0 (.sl c m xs)=(.sl c m xs):=rfl
theorem Zft (c:Bool) (m:Nat) (xs:List (List SV)):Yh (.sl c m xs)=some [(.sl c m xs)]:=rfl
theorem Zgx (c:Bool) (m:Nat) (xs:List (List SV)):VS (.sl c m xs)=true:=rfl
theorem ZtB (l:List SV):pmS [] l=[]:=rfl
theorem Zfy (g:Option (Nat × Bool)) (fr:List (Nat × SV)) (k v:Nat):YW g fr (.mr k v)=(.mr k v):=rfl
theorem Zji (t:Nat) (r:List (Nat × SV)) (k v:Nat):Ym ((t,(.mr k v)) :: r)=(t,(.mr k v)) :: Ym r:=rfl
theorem ZmE (hp:List (Nat × HB)) (k v:Nat):cvt hp (.mr k v)=cvtM v (lkh k hp):=rfl
theorem ZnZ (hp:List (Nat × HB)) (g:SV->SV) (k v:Nat):vwS hp g (.mr k v)=vwM v (lkh k hp):=rfl
theorem Zkq (k v:Nat):vw0 (.mr k v) = .any:=rfl
theorem ZeI (k v:Nat):Yh (.mr k v)=some [(.mr k v)]:=rfl
theorem Zjh (k v:Nat):VS (.mr k v)=true:=rfl
theorem Zfl (g:Option (Nat × Bool)) (fr:List (Nat × SV)) (k v m i o:Nat):YW g fr (.pr k v m i o)=(.pr k v m i o):=rfl
theorem Zfk (g:Option (Nat × Bool)) (fr:List (Nat × SV)) (k v m i o:Nat):YW g fr (.ms k v m i o)=(.ms k v m i o):=rfl
theorem ZgH (t:Nat) (r:List (Nat × SV)) (k v m i o:Nat):Ym ((t,(.pr k v m i o)) :: r)=(t,(.pr k v m i o)) :: Ym r:=rfl
theorem Zjn (t:Nat) (r:List (Nat × SV)) (k v m i o:Nat):Ym ((t,(.ms k v m i o)) :: r)=(t,(.ms k v m i o)) :: Ym r:=rfl
theorem Zmw (hp:List (Nat × HB)) (k v m i o:Nat):cvt hp (.pr k v m i o)=(.pr k v m i o):=rfl
theorem Zmf (hp:List (Nat × HB)) (k v m i o:Nat):cvt hp (.ms k v m i o)=(.ms k v m i o):=rfl
theorem Zn0 (hp:List (Nat × HB)) (g:SV->SV) (k v m i o:Nat):vwS hp g (.pr k v m i o)=(.pr k v m i o):=rfl
theorem Zom (hp:List (Nat × HB)) (g:SV->SV) (k v m i o:Nat):vwS hp g (.ms k v m i o)=(.ms k v m i o):=rfl
theorem ZlC (k v m i o:Nat):vw0 (.pr k v m i o) = .any:=rfl
theorem Zkv (k v m i o:Nat):vw0 (.ms k v m i o) = .any:=rfl
theorem Zez (k v m i o:Nat):Yh (.pr k v m i o)=some [(.pr k v m i o)]:=rfl
theorem Zeo (k v m i o:Nat):Yh (.ms k v m i o)=some [(.ms k v m i o)]:=rfl
theorem Zjd (k v m i o:Nat):VS (.pr k v m i o)=true:=rfl
theorem Zif (k v m i o:Nat):VS (.ms k v m i o)=true:=rfl
theorem Zfx (g:Option (Nat × Bool)) (fr:List (Nat × SV)) (row:List SV) (o:Nat):YW g fr (.ps row o)=(.ps row o):=rfl
theorem Zir (t:Nat) (r:List (Nat × SV)) (row:List SV) (o:Nat):Ym ((t,(.ps row o)) :: r)=(t,(.ps row o)) :: Ym r:=rfl
theorem Zlb (hp:List (Nat × HB)) (row:List SV) (o:Nat):cvt hp (.ps row o)=(.ps row o):=rfl
theorem ZkM (hp:List (Nat × HB)) (g:SV->SV) (l:List SV) (o:Nat):vwS hp g (.ps l o) = .ps (ZaS g l) o:=rfl
theorem Zok (row:List SV) (o:Nat):vw0 (.ps row o) = .any:=rfl
theorem ZeZ (row:List SV) (o:Nat):Yh (.ps row o)=some [(.ps row o)]:=rfl
theorem ZhK (row:List SV) (o:Nat):VS (.ps row o)=true:=rfl
theorem Zfo (g:Option (Nat × Bool)) (fr:List (Nat × SV)) (f:FuncId) (l:List SV):YW g fr (.cl f l)=(.cl f l):=rfl
theorem Zh2 (t:Nat) (r:List (Nat × SV)) (f:FuncId) (l:List SV):Ym ((t,(.cl f l)) :: r)=(t,(.cl f l)) :: Ym r:=rfl
theorem Zkj (hp:List (Nat × HB)) (f:FuncId) (l:List SV):cvt hp (.cl f l)=(.cl f l):=rfl
theorem ZjL (hp:List (Nat × HB)) (g:SV->SV) (f:FuncId) (l:List SV):vwS hp g (.cl f l) = .cl f (ZaS g l):=rfl
theorem Zk7 (f:FuncId) (l:List SV):vw0 (.cl f l) = .any:=rfl
theorem Zew (f:FuncId) (l:List SV):Yh (.cl f l)=some [(.cl f l)]:=rfl
theorem Zjo (f:FuncId) (l:List SV):VS (.cl f l)=true:=rfl
theorem ZdA (g:Option (Nat × Bool)) (fr:List (Nat × SV)) (l:List SV):YW g fr (.tup l)=(.tup l):=rfl
theorem ZfB (t:Nat) (r:List (Nat × SV)) (l:List SV):Ym ((t,(.tup l)) :: r)=(t,(.tup l)) :: Ym r:=rfl
theorem Zi7 (hp:List (Nat × HB)) (l:List SV):cvt hp (.tup l) = .tup (Zf9 hp l):=rfl
theorem ZgZ (hp:List (Nat × HB)) (g:SV->SV) (l:List SV):vwS hp g (.tup l) = .tup (ZaS g l):=rfl
theorem Zhu (l:List SV):vw0 (.tup l) = .any:=rfl
theorem Zek (l:List SV):VS (.tup l)=false:=rfl
theorem ZfX (g:Option (Nat × Bool)) (fr:List (Nat × SV)) (φ : VP):YW g fr (.q φ)=(.q φ):=rfl
theorem Zky (t:Nat) (r:List (Nat × SV)) (φ : VP):Ym ((t,(.q φ)) :: r)=(t,(.q φ)) :: Ym r:=rfl
theorem Zr3 (hp:List (Nat × HB)) (φ : VP):cvt hp (.q φ)=(.q φ):=rfl
theorem Zp2 (hp:List (Nat × HB)) (g:SV->SV) (φ : VP):vwS hp g (.q φ)=(.q φ):=rfl
theorem ZsJ (φ : VP):vw0 (.q φ)=(.q φ):=rfl
theorem Zhl (φ : VP):Yh (.q φ)=some [(.q φ)]:=rfl
theorem ZmM (φ : VP):VS (.q φ)=true:=rfl
theorem Zfb (g:Option (Nat × Bool)) (fr:List (Nat × SV)) (k:Nat):YW g fr (.mp k)=(.mp k):=rfl
theorem ZgJ (t:Nat) (r:List (Nat × SV)) (k:Nat):Ym ((t,(.mp k)) :: r)=(t,(.mp k)) :: Ym r:=rfl
theorem ZjE (hp:List (Nat × HB)) (k:Nat):cvt hp (.mp k)=(.mp k):=rfl
theorem ZlF (hp:List (Nat × HB)) (g:SV->SV) (k:Nat):vwS hp g (.mp k) = .any:=rfl
theorem ZoO (k:Nat):vw0 (.mp k) = .any:=rfl
theorem Ze6 (k:Nat):Yh (.mp k)=some [(.mp k)]:=rfl
theorem Zid (k:Nat):VS (.mp k)=true:=rfl
theorem ZeD (g:Option (Nat × Bool)) (fr:List (Nat × SV)) (k:Nat):YW g fr (.yl k)=(.yl k):=rfl
theorem ZiB (t:Nat) (r:List (Nat × SV)) (k:Nat):Ym ((t,(.yl k)) :: r)=(t,(.yl k)) :: Ym r:=rfl
theorem Zfw (k:Nat):Yh (.yl k)=some [(.yl k)]:=rfl
theorem ZiP (k:Nat):VS (.yl k)=true:=rfl
theorem Zdx (g:Option (Nat × Bool)) (fr:List (Nat × SV)) (T:TypeId) (s:SV):YW g fr (.ifc T s)=(.ifc T s):=rfl
theorem Zes (t:Nat) (r:List (Nat × SV)) (T:TypeId) (s:SV):Ym ((t,(.ifc T s)) :: r)=(t,(.ifc T s)) :: Ym r:=rfl
theorem Zil (hp:List (Nat × HB)) (T:TypeId) (s:SV):cvt hp (.ifc T s) = .ifc T (cvt hp s):=rfl
theorem Zhx (hp:List (Nat × HB)) (g:SV->SV) (T:TypeId) (s:SV):vwS hp g (.ifc T s) = .ifc T (g s):=rfl
theorem ZhA (T:TypeId) (s:SV):vw0 (.ifc T s) = .any:=rfl
theorem Zdp (T:TypeId) (s:SV):Yh (.ifc T s)=some [(.ifc T s)]:=rfl
theorem Zfs (T:TypeId) (s:SV):VS (.ifc T s)=true:=rfl
theorem Zdi (P:Program) (Y:Hd) (d:Option Nat) (σ : St) (r:KT) (K:RK) (f:FuncId) (as:List X):stp P Y d (.callm f as) σ r K=Zbz P f (Uf (rdG none σ.fr) as) d σ r K:=rfl
theorem ZcY (P:Program) (Y:Hd) (d:Option Nat) (σ : St) (r:KT) (K:RK) (x:X) (as:List X):stp P Y d (.calvm x as) σ r K=ZeB P Y (rdG none σ.fr x) (Uf (rdG none σ.fr) as) d σ r K:=rfl
theorem e_yld (asg body:Nat->CT) (ps:List Nat) (kl:Nat) (rec:Loop) (fr:List (Nat × SV)) (N k:Nat) (args:List SV) (d:Option Nat) (σ : St) (r:KT) (K:RK):YLD (hdR asg body ps kl rec fr N) k args d σ r K =
 rfB (Nat.beq k kl) (Zo8 rec (lkh kl σ.hp)/\rfB (Zjw args ps) (asg σ.n ⟨pmS ps args ++ fr,σ.hp,σ.n,N,[]⟩ (asE kl rec (body σ.n) (bdE kl rec fun o=>cmK o.pn o.res o.hp o.n d σ r K)))):=rfl
theorem e_exR (ρ : Nat->Nat) (n0 n k:Nat):exR ρ n0 n k=exB (Nat.blt k n0) (ρ k) (n+(k - n0)):=rfl
theorem e_hpM (ρ : Nat->Nat) (n0 n:Nat) (o:Ot) (hp:List (Nat × HB)):hpM ρ n0 n o hp=rnP (exR ρ n0 n) o.hp ++ (U9 ρ n0 ++ hp):=rfl
theorem ZhR (P:Program) (Y:Hd) (m:Nat) (g:X) (ps:List Nat) (asg body:SC) (σ : St) (K:Ex->St->Prop):sx P Y m (.rfun g ps asg body) σ K=rfK P (fun n=>sx P Y0 n asg) (fun n=>sx P Y0 n body) (rdG none σ.fr g) ps σ K:=rfl
theorem ZcX (g:Option (Nat × Bool)) (fr:List (Nat × SV))  : YW g fr (.any)=(.any):=rfl
theorem Zfm (t:Nat) (r:List (Nat × SV))  : Ym ((t,(.any)) :: r)=(t,(.any)) :: Ym r:=rfl
theorem ZgK (hp:List (Nat × HB))  : cvt hp (.any)=(.any):=rfl
theorem Zi3 (hp:List (Nat × HB)) (g:SV->SV)  : vwS hp g (.any)=(.any):=rfl
theorem ZiR  : vw0 (.any) = .any:=rfl
theorem Zex  : VS (.any)=false:=rfl
theorem ZgY (t j:Nat) (w:Bool) (s:SV) (r:List (Nat × SV)):Ym ((t,.gd j w s) :: r)=(t,.any) :: Ym r:=rfl
theorem Zrt  : Ym []=[]:=rfl
theorem Zdv (fr:List (Nat × SV)) (j:Nat) (w:Bool) (s:SV):YW none fr (.gd j w s) = .any:=rfl
theorem Zfe (fr:List (Nat × SV)) (j j0:Nat) (w w0:Bool) (s:SV):YW (some (j0,w0)) fr (.gd j w s)=Zdq (alw 8 fr j0 w0 j w) s:=rfl
theorem Zds (b:Bool):Zc8 (.bool b)=true:=rfl
theorem Zem (k:IntKind) (n:Int):Zc8 (.int k n)=true:=rfl
theorem ZbA (s:ByteArray):Zc8 (.string s)=true:=rfl
theorem ZaV (p:Option Addr):Zc8 (.pointer p)=true:=rfl
theorem Zct (a:Option Addr) (l c:Nat):Zc8 (.slice a l c)=true:=rfl
theorem ZaT  : Zc8 .nilFunc=true:=rfl
theorem Zad  : Zc8 .nilIface=true:=rfl
theorem e_rdG (g:Option (Nat × Bool)) (fr:List (Nat × SV)) (x:X):rdG g fr x=YW g fr (rd fr x):=rfl
theorem Zvl (fr:List (Nat × SV)) (n:Nat):rd fr (.t n)=lk n fr:=rfl
theorem Zu7 (fr:List (Nat × SV)) (x:Value):rd fr (.c x) = .v x:=rfl
theorem ZuI (fr:List (Nat × SV)) (i:Nat):rd fr (.f i) = .cl i []:=rfl
theorem e_alw (f:Nat) (fr:List (Nat × SV)) (j0:Nat) (w0:Bool) (j:Nat) (w:Bool):alw (f+1) fr j0 w0 j w=ZtW (ZfG (Nat.beq j0 j) w0 w) (lk j0 fr) (alw f fr) j w:=rfl
theorem Zuv (fr:List (Nat × SV)) (j0:Nat) (w0:Bool) (j:Nat) (w:Bool):alw 0 fr j0 w0 j w=false:=rfl
theorem e_vw1 (hp:List (Nat × HB)) (s:SV):vw1 hp s=vwS hp vw0 s:=rfl
theorem e_vw2 (hp:List (Nat × HB)) (s:SV):vw2 hp s=vwS hp (vw1 hp) s:=rfl
theorem e_vw3 (hp:List (Nat × HB)) (s:SV):vw3 hp s=vwS hp (vw2 hp) s:=rfl
theorem e_vw4 (hp:List (Nat × HB)) (s:SV):vw4 hp s=vwS hp (vw3 hp) s:=rfl
theorem ZjO (fr:List (Nat × SV)) (hp:List (Nat × HB)) (n N:Nat):WX ⟨fr,hp,n,N,[]⟩=⟨fr,hp,n,N,[]⟩:=rfl
theorem Zn9 (fr:List (Nat × SV)) (hp:List (Nat × HB)) (n N j:Nat) (l:List Nat):WX ⟨fr,hp,n,N,j :: l⟩=⟨Ym fr,hp,n,N,[]⟩:=rfl
theorem Zuu (b:BinOp) (k j:IntKind) (x y:Int):Zt8 b (.v (.int k x)) (.v (.int j y))=ZuB (ZbK k j) b k x y:=rfl
theorem ZhP (b:Bool):uni .not (.v (.bool b))=some (.v (.bool (!b))):=rfl
theorem ZiY (k:IntKind) (n:Int):uni .neg (.v (.int k n))=some (.v (.int k (k.wrap (0 - n)))):=rfl
theorem Zfh (k:IntKind) (x y:Int):Zfv .add k x y=some (.v (.int k (k.wrap (x+y)))):=rfl
theorem ZeK (k:IntKind) (x y:Int):Zfv .sub k x y=some (.v (.int k (k.wrap (x - y)))):=rfl
theorem ZeA (k:IntKind) (x y:Int):Zfv .mul k x y=some (.v (.int k (k.wrap (x * y)))):=rfl
theorem ZfI (k:IntKind) (x y:Int):Zfv .eql k x y=some (.v (.bool (x == y))):=rfl
theorem Zeq (k:IntKind) (x y:Int):Zfv .neq k x y=some (.v (.bool (x != y))):=rfl
theorem ZfF (k:IntKind) (x y:Int):Zfv .lss k x y=some (.v (.bool (decide (x < y)))):=rfl
theorem Zep (k:IntKind) (x y:Int):Zfv .leq k x y=some (.v (.bool (decide (x<=y)))):=rfl
theorem ZeX (k:IntKind) (x y:Int):Zfv .gtr k x y=some (.v (.bool (decide (x > y)))):=rfl
theorem Zen (k:IntKind) (x y:Int):Zfv .geq k x y=some (.v (.bool (decide (x ≥ y)))):=rfl
theorem ZgU  : ZbK .i8 .i8=true:=rfl
theorem ZeY  : ZbK .i16 .i16=true:=rfl
theorem ZeS  : ZbK .i32 .i32=true:=rfl
theorem Zfn  : ZbK .i64 .i64=true:=rfl
theorem Zjm  : ZbK .u8 .u8=true:=rfl
theorem ZeV  : ZbK .u16 .u16=true:=rfl
theorem Zet  : ZbK .u32 .u32=true:=rfl
theorem Zfz  : ZbK .u64 .u64=true:=rfl
theorem Znv (o:Nat) (k q:Nat):Vu o (.p k q)=some (.p k (q+o)):=rfl
theorem Zms (k q:Nat):ZcE (.p k q)=some (.p k q):=rfl
theorem ZfZ (o:Nat) (k v m i q:Nat):Vu o (.pr k v m i q)=some (.pr k v m i (q+o)):=rfl
theorem ZgD (k v m i q:Nat):ZcE (.pr k v m i q)=some (.pr k v m i q):=rfl
theorem ZgS (o:Nat) (row:List SV) (q:Nat):Vu o (.ps row q)=some (.ps row (q+o)):=rfl
theorem ZiJ (row:List SV) (q:Nat):ZcE (.ps row q)=some (.ps row q):=rfl
theorem Zmp (l:List SV) (o m:Nat):Xx l o m true=Zu9 (Nat.ble (o+m) l.length) l o m:=rfl
theorem ZoE (l:List SV) (o m:Nat):Xx l o m false=nth l o:=rfl
theorem ZvL (mx:Bool) (x:Int):mmf mx x []=some x:=rfl
theorem ZsV (k:IntKind) (x y:Int) (r:List SV):mmf true x (.v (.int k y) :: r)=mmf true (max x y) r:=rfl
theorem ZqQ (k:IntKind) (x y:Int) (r:List SV):mmf false x (.v (.int k y) :: r)=mmf false (min x y) r:=rfl
theorem e_mm (mx:Bool) (k:IntKind) (x:Int) (r:List SV):mmS mx (.v (.int k x) :: r)=mmE k (mmf mx x r):=rfl
theorem e_bld (ρ : X->SV) (z:List SV) (ps:List (Nat × Nat × X)):bld ρ z ps=Zju z (Znu ρ ps):=rfl
theorem Zfi (ρ : X->SV) (z:List Value) (ps:List (Nat × Nat × X)):pv ρ (.build z ps)=Zu3 (bld ρ (lit z) ps):=rfl
theorem Zun (l:List SV) (m:Nat) (ls:List (List SV)):Zt2 (some l) m (some ls)=chkB (chk l m) l ls:=rfl
theorem Zls (s:SV) (l:List SV):Yi (s :: l)=WW (VS s) (Yi l):=rfl
theorem Zij  : Yi []=true:=rfl
theorem ZnP (fr:List (Nat × SV)) (g:Option (Nat × Bool)) (t:Nat) (b:X):Zfc fr g (.t t) (.c (.bool true)) b=Zfp (rdG g fr (.t t)) (rdG (some (t,false)) fr b):=rfl
theorem ZlW (fr:List (Nat × SV)) (g:Option (Nat × Bool)) (t n:Nat):Zfc fr g (.t t) (.t n) (.c (.bool false))=Zc7 (rdG g fr (.t t)) (rdG (some (t,true)) fr (.t n)):=rfl
theorem ZkV (fr:List (Nat × SV)) (g:Option (Nat × Bool)) (t:Nat):Zfc fr g (.t t) (.c (.bool false)) (.c (.bool false))=Zc7 (rdG g fr (.t t)) (rdG (some (t,true)) fr (.c (.bool false))):=rfl
theorem Zh1:Zc7 (.v (.bool false)) (.v undef)=some (.v (.bool false)):=rfl
theorem Zgl:Zfp (.v (.bool true)) (.v undef)=some (.v (.bool true)):=rfl
theorem e_rvR (rs:List RV) (σ : St):rvR rs σ = rvE (rvs σ rs):=rfl
theorem Zvu (σ : St):rvs σ []=some []:=rfl
theorem ZqS (σ : St) (t:Nat):rv1 σ (.tmp t)=some (rdG none σ.fr (.t t)):=rfl
theorem Zqx (σ : St) (t m:Nat) (ag:Bool):rv1 σ (.cell t m ag)=rvX σ.hp m ag (rdG none σ.fr (.t t)):=rfl
theorem Zly (P:Program) (Y:Hd) (d:Option Nat) (σ : St) (r:KT) (K:RK) (x:X):stp P Y d (.mv x) σ r K=Ya P none d (.mv x) σ r K:=rfl
theorem Zfj (P:Program) (Y:Hd) (d:Option Nat) (σ : St) (r:KT) (K:RK) (c a b:X):stp P Y d (.pick c a b) σ r K=Ya P none d (.pick c a b) σ r K:=rfl
theorem Zc6 (P:Program) (Y:Hd) (d:Option Nat) (σ : St) (r:KT) (K:RK) (z:List Value) (ps:List (Nat × Nat × X)):stp P Y d (.build z ps) σ r K=Ya P none d (.build z ps) σ r K:=rfl
theorem Zgj (P:Program) (Y:Hd) (d:Option Nat) (σ : St) (r:KT) (K:RK) (m:Nat) (T:TypeId) (ps:List X):stp P Y d (.bsl m T ps) σ r K=Ya P none d (.bsl m T ps) σ r K:=rfl
theorem Znk (P:Program) (Y:Hd) (d:Option Nat) (σ : St) (r:KT) (K:RK) (x:X) (m:Nat) (ag:Bool):stp P Y d (.ld x m ag) σ r K=Ya P none d (.ld x m ag) σ r K:=rfl
theorem ZeF (P:Program) (Y:Hd) (d:Option Nat) (σ : St) (r:KT) (K:RK) (x:X):stp P Y d (.nilc x) σ r K=Ya P none d (.nilc x) σ r K:=rfl
theorem Zhp (P:Program) (Y:Hd) (d:Option Nat) (σ : St) (r:KT) (K:RK) (b:BinOp) (x y:X):stp P Y d (.bin b x y) σ r K=Ya P none d (.bin b x y) σ r K:=rfl
theorem Zgf (P:Program) (Y:Hd) (d:Option Nat) (σ : St) (r:KT) (K:RK) (b:BinOp) (x y:X):stp P Y d (.div b x y) σ r K=Ya P none d (.div b x y) σ r K:=rfl
theorem ZoK (P:Program) (Y:Hd) (d:Option Nat) (σ : St) (r:KT) (K:RK) (u:UnOp) (x:X):stp P Y d (.un u x) σ r K=Ya P none d (.un u x) σ r K:=rfl
theorem ZeT (P:Program) (Y:Hd) (d:Option Nat) (σ : St) (r:KT) (K:RK) (x:X) (o:Nat):stp P Y d (.addo x o) σ r K=Ya P none d (.addo x o) σ r K:=rfl
theorem Zht (P:Program) (Y:Hd) (d:Option Nat) (σ : St) (r:KT) (K:RK) (x:X) (o m:Nat) (ag:Bool):stp P Y d (.fld x o m ag) σ r K=Ya P none d (.fld x o m ag) σ r K:=rfl
theorem Zhb (P:Program) (Y:Hd) (d:Option Nat) (σ : St) (r:KT) (K:RK) (x i:X) (len m:Nat) (ag:Bool):stp P Y d (.idx x i len m ag) σ r K=Ya P none d (.idx x i len m ag) σ r K:=rfl
theorem Zjf (P:Program) (Y:Hd) (d:Option Nat) (σ : St) (r:KT) (K:RK) (x i:X) (len m:Nat):stp P Y d (.ixa x i len m) σ r K=Ya P none d (.ixa x i len m) σ r K:=rfl
theorem Zhq (P:Program) (Y:Hd) (d:Option Nat) (σ : St) (r:KT) (K:RK) (x i:X) (m:Nat):stp P Y d (.ixs x i m) σ r K=Ya P none d (.ixs x i m) σ r K:=rfl
theorem Zgg (P:Program) (Y:Hd) (d:Option Nat) (σ : St) (r:KT) (K:RK) (x:X):stp P Y d (.len x) σ r K=Ya P none d (.len x) σ r K:=rfl
theorem ZmP (P:Program) (Y:Hd) (d:Option Nat) (σ : St) (r:KT) (K:RK) (mx:Bool) (xs:List X):stp P Y d (.mm mx xs) σ r K=Ya P none d (.mm mx xs) σ r K:=rfl
theorem ZeM (P:Program) (Y:Hd) (d:Option Nat) (σ : St) (r:KT) (K:RK) (f:FuncId) (as:List X):stp P Y d (.call f as) σ r K=Ya P none d (.call f as) σ r K:=rfl
theorem Zfd (P:Program) (Y:Hd) (d:Option Nat) (σ : St) (r:KT) (K:RK) (x:X) (as:List X):stp P Y d (.calv x as) σ r K=Ya P none d (.calv x as) σ r K:=rfl
theorem ZhG (P:Program) (Y:Hd) (d:Option Nat) (σ : St) (r:KT) (K:RK) (f:FuncId) (cs:List X):stp P Y d (.mkf f cs) σ r K=Ya P none d (.mkf f cs) σ r K:=rfl
theorem Zer (P:Program) (Y:Hd) (d:Option Nat) (σ : St) (r:KT) (K:RK) (k:IntKind) (x:X):stp P Y d (.conv k x) σ r K=Ya P none d (.conv k x) σ r K:=rfl
theorem Ziq (P:Program) (Y:Hd) (d:Option Nat) (σ : St) (r:KT) (K:RK) (x:X) (i:Nat):stp P Y d (.ext x i) σ r K=Ya P none d (.ext x i) σ r K:=rfl
theorem e_rvs (σ : St) (r:RV) (rs:List RV):rvs σ (r :: rs)=rvC σ.hp (rv1 σ r) (rvs σ rs):=rfl
theorem Zlw (ρ : X->SV) (x:X) (o m:Nat) (ag:Bool):pv ρ (.fld x o m ag)=pvF o m ag (ρ x):=rfl
theorem Zjc (ρ : X->SV) (k:IntKind) (x:X):pv ρ (.conv k x)=pvC k (ρ x):=rfl
theorem ZkD (ρ : X->SV) (x:X) (i:Nat):pv ρ (.ext x i)=pvE i (ρ x):=rfl
theorem Zrl (fr:List (Nat × SV)):Zwh [] fr=True:=rfl
theorem ZuK (t:Nat) (s:SV) (r fr:List (Nat × SV)):Zwh ((t,s) :: r) fr=(lk t fr=s/\Zwh r fr):=rfl
theorem ZfY (P:Program) (Y:Hd) (d:Option Nat) (σ : St) (r:KT) (K:RK) (ng ag:Bool) (cls:List Nat) (x y:X):stp P Y d (.eqs ng ag cls x y) σ r K=Ya P none d (.eqs ng ag cls x y) σ r K:=rfl
theorem ZhD (P:Program) (Y:Hd) (d:Option Nat) (σ : St) (r:KT) (K:RK) (x h k:X):stp P Y d (.slc x h k) σ r K=Ya P none d (.slc x h k) σ r K:=rfl
theorem Zhw (P:Program) (Y:Hd) (d:Option Nat) (σ : St) (r:KT) (K:RK) (m:Nat) (x:X) (lo hi:Option X):stp P Y d (.sub m x lo hi) σ r K=Ya P none d (.sub m x lo hi) σ r K:=rfl
theorem Zis (P:Program) (Y:Hd) (d:Option Nat) (σ : St) (r:KT) (K:RK) (m b:Nat) (T:TypeId) (x y:X):stp P Y d (.app m b T x y) σ r K=Ya P none d (.app m b T x y) σ r K:=rfl
theorem Zl4 (l):Zu3 (some l)=some (SV.agg l):=rfl
theorem Zlc: Zu3 none=none:=rfl
theorem ZsL (k z):mmE k (some z)=some (SV.v (Value.int k z)):=rfl
theorem Zqu (k):mmE k none=none:=rfl
theorem Zq4 (g o l T):vwP g o (HB.cells l T)=SV.ps (ZaS g l) o:=rfl
theorem ZpA (m a):vwN true m a=SV.sl false m a:=rfl
theorem ZqK (m a):vwN false m a=SV.any:=rfl
theorem Zsb (v a m b T):vwM v (HB.row a m b T)=vwN (Nat.beq v a) m b:=rfl
theorem ZrZ (v a m b T o c d e):vwM v (HB.rws a m b T o c d e)=vwN (Nat.beq v a) m (Zdd o c d b):=rfl
theorem ZkR (v a m b T):cvtM v (HB.row a m b T)=vwN (Nat.beq v a) m b:=rfl
theorem Zm3 (m v a b c T):ZfO m v (HB.row a b c T)=ZeH c (WW (Nat.beq m b) (Nat.beq v a)):=rfl
theorem Zmn (m v l T):ZfO m v (HB.cells l T)=none:=rfl
theorem Zml (m v φ):ZfO m v (HB.ob φ)=none:=rfl
theorem Znc (m v a b):ZfO m v (HB.map a b)=none:=rfl
theorem Zj6 (m v a b c d):ZfO m v (HB.it a b c d)=none:=rfl
theorem ZlL (m v a b):ZfO m v (HB.lp a b)=none:=rfl
theorem ZnT (m v a):ZfO m v (HB.lb a)=none:=rfl
theorem Zn6 (m v a b c T o d e f):ZfO m v (HB.rws a b c T o d e f)=none:=rfl
theorem ZnU (m v):ZfO m v HB.gone=none:=rfl
theorem Znm (a):ZeH a true=some a:=rfl
theorem Zlf (a):ZeH a false=none:=rfl
theorem Zs2: rvE (some [])=some (SV.tup []):=rfl
theorem ZsZ (s):rvE (some [s])=some s:=rfl
theorem ZrK (a b l):rvE (some (a :: b :: l))=some (SV.tup (a :: b :: l)):=rfl
theorem ZpW: rvE none=none:=rfl
theorem ZsD (s l):rvD s (some l)=some (s :: l):=rfl
theorem ZqJ (s):rvD s none=none:=rfl
theorem Ztn (hp x s):rvC hp (some s) x=rvD (cvt hp s) x:=rfl
theorem ZsE (hp x):rvC hp none x=none:=rfl
theorem ZpF (o m a l T):rvH o m a (HB.cells l T)=Xx l o m a:=rfl
theorem Ztt (hp m a k o):rvX hp m a (SV.p k o)=rvH o m a (lkh k hp):=rfl
theorem Zrf (o m a l):pvF o m a (SV.agg l)=Xx l o m a:=rfl
theorem Zth (k a n):pvC k (SV.v (Value.int a n))=some (SV.v (Value.int k (IntKind.wrap k n))):=rfl
theorem ZtE (i l):pvE i (SV.tup l)=nth l i:=rfl
theorem Zof (x a b c d):Zug false true false x a b c d=c { fr:=(x,a) :: St.fr b,hp:=St.hp b,n:=St.n b,N:=St.N b,gs:=St.gs b } d:=rfl
theorem Zog (x a b c d e f):Zws false true false x a b c d e f=e { fr:=(x,SV.gd a b c) :: St.fr d,hp:=St.hp d,n:=St.n d,N:=St.N d,gs:=a :: St.gs d } f:=rfl
theorem ZmA (s σ r K):Yp none s none σ r K=r σ K:=rfl
theorem Zn5 (s σ r K a):Yp none s (some a) σ r K=False:=rfl
theorem Zn3 (s σ r K t):Yp (some t) s none σ r K=Zug (Y3 t (St.gs σ)) (Nat.blt t (St.N σ)) (gdS s) t s σ r K:=rfl
theorem Zm7 (s σ r K t j w):Yp (some t) s (some (j,w)) σ r K=Zws (Y3 t (St.gs σ)) (Nat.blt t (St.N σ)) (Nat.beq t j) t j w s σ r K:=rfl
theorem Zoh (d g σ r K s):XU (some s) d g σ r K=Yp d s g σ r K:=rfl
theorem ZlN (d g σ r K):XU none d g σ r K=False:=rfl
theorem ZiE (x):Zdq true x=x:=rfl
theorem Zi0 (x):Zdq false x=SV.any:=rfl
theorem ZjD (x a b c):ZtW true x a b c=true:=rfl
theorem Zlh (x a b c d s):ZtW false (SV.gd c d s) x a b=x c d a b:=rfl
theorem ZfV (x a):ZfG true x a=bbq x a:=rfl
theorem Zi1 (x a):ZfG false x a=false:=rfl
theorem Ztd: bbq true true=true:=rfl
theorem Zp9: bbq false false=true:=rfl
theorem Zg9 (x y):Zfp (SV.v (Value.bool x)) (SV.v (Value.bool y))=some (SV.v (Value.bool (x || y))):=rfl
theorem ZhF (x a):Zfp (SV.v (Value.bool x)) (SV.v (Value.tuple a))=bif x then some (SV.v (Value.bool true)) else none:=rfl
theorem Zhf (x y):Zc7 (SV.v (Value.bool x)) (SV.v (Value.bool y))=some (SV.v (Value.bool (x && y))):=rfl
theorem Zib (x a):Zc7 (SV.v (Value.bool x)) (SV.v (Value.tuple a))=bif x then none else some (SV.v (Value.bool false)):=rfl
theorem ZnW (m r):ZtU m (some r)=some (SV.sl true m r):=rfl
theorem ZkA (m):ZtU m none=none:=rfl
theorem ZhL (P g d σ r K a f b):ZlG P g d σ r K (SV.cl f b) a=ZtQ P g f (a ++ b) d σ r K:=rfl
theorem Zlo (g d σ r K k v m a j):ZuJ g d σ r K true k v m a j=IXR g k v m a j d σ r K:=rfl
theorem Zlv (g d σ r K k v m a j):ZuJ g d σ r K false k v m a j=False:=rfl
theorem ZnL (g d σ r K k v m j a b c T):ZvZ g d σ r K (HB.row a b c T) k v m j=ZuJ g d σ r K (WW (Nat.beq m b) (Nat.beq v a)) k v m (List.length c) j:=rfl
theorem Znb (g d σ r K k v m j a b c T o e f l):ZvZ g d σ r K (HB.rws a b c T o e f l) k v m j = ∃ i rows TT,v=a+i/\YX k a b c T o e f l i=some (m,rows,TT)/\IXR g k v m (List.length rows) j d σ r K:=rfl
theorem ZmL (g d σ r K a j):Zuj g d σ r K true a j=IXS g a j d σ r K:=rfl
theorem Zou (g d σ r K a j):Zuj g d σ r K false a j=False:=rfl
theorem Zlr (g d σ r K m k j c a b):ZuE g d σ r K (SV.v (Value.int k j)) (SV.sl c a b) m=Zuj g d σ r K (Nat.beq m a) b j:=rfl
theorem ZjR (g d σ r K m k j a v):ZuE g d σ r K (SV.v (Value.int k j)) (SV.mr a v) m=ZvZ g d σ r K (lkh a (St.hp σ)) a v m j:=rfl
theorem ZjN (g d σ r K x a m k n):Zwr g d σ r K (SV.v (Value.int k n)) x a m=IXA g a n (fun n=>Vu (n * m) x) d σ r K:=rfl
theorem Zkf (g d σ r K a m b k j l):Zwn g d σ r K (SV.v (Value.int k j)) (SV.agg l) a m b=IXA g a j (fun n=>Xx l (n * m) m b) d σ r K:=rfl
theorem ZsQ (g d σ r K o m a l T):ldC g d σ r K (HB.cells l T) o m a=XU (Xx l o m a) d g σ r K:=rfl
theorem Zqj (g d σ r K a i o m b):ldB g d σ r K true a i o m b=LDR g a i o m b d σ r K:=rfl
theorem ZtG (g d σ r K a i o m b):ldB g d σ r K false a i o m b=False:=rfl
theorem Ztc (g d σ r K k v a i o m b c e f T):ldR g d σ r K k (HB.row c e f T) v a i o m b=ldB g d σ r K (WW (Nat.beq a e) (Nat.beq v c)) f i o m b:=rfl
theorem ZrJ (g d σ r K k v b i o m c e f j T l p q s):ldR g d σ r K k (HB.rws e f j T l p q s) v b i o m c = ∃ a rows TT,v=e+a/\YX k e f j T l p q s a=some (b,rows,TT)/\LDR g rows i o m c d σ r K:=rfl
theorem Zto (g d σ r K m a k o):ldK g d σ r K (SV.p k o) m a=ldC g d σ r K (lkh k (St.hp σ)) o m a:=rfl
theorem Zri (g d σ r K m a b o):ldK g d σ r K (SV.ps b o) m a=XU (Xx b o m a) d g σ r K:=rfl
theorem Zsu (g d σ r K m a k v b i o):ldK g d σ r K (SV.pr k v b i o) m a=ldR g d σ r K k (lkh k (St.hp σ)) v b i o m a:=rfl
theorem ZnO (g d σ r K b k u v):ZvP g d σ r K true b k u v=DIV g b k u v d σ r K:=rfl
theorem Zox (g d σ r K b k u v):ZvP g d σ r K false b k u v=False:=rfl
theorem ZkZ (g d σ r K b k a j c):Zwt g d σ r K b (SV.v (Value.int k a)) (SV.v (Value.int j c))=ZvP g d σ r K (ZbK k j) b k a c:=rfl
theorem Zno (g d σ r K a):Zvf g d σ r K true a=Yp d (SV.v (Value.int IntKind.i64 ↑(List.length a))) g σ r K:=rfl
theorem ZlS (g d σ r K a):Zvf g d σ r K false a=False:=rfl
theorem ZmD (g d σ r K k v a m b T):ZuW g d σ r K k (HB.row a m b T) v=Zvf g d σ r K (Nat.beq v a) b:=rfl
theorem Zkg (g d σ r K k v b m c T o e f i):ZuW g d σ r K k (HB.rws b m c T o e f i) v = ∃ a mm rows TT,v=b+a/\YX k b m c T o e f i a=some (mm,rows,TT)/\Yp d (SV.v (Value.int IntKind.i64 ↑(List.length rows))) g σ r K:=rfl
theorem ZoG (g d σ r K k v):Zt4 g d σ r K (SV.mr k v)=ZuW g d σ r K k (lkh k (St.hp σ)) v:=rfl
theorem Zl5 (g d σ r K k v m i l):Zt4 g d σ r K (SV.ms k v m i l)=Yp d (SV.v (Value.int IntKind.i64 ↑l)) g σ r K:=rfl
theorem ZmN (g d σ r K c m a):Zt4 g d σ r K (SV.sl c m a)=Yp d (SV.v (Value.int IntKind.i64 ↑(List.length a))) g σ r K:=rfl
theorem Zod (P g d σ r K f a):Ya P g d (SI.call f a) σ r K=ZtQ P g f (Uf (rdG g (St.fr σ)) a) d σ r K:=rfl
theorem Zle (P g d σ r K x a):Ya P g d (SI.calv x a) σ r K=ZlG P g d σ r K (rdG g (St.fr σ) x) (Uf (rdG g (St.fr σ)) a):=rfl
theorem ZmX (P g d σ r K f a):Ya P g d (SI.callm f a) σ r K=False:=rfl
theorem ZmF (P g d σ r K x a):Ya P g d (SI.calvm x a) σ r K=False:=rfl
theorem Zkd (P g d σ r K c a b):Ya P g d (SI.pick c a b) σ r K=XU (Zfc (St.fr σ) g c a b) d g σ r K:=rfl
theorem ZkG (P g d σ r K m T a):Ya P g d (SI.bsl m T a) σ r K=XU (ZtU m (ZfS (rdG g (St.fr σ)) m a)) d g σ r K:=rfl
theorem Zn2 (P g d σ r K x a m):Ya P g d (SI.ixs x a m) σ r K=ZuE g d σ r K (rdG g (St.fr σ) a) (rdG g (St.fr σ) x) m:=rfl
theorem ZlM (P g d σ r K x a b m):Ya P g d (SI.ixa x a b m) σ r K=Zwr g d σ r K (rdG g (St.fr σ) a) (rdG g (St.fr σ) x) b m:=rfl
theorem Zk1 (P g d σ r K x a b m c):Ya P g d (SI.idx x a b m c) σ r K=Zwn g d σ r K (rdG g (St.fr σ) a) (rdG g (St.fr σ) x) b m c:=rfl
theorem Zim (P g d σ r K x m a):Ya P g d (SI.ld x m a) σ r K=ldK g d σ r K (rdG g (St.fr σ) x) m a:=rfl
theorem ZgG (P g d σ r K b x y):Ya P g d (SI.div b x y) σ r K=Zwt g d σ r K b (rdG g (St.fr σ) x) (rdG g (St.fr σ) y):=rfl
theorem Zje (P g d σ r K x):Ya P g d (SI.len x) σ r K=Zt4 g d σ r K (rdG g (St.fr σ) x):=rfl
theorem Zjr (P g d σ r K x):Ya P g d (SI.mv x) σ r K=Yp d (rdG g (St.fr σ) x) g σ r K:=rfl
theorem Zin (P g d σ r K z a):Ya P g d (SI.build z a) σ r K=XU (pv (rdG g (St.fr σ)) (SI.build z a)) d g σ r K:=rfl
theorem Zhs (P g d σ r K x):Ya P g d (SI.nilc x) σ r K=XU (ZcE (rdG g (St.fr σ) x)) d g σ r K:=rfl
theorem ZhY (P g d σ r K b x y):Ya P g d (SI.bin b x y) σ r K=XU (Zt8 b (rdG g (St.fr σ) x) (rdG g (St.fr σ) y)) d g σ r K:=rfl
theorem Zg2 (P g d σ r K u x):Ya P g d (SI.un u x) σ r K=XU (uni u (rdG g (St.fr σ) x)) d g σ r K:=rfl
theorem Zi8 (P g d σ r K x o):Ya P g d (SI.addo x o) σ r K=XU (Vu o (rdG g (St.fr σ) x)) d g σ r K:=rfl
theorem ZiA (P g d σ r K x o m a):Ya P g d (SI.fld x o m a) σ r K=XU (pv (rdG g (St.fr σ)) (SI.fld x o m a)) d g σ r K:=rfl
theorem ZhV (P g d σ r K a b):Ya P g d (SI.mm a b) σ r K=XU (mmS a (Uf (rdG g (St.fr σ)) b)) d g σ r K:=rfl
theorem Zg7 (P g d σ r K f a):Ya P g d (SI.mkf f a) σ r K=Yp d (SV.cl f (Uf (rdG g (St.fr σ)) a)) g σ r K:=rfl
theorem Zga (P g d σ r K k x):Ya P g d (SI.conv k x) σ r K=XU (pv (rdG g (St.fr σ)) (SI.conv k x)) d g σ r K:=rfl
theorem Zh7 (P g d σ r K x a):Ya P g d (SI.ext x a) σ r K=XU (pv (rdG g (St.fr σ)) (SI.ext x a)) d g σ r K:=rfl
theorem ZiL (P g d σ r K x h k):Ya P g d (SI.slc x h k) σ r K=Zwq g (rdG g (St.fr σ) x) (rdG g (St.fr σ) h) (rdG g (St.fr σ) k) d σ r K:=rfl
theorem Zhe (P g d σ r K m x a b):Ya P g d (SI.sub m x a b) σ r K=ZuP g m (rdG g (St.fr σ)) a b (rdG g (St.fr σ) x) d σ r K:=rfl
theorem ZhQ (P g d σ r K m b T x y):Ya P g d (SI.cln m b T x y) σ r K=False:=rfl
theorem ZhU (P g d σ r K m b T x y):Ya P g d (SI.appm m b T x y) σ r K=False:=rfl
theorem Zgd (P g d σ r K m x y):Ya P g d (SI.cpy m x y) σ r K=False:=rfl
theorem ZiD (P g d σ r K m b z T x):Ya P g d (SI.mks m b z T x) σ r K=False:=rfl
theorem ZhO (P g d σ r K x):Ya P g d (SI.isn x) σ r K=False:=rfl
theorem ZiI (P g d σ r K m b T x y):Ya P g d (SI.app m b T x y) σ r K=ZtO g m b (Zhr m (rdG g (St.fr σ) x)) (Ztb m (St.hp σ) (rdG g (St.fr σ) y)) d σ r K:=rfl
theorem ZgP (P g d σ r K x m T):Ya P g d (SI.box x m T) σ r K=False:=rfl
theorem Zhy (P g d σ r K z T):Ya P g d (SI.alloc z T) σ r K=False:=rfl
theorem Zg6 (P g d σ r K x y m):Ya P g d (SI.st x y m) σ r K=False:=rfl
theorem Zi9 (P g d σ r K a b c x y):Ya P g d (SI.eqs a b c x y) σ r K=XU (eqR a (Zk3 c b (rdG g (St.fr σ) x) (rdG g (St.fr σ) y))) d g σ r K:=rfl
theorem Zjg (P g d σ r K a b):Ya P g d (SI.raw a b) σ r K=False:=rfl
theorem Zf3 (P g d σ r K a b):Ya P g d (SI.rv a b) σ r K=False:=rfl
theorem ZgO (P g d σ r K a x b):Ya P g d (SI.rb a x b) σ r K=False:=rfl
theorem Zk9 (x a b c d e):Zwu false true x a b c d e=d { fr:=(x,SV.p (St.n c) 0) :: St.fr c,hp:=(St.n c,HB.cells a b) :: St.hp c,n:=St.n c+1,N:=St.N c,gs:=St.gs c } e:=rfl
theorem Zm0 (T σ r K t a):ZfQ (some t) (some a) T σ r K=Zwu (Y3 t (St.gs σ)) (Nat.blt t (St.N σ)) t a T σ r K:=rfl
theorem Zf0 (x a b c d e f g i j):ZsY false true x a b c d e f g i j=i { fr:=(x,SV.v (Value.int IntKind.i64 ↑e)) :: St.fr g,hp:=(a,HB.row b c d f) :: St.hp g,n:=St.n g,N:=St.N g,gs:=St.gs g } j:=rfl
theorem Zn1 (k v m a N T σ r K b):Zvy (some b) k v m a N T σ r K=ZsY (Y3 b (St.gs σ)) (Nat.blt b (St.N σ)) b k v m a N T σ r K:=rfl
theorem ZnD (k v m a N T σ r K):Zvy none k v m a N T σ r K=r { fr:=St.fr σ,hp:=(k,HB.row v m a T) :: St.hp σ,n:=St.n σ,N:=St.N σ,gs:=St.gs σ } K:=rfl
theorem Zme (d k v m i L a T σ r K c b e):Zpj d k v m i L a T (SV.sl c b e) σ r K=ZcQ (Nat.beq m b) (CPY d k v m i L a e T σ r K):=rfl
theorem Znj (d k v m i L a T σ r K):Zpj d k v m i L a T (SV.v (Value.slice none 0 0)) σ r K=CPY d k v m i L a [] T σ r K:=rfl
theorem Zlt (d k v m i L a T σ r K b c):Zpj d k v m i L a T (SV.mr b c) σ r K=ZcQ (WW (Nat.beq k b) (Nat.beq v c)) (CPY d k v m i L a a T σ r K):=rfl
theorem Zlk (d k v m i L a T σ r K b c e f g):Zpj d k v m i L a T (SV.ms b c e f g) σ r K=ZcQ (WW (WW (Nat.beq k b) (Nat.beq v c)) (Nat.beq m e)) (f+g<=List.length a/\CPY d k v m i L a (List.take g (List.drop f a)) T σ r K):=rfl
theorem Zuc (n m):lO (some m) n=m:=rfl
theorem Zvr (n):lO none n=n:=rfl
theorem Zmz (d m k v i a s σ r K b c e T):Zs5 d m k v i a (HB.row b c e T) s σ r K=ZcQ (WW (Nat.beq m c) (Nat.beq v b)) (Zpj d k v m i (lO a (List.length e)) e T s σ r K):=rfl
theorem ZoD (d m a σ r K k v):ZtM d m (SV.mr k v) a σ r K=Zs5 d m k v 0 none (lkh k (St.hp σ)) a σ r K:=rfl
theorem Zl6 (d m a σ r K k v b i l):ZtM d m (SV.ms k v b i l) a σ r K=ZcQ (Nat.beq m b) (Zs5 d m k v i (some l) (lkh k (St.hp σ)) a σ r K):=rfl
theorem Zol (g k v m a d σ r K i j):Zt0 g k v m a (some i) (some j) d σ r K=SBM g i j k v m a d σ r K:=rfl
theorem ZjU (g k v m a d σ r K b):Zt0 g k v m a (some b) none d σ r K=False:=rfl
theorem ZjK (g k v m a b d σ r K):Zt0 g k v m a none b d σ r K=False:=rfl
theorem ZlO (p):ZcQ true p=p:=rfl
theorem Zk4 (p):ZcQ false p=False:=rfl
theorem Zka (g m ρ a b k v d σ r K c e f T):Zwk g m ρ a b k v (HB.row c e f T) d σ r K=ZcQ (WW (Nat.beq m e) (Nat.beq v c)) (Zt0 g k v m f (Za8 0 ρ a) (Za8 (↑(List.length f)) ρ b) d σ r K):=rfl
theorem Zmj (g m ρ a b d σ r K c e f):ZuP g m ρ a b (SV.sl c e f) d σ r K=bif Nat.beq m e then Zt5 g m f (Za8 0 ρ a) (Za8 (↑(List.length f)) ρ b) d σ r K else False:=rfl
theorem ZlX (g m ρ a b d σ r K k v):ZuP g m ρ a b (SV.mr k v) d σ r K=Zwk g m ρ a b k v (lkh k (St.hp σ)) d σ r K:=rfl
theorem Zl8 (x a b c d e f g i):verB false true x a b c d e f g i=g { fr:=(x,SV.mr a b) :: St.fr f,hp:=(a,HB.row b c d e) :: St.hp f,n:=St.n f,N:=St.N f,gs:=St.gs f } i:=rfl
theorem ZoN (k v m a T σ r K b):Zvh (some b) k v m a T σ r K=verB (Y3 b (St.gs σ)) (Nat.blt b (St.N σ)) b k v m a T σ r K:=rfl
theorem Zmu (k v m a T σ r K):Zvh none k v m a T σ r K=False:=rfl
theorem ZnI (b d k v m a c T σ r K):Zuw true b d k v m a c T σ r K=APM b d k v m a c T σ r K:=rfl
theorem ZjI (b d k v m a c T σ r K):Zuw false b d k v m a c T σ r K=False:=rfl
theorem Zob (b d k v m a T σ r K c e f g):Zwl b d k v m (HB.row c e f g) a T σ r K=Zuw (WW (Nat.beq m e) (WW (Nat.beq v c) (Nat.beq T g))) b d k v m f a T σ r K:=rfl
theorem ZlR (b d m a T σ r K k v):Zwx b d m (SV.mr k v) a T σ r K=Zwl b d k v m (lkh k (St.hp σ)) a T σ r K:=rfl
theorem ZjC (b d m s T σ r K a):Zt6 b d m s (some a) T σ r K=Zwx b d m s a T σ r K:=rfl
theorem Zli (b d m s T σ r K):Zt6 b d m s none T σ r K=False:=rfl
theorem Zl1 (x a b c d e f g):ZtN true x a b c d e f g=f { fr:=St.fr e,hp:=(x,HB.cells (Zw b a d) c) :: St.hp e,n:=St.n e,N:=St.N e,gs:=St.gs e } g:=rfl
theorem Zj9 (x a b c d e f g):ZtN false x a b c d e f g=False:=rfl
theorem Zrg (k o m c σ r K l T):stC k o m (HB.cells l T) c σ r K=ZtN (Nat.ble (o+m) (List.length l)) k o l T c σ r K:=rfl
theorem ZmT (x a b c d e f g i j k):ZtS true x a b c d e f g i j k=STR x a b c d e f g i j k:=rfl
theorem ZoF (x a b c d e f g i j k):ZtS false x a b c d e f g i j k=False:=rfl
theorem Ztm (k v a j o c σ r K b m d T):stR k v a j o (HB.row b m d T) c σ r K=ZtS (WW (Nat.beq a m) (Nat.beq v b)) b d j o k a c T σ r K:=rfl
theorem ZqE (k v a j o c σ r K b m d T e f g i):stR k v a j o (HB.rws b m d T e f g i) c σ r K=STW b m d T e f g i v a j o k c σ r K:=rfl
theorem ZtC (m c σ r K k o):stX (SV.p k o) m c σ r K=stC k o m (lkh k (St.hp σ)) c σ r K:=rfl
theorem Zsx (m c σ r K k v a j o):stX (SV.pr k v a j o) m c σ r K=stR k v a j o (lkh k (St.hp σ)) c σ r K:=rfl
theorem ZeL (x a b c d e):ZcL true true x a b c d e=stX x a b c d e:=rfl
theorem Ze2 (m x σ r K a):Zco none (some a) m x σ r K=ZcL (chk a m) (Yi a) x m a σ r K:=rfl
theorem Zq8 (P Y d σ r K x y m):stp P Y d (SI.st x y m) σ r K=Zco d (Yh (rdG none (St.fr σ) y)) m (rdG none (St.fr σ) x) σ r K:=rfl
theorem ZsM (P Y d σ r K x m T):stp P Y d (SI.box x m T) σ r K=ZfQ d (Yh (rdG none (St.fr σ) x)) T σ r K:=rfl
theorem Zrr (P Y d σ r K z T):stp P Y d (SI.alloc z T) σ r K=ZfQ d (some (lit z)) T σ r K:=rfl
theorem ZrG (P Y d σ r K m b T x y):stp P Y d (SI.cln m b T x y) σ r K=Zo4 b d m (Zhr m (rdG none (St.fr σ) x)) (Zfq m (rdG none (St.fr σ) y)) T σ r K:=rfl
theorem Zrd (P Y d σ r K m b z T x):stp P Y d (SI.mks m b z T x) σ r K=Zv7 b d m z (rdG none (St.fr σ) x) T σ r K:=rfl
theorem Zp3 (P Y d σ r K m x y):stp P Y d (SI.cpy m x y) σ r K=ZtM d m (rdG none (St.fr σ) x) (rdG none (St.fr σ) y) σ r K:=rfl
theorem ZqY (P Y d σ r K m b T x y):stp P Y d (SI.appm m b T x y) σ r K=Zt6 b d m (rdG none (St.fr σ) x) (Zfq m (rdG none (St.fr σ) y)) T σ r K:=rfl
theorem ZrD (P Y d σ r K f a):stp P Y d (SI.callm f a) σ r K=Zbz P f (Uf (rdG none (St.fr σ)) a) d σ r K:=rfl
theorem ZsS (P Y d σ r K x a):stp P Y d (SI.calvm x a) σ r K=ZeB P Y (rdG none (St.fr σ) x) (Uf (rdG none (St.fr σ)) a) d σ r K:=rfl
theorem ZnG (P Y d σ r K x):stp P Y d (SI.isn x) σ r K=Zwj d (rdG none (St.fr σ) x) σ r K:=rfl
theorem ZkE (P Y d σ r K a b):stp P Y d (SI.raw a b) σ r K=RAW P d a b σ r K:=rfl
theorem Zm1 (P Y d σ r K a b):stp P Y d (SI.rv a b) σ r K = ∃ s,RBE P a b σ s/\Yp d s none σ r K:=rfl
theorem ZmI (P Y d σ r K a x b):stp P Y d (SI.rb a x b) σ r K = ∃ k h1 s,rdG none (St.fr σ) x=SV.mp k/\WK (lkh k (St.hp σ)) h1/\RBB P a (x :: b) k (lkh k (St.hp σ)) h1 σ s/\Yp d s none { fr:=St.fr σ,hp:=(k,h1) :: St.hp σ,n:=St.n σ,N:=St.N σ,gs:=St.gs σ } r K:=rfl
theorem Zhc (d σ r K):ZqV d σ r K=Yp d (SV.v undef) none σ r K:=rfl
theorem Zu4 (P Y j w d i σ r K b):gK P Y (SV.v (Value.bool b)) j w d i σ r K=GB P Y b j w d i σ r K:=rfl
theorem ZvG (P Y j w d i σ r K a c b):gK P Y (SV.gd a c (SV.v (Value.bool b))) j w d i σ r K=Ya P (some (j,w)) d i σ r K:=rfl
theorem Zs4 (P Y σ r K d i af):st1 P Y { d:=d,i:=i,g:=none,af:=af } σ r K=stp P Y d i σ r K:=rfl
theorem ZrR (P Y σ r K d i j w af):st1 P Y { d:=d,i:=i,g:=some (j,w),af:=af } σ r K=gK P Y (lk j (St.fr σ)) j w d i σ r K:=rfl
theorem Zj8 (f g σ K b):Zwm (SV.v (Value.bool b)) f g σ K=BR b f g σ K:=rfl
theorem ZmU (k x y):Zvb BinOp.quo k x y=IntKind.wrap k (Int.tdiv x y):=rfl
theorem ZpP (a N):st0 a N={ fr:=Wp 0 a,hp:=[],n:=0,N:=N,gs:=[] }:=rfl
theorem ZlU (ρ):Uf ρ []=[]:=rfl
theorem Zot (ρ a r):Uf ρ (a :: r) = ρ a :: Uf ρ r:=rfl
theorem Zl7 (g):ZaS g []=[]:=rfl
theorem ZjW (g s l):ZaS g (s :: l)=g s :: ZaS g l:=rfl
theorem Zla (ρ m):ZfS ρ m []=some []:=rfl
theorem ZnJ (ρ m a r):ZfS ρ m (a :: r)=Zt2 (Yh (ρ a)) m (ZfS ρ m r):=rfl
theorem ZmR (hp):Zf9 hp []=[]:=rfl
theorem Zl2 (hp s l):Zf9 hp (s :: l)=cvt hp s :: Zf9 hp l:=rfl
theorem ZqX: lit []=[]:=rfl
theorem Ztz (a r):lit (a :: r)=SV.v a :: lit r:=rfl
theorem ZpJ: chk [] 0=true:=rfl
theorem Zr8 (a l n):chk (a :: l) (Nat.succ n)=chk l n:=rfl
theorem Zs8 (x):nth [] x=none:=rfl
theorem Ztw (s a):nth (s :: a) 0=some s:=rfl
theorem Ztl (a l n):nth (a :: l) (Nat.succ n)=nth l n:=rfl
theorem ZfE (a l c b):Zw (a :: l) 0 (c :: b)=c :: Zw l 0 b:=rfl
theorem Ze4 (x a l o):Zw (a :: l) (Nat.succ o) x=a :: Zw l o x:=rfl
theorem Zni (o l t):ZtK o l t true=some ((o,l) :: t):=rfl
theorem Zmx (o l t):ZtK o l t false=none:=rfl
theorem ZlQ (o m l t):ZtL o m (some l) (some t)=ZtK o l t (chk l m):=rfl
theorem ZlI (ρ):Znu ρ []=some []:=rfl
theorem Zld (ρ o m a r):Znu ρ ((o,m,a) :: r)=ZtL o m (Yh (ρ a)) (Znu ρ r):=rfl
theorem Zru (x):spl x []=x:=rfl
theorem ZpR (x o l r):spl x ((o,l) :: r)=spl (Zw x o l) r:=rfl
theorem Zlq (z t):Zju z (some t)=some (spl z t):=rfl
theorem Zj7 (z):Zju z none=none:=rfl
theorem Zkz (x):Wp x []=[]:=rfl
theorem ZnE (x s l):Wp x (s :: l)=(x,s) :: Wp (x+1) l:=rfl
theorem Zss (j w s):gdS (SV.gd j w s)=true:=rfl
theorem ZsR (a):gdS (SV.v a)=false:=rfl
theorem ZsX (k o):gdS (SV.p k o)=false:=rfl
theorem Zr7 (l):gdS (SV.agg l)=false:=rfl
theorem ZrA (c m a):gdS (SV.sl c m a)=false:=rfl
theorem Zrh (k v):gdS (SV.mr k v)=false:=rfl
theorem ZrX (k v m i o):gdS (SV.pr k v m i o)=false:=rfl
theorem Zq7 (k v m i l):gdS (SV.ms k v m i l)=false:=rfl
theorem ZsP (a o):gdS (SV.ps a o)=false:=rfl
theorem Zng (f a):gdS (SV.cl f a)=false:=rfl
theorem Zk6 (l):gdS (SV.tup l)=false:=rfl
theorem Zkx (φ):gdS (SV.q φ)=false:=rfl
theorem Zn8 (k):gdS (SV.mp k)=false:=rfl
theorem Zkn (k):gdS (SV.yl k)=false:=rfl
theorem ZoH (T s):gdS (SV.ifc T s)=false:=rfl
theorem ZjS: gdS SV.any=false:=rfl
theorem Ztk (ρ k o):rnS ρ (SV.p k o)=SV.p (ρ k) o:=rfl
theorem ZrN (ρ k v):rnS ρ (SV.mr k v)=SV.mr (ρ k) v:=rfl
theorem ZpO (ρ k v m i o):rnS ρ (SV.pr k v m i o)=SV.pr (ρ k) v m i o:=rfl
theorem Zsl (ρ k v m i o):rnS ρ (SV.ms k v m i o)=SV.ms (ρ k) v m i o:=rfl
theorem ZqM (ρ k):rnS ρ (SV.mp k)=SV.mp (ρ k):=rfl
theorem ZrU (ρ k):rnS ρ (SV.yl k)=SV.yl (ρ k):=rfl
theorem ZpS (ρ l):rnS ρ (SV.agg l)=SV.agg (rnL ρ l):=rfl
theorem Zqo (ρ l):rnS ρ (SV.tup l)=SV.tup (rnL ρ l):=rfl
theorem Zp4 (ρ f l):rnS ρ (SV.cl f l)=SV.cl f (rnL ρ l):=rfl
theorem ZlD (ρ T s):rnS ρ (SV.ifc T s)=SV.ifc T (rnS ρ s):=rfl
theorem Zj4 (ρ a):rnS ρ (SV.v a)=SV.v a:=rfl
theorem Zk2 (ρ c m a):rnS ρ (SV.sl c m a)=SV.sl c m a:=rfl
theorem Zop (ρ l o):rnS ρ (SV.ps l o)=SV.ps l o:=rfl
theorem Znf (ρ φ):rnS ρ (SV.q φ)=SV.q φ:=rfl
theorem Zke (ρ j w s):rnS ρ (SV.gd j w s)=SV.gd j w s:=rfl
theorem Zl0 (ρ):rnS ρ SV.any=SV.any:=rfl
theorem Zst (ρ):rnL ρ []=[]:=rfl
theorem ZqW (ρ s l):rnL ρ (s :: l)=rnS ρ s :: rnL ρ l:=rfl
theorem Zr4 (ρ l T):rnH ρ (HB.cells l T)=HB.cells (rnL ρ l) T:=rfl
theorem Zq0 (ρ v m a T):rnH ρ (HB.row v m a T)=HB.row v m a T:=rfl
theorem Zso (ρ φ):rnH ρ (HB.ob φ)=HB.ob φ:=rfl
theorem ZqO (ρ a c):rnH ρ (HB.map a c)=HB.map a c:=rfl
theorem Zqc (ρ a b c d):rnH ρ (HB.it a b c d)=HB.it (ρ a) b c d:=rfl
theorem ZqN (ρ a b):rnH ρ (HB.lp a b)=HB.lp a b:=rfl
theorem Zty (ρ a):rnH ρ (HB.lb a)=HB.lb a:=rfl
theorem Zqq (ρ v m a T o b c d):rnH ρ (HB.rws v m a T o b c d)=HB.rws v m a T o b c d:=rfl
theorem Zqp (ρ):rnH ρ HB.gone=HB.gone:=rfl
theorem Zr1 (ρ):rnP ρ []=[]:=rfl
theorem Zqy (ρ u s r):rnP ρ ((u,s) :: r)=(ρ u,rnH ρ s) :: rnP ρ r:=rfl
theorem Zgn (ρ):U9 ρ 0=[]:=rfl
theorem Zf5 (ρ j):U9 ρ (Nat.succ j)=(ρ j,HB.gone) :: U9 ρ j:=rfl
theorem Zq6 (b x y):exB b x y=bif b then x else y:=rfl
theorem Zr6 (a hp n d σ r K):cmK false a hp n d σ r K=Yp d a none { fr:=St.fr σ,hp:=hp,n:=n,N:=St.N σ,gs:=St.gs σ } r K:=rfl
theorem Zsi (a hp n d σ r K):cmK true a hp n d σ r K=K (Ex.pan a) { fr:=St.fr σ,hp:=hp,n:=n,N:=St.N σ,gs:=St.gs σ }:=rfl
theorem Zgi (P Y a d σ r K f b):ZeB P Y (SV.cl f b) a d σ r K=Zbz P f (a ++ b) d σ r K:=rfl
theorem ZhB (P Y a d σ r K k):ZeB P Y (SV.yl k) a d σ r K=YLD Y k a d σ r K:=rfl
theorem ZrY (p T a s):mtI p T (SV.ifc a s)=(a=T/\p s):=rfl
theorem Zsc (p l):mtO p (some l)=p l:=rfl
theorem Zqi (p):mtO p none=False:=rfl
theorem Ztx (σ K hp n a):itE σ K hp n (HB.lp a none)=K Ex.n { fr:=St.fr σ,hp:=(St.n σ,HB.gone) :: hp,n:=n,N:=St.N σ,gs:=[] }:=rfl
theorem Zsh (σ K hp n a i):itE σ K hp n (HB.lp a (some (Ex.ex i)))=K (Ex.ex i) { fr:=St.fr σ,hp:=(St.n σ,HB.gone) :: hp,n:=n,N:=St.N σ,gs:=[] }:=rfl
theorem ZqL (σ K hp n a):itE σ K hp n (HB.lp a (some Ex.ret))=K Ex.ret { fr:=St.fr σ,hp:=(St.n σ,HB.gone) :: hp,n:=n,N:=St.N σ,gs:=[] }:=rfl
theorem ZqB (σ K o):itP σ K o=match Ot.pn o with | false=>itE σ K (Ot.hp o) (Ot.n o) (lkh (St.n σ) (Ot.hp o)) | true=>K (Ex.pan (Ot.res o)) { fr:=St.fr σ,hp:=Ot.hp o,n:=Ot.n o,N:=St.N σ,gs:=[] }:=rfl
theorem ZoC (a r):Zo8 a (HB.lp r none)=(r=a):=rfl
theorem Zmc (a r):Zjx a (HB.lb r)=(r=a):=rfl
theorem ZpQ (p a s l):pmS (p :: a) (s :: l)=(p,s) :: pmS a l:=rfl
theorem ZjP: Zjw [] []=true:=rfl
theorem ZnH (a l b m):Zjw (a :: l) (b :: m)=Zjw l m:=rfl
theorem ZiT (N):VW N []=true:=rfl
theorem Zhk (N j r):VW N (j :: r)=bif Nat.blt j N then VW N r else false:=rfl
theorem Zqe (p):rfB true p=p:=rfl
theorem Zr0 (p):rfB false p=False:=rfl
theorem ZqG (P a b c σ K f d):rfK P a b (SV.cl f d) c σ K=gs0 (St.gs σ) (rfB (VW (St.N σ) c) (RFUN P a b f d c σ K)):=rfl
theorem Zmv (a hp n s):Zpq a hp n (some s)=a { pn:=false,res:=s,hp:=hp,n:=n }:=rfl
theorem Zlx (a hp n):Zpq a hp n none=False:=rfl
theorem Zj0 (x s):ZtZ (some s) x=rvD s x:=rfl
theorem ZnF (x):ZtZ none x=none:=rfl
theorem ZlJ (σ):ZcM σ []=some []:=rfl
theorem Zk5 (σ r a):ZcM σ (r :: a)=ZtZ (rv1 σ r) (ZcM σ a):=rfl
theorem Zma (a b x):ZfP a b Ex.n x=Zpq b (St.hp x) (St.n x) (rvE (ZcM x a)):=rfl
theorem Zoi (a b x):ZfP a b Ex.ret x=Zpq b (St.hp x) (St.n x) (rvE (ZcM x a)):=rfl
theorem ZjJ (a b x s):ZfP a b (Ex.pan s) x=b { pn:=true,res:=s,hp:=St.hp x,n:=St.n x }:=rfl
theorem Zkt (a b x c):ZfP a b (Ex.ex c) x=False:=rfl
theorem ZrP (a b Φ x):bdE a b Φ Ex.n x=(Zjx b (lkh a (St.hp x))/\Φ { pn:=false,res:=SV.v (Value.bool true),hp:=(a,HB.lp b none) :: St.hp x,n:=St.n x }):=rfl
theorem Ztr (a b Φ x i):bdE a b Φ (Ex.ex i) x=(Zjx b (lkh a (St.hp x))/\Φ { pn:=false,res:=SV.v (Value.bool false),hp:=(a,HB.lp b (some (Ex.ex i))) :: St.hp x,n:=St.n x }):=rfl
theorem Zqk (a b Φ x):bdE a b Φ Ex.ret x=(Zjx b (lkh a (St.hp x))/\Φ { pn:=false,res:=SV.v (Value.bool false),hp:=(a,HB.lp b (some Ex.ret)) :: St.hp x,n:=St.n x }):=rfl
theorem Ztv (a b Φ x s):bdE a b Φ (Ex.pan s) x = Φ { pn:=true,res:=s,hp:=St.hp x,n:=St.n x }:=rfl
theorem Zsq (a b c K x):asE a b c K Ex.n x=(Zo8 b (lkh a (St.hp x))/\c { fr:=St.fr x,hp:=(a,HB.lb b) :: St.hp x,n:=St.n x,N:=St.N x,gs:=St.gs x } K):=rfl
theorem ZrM (a b c K x i):asE a b c K (Ex.ex i) x=False:=rfl
theorem Zqr (a b c K x):asE a b c K Ex.ret x=False:=rfl
theorem Zqa (a b c K x s):asE a b c K (Ex.pan s) x=False:=rfl
theorem Zsa (x):rho [] x=0:=rfl
theorem ZpE (a b):rho (a :: b) 0=a:=rfl
theorem Zqd (a l k):rho (a :: l) (Nat.succ k)=rho l k:=rfl
theorem ZpN (ρ a x):mtS ρ a SV.any x=True:=rfl
theorem Zs7 (ρ a x k o):mtS ρ a (SV.p k o) x=(k < a/\x=SV.p (ρ k) o):=rfl
theorem Zp6 (ρ a x k v):mtS ρ a (SV.mr k v) x=(k < a/\x=SV.mr (ρ k) v):=rfl
theorem Zra (ρ a x k v m i o):mtS ρ a (SV.pr k v m i o) x=(k < a/\x=SV.pr (ρ k) v m i o):=rfl
theorem Zs6 (ρ a x k v m i o):mtS ρ a (SV.ms k v m i o) x=(k < a/\x=SV.ms (ρ k) v m i o):=rfl
theorem Zqs (ρ a x l):mtS ρ a (SV.agg l) x=mtO (mtL ρ a l) (Zt1 x):=rfl
theorem Zs1 (ρ a x l):mtS ρ a (SV.tup l) x=mtO (mtL ρ a l) (ZtR x):=rfl
theorem Zql (ρ a x f l):mtS ρ a (SV.cl f l) x=mtO (mtL ρ a l) (clL f x):=rfl
theorem Zsd (ρ a x b):mtS ρ a (SV.v b) x=(x=SV.v b):=rfl
theorem ZkU (ρ a x c m b):mtS ρ a (SV.sl c m b) x=(x=SV.sl c m b/\KFR b):=rfl
theorem Zki (ρ a x l o):mtS ρ a (SV.ps l o) x=(x=SV.ps l o/\KFL l):=rfl
theorem Zmm (ρ a x k):mtS ρ a (SV.mp k) x=(k < a/\x=SV.mp (ρ k)):=rfl
theorem ZoM (ρ a x k):mtS ρ a (SV.yl k) x=(k < a/\x=SV.yl (ρ k)):=rfl
theorem ZkB (ρ a x T t):mtS ρ a (SV.ifc T t) x=mtI (mtS ρ a t) T x:=rfl
theorem ZkL (ρ a x φ):mtS ρ a (SV.q φ) x=(x=SV.q φ):=rfl
theorem ZmG (ρ a x j w s):mtS ρ a (SV.gd j w s) x=False:=rfl
theorem Zq9 (ρ a x):mtL ρ a [] x=(x=[]):=rfl
theorem Zrz (ρ a x s l):mtL ρ a (s :: l) x=mtB (mtS ρ a s) (mtL ρ a l) x:=rfl
theorem Zre (ρ a x):mtH ρ a HB.gone x=True:=rfl
theorem Zrb (ρ a l T b c):mtH ρ a (HB.cells l T) (HB.cells b c)=(c=T/\mtL ρ a l b):=rfl
theorem Zsr (ρ a x v m b T):mtH ρ a (HB.row v m b T) x=(x=HB.row v m b T/\KFR b):=rfl
theorem ZrS (ρ a x φ):mtH ρ a (HB.ob φ) x=(x=HB.ob φ):=rfl
theorem Zrm (ρ a x b c):mtH ρ a (HB.map b c) x=(x=HB.map b c/\∀ (e:Nat × Value × SV),e ∈ b->KF (Prod.snd (Prod.snd e))):=rfl
theorem Zsz (ρ d x e a b c):mtH ρ d (HB.it e a b c) x=(e < d/\x=HB.it (ρ e) a b c):=rfl
theorem ZsW (ρ a x r b):mtH ρ a (HB.lp r b) x=(x=HB.lp r b):=rfl
theorem Zpx (ρ a x r):mtH ρ a (HB.lb r) x=(x=HB.lb r):=rfl
theorem Zp7 (ρ a x v m b T o c d e):mtH ρ a (HB.rws v m b T o c d e) x=(x=HB.rws v m b T o c d e/\KFR b/\∀ (r:List (List SV)),r ∈ d->KFR r):=rfl
theorem ZkF (ρ a l T v m b c):mtH ρ a (HB.cells l T) (HB.row v m b c)=False:=rfl
theorem Zmg (ρ a l T φ):mtH ρ a (HB.cells l T) (HB.ob φ)=False:=rfl
theorem Znl (ρ a l T b c):mtH ρ a (HB.cells l T) (HB.map b c)=False:=rfl
theorem Zkl (ρ a l T b c d e):mtH ρ a (HB.cells l T) (HB.it b c d e)=False:=rfl
theorem ZnC (ρ a l T b c):mtH ρ a (HB.cells l T) (HB.lp b c)=False:=rfl
theorem ZmB (ρ a l T b):mtH ρ a (HB.cells l T) (HB.lb b)=False:=rfl
theorem ZoI (ρ a l T v m b c o d e f):mtH ρ a (HB.cells l T) (HB.rws v m b c o d e f)=False:=rfl
theorem ZlK (ρ a l T):mtH ρ a (HB.cells l T) HB.gone=False:=rfl
theorem Ztf (p):mtM true p=True:=rfl
theorem ZrL (p):mtM false p=p:=rfl
theorem Zro (ρ a x b):mtF ρ a x [] b=True:=rfl
theorem ZsH (ρ a x b t s r):mtF ρ a x ((t,s) :: r) b=(mtM (Y3 t x) (mtS ρ a s (lk t b))/\mtF ρ a (t :: x) r b):=rfl
theorem ZpK (ρ a hp b):mtP ρ a hp b 0=True:=rfl
theorem ZrO (ρ a hp b j):mtP ρ a hp b (Nat.succ j)=(mtH ρ b (lkh j a) (lkh (ρ j) hp)/\mtP ρ a hp b j):=rfl
theorem ZrC (a):hpb a []=True:=rfl
theorem Zq1 (a u s r):hpb a ((u,s) :: r)=(u < a/\hpb a r):=rfl
theorem Zp0 (a b):eqC 0 (SV.v (Value.bool a)) (SV.v (Value.bool b))=some (a == b):=rfl
theorem Zqg (k a j b):eqC 1 (SV.v (Value.int k a)) (SV.v (Value.int j b))=bif ZbK k j then some (a == b) else none:=rfl
theorem ZrI (a b):eqC 2 (SV.v (Value.string a)) (SV.v (Value.string b))=some (ByteArray.toList a == ByteArray.toList b):=rfl
theorem ZpH (a b):eqA (some a) (some b)=some (a && b):=rfl
theorem Znp: Zfr [] [] []=some true:=rfl
theorem Zmi (c a b d y e):Zfr (c :: a) (b :: d) (y :: e)=eqA (eqC c b y) (Zfr a d e):=rfl
theorem Zow (c a b):Zk3 c true (SV.agg a) (SV.agg b)=Zfr c a b:=rfl
theorem ZnK (c a b):Zk3 c false (SV.v (Value.bool a)) (SV.v (Value.bool b))=some (a == b):=rfl
theorem Zsn (a b):eqR a (some b)=some (SV.v (Value.bool (ngB a b))):=rfl
theorem ZpB (a):eqR a none=none:=rfl
theorem Zrx (x):ngB true x = !x:=rfl
theorem Zpz (x):ngB false x=x:=rfl
theorem ZkO (m hp c a b):Ztb m hp (SV.sl c a b)=ZeH b (Nat.beq m a):=rfl
theorem Zon (m hp):Ztb m hp (SV.v (Value.slice none 0 0))=some []:=rfl
theorem ZjH (m hp k v):Ztb m hp (SV.mr k v)=ZfO m v (lkh k hp):=rfl
theorem ZjV (m a b):Zhr m (SV.sl true a b)=ZeH b (Nat.beq m a):=rfl
theorem Zkk (m):Zhr m (SV.v (Value.slice none 0 0))=some []:=rfl
theorem ZjT (g m b d σ r K a c):ZtO g m b (some a) (some c) d σ r K=APP g m b a c d σ r K:=rfl
theorem ZjZ (g m b d σ r K a):ZtO g m b (some a) none d σ r K=False:=rfl
theorem ZnY (g m b y d σ r K):ZtO g m b none y d σ r K=False:=rfl
theorem Zmr (l):Zt1 (SV.agg l)=some l:=rfl
theorem ZkW (l):ZtR (SV.tup l)=some l:=rfl
theorem Zq5 (f a b):clL f (SV.cl a b)=bif Nat.beq a f then some b else none:=rfl
theorem Zrc (p q):mtB p q []=False:=rfl
theorem ZrQ (p q s l):mtB p q (s :: l)=(p s/\q l):=rfl
theorem Zgu (x a b c d e f):Zn4 false true x a b c d e f=e { fr:=(x,SV.mr (St.n d) 0) :: St.fr d,hp:=(St.n d,HB.row 0 a b c) :: St.hp d,n:=St.n d+1,N:=St.N d,gs:=St.gs d } f:=rfl
theorem ZnA (m a T σ r K b):Znn (some b) m a T σ r K=Zn4 (Y3 b (St.gs σ)) (Nat.blt b (St.N σ)) b m a T σ r K:=rfl
theorem Zmh (m a T σ r K):Znn none m a T σ r K=False:=rfl
theorem Znt (b d m T σ r K a):Zo4 b d m (some []) (some a) T σ r K=CLN b d m a T σ r K:=rfl
theorem Zlz (b d m y T σ r K a c):Zo4 b d m (some (a :: c)) y T σ r K=False:=rfl
theorem ZoA (b d m T σ r K):Zo4 b d m (some []) none T σ r K=False:=rfl
theorem Zmt (b d m y T σ r K):Zo4 b d m none y T σ r K=False:=rfl
theorem Zns (b d m z T σ r K k n):Zv7 b d m z (SV.v (Value.int k n)) T σ r K=MKS b d m (lit z) n T σ r K:=rfl
theorem Zny (d σ r K c m a):Zwj d (SV.sl c m a) σ r K=ISN d a σ r K:=rfl
theorem Zj3 (g d σ r K c m a b n e j):Zwq g (SV.sl c m a) (SV.v (Value.int b n)) (SV.v (Value.int e j)) d σ r K=SLC g n j m a d σ r K:=rfl
theorem ZkK (g m a d σ r K i j):Zt5 g m a (some i) (some j) d σ r K=SUB g i j m a d σ r K:=rfl
theorem ZjQ (g m a d σ r K b):Zt5 g m a (some b) none d σ r K=False:=rfl
theorem ZkJ (g m a b d σ r K):Zt5 g m a none b d σ r K=False:=rfl
theorem ZlA (a ρ):Za8 a ρ none=some a:=rfl
theorem ZkN (a ρ b):Za8 a ρ (some b)=match ρ b with | SV.v (Value.int k n)=>some n | x=>none:=rfl
theorem ZjF (m c a b):Zfq m (SV.sl c a b)=ZeH b (Nat.beq m a):=rfl
theorem Znw (m):Zfq m (SV.v (Value.slice none 0 0))=some []:=rfl
theorem Zk0 (x h j w):ZtW false (.v x) h j w=false:=rfl
theorem ZeE (x l):Zw (x :: l) 0 []=x :: l:=rfl
theorem Zff:Zw [] 0 []=[]:=rfl
attribute [go_sem] ZkI Zln Zl3 ZnX w64_0 w64_1 w64_2 w64_3 w64_4 w64_5 w64_6 e_stO ZuY Ztu ZlB Zqh Zuk Zoy Zoz ZtD ZlH Zmq ZkX Zus ZqA Zur Zrp Zpy phx_1 phx_2 phK_n Zsw Zvt ZpM Zv4 ZnQ ZqI Zta Zrn Zko sx_gh ZjX Zs3 Zvo Zrj Zm6 ZvH ZmC Zuy ZnB ZvD ZtA ZmQ lkB_t lkB_f ZuN Zvz ZpX ZrT Zup Zwc ZlZ ZrV ZpV ZvY ZuD Zul e_lk e_lk0 e_lkh ZvS ZvM ZrB e_blk Zik ZoL ZpZ ZpI Zsm Zgw Zmy ZgV Zl9 ZsA Zsf Zp1 Zgb ZmZ Zdl ZfA Zg0 ZgX Zjq Zde Zey Ze9 Zhm Zm9 Zov Zoc Zft Zgx ZtB Zfy Zji ZmE ZnZ Zkq ZeI Zjh Zfl Zfk ZgH Zjn Zmw Zmf Zn0 Zom ZlC Zkv Zez Zeo Zjd Zif Zfx Zir Zlb ZkM Zok ZeZ ZhK Zfo Zh2 Zkj ZjL Zk7 Zew Zjo ZdA ZfB Zi7 ZgZ Zhu Zek ZfX Zky Zr3 Zp2 ZsJ Zhl ZmM Zfb ZgJ ZjE ZlF ZoO Ze6 Zid ZeD ZiB Zfw ZiP Zdx Zes Zil Zhx ZhA Zdp Zfs Zdi ZcY e_yld e_exR e_hpM ZhR ZcX Zfm ZgK Zi3 ZiR Zex ZgY Zrt Zdv Zfe Zds Zem ZbA ZaV Zct ZaT Zad e_rdG Zvl Zu7 ZuI e_alw Zuv e_vw1 e_vw2 e_vw3 e_vw4 ZjO Zn9 Zuu ZhP ZiY Zfh ZeK ZeA ZfI Zeq ZfF Zep ZeX Zen ZgU ZeY ZeS Zfn Zjm ZeV Zet Zfz Znv Zms ZfZ ZgD ZgS ZiJ Zmp ZoE ZvL ZsV ZqQ e_mm e_bld Zfi Zun Zls Zij ZnP ZlW ZkV Zh1 Zgl e_rvR Zvu ZqS Zqx Zly Zfj Zc6 Zgj Znk ZeF Zhp Zgf ZoK ZeT Zht Zhb Zjf Zhq Zgg ZmP ZeM Zfd ZhG Zer Ziq e_rvs Zlw Zjc ZkD Zrl ZuK ZfY ZhD Zhw Zis Zl4 Zlc ZsL Zqu Zq4 ZpA ZqK Zsb ZrZ ZkR Zm3 Zmn Zml Znc Zj6 ZlL ZnT Zn6 ZnU Znm Zlf Zs2 ZsZ ZrK ZpW ZsD ZqJ Ztn ZsE ZpF Ztt Zrf Zth ZtE Zof Zog ZmA Zn5 Zn3 Zm7 Zoh ZlN ZiE Zi0 ZjD Zlh ZfV Zi1 Ztd Zp9 Zg9 ZhF Zhf Zib ZnW ZkA ZhL Zlo Zlv ZnL Znb ZmL Zou Zlr ZjR ZjN Zkf ZsQ Zqj ZtG Ztc ZrJ Zto Zri Zsu ZnO Zox ZkZ Zno ZlS ZmD Zkg ZoG Zl5 ZmN Zod Zle ZmX ZmF Zkd ZkG Zn2 ZlM Zk1 Zim ZgG Zje Zjr Zin Zhs ZhY Zg2 Zi8 ZiA ZhV Zg7 Zga Zh7 ZiL Zhe ZhQ ZhU Zgd ZiD ZhO ZiI ZgP Zhy Zg6 Zi9 Zjg Zf3 ZgO Zk9 Zm0 Zf0 Zn1 ZnD Zme Znj Zlt Zlk Zuc Zvr Zmz ZoD Zl6 Zol ZjU ZjK ZlO Zk4 Zka Zmj ZlX Zl8 ZoN Zmu ZnI ZjI Zob ZlR ZjC Zli Zl1 Zj9 Zrg ZmT ZoF Ztm ZqE ZtC Zsx ZeL Ze2 Zq8 ZsM Zrr ZrG Zrd Zp3 ZqY ZrD ZsS ZnG ZkE Zm1 ZmI Zhc Zu4 ZvG Zs4 ZrR Zj8 ZmU ZpP ZlU Zot Zl7 ZjW Zla ZnJ ZmR Zl2 ZqX Ztz ZpJ Zr8 Zs8 Ztw Ztl ZfE Ze4 Zni Zmx ZlQ ZlI Zld Zru ZpR Zlq Zj7 Zkz ZnE Zss ZsR ZsX Zr7 ZrA Zrh ZrX Zq7 ZsP Zng Zk6 Zkx Zn8 Zkn ZoH ZjS Ztk ZrN ZpO Zsl ZqM ZrU ZpS Zqo Zp4 ZlD Zj4 Zk2 Zop Znf Zke Zl0 Zst ZqW Zr4 Zq0 Zso ZqO Zqc ZqN Zty Zqq Zqp Zr1 Zqy Zgn Zf5 Zq6 Zr6 Zsi Zgi ZhB ZrY Zsc Zqi Ztx Zsh ZqL ZqB ZoC Zmc ZpQ ZjP ZnH ZiT Zhk Zqe Zr0 ZqG Zmv Zlx Zj0 ZnF ZlJ Zk5 Zma Zoi ZjJ Zkt ZrP Ztr Zqk Ztv Zsq ZrM Zqr Zqa Zsa ZpE Zqd ZpN Zs7 Zp6 Zra Zs6 Zqs Zs1 Zql Zsd ZkU Zki Zmm ZoM ZkB ZkL ZmG Zq9 Zrz Zre Zrb Zsr ZrS Zrm Zsz ZsW Zpx Zp7 ZkF Zmg Znl Zkl ZnC ZmB ZoI ZlK Ztf ZrL Zro ZsH ZpK ZrO ZrC Zq1 Zp0 Zqg ZrI ZpH Znp Zmi Zow ZnK Zsn ZpB Zrx Zpz ZkO Zon ZjH ZjV Zkk ZjT ZjZ ZnY Zmr ZkW Zq5 Zrc ZrQ Zgu ZnA Zmh Znt Zlz ZoA Zmt Zns Zny Zj3 ZkK ZjQ ZkJ ZlA ZkN ZjF Znw Zk0 ZeE Zff List.drop List.take List.length List.cons_append List.nil_append Nat.beq Nat.blt Nat.ble Nat.zero_add Nat.add_zero Nat.mul_one Nat.zero_mul Nat.one_mul cond_true cond_false List.set
end Go.Sx
