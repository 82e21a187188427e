/- Walks and plain laws that lead to the given statement, part 4 of 7. -/
import Derived.Test.YtkjldleglbbkeaaQC
set_option linter.all false
open Nat renaming reduceAdd->rA,reduceMul->rM,reduceSub->rS,beq_refl->nbr
namespace Go.Sx
open Go Go.RowKit
variable {Y:Hd}
section
variable (P:Program) (m:Nat) (σ : St) (K:Ex->St->Prop) (L:RK)
theorem Zub:rx P Y [] σ L=L .n σ:=rfl
theorem ZoS (io:Ins) (r:List Ins):rx P Y (io :: r) σ L=st1 P Y io σ (rx P Y r) L:=rfl
theorem Zta (ops:List Ins):sx P Y m (.reg ops) σ K=rx P Y ops σ (Zad K):=rfl
theorem Zph (ord:List Nat) (p:Ph) (ps:List Ph):sx P Y m (.regs ord p ps) σ K=phx P Y p ps σ (Zad K):=rfl
theorem phx_1 (vs:List VI) (nA nB:Nat) (rest:List Ins):phx P Y ⟨vs,nA,nB,rest⟩ [] σ L=gs0 σ.gs (rxv P Y (ZaB σ.hp (rx P Y rest)) vs σ L):=rfl
theorem phx_2 (vs:List VI) (nA nB:Nat) (rest:List Ins) (q:Ph) (ps:List Ph):phx P Y ⟨vs,nA,nB,rest⟩ (q :: ps) σ L=gs0 σ.gs (rxv P Y (ZaB σ.hp (rx P Y rest)) vs σ (phK (phx P Y q ps) L)):=rfl
theorem phK_n (f:St->RK->Prop):phK f L .n σ = f σ L:=rfl
theorem Zrl (ord:List Nat) (vs:List VI) (nA nB:Nat) (rest:List Ins):sx P Y m (.regd ord vs nA nB rest) σ K=gs0 σ.gs (rxv P Y (ZaB σ.hp (rx P Y rest)) vs σ (Zad K)):=rfl
theorem Zql (r:KT):rxv P Y r [] σ L=r σ L:=rfl
theorem ZtT (r:KT) (io:Ins) (l:List VI):rxv P Y r (.op io :: l) σ L=st1 P Y io σ (rxv P Y r l) L:=rfl
theorem ZiQ (r:KT) (x:X) (l:List VI):rxv P Y r (.hide x :: l) σ L=ZbA (rdG none σ.fr x) σ (rxv P Y r l) L:=rfl
theorem ZmD (hp:List (Nat × HB)) (r:KT):ZaB hp r σ L=r ⟨σ.fr,hp,σ.n,σ.N,σ.gs⟩ L:=rfl
theorem ZqO (k o:Nat) (r:KT):ZbA (.p k o) σ r L=r ⟨σ.fr,(k,.gone) :: σ.hp,σ.n,σ.N,σ.gs⟩ L:=rfl
theorem Znh (k v:Nat) (r:KT):ZbA (.mr k v) σ r L=r ⟨σ.fr,(k,.gone) :: σ.hp,σ.n,σ.N,σ.gs⟩ L:=rfl
theorem ZlS (k v m i o:Nat) (r:KT):ZbA (.pr k v m i o) σ r L=r ⟨σ.fr,(k,.gone) :: σ.hp,σ.n,σ.N,σ.gs⟩ L:=rfl
theorem ZmJ (k v m i o:Nat) (r:KT):ZbA (.ms k v m i o) σ r L=r ⟨σ.fr,(k,.gone) :: σ.hp,σ.n,σ.N,σ.gs⟩ L:=rfl
theorem ZoR (p:Prop):gs0 [] p=p:=rfl
theorem ZuJ (a b:SC):sx P Y m (.seq a b) σ K=sx P Y m a σ (ZpN (sx P Y m b) K):=rfl
theorem Zr6 (c:X) (a b:SC):sx P Y m (.cond c a b) σ K=ZuV (rdG none σ.fr c) (sx P Y m a) (sx P Y m b) σ K:=rfl
theorem Zjg (id:Nat) (c:SC):sx P Y m (.block id c) σ K=sx P Y m c σ (ZnU id K):=rfl
theorem Zrx (c:SC):sx P Y m (.loop c) σ K=Zpv m (sx P Y m c) σ K:=rfl
theorem Zq6 (id:Nat):sx P Y m (.exit id) σ K=K (.ex id) σ:=rfl
theorem Zut:sx P Y m .ret σ K=K .ret σ:=rfl
theorem ZqT:sx P Y m .skip σ K=K .n σ:=rfl
theorem ZkN (c:SC):sx P Y m (.scope c) σ K=sx P Y m c σ K:=rfl
theorem sx_gh (c:SC):sx P Y m (.gh c) σ K=GH m (sx P Y m c) σ K:=rfl
theorem Zja (l:Nat):sx P Y m (.label l) σ K=K .n σ:=rfl
theorem Zr9 (e:Ex):Zad K e σ = K e (Wu σ):=rfl
theorem Zt4 (f:CT):ZpN f K .n σ = f σ K:=rfl
theorem ZpK (f:CT) (i:Nat):ZpN f K (.ex i) σ = K (.ex i) σ:=rfl
theorem Zkc (f:CT) (s:SV):ZpN f K (.pan s) σ = K (.pan s) σ:=rfl
theorem Ziy (f:CT):ZpN f K .ret σ = K .ret σ:=rfl
theorem Zud (id:Nat):ZnU id K .n σ = K .n σ:=rfl
theorem Zlw (id:Nat) (s:SV):ZnU id K (.pan s) σ = K (.pan s) σ:=rfl
theorem ZjP (id:Nat):ZnU id K .ret σ = K .ret σ:=rfl
theorem ZuD (rs:List RV) (res:SV):ZuT rs res .n σ = (rvR rs σ = some res):=rfl
theorem Zko (rs:List RV) (res:SV):ZuT rs res .ret σ = (rvR rs σ = some res):=rfl
theorem ZtA {S:Type} (st:S->St) (rel:S->Prop) (μ : S->Nat) (s:S):Znr m st rel μ s K .n σ = ∃ s',rel s'/\μ s' < μ s/\Ent m σ (st s'):=rfl
theorem Zrq {S:Type} (st:S->St) (rel:S->Prop) (μ : S->Nat) (s:S) (i:Nat):Znr m st rel μ s K (.ex i) σ = K (.ex i) σ:=rfl
theorem Zlv {S:Type} (st:S->St) (rel:S->Prop) (μ : S->Nat) (s:S) (x:SV):Znr m st rel μ s K (.pan x) σ = K (.pan x) σ:=rfl
theorem Zlx {S:Type} (st:S->St) (rel:S->Prop) (μ : S->Nat) (s:S):Znr m st rel μ s K .ret σ = K .ret σ:=rfl
end
section
variable {P:Program} {m:Nat} {σ : St} {K:Ex->St->Prop} {L:RK} {r:KT} {d:Option Nat} {g:Option (Nat × Bool)}
theorem br {b:Bool} {f h:CT} (h1:b=true->f σ K) (h2:b=false->h σ K):BR b f h σ K:=⟨h1,h2⟩
theorem YH {b:Bool} {f h:CT} (hb:b=true) (h1:f σ K):BR b f h σ K:=⟨fun _=>h1,fun e=>by rw [hb] at e;cases e⟩
theorem Yi {b:Bool} {f h:CT} (hb:b=false) (h1:h σ K):BR b f h σ K:=⟨fun e=>by (rw [hb] at e;cases e),fun _=>h1⟩
theorem gb {b w:Bool} {j:Nat} {i:SI} (h:ZW P (some (j,w)) d i σ r L):GB P Y b j w d i σ r L:=.inr (.inr h)
theorem YA {b w:Bool} {j:Nat} {i:SI} (hb:b=w) (h:stp P Y d i σ r L):GB P Y b j w d i σ r L:=.inl ⟨hb,h⟩
theorem UE {b w:Bool} {j:Nat} {i:SI} (hb:b≠w) (h:ZoO d σ r L):GB P Y b j w d i σ r L:=.inr (.inl ⟨hb,h⟩)
theorem call {f:FuncId} {args:List SV} {res:SV} (h:Ct P f args res) (hk:Yc d res g σ r L):Zsz P g f args d σ r L:=⟨res,.inl (Zy.2 fun _=>h),hk⟩
theorem ZmR {f:FuncId} {args:List SV} {res:SV} (hf:FLT res) (h:Ct P f (UV (vw4 σ.hp) args) res) (hk:Yc d res g σ r L):Zsz P g f args d σ r L:=⟨res,.inr ⟨hf,Zy.2 fun _=>h⟩,hk⟩
theorem ZuQ {b:BinOp} {k:IntKind} {x y:Int} (h:y≠0) (hk:Yc d (.v (.int k (ZtH b k x y))) g σ r L):DIV g b k x y d σ r L:=⟨Zy.2 fun _=>h,hk⟩
theorem ixs {xs:List (List SV)} {i:Int} (n:Nat) (row:List SV) (hi:i=(n:Int)) (hr:xs[n]? = some row) (hk:Yc d (.ps row 0) g σ r L):IXS g xs i d σ r L:=⟨row,Zy.2 fun _=>⟨n,hi,hr⟩,hk⟩
theorem ZG {α : Type} {l:List α} {f:α->List SV} {i:Int} (n:Nat) (hn:n < l.length) (hi:i=(n:Int)) (hk:Yc d (.ps (f l[n]) 0) g σ r L):IXS g (l.map f) i d σ r L :=
 ixs n _ hi (by simp [hn]) hk
theorem ixa {len:Nat} {i:Int} {F:Nat->Option SV} (n:Nat) (hi:i=(n:Int)) (hn:n < len) (hk:Xt (F n) d g σ r L):IXA g len i F d σ r L:=⟨n,Zy.2 fun _=>⟨hi,hn⟩,hk⟩
theorem loop {f:CT} {S:Type} (st:S->St) (rel:S->Prop) (μ : S->Nat) (s:S) (h0:rel s) (he:Ent m σ (st s)) (hb:∀ s,rel s->f (st s) (Znr m st rel μ s K)):Zpv m f σ K :=
 .inr ⟨S,st,rel,μ,⟨s,h0,he⟩,hb⟩
theorem ZaW {f:CT} (n:Nat) (h:ZsK f K n σ):Zpv m f σ K:=.inl ⟨n,h⟩
theorem Zj {f:CT} (n:Nat):ZsK f K (n+1) σ = f σ (Zst (ZsK f K n) K):=rfl
theorem ZtM (p:St->Prop):Zst p K .n σ = p σ:=rfl
theorem Zoq (p:St->Prop) (i:Nat):Zst p K (.ex i) σ = K (.ex i) σ:=rfl
theorem Zmq (p:St->Prop) (s:SV):Zst p K (.pan s) σ = K (.pan s) σ:=rfl
theorem ZlH (p:St->Prop):Zst p K .ret σ = K .ret σ:=rfl
def ZsJ:List (Nat × SV)->List (Nat × SV)->Prop
 | [],_=>True
 | (t,s) :: r,fr=>lk t fr=s/\ZsJ r fr
def ZsH:List (Nat × SV)->Bool
 | []=>true
 | (_,.gd _ _ _) :: _=>false
 | _ :: r=>ZsH r
theorem Ze4:∀ {r fr:List (Nat × SV)},ZsJ r fr->∀ t,lk t r = .any\/lk t r=lk t fr
 | [],_,_,t=>.inl rfl
 | (u,s) :: r,fr,h,t=>by
  rw [Zp]
  by_cases ht:t=u
  . subst ht;rw [if_pos rfl];exact .inr h.1.symm
  . rw [if_neg ht];exact Ze4 h.2 t
theorem ZbT:∀ {r:List (Nat × SV)},ZsH r=true->∀ t j b s,lk t r≠.gd j b s
 | [],_,t,j,b,s=>by simp [lk]
 | (u,s') :: r,h,t,j,b,s=>by
  rw [Zp]
  by_cases ht:t=u
  . rw [if_pos ht];rintro rfl;simp [ZsH] at h
  . rw [if_neg ht];exact ZbT (by cases s'<;>first | exact h | simp [ZsH] at h) t j b s
end
section
variable {w:World} {E:Env} {ok ok':Nat->Prop} {ρ : Nat->Nat} {n':Nat} {n:Nat->Prop}
theorem ent {σ σ':St} (ρ : Nat->Nat) (hf:mtF ρ σ'.n [] σ'.fr σ.fr) (hp:mtP ρ σ'.hp σ.hp σ'.n σ'.n) (hb:hpb σ'.n σ'.hp) (hρ : ∀ i,i < σ'.n->∀ j,j < σ'.n->ρ i = ρ j->i=j) (hN:Nat.beq σ'.N σ.N=true) {m0:Nat} (hm:Nat.ble m0 σ'.n=true) (hfix:∀ i,i < m0->ρ i=i):Ent m0 σ σ':=by
 intro C E a w hm0 h
 have hN:=Nat.eq_of_beq_eq_true hN
 have hgone:=ZaE hb
 have hH:=ZfK hp
 have hocc:∀ k b,occ (rnE E ρ) k (lkh k σ'.hp) b->k < σ'.n/\occ E (ρ k) (lkh (ρ k) σ.hp) b:=fun k b ho=>by
  by_cases hk:k < σ'.n
  . refine ⟨hk,?_⟩
    have:=hH k hk
    cases h1:lkh k σ'.hp<;>rw [h1] at ho this
    . cases h2:lkh (ρ k) σ.hp<;>rw [h2] at this<;>simp only [mtH] at this
      exact ho
    . simp only [mtH] at this;rw [this.1];exact ho
    . simp only [mtH] at this;rw [this];exact ho
    . simp only [mtH] at this;rw [this.1];exact ho
    . simp only [mtH] at this;rw [this.2];exact ho
    . simp only [mtH] at this;rw [this];exact ho
    . simp only [mtH] at this;rw [this];exact ho
    . simp only [mtH] at this;rw [this.1];exact ho
    . exact ho.elim
  . rw [hgone k hk] at ho;exact ho.elim
 have hst:Zr w w (okS C E σ.hp) (okS C (rnE E ρ) σ'.hp):=fun b hb _=>⟨⟨hb.1,fun k ho=>hb.2 _ (hocc k b ho).2⟩,rfl⟩
 refine ⟨rnE E ρ,fun t=>?_,by rw [hN];exact h.sz,Xk hst h.df,fun t j b s ht=>?_,⟨hgone,fun k=>?_,fun k k' b h1 h2=>?_,fun k b h1=>?_,h.hs.kp,fun k hk=>?_⟩⟩
 . rcases Zha hf t rfl with h1 | h1
   . rw [h1];exact trivial
   . have:=mtS_R hst h1 (h.fr t)
     have hng:=ZaR h1
     cases hs:lk t σ'.fr<;>rw [hs] at this hng<;>first | exact this | exact absurd rfl (hng _ _ _)
 . rcases Zha hf t rfl with h1 | h1
   . rw [h1] at ht;cases ht
   . exact absurd ht (ZaR h1 j b s)
 . by_cases hk:k < σ'.n
   . have:=hH k hk
     have hbk:=h.hs.bk (ρ k)
     cases h1:lkh k σ'.hp<;>rw [h1] at this
     . cases h2:lkh (ρ k) σ.hp<;>rw [h2] at this hbk<;>simp only [mtH] at this
       obtain ⟨rfl,this⟩:=this
       simp only [ZP] at hbk ⊢
       obtain ⟨cs,k1,k2⟩:=hbk
       exact ⟨cs,k1,Uh hst _ _ _ this k2⟩
     . simp only [mtH] at this
       rw [this.1] at hbk
       simp only [ZP] at hbk ⊢
       obtain ⟨hi0,hbk⟩:=hbk
       refine ⟨hi0,?_⟩
       rcases hbk with q | ⟨b,cap,cs,q1,q2,q3,q4,q5,q6,q7⟩
       . exact .inl q
       . exact .inr ⟨b,cap,cs,q1,q2,q3,q4,q5,q6,Zu hst (fun _ h=>Ele.rfl) (fun _ h=>h.elim) _ _ (V6 (E':=rnE E ρ) (n':=fun _=>False) _ _ (Wn this.2) q7)⟩
     . rename_i φ
       simp only [mtH] at this
       rw [this] at hbk
       simp only [ZP] at hbk ⊢
       obtain ⟨o,k1,k2⟩:=hbk
       exact ⟨o,k1,φ.mono _ _ _ _ _ hst k2⟩
     . simp only [mtH] at this
       obtain ⟨this,hkf⟩:=this
       rw [this] at hbk
       simp only [ZP] at hbk ⊢
       obtain ⟨ys,k1,k2⟩:=hbk
       exact ⟨ys,k1,ZiJ hst _ _ hkf k2⟩
     . simp only [mtH] at this
       rw [this.2] at hbk
       simp only [ZP] at hbk ⊢
       exact ⟨this.1,hbk.2⟩
     . simp only [mtH] at this
       rw [this] at hbk
       simp only [ZP] at hbk ⊢
       exact hbk
     . simp only [mtH] at this
       rw [this] at hbk
       simp only [ZP] at hbk ⊢
       exact hbk
     . simp only [mtH] at this
       obtain ⟨this,k1,k2⟩:=this
       rw [this] at hbk
       exact WG (E:=E) (k:=ρ k) (E':=rnE E ρ) hst.c (fun _ _=>rfl) rfl hk k1 k2 hbk
     . trivial
   . rw [hgone k hk];trivial
 . have e1:=hocc k b h1
   have e2:=hocc k' b h2
   exact hρ k e1.1 k' e2.1 (h.hs.dj _ _ b e1.2 e2.2)
 . obtain ⟨e1,e2⟩:=hocc k b h1
   rcases h.hs.lo _ b e2 with q | q
   . exact .inl q
   . have q1:=Nat.lt_of_lt_of_le (hm0.2 _ _ q) hm0.1
     have q2:ρ k=k:=hρ _ (Nat.lt_of_lt_of_le q1 (Nat.le_of_ble_eq_true hm)) k e1 (hfix _ q1)
     rw [q2] at q;exact .inr q
 . have hk':k < m0:=Nat.lt_of_lt_of_le hk hm0.1
   obtain ⟨p1,p2,p3,p4⟩:=h.hs.pin k hk
   exact ⟨Nat.lt_of_lt_of_le hk' (Nat.le_of_ble_eq_true hm),by simp only [rnE,hfix k hk'];exact p2,by simp only [rnE,hfix k hk'];exact p3,by simp only [rnE,hfix k hk'];exact p4⟩
end
theorem Zky {ρ : Nat->Nat} {n':Nat}:∀ {s:SV},KF s->mtS ρ n' s s:=by
 intro s
 exact SV.rec (motive_1:=fun s=>KF s->mtS ρ n' s s) (motive_2:=fun l=>KFL l->mtL ρ n' l l) (motive_3:=fun _=>True)
  (fun x _=>by simp [mtS]) (fun k o h=>by simp [KF] at h) (fun l ih h=>by simp only [KF] at h;simp only [mtS,VN,mtO];exact ih h)
  (fun c m xs _ h=>by simp only [KF] at h;simp [mtS,h]) (fun k v h=>by simp [KF] at h) (fun k v m i o h=>by simp [KF] at h) (fun k v m i o h=>by simp [KF] at h)
  (fun l o _ h=>by simp only [KF] at h;simp [mtS,h]) (fun f l ih h=>by simp only [KF] at h;simp only [mtS,clL,nbr,cond_true,mtO];exact ih h)
  (fun l ih h=>by simp only [KF] at h;simp only [mtS,ZsR,mtO];exact ih h) (fun k h=>by simp [KF] at h) (fun k h=>by simp [KF] at h) (fun T s ih h=>by simp only [KF] at h;simp only [mtS,mtI];exact ⟨trivial,ih h⟩) (fun φ _=>by simp [mtS]) (fun j w s _ h=>by simp [KF] at h) (fun _=>by simp [mtS])
  (fun _=>by simp [mtL]) (fun s l h1 h2 h=>by simp only [KFL] at h;simp only [mtL,mtB];exact ⟨h1 h.1,h2 h.2⟩)
  trivial (fun _ _ _ _=>trivial) s
theorem Zc {ρ : Nat->Nat} {n':Nat}:∀ {l:List SV},KFL l->mtL ρ n' l l
 | [],_=>by simp [mtL]
 | s :: l,h=>by simp only [mtL,mtB];exact ⟨Zky h.1,Zc h.2⟩
abbrev I (n:Int):SV:=.v (.int .i64 n)
abbrev B (b:Bool):SV:=.v (.bool b)
theorem Zd:∀ {xs ys:List (List SV)},KFR (xs ++ ys)↔KFR xs/\KFR ys
 | [],ys=>by simp [KFR]
 | x :: xs,ys=>by simp [KFR,Zd (xs:=xs) (ys:=ys),and_assoc]
theorem Za {α : Type} {f:α->List SV} {l:List α}:KFR (l.map f)↔∀ x ∈ l,KFL (f x):=by
 induction l with
 | nil=>simp [KFR]
 | cons x l ih=>simp [KFR,ih]
theorem Zn {n:Int} (h1:-9223372036854775808<=n) (h2:n<=9223372036854775807):IntKind.i64.wrap n=n:=IntWalk.i64_in n ⟨h1,h2⟩
def stO {S:Type} (σ : St) (ov:S->List (Nat × SV)) (hv:S->List (Nat × HB)) (s:S):St:=⟨ov s ++ σ.fr,hv s ++ σ.hp,σ.n,σ.N,[]⟩
theorem e_stO {S:Type} (fr:List (Nat × SV)) (hp:List (Nat × HB)) (n N:Nat) (gs:List Nat) (ov:S->List (Nat × SV)) (hv:S->List (Nat × HB)) (s:S):stO ⟨fr,hp,n,N,gs⟩ ov hv s=⟨ov s ++ fr,hv s ++ hp,n,N,[]⟩:=rfl
theorem Xw {m:Nat} {f:CT} {σ : St} {K:Ex->St->Prop} {S:Type} (ov:S->List (Nat × SV)) (hv:S->List (Nat × HB)) (rel:S->Prop) (μ : S->Nat) (s0:S) (h0:rel s0) (he:Ent m σ (stO σ ov hv s0))
 (hb:∀ s,rel s->f (stO σ ov hv s) (Znr m (stO σ ov hv) rel μ s K)):Zpv m f σ K :=
 loop (stO σ ov hv) rel μ s0 h0 he hb
theorem loopG {m:Nat} {f:CT} {σ σ1:St} {K:Ex->St->Prop} {S:Type} (hg:Ent m σ σ1) (ov:S->List (Nat × SV)) (hv:S->List (Nat × HB)) (rel:S->Prop) (μ : S->Nat) (s0:S) (h0:rel s0) (he:Ent m σ1 (stO σ1 ov hv s0))
 (hb:∀ s,rel s->f (stO σ1 ov hv s) (Znr m (stO σ1 ov hv) rel μ s K)):Zpv m f σ K :=
 loop (stO σ1 ov hv) rel μ s0 h0 (Yk hg he) hb
theorem gh {m:Nat} {r:CT} {σ σ1:St} {K:Ex->St->Prop} (hg:Ent m σ σ1) (h:r σ1 K):GH m r σ K:=⟨σ1,hg,h⟩
theorem Zuh {C:Cx} {E:Env} {hp:List (Nat × HB)} {n:Nat->Prop} {w:World} {m k v m':Nat} {xs:List (List SV)} {T:TypeId} (hmc:MC C m) (hm:m<=k) (h:HSim C E hp n w) (hk:lkh k hp = .row v m' xs T) :
 (xs=[]/\∃ a,E.hv k v = .slice a 0 0)\/∃ b cap,E.hv k v = .slice (some ⟨b,0,none⟩) xs.length cap/\xs.length<=cap/\cap≠0/\xs.length<=9223372036854775807/\RR w E n (okS C E ((k,.gone) :: hp)) b m' xs 0:=by
 have hb:=h.bk k
 rw [hk] at hb;simp only [ZP] at hb
 rcases hb with ⟨_,h1 | ⟨b,cap,cs,h1,h2,h3,⟨h4,h4'⟩,h5,h6,h7⟩⟩
 . exact .inl h1
 . have hoc:occ E k (lkh k hp) b:=by rw [hk];exact ⟨_,_,h1,h4'⟩
   have hok:okS C E ((k,.gone) :: hp) b:=by
    refine ⟨?_,fun j ho=>?_⟩
    . rcases h.lo k b hoc with q | q
      . exact .inr q
      . have:=hmc.2 k b q;have:=hmc.1;omega
    . rw [Zh] at ho
      split at ho
      . exact ho.elim
      . exact absurd (h.dj j k b ho hoc).symm (by omega)
   exact .inr ⟨b,cap,h1,h4,h4',h5,Xs (cs:=cs) (ok:=okS C E hp) hok (fun j c hj=>by rw [cell_of_row _ _ _ _ _ _ h2];simpa using hj) (WU h k).2 xs 0 h6 (by simpa using h7)⟩
theorem Zc5 {m:Nat} {σ : St} (t k:Nat) (s:SV) (hg:σ.gs=[]) (hs:∀ j b u,s≠.gd j b u) (hR:∀ C E w y,MC C m->HSim C E σ.hp (ltn σ.n) w->R w E (ltn σ.n) (okS C E σ.hp) (lk t σ.fr) y->R w E (ltn σ.n) (okS C E ((k,.gone) :: σ.hp)) s y) :
 Ent m σ ⟨(t,s) :: σ.fr,(k,.gone) :: σ.hp,σ.n,σ.N,σ.gs⟩:=fun C E a w hmc h=>by
 obtain ⟨g1,g2⟩:=WU h.hs k
 have hR0:∀ u,R w E (ltn σ.n) (okS C E σ.hp) (lk u σ.fr) (a.tmps.getD u undef):=fun u=>Zso (h.fr u) (fun j b u' e=>by have:=h.gs u j b u' e;rw [hg] at this;simp at this)
 refine ⟨E,fun u=>?_,h.sz,Xk g2 h.df,fun u j b s' hu=>?_,g1⟩
 . rw [Zp]
   split
   . rename_i hu;subst hu
     have:=hR C E w _ hmc h.hs (hR0 _)
     cases s<;>first | exact this | exact absurd rfl (hs _ _ _)
   . refine YP g2 (fun _ _=>Ele.rfl) (fun k hk=>hk) (fun j b s hs=>?_) (h.fr u)
     have:=h.gs u j b s hs;rw [hg] at this;simp at this
 . rw [Zp] at hu
   split at hu
   . exact absurd hu (hs _ _ _)
   . exact h.gs u j b s' hu
theorem ZqF {m:Nat} {σ : St} (t k v:Nat) {m':Nat} {xs:List (List SV)} {T:TypeId} (hm:Nat.ble m k=true) (hg:σ.gs=[]) (hl:lk t σ.fr = .mr k v) (hk:lkh k σ.hp = .row v m' xs T) :
 Ent m σ ⟨(t,.sl false m' xs) :: σ.fr,(k,.gone) :: σ.hp,σ.n,σ.N,σ.gs⟩ :=
 Zc5 t k _ hg (fun _ _ _ e=>by cases e) fun C E w y hmc hh hR=>by
  rw [hl] at hR
  simp only [R] at hR ⊢
  rcases Zuh hmc (Nat.le_of_ble_eq_true hm) hh hk with ⟨h1,a0,h2⟩ | ⟨b,cap,h1,h4,h4',h5,h7⟩
  . exact ⟨a0,0,0,by rw [hR.2.2.1,h2],by simp [h1],⟨Nat.le_refl _,fun h=>by cases h⟩,by simp [h1],.inl h1⟩
  . exact ⟨_,_,_,hR.2.2.1.trans h1,rfl,⟨h4,fun h=>by cases h⟩,h5,.inr ⟨b,0,rfl,h7⟩⟩
theorem Zff {m:Nat} {σ : St} (k v:Nat) {mm:Nat} {xs:List (List SV)} {T:TypeId} (o m':Nat) (T':TypeId) (hg:σ.gs=[]) (hk:lkh k σ.hp = .row v mm xs T) :
 Ent m σ ⟨σ.fr,(k,.rws v mm xs T o m' [] T') :: σ.hp,σ.n,σ.N,σ.gs⟩:=fun C E a w hmc h=>by
 have hocc:∀ b,occ E k (.rws v mm xs T o m' [] T') b↔occ E k (lkh k σ.hp) b:=fun b=>by
  rw [hk];simp only [occ,UU,List.length_nil,Nat.le_zero]
  exact ⟨fun ⟨i,hi,h⟩=>by subst hi;exact h,fun h=>⟨0,rfl,h⟩⟩
 have hst:Zr w w (okS C E σ.hp) (okS C E ((k,.rws v mm xs T o m' [] T') :: σ.hp)):=fun b hb _=>⟨(Zdg hocc b).2 hb,rfl⟩
 have hH:HSim C E ((k,.rws v mm xs T o m' [] T') :: σ.hp) (ltn σ.n) w:=by
  have hkn:k < σ.n:=by
   rcases Classical.em (k < σ.n) with h' | h'
   . exact h'
   . have:=h.hs.kn k h';rw [hk] at this;cases this
  refine ⟨fun j hj=>?_,fun j=>?_,fun j j' b h1 h2=>h.hs.dj j j' b ((XI hocc j b).1 h1) ((XI hocc j' b).1 h2),fun j b h1=>h.hs.lo j b ((XI hocc j b).1 h1),h.hs.kp,h.hs.pin⟩
  . rw [Zh,if_neg (by rintro rfl;exact hj hkn)];exact h.hs.kn j hj
  . rw [Zh]
    by_cases hj:j=k
    . subst hj;rw [if_pos rfl]
      have hb:=ZU (n:=ltn σ.n) (n':=ltn σ.n) hst (fun _ _=>Ele.rfl) (fun _ h=>h) (.inr (show ltn σ.n j from hkn)) (fun _ _=>rfl) rfl (h.hs.bk j)
      rw [hk] at hb;simp only [ZP] at hb ⊢
      refine ⟨hb.1,Nat.zero_le _,fun i m1 rows TT hr=>?_,fun i j b hi hj _ _=>by simp at hi hj;omega⟩
      cases i with
      | zero =>
       simp only [Z1,Xm,List.length_nil,Option.some.injEq,Prod.mk.injEq] at hr
       obtain ⟨rfl,rfl,rfl⟩:=hr
       exact hb.2
      | succ i=>simp [Z1] at hr
    . rw [if_neg hj]
      refine ZU hst (fun _ _=>Ele.rfl) (fun _ h=>h) ?_ (fun _ _=>rfl) rfl (h.hs.bk j)
      rcases Classical.em (j < σ.n) with h' | h'
      . exact .inr h'
      . exact .inl (h.hs.kn j h')
 exact ⟨E,ZZ h hst (fun _ _=>Ele.rfl) (Nat.le_refl _) hH⟩
theorem ZcM {p:SV->SV->Prop} (hp:∀ s,p s s) {k o:Nat} {x:SV} {row:List SV} (hcell:row[o]? = some x):∀ {N u:Nat} {xs:List (List SV)},xs[N]? = some row->p x (.mr k (u+N)) ->
 F2 p (Xm k o u N xs).flatten (Xm k o u (N+1) (xs.set N (row.set o .any))).flatten
 | 0,u,[],h,_=>by simp at h
 | 0,u,r :: xs,h,hx=>by
  simp at h;subst h
  simp only [Xm,List.set_cons_zero,List.flatten_cons,List.set_set]
  exact UH (Zf4 hp hx hcell) (W3 hp _)
 | N+1,u,[],h,_=>by simp at h
 | N+1,u,r :: xs,h,hx=>by
  simp only [Xm,List.set_cons_succ,List.flatten_cons]
  exact UH (W3 hp _) (ZcM hp hcell (by simpa using h) (by rw [show u+1+N=u+(N+1) from by omega];exact hx))
theorem Zbs {m:Nat} {σ : St} (k q:Nat) {v mm vq o m':Nat} {xs:List (List SV)} {T T':TypeId} {inn:List (List (List SV))} {ys:List (List SV)} (row:List SV) (hm:Nat.ble m q=true) (hk:lkh k σ.hp = .rws v mm xs T o m' inn T') (hq:lkh q σ.hp = .row vq m' ys T')
 (hrow:xs[inn.length]? = some row) (hcell:row[o]? = some (.mr q vq)) :
 Ent m σ ⟨σ.fr,(k,.rws v mm (xs.set inn.length (row.set o .any)) T o m' (inn ++ [ys]) T') :: (q,.gone) :: σ.hp,σ.n,σ.N,σ.gs⟩:=fun C E a w hmc h=>by
 have hne:k≠q:=by rintro rfl;rw [hk] at hq;cases hq
 have hnk:∀ j,lkh j σ.hp≠.gone->j < σ.n:=fun j hj=>by
  rcases Classical.em (j < σ.n) with h' | h'
  . exact h'
  . exact absurd (h.hs.kn j h') hj
 have hkn:k < σ.n:=hnk k (by rw [hk];simp)
 have hqn:q < σ.n:=hnk q (by rw [hq];simp)
 have hbk:=h.hs.bk k
 have hbq:=h.hs.bk q
 rw [hk] at hbk;rw [hq] at hbq
 simp only [ZP] at hbk hbq
 obtain ⟨a1,a2,a3,a4⟩:=hbk
 obtain ⟨b1,b2⟩:=hbq
 have hNl:inn.length < xs.length:=(List.getElem?_eq_some_iff.1 hrow).1
 let E':Env:=⟨E.β,fun j u=>if j=k/\u=E.iss k then E.hv q vq else E.hv j u,fun j=>if j=k then E.iss k+1 else E.iss j⟩
 have hv0:∀ j u,u < E.iss j->E'.hv j u=E.hv j u:=fun j u hu=>by
  simp only [E'];rw [if_neg];rintro ⟨rfl,rfl⟩;omega
 have hvj:∀ j u,j≠k->E'.hv j u=E.hv j u:=fun j u hj=>by simp only [E'];rw [if_neg (fun e=>hj e.1)]
 have hvn:E'.hv k (v+(inn.length+1))=E.hv q vq:=if_pos ⟨rfl,by omega⟩
 have hik:E'.iss k=E.iss k+1:=if_pos rfl
 have hE:∀ j,Ele E E' j j:=fun j=>⟨rfl,by simp only [E'];split<;>(try subst j)<;>omega,fun u hu=>hv0 j u hu⟩
 let hp':List (Nat × HB):=(k,.rws v mm (xs.set inn.length (row.set o .any)) T o m' (inn ++ [ys]) T') :: (q,.gone) :: σ.hp
 have lk':lkh k hp' = .rws v mm (xs.set inn.length (row.set o .any)) T o m' (inn ++ [ys]) T':=by simp only [hp'];rw [Zh,if_pos rfl]
 have lq':lkh q hp' = .gone:=by simp only [hp'];rw [Zh,if_neg hne.symm,Zh,if_pos rfl]
 have lj':∀ j,j≠k->j≠q->lkh j hp'=lkh j σ.hp:=fun j h1 h2=>by simp only [hp'];rw [Zh,if_neg h1,Zh,if_neg h2]
 have hoq:∀ b,UU (E.hv q vq) b->occ E q (lkh q σ.hp) b:=fun b hb=>by rw [hq];exact hb
 have hok:∀ i b,i<=inn.length->UU (E.hv k (v+i)) b->occ E k (lkh k σ.hp) b:=fun i b hi hb=>by rw [hk];exact ⟨i,hi,hb⟩
 have hoc:∀ j b,occ E' j (lkh j hp') b->(j≠q/\occ E j (lkh j σ.hp) b)\/(j=k/\occ E q (lkh q σ.hp) b):=fun j b ho=>by
  by_cases h1:j=k
  . subst h1
    rw [lk'] at ho
    obtain ⟨i,hi,hb⟩:=ho
    simp only [List.length_append,List.length_cons,List.length_nil] at hi
    by_cases hi2:i=inn.length+1
    . subst hi2;rw [hvn] at hb;exact .inr ⟨rfl,hoq b hb⟩
    . rw [hv0 _ _ (by omega)] at hb;exact .inl ⟨hne,hok i b (by omega) hb⟩
  . by_cases h2:j=q
    . subst h2;rw [lq'] at ho;exact ho.elim
    . rw [lj' j h1 h2] at ho
      refine .inl ⟨h2,?_⟩
      cases hl:lkh j σ.hp<;>rw [hl] at ho<;>simp only [occ] at ho ⊢<;>first | exact ho | (simp only [hvj j _ h1] at ho;exact ho)
 have hoc2:∀ j b,occ E j (lkh j σ.hp) b->∃ j',occ E' j' (lkh j' hp') b:=fun j b ho=>by
  by_cases h1:j=k
  . subst h1
    rw [hk] at ho
    obtain ⟨i,hi,hb⟩:=ho
    exact ⟨j,by rw [lk'];exact ⟨i,by simp;omega,by rw [hv0 _ _ (by omega)];exact hb⟩⟩
  . by_cases h2:j=q
    . subst h2
      rw [hq] at ho
      exact ⟨k,by rw [lk'];exact ⟨inn.length+1,by simp,by rw [hvn];exact ho⟩⟩
    . refine ⟨j,?_⟩
      rw [lj' j h1 h2]
      cases hl:lkh j σ.hp<;>rw [hl] at ho<;>simp only [occ] at ho ⊢<;>first | exact ho | (simp only [hvj j _ h1];exact ho)
 have hst:Zr w w (okS C E σ.hp) (okS C E' hp'):=fun b hb _=>⟨⟨hb.1,fun j ho=>by
  rcases hoc j b ho with ⟨_,q⟩ | ⟨_,q⟩
  . exact hb.2 _ q
  . exact hb.2 _ q⟩,rfl⟩
 have mono:∀ j,ZP w E' (ltn σ.n) (okS C E' hp') j (lkh j σ.hp)\/j=k:=fun j=>by
  by_cases h1:j=k
  . exact .inr h1
  . refine .inl (ZU hst (fun j _=>hE j) (fun _ h=>h) ?_ (fun _ _=>rfl) (by simp only [E'];rw [if_neg h1]) (h.hs.bk j))
    rcases Classical.em (j < σ.n) with h' | h'
    . exact .inr h'
    . exact .inl (h.hs.kn j h')
 have hH:HSim C E' hp' (ltn σ.n) w:=by
  refine ⟨fun j hj=>?_,fun j=>?_,fun j j' b h1 h2=>?_,fun j b h1=>?_,h.hs.kp,fun j hj=>⟨(h.hs.pin j hj).1,(h.hs.pin j hj).2.trans (hE j)⟩⟩
  . have e1:j≠k:=by rintro rfl;exact hj hkn
    have e2:j≠q:=by rintro rfl;exact hj hqn
    rw [lj' j e1 e2];exact h.hs.kn j hj
  . by_cases e1:j=k
    . subst e1
      rw [lk']
      simp only [ZP,List.length_append,List.length_cons,List.length_nil,List.length_set]
      refine ⟨by rw [hik];omega,by omega,fun i m1 rows TT hr=>?_,fun x y b hx hy e1 e2=>?_⟩
      . cases i with
        | zero =>
         simp only [Z1,Option.some.injEq,Prod.mk.injEq,List.length_append,List.length_cons,List.length_nil] at hr
         obtain ⟨rfl,rfl,rfl⟩:=hr
         have h0:=a3 0 _ _ _ rfl
         rw [hv0 _ _ (by omega)]
         have hl1:=Z9 j o (v+1) inn.length xs
         have hl2:(Xm j o (v+1) (inn.length+(0+1)) (xs.set inn.length (row.set o .any))).length=xs.length:=by rw [Z9];simp
         rcases h0 with ⟨q1,q2⟩ | ⟨b,cap,cs,q1,q2,q3,q4,q5,q6,q7⟩
         . have h9:=congrArg List.length q1;rw [hl1,List.length_nil] at h9;omega
         . rw [hl1] at q1 q4 q5 q7
           refine .inr ⟨b,cap,cs,by rw [hl2];exact q1,q2,q3,by rw [hl2];exact q4,by rw [hl2];exact q5,?_,?_⟩
           . refine YL.2 fun r hr=>?_
             rcases List.mem_or_eq_of_mem_set hr with hr | rfl
             . exact YL.1 q6 r hr
             . rw [List.length_set];exact YL.1 q6 row (List.mem_of_getElem? hrow)
           . rw [hl2]
             refine Vm (ZcM (p:=fun s s'=>∀ y,R w E (ltn σ.n) (okS C E σ.hp) s y->R w E' (ltn σ.n) (okS C E' hp') s' y) (fun s y hy=>ZE hst.c (fun j _=>hE j) (fun _ h=>h) _ _ hy) hcell hrow fun y hy=>?_) q7
             simp only [R] at hy ⊢
             refine ⟨hkn,by rw [hik];omega,?_,hy.2.2.2⟩
             rw [show v+1+inn.length=v+(inn.length+1) from by omega,hvn];exact hy.2.2.1
        | succ i =>
         simp only [Z1] at hr
         split at hr
         case h_2=>cases hr
         rename_i r hr1
         simp only [Option.some.injEq,Prod.mk.injEq] at hr
         obtain ⟨rfl,rfl,rfl⟩:=hr
         by_cases hi:i < inn.length
         . rw [List.getElem?_append_left hi] at hr1
           rw [hv0 _ _ (by omega)]
           exact (a3 (i+1) m' r T' (by simp only [Z1,hr1])).mono hst.c (fun j _=>hE j) (fun _ h=>h) (fun _ _=>rfl)
         . have hi2:i=inn.length:=by have:=(List.getElem?_eq_some_iff.1 hr1).1;simp at this;omega
           subst hi2
           simp at hr1;subst hr1
           rw [hvn]
           exact Zk4.mono hst.c (fun j _=>hE j) (fun _ h=>h) (fun _ _=>rfl) b2
      . have key:∀ z,z<=inn.length+(0+1)->∀ b,UU (E'.hv j (v+z)) b->(z<=inn.length/\UU (E.hv j (v+z)) b)\/(z=inn.length+1/\UU (E.hv q vq) b):=fun z hz b hb=>by
         by_cases h1:z=inn.length+1
         . subst h1;rw [hvn] at hb;exact .inr ⟨rfl,hb⟩
         . rw [hv0 _ _ (by omega)] at hb;exact .inl ⟨by omega,hb⟩
        rcases key x hx b e1 with ⟨x1,x2⟩ | ⟨x1,x2⟩<;>rcases key y hy b e2 with ⟨y1,y2⟩ | ⟨y1,y2⟩
        . exact a4 x y b x1 y1 x2 y2
        . exact absurd (h.hs.dj j q b (hok x b x1 x2) (hoq b y2)) hne
        . exact absurd (h.hs.dj j q b (hok y b y1 y2) (hoq b x2)) hne
        . omega
    . by_cases e2:j=q
      . subst e2;rw [lq'];trivial
      . rw [lj' j e1 e2]
        rcases mono j with h' | h'
        . exact h'
        . exact absurd h' e1
  . rcases hoc j b h1 with ⟨x1,x2⟩ | ⟨x1,x2⟩<;>rcases hoc j' b h2 with ⟨y1,y2⟩ | ⟨y1,y2⟩
    . exact h.hs.dj j j' b x2 y2
    . exact absurd (h.hs.dj j q b x2 y2) x1
    . exact absurd (h.hs.dj j' q b y2 x2) y1
    . rw [x1,y1]
  . rcases hoc j b h1 with ⟨x1,x2⟩ | ⟨x1,x2⟩
    . exact h.hs.lo j b x2
    . rcases h.hs.lo q b x2 with h' | h'
      . exact .inl h'
      . have h3:=hmc.2 q b h'
        have h4:=hmc.1
        have h5:=Nat.le_of_ble_eq_true hm
        omega
 exact ⟨E',ZZ h hst (fun j _=>hE j) (Nat.le_refl _) hH⟩
theorem ZbX {m:Nat} {b:Bool} {s s':SV} {hp hp':List (Nat × HB)} {n n':Nat} (h:Ent m ⟨[(0,s)],hp,n,1,[]⟩ ⟨[(0,s')],hp',n',1,[]⟩) (hg:∀ j b u,s'≠.gd j b u):Zhx m ⟨b,s,hp,n⟩ ⟨b,s',hp',n'⟩:=by
 refine ⟨rfl,fun C E w y hm hH hR=>?_⟩
 have hng:=WP hR
 have hS:Sim C E ⟨[(0,s)],hp,n,1,[]⟩ { tmps:=#[y],defers:=C.ds } w:=by
  refine ⟨fun t=>?_,rfl,Vy,fun t j b u ht=>?_,hH⟩
  . simp only [Zp]
    split
    . rename_i ht;subst ht
      show FR w E (ltn n) _ _ s y
      cases s<;>first | exact hR | exact absurd rfl (hng _ _ _)
    . exact trivial
  . simp only [Zp] at ht
    split at ht
    . exact absurd ht (hng _ _ _)
    . cases ht
 obtain ⟨E',h'⟩:=h C E _ w hm hS
 refine ⟨E',h'.hs,?_⟩
 have:=h'.fr 0
 exact Zso this (fun j b u e=>hg j b u (by simpa [lk] using e))
theorem entO {m:Nat} {b:Bool} {s s':SV} {hp hp':List (Nat × HB)} {n n':Nat} (ρ : Nat->Nat) (hf:mtS ρ n' s' s) (hp0:mtP ρ hp' hp n' n') (hb:hpb n' hp') (hρ : ∀ i,i < n'->∀ j,j < n'->ρ i = ρ j->i=j) (hm:Nat.ble m n'=true) (hfix:∀ i,i < m->ρ i=i):Zhx m ⟨b,s,hp,n⟩ ⟨b,s',hp',n'⟩ :=
 ZbX (ent ρ (show mtF ρ n' [] [(0,s')] [(0,s)] from ⟨hf,trivial⟩) hp0 hb hρ rfl hm hfix) (ZaR hf)
theorem YR {m:Nat} {b:Bool} {s s':SV} {hp hp':List (Nat × HB)} {n n':Nat} (hf:mtS id n' s' s) (hp0:mtP id hp' hp n' n') (hb:hpb n' hp') (hm:Nat.ble m n'=true):Zhx m ⟨b,s,hp,n⟩ ⟨b,s',hp',n'⟩ :=
 entO id hf hp0 hb (fun _ _ _ _ h=>h) hm (fun _ _=>rfl)
theorem callm {P:Program} {f:FuncId} {args args0:List SV} {d:Option Nat} {σ : St} {r:KT} {K:RK} {hp0:List (Nat × HB)} {n0:Nat} {o:Ot} (ρ : Nat->Nat) (hc:CtM P f hp0 n0 args0 (· = o)) (h1:mtL ρ n0 args0 args) (h2:mtP ρ hp0 σ.hp n0 n0) (h3:Zvc ρ n0) (h4:∀ i,i < n0->ρ i < σ.n)
 (h5:cmK o.pn (rnS (exR ρ n0 σ.n) o.res) (hpM ρ n0 σ.n o σ.hp) (σ.n+(o.n - n0)) d σ r K):ZaI P f args d σ r K :=
 ⟨hp0,n0,args0,_,ρ,hc,h1,h2,h3,h4,fun _ e=>e ▸ h5⟩
def rho:List Nat->Nat->Nat
 | [],_=>0
 | a :: _,0=>a
 | _ :: l,k+1=>rho l k
theorem XL:∀ (l:List Nat) (k:Nat) (h:k < l.length),rho l k=l[k]
 | a :: _,0,_=>rfl
 | _ :: l,k+1,h=>by simpa [rho] using XL l k (by simpa using h)
theorem ZhQ {P:Program} {f:FuncId} {args args0:List SV} {d:Option Nat} {σ : St} {r:KT} {K:RK} {hp0:List (Nat × HB)} {n0:Nat} {o:Ot} (l:List Nat) (hc:CtM P f hp0 n0 args0 (· = o)) (hn:Nat.beq l.length n0=true) (hi:VC l=true) (hl:Vu σ.n l=true)
 (h1:mtL (rho l) n0 args0 args) (h2:mtP (rho l) hp0 σ.hp n0 n0) (h5:cmK o.pn (rnS (exR (rho l) n0 σ.n) o.res) (hpM (rho l) n0 σ.n o σ.hp) (σ.n+(o.n - n0)) d σ r K):ZaI P f args d σ r K:=by
 have hn:=Nat.eq_of_beq_eq_true hn
 refine callm (rho l) hc h1 h2 (fun i hi' j hj e=>?_) (fun i hi'=>?_) h5
 . rw [XL l i (by omega),XL l j (by omega)] at e
   have hp:=List.pairwise_iff_getElem.1 (YJ hi)
   rcases Nat.lt_trichotomy i j with h | h | h
   . exact absurd e (hp i j _ _ h)
   . exact h
   . exact absurd e.symm (hp j i _ _ h)
 . rw [XL l i (by omega)];exact WX hl _ (List.getElem_mem _)
theorem Zk {m0:Nat} {σ σ':St} (hf:mtF id σ'.n [] σ'.fr σ.fr) (hp:mtP id σ'.hp σ.hp σ'.n σ'.n) (hb:hpb σ'.n σ'.hp) (hN:Nat.beq σ'.N σ.N=true) (hm:Nat.ble m0 σ'.n=true):Ent m0 σ σ':=ent id hf hp hb (fun _ _ _ _ h=>h) hN hm (fun _ _=>rfl)
theorem ZsF {g:Option (Nat × Bool)} {m b:Nat} {xs ys:List (List SV)} {d:Option Nat} {σ : St} {r:KT} {L:RK} (h:(xs.length+ys.length) * b<=140737488355328) (hk:Yc d (.sl false m (xs ++ ys)) g σ r L):APP g m b xs ys d σ r L:=⟨Zy.2 fun _=>h,hk⟩
theorem ZnI {g:Option (Nat × Bool)} {k v m len:Nat} {i:Int} {d:Option Nat} {σ : St} {r:KT} {L:RK} (n:Nat) (hi:i=(n:Int)) (hn:n < len) (hk:Yc d (.pr k v m n 0) g σ r L):IXR g k v m len i d σ r L:=⟨n,Zy.2 fun _=>⟨hi,hn⟩,hk⟩
theorem ldrm {α : Type} {l:List α} {f:α->List SV} {g:Option (Nat × Bool)} {i o m:Nat} {ag:Bool} {d:Option Nat} {σ : St} {r:KT} {L:RK} (hn:i < l.length) (hk:Xt (Y7 (f l[i]) o m ag) d g σ r L):LDR g (l.map f) i o m ag d σ r L:=⟨f l[i],Zy.2 fun _=>by simp [hn],hk⟩
theorem Zva {α : Type} {l:List α} {f:α->List SV} {j o k v m:Nat} {c:List SV} {T:TypeId} {σ : St} {r:KT} {L:RK} (y:α) (hn:j < l.length) (ho:o+c.length<=(f l[j]).length) (he:Zo (f l[j]) o c=f y)
 (h:r ⟨σ.fr,(k,.row v m ((l.set j y).map f) T) :: σ.hp,σ.n,σ.N,σ.gs⟩ L):STR v (l.map f) j o k m c T σ r L :=
 ⟨f l[j],by simp [hn],ho,by rw [he,<- List.map_set];exact h⟩
theorem ZaD {r:List SV} (h:KFL r):∀ n,KFR (List.replicate n r)
 | 0=>trivial
 | n+1=>⟨h,ZaD h n⟩
theorem U9 {P:Program} {f:FuncId} {args args0:List SV} {d:Option Nat} {σ : St} {r:KT} {K:RK} {hp0:List (Nat × HB)} {n0:Nat} {Yd:Ot->Prop} (l:List Nat) (hc:CtM P f hp0 n0 args0 Yd) (hn:Nat.beq l.length n0=true) (hi:VC l=true) (hl:Vu σ.n l=true)
 (h1:mtL (rho l) n0 args0 args) (h2:mtP (rho l) hp0 σ.hp n0 n0) (h5:∀ o,Yd o->cmK o.pn (rnS (exR (rho l) n0 σ.n) o.res) (hpM (rho l) n0 σ.n o σ.hp) (σ.n+(o.n - n0)) d σ r K):ZaI P f args d σ r K:=by
 have hn:=Nat.eq_of_beq_eq_true hn
 refine ⟨hp0,n0,args0,Yd,rho l,hc,h1,h2,fun i hi' j hj e=>?_,fun i hi'=>?_,h5⟩
 . rw [XL l i (by omega),XL l j (by omega)] at e
   have hp:=List.pairwise_iff_getElem.1 (YJ hi)
   rcases Nat.lt_trichotomy i j with h | h | h
   . exact absurd e (hp i j _ _ h)
   . exact h
   . exact absurd e.symm (hp j i _ _ h)
 . rw [XL l i (by omega)]
   exact WX hl _ (List.getElem_mem _)
theorem w64_0:IntKind.i64.wrap 0=0:=rfl
theorem w64_1:IntKind.i64.wrap 1=1:=rfl
theorem w64_2:IntKind.i64.wrap 2=2:=rfl
theorem w64_3:IntKind.i64.wrap 3=3:=rfl
theorem w64_4:IntKind.i64.wrap 4=4:=rfl
theorem w64_5:IntKind.i64.wrap 5=5:=rfl
theorem w64_6:IntKind.i64.wrap 6=6:=rfl
def lkB (b:Bool) (s:SV) (t:Nat) (r:List (Nat × SV)):SV:=bif b then s else lk t r
def lkhB (b:Bool) (s:HB) (t:Nat) (r:List (Nat × HB)):HB:=bif b then s else lkh t r
def Zqj (b:Bool) (t:Nat) (r:List Nat):Bool:=bif b then true else Yz t r
def blkE (b:Bool) (i:Nat) (K:Ex->St->Prop) (σ : St):Prop:=bif b then K .n σ else K (.ex i) σ
def Zn8 (b:Bool) (s:SV):Option (List SV):=bif b then some [s] else none
def Ztc (c:Bool) (b:BinOp) (k:IntKind) (x y:Int):Option SV:=bif c then Zd0 b k x y else none
def ZuG (b:Bool) (l:List SV) (o m:Nat):Option SV:=bif b then some (.agg ((l.drop o).take m)) else none
theorem lkB_t (s:SV) (t:Nat) (r:List (Nat × SV)):lkB true s t r=s:=rfl
theorem lkB_f (s:SV) (t:Nat) (r:List (Nat × SV)):lkB false s t r=lk t r:=rfl
theorem Zto (s:HB) (t:Nat) (r:List (Nat × HB)):lkhB true s t r=s:=rfl
theorem ZsT (s:HB) (t:Nat) (r:List (Nat × HB)):lkhB false s t r=lkh t r:=rfl
theorem ZoA (t:Nat) (r:List Nat):Zqj true t r=true:=rfl
theorem Zow (t:Nat) (r:List Nat):Zqj false t r=Yz t r:=rfl
theorem Zs0 (i:Nat) (K:Ex->St->Prop) (σ : St):blkE true i K σ = K .n σ:=rfl
theorem ZtV (i:Nat) (K:Ex->St->Prop) (σ : St):blkE false i K σ = K (.ex i) σ:=rfl
theorem ZkX (s:SV):Zn8 true s=some [s]:=rfl
theorem Zqr (b:BinOp) (k:IntKind) (x y:Int):Ztc true b k x y=Zd0 b k x y:=rfl
theorem Zr0 (l:List SV) (o m:Nat):ZuG true l o m=some (.agg ((l.drop o).take m)):=rfl
def mmE (k:IntKind):Option Int->Option SV
 | some z=>some (.v (.int k z))
 | none=>none
def chkB (b:Bool) (l:List SV) (ls:List (List SV)):Option (List (List SV)):=bif b then some (l :: ls) else none
theorem ZsX (l:List SV) (ls:List (List SV)):chkB true l ls=some (l :: ls):=rfl
theorem ZtU (b:Bool):Wx true b=b:=rfl
theorem Zt7 (b:Bool):Wx false b=false:=rfl
def vwP (g:SV->SV) (o:Nat):HB->SV
 | .cells l _=>.ps (UV g l) o
 | _=>.any
def vwM (v:Nat):HB->SV
 | .row v' m xs _=>vwN (Nat.beq v v') m xs
 | .rws v' m xs _ o m' inn _=>vwN (Nat.beq v v') m (ZaS o m' inn xs)
 | _=>.any
def cvtM (v:Nat):HB->SV
 | .row v' m xs _=>vwN (Nat.beq v v') m xs
 | _=>.any
def rvH (o m:Nat) (ag:Bool):HB->Option SV
 | .cells l _=>Y7 l o m ag
 | _=>none
def rvX (hp:List (Nat × HB)) (m:Nat) (ag:Bool):SV->Option SV
 | .p k o=>rvH o m ag (lkh k hp)
 | _=>none
def pvF (o m:Nat) (ag:Bool):SV->Option SV
 | .agg l=>Y7 l o m ag
 | _=>none
def pvC (k:IntKind):SV->Option SV
 | .v (.int _ n)=>some (.v (.int k (k.wrap n)))
 | _=>none
def pvE (i:Nat):SV->Option SV
 | .tup l=>nth l i
 | _=>none
theorem e_lk (t u:Nat) (s:SV) (r:List (Nat × SV)):lk t ((u,s) :: r)=lkB (Nat.beq t u) s t r:=rfl
theorem e_lk0 (t:Nat):lk t [] = .any:=rfl
theorem e_lkh (t u:Nat) (s:HB) (r:List (Nat × HB)):lkh t ((u,s) :: r)=lkhB (Nat.beq t u) s t r:=rfl
theorem ZuE (t:Nat):lkh t [] = .gone:=rfl
theorem ZtC (t u:Nat) (r:List Nat):Yz t (u :: r)=Zqj (Nat.beq t u) t r:=rfl
theorem Zp8 (t:Nat):Yz t []=false:=rfl
theorem e_blk (id i:Nat) (K:Ex->St->Prop) (σ : St):ZnU id K (.ex i) σ = blkE (Nat.beq i id) i K σ:=rfl
theorem Zfc (g:Option (Nat × Bool)) (fr:List (Nat × SV)) (x:Value):Yy g fr (.v x)=(.v x):=rfl
theorem ZiM (t:Nat) (r:List (Nat × SV)) (x:Value):Z4 ((t,(.v x)) :: r)=(t,(.v x)) :: Z4 r:=rfl
theorem ZqD (hp:List (Nat × HB)) (x:Value):cvt hp (.v x)=(.v x):=rfl
theorem Zsa (hp:List (Nat × HB)) (g:SV->SV) (x:Value):vwS hp g (.v x)=(.v x):=rfl
theorem ZqV (x:Value):vw0 (.v x)=(.v x):=rfl
theorem ZhZ (x:Value):Z0 (.v x)=Zn8 (Ze2 x) (.v x):=rfl
theorem ZkB (x:Value):VV (.v x)=Ze2 x:=rfl
theorem ZhU (g:Option (Nat × Bool)) (fr:List (Nat × SV)) (k o:Nat):Yy g fr (.p k o)=(.p k o):=rfl
theorem Zny (t:Nat) (r:List (Nat × SV)) (k o:Nat):Z4 ((t,(.p k o)) :: r)=(t,(.p k o)) :: Z4 r:=rfl
theorem Zrz (hp:List (Nat × HB)) (k o:Nat):cvt hp (.p k o)=(.p k o):=rfl
theorem Zpo (hp:List (Nat × HB)) (g:SV->SV) (k o:Nat):vwS hp g (.p k o)=vwP g o (lkh k hp):=rfl
theorem Zsj (k o:Nat):vw0 (.p k o) = .any:=rfl
theorem Zhj (k o:Nat):Z0 (.p k o)=some [(.p k o)]:=rfl
theorem Zmd (k o:Nat):VV (.p k o)=true:=rfl
theorem Zcv (g:Option (Nat × Bool)) (fr:List (Nat × SV)) (l:List SV):Yy g fr (.agg l)=(.agg l):=rfl
theorem Zdv (t:Nat) (r:List (Nat × SV)) (l:List SV):Z4 ((t,(.agg l)) :: r)=(t,(.agg l)) :: Z4 r:=rfl
theorem ZgJ (hp:List (Nat × HB)) (l:List SV):cvt hp (.agg l) = .agg (Zhu hp l):=rfl
theorem ZeR (hp:List (Nat × HB)) (g:SV->SV) (l:List SV):vwS hp g (.agg l) = .agg (UV g l):=rfl
theorem Zge (l:List SV):vw0 (.agg l) = .any:=rfl
theorem ZbY (l:List SV):Z0 (.agg l)=some l:=rfl
theorem ZdP (l:List SV):VV (.agg l)=false:=rfl
theorem Zdw (g:Option (Nat × Bool)) (fr:List (Nat × SV)) (c:Bool) (m:Nat) (xs:List (List SV)):Yy g fr (.sl c m xs)=(.sl c m xs):=rfl
theorem Zfa (t:Nat) (r:List (Nat × SV)) (c:Bool) (m:Nat) (xs:List (List SV)):Z4 ((t,(.sl c m xs)) :: r)=(t,(.sl c m xs)) :: Z4 r:=rfl
theorem ZjC (hp:List (Nat × HB)) (c:Bool) (m:Nat) (xs:List (List SV)):cvt hp (.sl c m xs)=(.sl c m xs):=rfl
theorem Zj5 (hp:List (Nat × HB)) (g:SV->SV) (c:Bool) (m:Nat) (xs:List (List SV)):vwS hp g (.sl c m xs)=(.sl c m xs):=rfl
theorem Zjw (c:Bool) (m:Nat) (xs:List (List SV)):vw0 (.sl c m xs)=(.sl c m xs):=rfl
theorem Zed (c:Bool) (m:Nat) (xs:List (List SV)):Z0 (.sl c m xs)=some [(.sl c m xs)]:=rfl
theorem ZeT (c:Bool) (m:Nat) (xs:List (List SV)):VV (.sl c m xs)=true:=rfl
theorem ZoU (l:List SV):pmS [] l=[]:=rfl
theorem ZdX (g:Option (Nat × Bool)) (fr:List (Nat × SV)) (k v:Nat):Yy g fr (.mr k v)=(.mr k v):=rfl
theorem Zfk (t:Nat) (r:List (Nat × SV)) (k v:Nat):Z4 ((t,(.mr k v)) :: r)=(t,(.mr k v)) :: Z4 r:=rfl
theorem ZkW (hp:List (Nat × HB)) (k v:Nat):cvt hp (.mr k v)=cvtM v (lkh k hp):=rfl
theorem ZiO (hp:List (Nat × HB)) (g:SV->SV) (k v:Nat):vwS hp g (.mr k v)=vwM v (lkh k hp):=rfl
theorem Zln (k v:Nat):vw0 (.mr k v) = .any:=rfl
theorem ZdQ (k v:Nat):Z0 (.mr k v)=some [(.mr k v)]:=rfl
theorem Zga (k v:Nat):VV (.mr k v)=true:=rfl
theorem Zep (g:Option (Nat × Bool)) (fr:List (Nat × SV)) (k v m i o:Nat):Yy g fr (.pr k v m i o)=(.pr k v m i o):=rfl
theorem Zei (g:Option (Nat × Bool)) (fr:List (Nat × SV)) (k v m i o:Nat):Yy g fr (.ms k v m i o)=(.ms k v m i o):=rfl
theorem Ze1 (t:Nat) (r:List (Nat × SV)) (k v m i o:Nat):Z4 ((t,(.pr k v m i o)) :: r)=(t,(.pr k v m i o)) :: Z4 r:=rfl
theorem Zgd (t:Nat) (r:List (Nat × SV)) (k v m i o:Nat):Z4 ((t,(.ms k v m i o)) :: r)=(t,(.ms k v m i o)) :: Z4 r:=rfl
theorem Zng (hp:List (Nat × HB)) (k v m i o:Nat):cvt hp (.pr k v m i o)=(.pr k v m i o):=rfl
theorem ZkL (hp:List (Nat × HB)) (k v m i o:Nat):cvt hp (.ms k v m i o)=(.ms k v m i o):=rfl
theorem Zj8 (hp:List (Nat × HB)) (g:SV->SV) (k v m i o:Nat):vwS hp g (.pr k v m i o)=(.pr k v m i o):=rfl
theorem Zlc (hp:List (Nat × HB)) (g:SV->SV) (k v m i o:Nat):vwS hp g (.ms k v m i o)=(.ms k v m i o):=rfl
theorem Zl0 (k v m i o:Nat):vw0 (.pr k v m i o) = .any:=rfl
theorem Zi5 (k v m i o:Nat):vw0 (.ms k v m i o) = .any:=rfl
theorem ZdL (k v m i o:Nat):Z0 (.pr k v m i o)=some [(.pr k v m i o)]:=rfl
theorem ZeI (k v m i o:Nat):Z0 (.ms k v m i o)=some [(.ms k v m i o)]:=rfl
theorem Zhf (k v m i o:Nat):VV (.pr k v m i o)=true:=rfl
theorem Zgk (k v m i o:Nat):VV (.ms k v m i o)=true:=rfl
theorem ZeF (g:Option (Nat × Bool)) (fr:List (Nat × SV)) (row:List SV) (o:Nat):Yy g fr (.ps row o)=(.ps row o):=rfl
theorem Zgl (t:Nat) (r:List (Nat × SV)) (row:List SV) (o:Nat):Z4 ((t,(.ps row o)) :: r)=(t,(.ps row o)) :: Z4 r:=rfl
theorem ZmM (hp:List (Nat × HB)) (row:List SV) (o:Nat):cvt hp (.ps row o)=(.ps row o):=rfl
theorem Zk5 (hp:List (Nat × HB)) (g:SV->SV) (l:List SV) (o:Nat):vwS hp g (.ps l o) = .ps (UV g l) o:=rfl
theorem Zmj (row:List SV) (o:Nat):vw0 (.ps row o) = .any:=rfl
theorem Zeq (row:List SV) (o:Nat):Z0 (.ps row o)=some [(.ps row o)]:=rfl
theorem Ziq (row:List SV) (o:Nat):VV (.ps row o)=true:=rfl
theorem Zd5 (g:Option (Nat × Bool)) (fr:List (Nat × SV)) (f:FuncId) (l:List SV):Yy g fr (.cl f l)=(.cl f l):=rfl
theorem Ze3 (t:Nat) (r:List (Nat × SV)) (f:FuncId) (l:List SV):Z4 ((t,(.cl f l)) :: r)=(t,(.cl f l)) :: Z4 r:=rfl
theorem Zlz (hp:List (Nat × HB)) (f:FuncId) (l:List SV):cvt hp (.cl f l)=(.cl f l):=rfl
theorem ZjU (hp:List (Nat × HB)) (g:SV->SV) (f:FuncId) (l:List SV):vwS hp g (.cl f l) = .cl f (UV g l):=rfl
theorem Znp (f:FuncId) (l:List SV):vw0 (.cl f l) = .any:=rfl
theorem ZdW (f:FuncId) (l:List SV):Z0 (.cl f l)=some [(.cl f l)]:=rfl
theorem Zgp (f:FuncId) (l:List SV):VV (.cl f l)=true:=rfl
theorem Zb4 (g:Option (Nat × Bool)) (fr:List (Nat × SV)) (l:List SV):Yy g fr (.tup l)=(.tup l):=rfl
theorem ZeC (t:Nat) (r:List (Nat × SV)) (l:List SV):Z4 ((t,(.tup l)) :: r)=(t,(.tup l)) :: Z4 r:=rfl
theorem Zib (hp:List (Nat × HB)) (l:List SV):cvt hp (.tup l) = .tup (Zhu hp l):=rfl
theorem Zfv (hp:List (Nat × HB)) (g:SV->SV) (l:List SV):vwS hp g (.tup l) = .tup (UV g l):=rfl
theorem ZhI (l:List SV):vw0 (.tup l) = .any:=rfl
theorem Zd2 (l:List SV):VV (.tup l)=false:=rfl
theorem Zgz (g:Option (Nat × Bool)) (fr:List (Nat × SV)) (φ : VP):Yy g fr (.q φ)=(.q φ):=rfl
theorem Zke (t:Nat) (r:List (Nat × SV)) (φ : VP):Z4 ((t,(.q φ)) :: r)=(t,(.q φ)) :: Z4 r:=rfl
theorem Zpt (hp:List (Nat × HB)) (φ : VP):cvt hp (.q φ)=(.q φ):=rfl
theorem Zqx (hp:List (Nat × HB)) (g:SV->SV) (φ : VP):vwS hp g (.q φ)=(.q φ):=rfl
theorem Zoo (φ : VP):vw0 (.q φ)=(.q φ):=rfl
theorem ZfS (φ : VP):Z0 (.q φ)=some [(.q φ)]:=rfl
theorem Zj6 (φ : VP):VV (.q φ)=true:=rfl
theorem Zd1 (g:Option (Nat × Bool)) (fr:List (Nat × SV)) (k:Nat):Yy g fr (.mp k)=(.mp k):=rfl
theorem Zii (t:Nat) (r:List (Nat × SV)) (k:Nat):Z4 ((t,(.mp k)) :: r)=(t,(.mp k)) :: Z4 r:=rfl
theorem Znc (hp:List (Nat × HB)) (k:Nat):cvt hp (.mp k)=(.mp k):=rfl
theorem ZkQ (hp:List (Nat × HB)) (g:SV->SV) (k:Nat):vwS hp g (.mp k) = .any:=rfl
theorem ZjN (k:Nat):vw0 (.mp k) = .any:=rfl
theorem ZdY (k:Nat):Z0 (.mp k)=some [(.mp k)]:=rfl
theorem ZgT (k:Nat):VV (.mp k)=true:=rfl
theorem Zev (g:Option (Nat × Bool)) (fr:List (Nat × SV)) (k:Nat):Yy g fr (.yl k)=(.yl k):=rfl
theorem Zin (t:Nat) (r:List (Nat × SV)) (k:Nat):Z4 ((t,(.yl k)) :: r)=(t,(.yl k)) :: Z4 r:=rfl
theorem Zey (k:Nat):Z0 (.yl k)=some [(.yl k)]:=rfl
theorem Zhl (k:Nat):VV (.yl k)=true:=rfl
theorem Zb0 (g:Option (Nat × Bool)) (fr:List (Nat × SV)) (T:TypeId) (s:SV):Yy g fr (.ifc T s)=(.ifc T s):=rfl
theorem Zec (t:Nat) (r:List (Nat × SV)) (T:TypeId) (s:SV):Z4 ((t,(.ifc T s)) :: r)=(t,(.ifc T s)) :: Z4 r:=rfl
theorem Zhh (hp:List (Nat × HB)) (T:TypeId) (s:SV):cvt hp (.ifc T s) = .ifc T (cvt hp s):=rfl
theorem ZgU (hp:List (Nat × HB)) (g:SV->SV) (T:TypeId) (s:SV):vwS hp g (.ifc T s) = .ifc T (g s):=rfl
theorem Zhc (T:TypeId) (s:SV):vw0 (.ifc T s) = .any:=rfl
theorem Zcb (T:TypeId) (s:SV):Z0 (.ifc T s)=some [(.ifc T s)]:=rfl
theorem ZdA (T:TypeId) (s:SV):VV (.ifc T s)=true:=rfl
theorem Zb5 (P:Program) (Y:Hd) (d:Option Nat) (σ : St) (r:KT) (K:RK) (f:FuncId) (as:List X):stp P Y d (.callm f as) σ r K=ZaI P f (Vn (rdG none σ.fr) as) d σ r K:=rfl
theorem Zb8 (P:Program) (Y:Hd) (d:Option Nat) (σ : St) (r:KT) (K:RK) (x:X) (as:List X):stp P Y d (.calvm x as) σ r K=Zes P Y (rdG none σ.fr x) (Vn (rdG none σ.fr) as) d σ r K:=rfl
theorem e_yld (asg body:Nat->CT) (ps:List Nat) (kl:Nat) (rec:Loop) (fr:List (Nat × SV)) (N k:Nat) (args:List SV) (d:Option Nat) (σ : St) (r:KT) (K:RK):YLD (hdR asg body ps kl rec fr N) k args d σ r K =
 rfB (Nat.beq k kl) (Zn9 rec (lkh kl σ.hp)/\rfB (Ziv args ps) (asg σ.n ⟨pmS ps args ++ fr,σ.hp,σ.n,N,[]⟩ (asE kl rec (body σ.n) (bdE kl rec fun o=>cmK o.pn o.res o.hp o.n d σ r K)))):=rfl
theorem e_exR (ρ : Nat->Nat) (n0 n k:Nat):exR ρ n0 n k=exB (Nat.blt k n0) (ρ k) (n+(k - n0)):=rfl
theorem e_hpM (ρ : Nat->Nat) (n0 n:Nat) (o:Ot) (hp:List (Nat × HB)):hpM ρ n0 n o hp=rnP (exR ρ n0 n) o.hp ++ (US ρ n0 ++ hp):=rfl
theorem Ze8 (P:Program) (Y:Hd) (m:Nat) (g:X) (ps:List Nat) (asg body:SC) (σ : St) (K:Ex->St->Prop):sx P Y m (.rfun g ps asg body) σ K=rfK P (fun n=>sx P Y0 n asg) (fun n=>sx P Y0 n body) (rdG none σ.fr g) ps σ K:=rfl
theorem ZbO (g:Option (Nat × Bool)) (fr:List (Nat × SV))  : Yy g fr (.any)=(.any):=rfl
theorem Zek (t:Nat) (r:List (Nat × SV))  : Z4 ((t,(.any)) :: r)=(t,(.any)) :: Z4 r:=rfl
theorem ZhD (hp:List (Nat × HB))  : cvt hp (.any)=(.any):=rfl
theorem ZfA (hp:List (Nat × HB)) (g:SV->SV)  : vwS hp g (.any)=(.any):=rfl
theorem Zhq  : vw0 (.any) = .any:=rfl
theorem Zeb  : VV (.any)=false:=rfl
theorem ZhW (t j:Nat) (w:Bool) (s:SV) (r:List (Nat × SV)):Z4 ((t,.gd j w s) :: r)=(t,.any) :: Z4 r:=rfl
theorem Zr8  : Z4 []=[]:=rfl
theorem ZbV (fr:List (Nat × SV)) (j:Nat) (w:Bool) (s:SV):Yy none fr (.gd j w s) = .any:=rfl
theorem Zd4 (fr:List (Nat × SV)) (j j0:Nat) (w w0:Bool) (s:SV):Yy (some (j0,w0)) fr (.gd j w s)=ZbP (alw 8 fr j0 w0 j w) s:=rfl
theorem Zck (b:Bool):Ze2 (.bool b)=true:=rfl
theorem Zdl (k:IntKind) (n:Int):Ze2 (.int k n)=true:=rfl
theorem ZaC (s:ByteArray):Ze2 (.string s)=true:=rfl
theorem UZ (p:Option Addr):Ze2 (.pointer p)=true:=rfl
theorem Zbj (a:Option Addr) (l c:Nat):Ze2 (.slice a l c)=true:=rfl
theorem UY  : Ze2 .nilFunc=true:=rfl
theorem Uz  : Ze2 .nilIface=true:=rfl
theorem e_rdG (g:Option (Nat × Bool)) (fr:List (Nat × SV)) (x:X):rdG g fr x=Yy g fr (rd fr x):=rfl
theorem Zux (fr:List (Nat × SV)) (n:Nat):rd fr (.t n)=lk n fr:=rfl
theorem Zt1 (fr:List (Nat × SV)) (x:Value):rd fr (.c x) = .v x:=rfl
theorem Zuz (fr:List (Nat × SV)) (i:Nat):rd fr (.f i) = .cl i []:=rfl
theorem e_alw (f:Nat) (fr:List (Nat × SV)) (j0:Nat) (w0:Bool) (j:Nat) (w:Bool):alw (f+1) fr j0 w0 j w=Zsr (Zd8 (Nat.beq j0 j) w0 w) (lk j0 fr) (alw f fr) j w:=rfl
theorem Zur (fr:List (Nat × SV)) (j0:Nat) (w0:Bool) (j:Nat) (w:Bool):alw 0 fr j0 w0 j w=false:=rfl
theorem e_vw1 (hp:List (Nat × HB)) (s:SV):vw1 hp s=vwS hp vw0 s:=rfl
theorem e_vw2 (hp:List (Nat × HB)) (s:SV):vw2 hp s=vwS hp (vw1 hp) s:=rfl
theorem e_vw3 (hp:List (Nat × HB)) (s:SV):vw3 hp s=vwS hp (vw2 hp) s:=rfl
theorem e_vw4 (hp:List (Nat × HB)) (s:SV):vw4 hp s=vwS hp (vw3 hp) s:=rfl
theorem ZiT (fr:List (Nat × SV)) (hp:List (Nat × HB)) (n N:Nat):Wu ⟨fr,hp,n,N,[]⟩=⟨fr,hp,n,N,[]⟩:=rfl
theorem Zmg (fr:List (Nat × SV)) (hp:List (Nat × HB)) (n N j:Nat) (l:List Nat):Wu ⟨fr,hp,n,N,j :: l⟩=⟨Z4 fr,hp,n,N,[]⟩:=rfl
theorem ZtD (b:BinOp) (k j:IntKind) (x y:Int):ZsO b (.v (.int k x)) (.v (.int j y))=Ztc (Zat k j) b k x y:=rfl
theorem Ze5 (b:Bool):uni .not (.v (.bool b))=some (.v (.bool (!b))):=rfl
theorem ZfU (k:IntKind) (n:Int):uni .neg (.v (.int k n))=some (.v (.int k (k.wrap (0 - n)))):=rfl
theorem Zdk (k:IntKind) (x y:Int):Zd0 .add k x y=some (.v (.int k (k.wrap (x+y)))):=rfl
theorem Zdp (k:IntKind) (x y:Int):Zd0 .sub k x y=some (.v (.int k (k.wrap (x - y)))):=rfl
theorem ZdK (k:IntKind) (x y:Int):Zd0 .mul k x y=some (.v (.int k (k.wrap (x * y)))):=rfl
theorem ZdV (k:IntKind) (x y:Int):Zd0 .eql k x y=some (.v (.bool (x == y))):=rfl
theorem ZdJ (k:IntKind) (x y:Int):Zd0 .neq k x y=some (.v (.bool (x != y))):=rfl
theorem Zdz (k:IntKind) (x y:Int):Zd0 .lss k x y=some (.v (.bool (decide (x < y)))):=rfl
theorem Zd6 (k:IntKind) (x y:Int):Zd0 .leq k x y=some (.v (.bool (decide (x<=y)))):=rfl
theorem ZeD (k:IntKind) (x y:Int):Zd0 .gtr k x y=some (.v (.bool (decide (x > y)))):=rfl
theorem ZeA (k:IntKind) (x y:Int):Zd0 .geq k x y=some (.v (.bool (decide (x ≥ y)))):=rfl
theorem ZhG  : Zat .i8 .i8=true:=rfl
theorem Zet  : Zat .i16 .i16=true:=rfl
theorem ZdD  : Zat .i32 .i32=true:=rfl
theorem Zej  : Zat .i64 .i64=true:=rfl
theorem Zgj  : Zat .u8 .u8=true:=rfl
theorem ZdB  : Zat .u16 .u16=true:=rfl
theorem Zeu  : Zat .u32 .u32=true:=rfl
theorem ZeB  : Zat .u64 .u64=true:=rfl
theorem Zme (o:Nat) (k q:Nat):W0 o (.p k q)=some (.p k (q+o)):=rfl
theorem Zjb (k q:Nat):Zbi (.p k q)=some (.p k q):=rfl
theorem Zhk (o:Nat) (k v m i q:Nat):W0 o (.pr k v m i q)=some (.pr k v m i (q+o)):=rfl
theorem ZgB (k v m i q:Nat):Zbi (.pr k v m i q)=some (.pr k v m i q):=rfl
theorem Zhb (o:Nat) (row:List SV) (q:Nat):W0 o (.ps row q)=some (.ps row (q+o)):=rfl
theorem Zhd (row:List SV) (q:Nat):Zbi (.ps row q)=some (.ps row q):=rfl
theorem Znn (l:List SV) (o m:Nat):Y7 l o m true=ZuG (Nat.ble (o+m) l.length) l o m:=rfl
theorem Zlt (l:List SV) (o m:Nat):Y7 l o m false=nth l o:=rfl
theorem Ztr (mx:Bool) (x:Int):mmf mx x []=some x:=rfl
theorem ZrP (k:IntKind) (x y:Int) (r:List SV):mmf true x (.v (.int k y) :: r)=mmf true (max x y) r:=rfl
theorem ZpE (k:IntKind) (x y:Int) (r:List SV):mmf false x (.v (.int k y) :: r)=mmf false (min x y) r:=rfl
theorem e_mm (mx:Bool) (k:IntKind) (x:Int) (r:List SV):mmS mx (.v (.int k x) :: r)=mmE k (mmf mx x r):=rfl
theorem e_bld (ρ : X->SV) (z:List SV) (ps:List (Nat × Nat × X)):bld ρ z ps=Zis z (ZlP ρ ps):=rfl
theorem ZeE (ρ : X->SV) (z:List Value) (ps:List (Nat × Nat × X)):pv ρ (.build z ps)=ZtS (bld ρ (lit z) ps):=rfl
theorem ZuI (l:List SV) (m:Nat) (ls:List (List SV)):ZsI (some l) m (some ls)=chkB (chk l m) l ls:=rfl
theorem Zmn (s:SV) (l:List SV):Ya (s :: l)=Wx (VV s) (Ya l):=rfl
theorem Zgb  : Ya []=true:=rfl
theorem Zla (fr:List (Nat × SV)) (g:Option (Nat × Bool)) (t:Nat) (b:X):Zd3 fr g (.t t) (.c (.bool true)) b=ZdN (rdG g fr (.t t)) (rdG (some (t,false)) fr b):=rfl
theorem Zns (fr:List (Nat × SV)) (g:Option (Nat × Bool)) (t n:Nat):Zd3 fr g (.t t) (.t n) (.c (.bool false))=Zb6 (rdG g fr (.t t)) (rdG (some (t,true)) fr (.t n)):=rfl
theorem Zms (fr:List (Nat × SV)) (g:Option (Nat × Bool)) (t:Nat):Zd3 fr g (.t t) (.c (.bool false)) (.c (.bool false))=Zb6 (rdG g fr (.t t)) (rdG (some (t,true)) fr (.c (.bool false))):=rfl
theorem Zip:Zb6 (.v (.bool false)) (.v undef)=some (.v (.bool false)):=rfl
theorem ZhR:ZdN (.v (.bool true)) (.v undef)=some (.v (.bool true)):=rfl
theorem e_rvR (rs:List RV) (σ : St):rvR rs σ = rvE (rvs σ rs):=rfl
theorem Zuv (σ : St):rvs σ []=some []:=rfl
theorem Zoy (σ : St) (t:Nat):rv1 σ (.tmp t)=some (rdG none σ.fr (.t t)):=rfl
theorem Zre (σ : St) (t m:Nat) (ag:Bool):rv1 σ (.cell t m ag)=rvX σ.hp m ag (rdG none σ.fr (.t t)):=rfl
theorem ZmE (P:Program) (Y:Hd) (d:Option Nat) (σ : St) (r:KT) (K:RK) (x:X):stp P Y d (.mv x) σ r K=ZW P none d (.mv x) σ r K:=rfl
theorem ZeH (P:Program) (Y:Hd) (d:Option Nat) (σ : St) (r:KT) (K:RK) (c a b:X):stp P Y d (.pick c a b) σ r K=ZW P none d (.pick c a b) σ r K:=rfl
theorem Zcd (P:Program) (Y:Hd) (d:Option Nat) (σ : St) (r:KT) (K:RK) (z:List Value) (ps:List (Nat × Nat × X)):stp P Y d (.build z ps) σ r K=ZW P none d (.build z ps) σ r K:=rfl
theorem Zh2 (P:Program) (Y:Hd) (d:Option Nat) (σ : St) (r:KT) (K:RK) (m:Nat) (T:TypeId) (ps:List X):stp P Y d (.bsl m T ps) σ r K=ZW P none d (.bsl m T ps) σ r K:=rfl
theorem ZlF (P:Program) (Y:Hd) (d:Option Nat) (σ : St) (r:KT) (K:RK) (x:X) (m:Nat) (ag:Bool):stp P Y d (.ld x m ag) σ r K=ZW P none d (.ld x m ag) σ r K:=rfl
theorem ZdZ (P:Program) (Y:Hd) (d:Option Nat) (σ : St) (r:KT) (K:RK) (x:X):stp P Y d (.nilc x) σ r K=ZW P none d (.nilc x) σ r K:=rfl
theorem Zik (P:Program) (Y:Hd) (d:Option Nat) (σ : St) (r:KT) (K:RK) (b:BinOp) (x y:X):stp P Y d (.bin b x y) σ r K=ZW P none d (.bin b x y) σ r K:=rfl
theorem Zfd (P:Program) (Y:Hd) (d:Option Nat) (σ : St) (r:KT) (K:RK) (b:BinOp) (x y:X):stp P Y d (.div b x y) σ r K=ZW P none d (.div b x y) σ r K:=rfl
theorem ZiB (P:Program) (Y:Hd) (d:Option Nat) (σ : St) (r:KT) (K:RK) (u:UnOp) (x:X):stp P Y d (.un u x) σ r K=ZW P none d (.un u x) σ r K:=rfl
theorem Zem (P:Program) (Y:Hd) (d:Option Nat) (σ : St) (r:KT) (K:RK) (x:X) (o:Nat):stp P Y d (.addo x o) σ r K=ZW P none d (.addo x o) σ r K:=rfl
theorem Zf3 (P:Program) (Y:Hd) (d:Option Nat) (σ : St) (r:KT) (K:RK) (x:X) (o m:Nat) (ag:Bool):stp P Y d (.fld x o m ag) σ r K=ZW P none d (.fld x o m ag) σ r K:=rfl
theorem ZfJ (P:Program) (Y:Hd) (d:Option Nat) (σ : St) (r:KT) (K:RK) (x i:X) (len m:Nat) (ag:Bool):stp P Y d (.idx x i len m ag) σ r K=ZW P none d (.idx x i len m ag) σ r K:=rfl
theorem ZhH (P:Program) (Y:Hd) (d:Option Nat) (σ : St) (r:KT) (K:RK) (x i:X) (len m:Nat):stp P Y d (.ixa x i len m) σ r K=ZW P none d (.ixa x i len m) σ r K:=rfl
theorem ZfZ (P:Program) (Y:Hd) (d:Option Nat) (σ : St) (r:KT) (K:RK) (x i:X) (m:Nat):stp P Y d (.ixs x i m) σ r K=ZW P none d (.ixs x i m) σ r K:=rfl
theorem Zhr (P:Program) (Y:Hd) (d:Option Nat) (σ : St) (r:KT) (K:RK) (x:X):stp P Y d (.len x) σ r K=ZW P none d (.len x) σ r K:=rfl
theorem Zl8 (P:Program) (Y:Hd) (d:Option Nat) (σ : St) (r:KT) (K:RK) (mx:Bool) (xs:List X):stp P Y d (.mm mx xs) σ r K=ZW P none d (.mm mx xs) σ r K:=rfl
theorem Zdm (P:Program) (Y:Hd) (d:Option Nat) (σ : St) (r:KT) (K:RK) (f:FuncId) (as:List X):stp P Y d (.call f as) σ r K=ZW P none d (.call f as) σ r K:=rfl
theorem Zd9 (P:Program) (Y:Hd) (d:Option Nat) (σ : St) (r:KT) (K:RK) (x:X) (as:List X):stp P Y d (.calv x as) σ r K=ZW P none d (.calv x as) σ r K:=rfl
theorem Zig (P:Program) (Y:Hd) (d:Option Nat) (σ : St) (r:KT) (K:RK) (f:FuncId) (cs:List X):stp P Y d (.mkf f cs) σ r K=ZW P none d (.mkf f cs) σ r K:=rfl
theorem Zdo (P:Program) (Y:Hd) (d:Option Nat) (σ : St) (r:KT) (K:RK) (k:IntKind) (x:X):stp P Y d (.conv k x) σ r K=ZW P none d (.conv k x) σ r K:=rfl
theorem ZeV (P:Program) (Y:Hd) (d:Option Nat) (σ : St) (r:KT) (K:RK) (x:X) (i:Nat):stp P Y d (.ext x i) σ r K=ZW P none d (.ext x i) σ r K:=rfl
theorem e_rvs (σ : St) (r:RV) (rs:List RV):rvs σ (r :: rs)=rvC σ.hp (rv1 σ r) (rvs σ rs):=rfl
theorem ZlU (ρ : X->SV) (x:X) (o m:Nat) (ag:Bool):pv ρ (.fld x o m ag)=pvF o m ag (ρ x):=rfl
theorem Zgc (ρ : X->SV) (k:IntKind) (x:X):pv ρ (.conv k x)=pvC k (ρ x):=rfl
theorem Zkh (ρ : X->SV) (x:X) (i:Nat):pv ρ (.ext x i)=pvE i (ρ x):=rfl
theorem ZqH (fr:List (Nat × SV)):ZsJ [] fr=True:=rfl
theorem Zui (t:Nat) (s:SV) (r fr:List (Nat × SV)):ZsJ ((t,s) :: r) fr=(lk t fr=s/\ZsJ r fr):=rfl
theorem ZeZ (P:Program) (Y:Hd) (d:Option Nat) (σ : St) (r:KT) (K:RK) (ng ag:Bool) (cls:List Nat) (x y:X):stp P Y d (.eqs ng ag cls x y) σ r K=ZW P none d (.eqs ng ag cls x y) σ r K:=rfl
theorem ZgA (P:Program) (Y:Hd) (d:Option Nat) (σ : St) (r:KT) (K:RK) (x h k:X):stp P Y d (.slc x h k) σ r K=ZW P none d (.slc x h k) σ r K:=rfl
theorem Zif (P:Program) (Y:Hd) (d:Option Nat) (σ : St) (r:KT) (K:RK) (m:Nat) (x:X) (lo hi:Option X):stp P Y d (.sub m x lo hi) σ r K=ZW P none d (.sub m x lo hi) σ r K:=rfl
theorem ZhS (P:Program) (Y:Hd) (d:Option Nat) (σ : St) (r:KT) (K:RK) (m b:Nat) (T:TypeId) (x y:X):stp P Y d (.app m b T x y) σ r K=ZW P none d (.app m b T x y) σ r K:=rfl
theorem ZmT (l):ZtS (some l)=some (SV.agg l):=rfl
theorem ZmS: ZtS none=none:=rfl
theorem Zsc (k z):mmE k (some z)=some (SV.v (Value.int k z)):=rfl
theorem Zqu (k):mmE k none=none:=rfl
theorem Zpk (g o l T):vwP g o (HB.cells l T)=SV.ps (UV g l) o:=rfl
theorem ZqA (m a):vwN true m a=SV.sl false m a:=rfl
theorem ZoK (m a):vwN false m a=SV.any:=rfl
theorem Zry (v a m b T):vwM v (HB.row a m b T)=vwN (Nat.beq v a) m b:=rfl
theorem Zpe (v a m b T o c d e):vwM v (HB.rws a m b T o c d e)=vwN (Nat.beq v a) m (ZaS o c d b):=rfl
theorem ZkK (v a m b T):cvtM v (HB.row a m b T)=vwN (Nat.beq v a) m b:=rfl
theorem Zj7 (m v a b c T):ZeM m v (HB.row a b c T)=Zen c (Wx (Nat.beq m b) (Nat.beq v a)):=rfl
theorem ZiV (m v l T):ZeM m v (HB.cells l T)=none:=rfl
theorem Zlb (m v φ):ZeM m v (HB.ob φ)=none:=rfl
theorem ZlC (m v a b):ZeM m v (HB.map a b)=none:=rfl
theorem ZjQ (m v a b c d):ZeM m v (HB.it a b c d)=none:=rfl
theorem Zlm (m v a b):ZeM m v (HB.lp a b)=none:=rfl
theorem Zmm (m v a):ZeM m v (HB.lb a)=none:=rfl
theorem Zlj (m v a b c T o d e f):ZeM m v (HB.rws a b c T o d e f)=none:=rfl
theorem ZiF (m v):ZeM m v HB.gone=none:=rfl
theorem ZiN (a):Zen a true=some a:=rfl
theorem ZjL (a):Zen a false=none:=rfl
theorem Zqt: rvE (some [])=some (SV.tup []):=rfl
theorem ZqP (s):rvE (some [s])=some s:=rfl
theorem ZoL (a b l):rvE (some (a :: b :: l))=some (SV.tup (a :: b :: l)):=rfl
theorem ZoE: rvE none=none:=rfl
theorem Zrf (s l):rvD s (some l)=some (s :: l):=rfl
theorem ZpI (s):rvD s none=none:=rfl
theorem ZpF (hp x s):rvC hp (some s) x=rvD (cvt hp s) x:=rfl
theorem Zok (hp x):rvC hp none x=none:=rfl
theorem ZqX (o m a l T):rvH o m a (HB.cells l T)=Y7 l o m a:=rfl
theorem Zqg (hp m a k o):rvX hp m a (SV.p k o)=rvH o m a (lkh k hp):=rfl
theorem Zqy (o m a l):pvF o m a (SV.agg l)=Y7 l o m a:=rfl
theorem Zqp (k a n):pvC k (SV.v (Value.int a n))=some (SV.v (Value.int k (IntKind.wrap k n))):=rfl
theorem ZpT (i l):pvE i (SV.tup l)=nth l i:=rfl
theorem Zkv (x a b c d):ZuC false true false x a b c d=c { fr:=(x,a) :: St.fr b,hp:=St.hp b,n:=St.n b,N:=St.N b,gs:=St.gs b } d:=rfl
theorem ZlJ (x a b c d e f):ZuY false true false x a b c d e f=e { fr:=(x,SV.gd a b c) :: St.fr d,hp:=St.hp d,n:=St.n d,N:=St.N d,gs:=a :: St.gs d } f:=rfl
theorem Zje (s σ r K):Yc none s none σ r K=r σ K:=rfl
theorem Zi7 (s σ r K a):Yc none s (some a) σ r K=False:=rfl
theorem ZmY (s σ r K t):Yc (some t) s none σ r K=ZuC (Yz t (St.gs σ)) (Nat.blt t (St.N σ)) (gdS s) t s σ r K:=rfl
theorem Znm (s σ r K t j w):Yc (some t) s (some (j,w)) σ r K=ZuY (Yz t (St.gs σ)) (Nat.blt t (St.N σ)) (Nat.beq t j) t j w s σ r K:=rfl
theorem ZmH (d g σ r K s):Xt (some s) d g σ r K=Yc d s g σ r K:=rfl
theorem Zmu (d g σ r K):Xt none d g σ r K=False:=rfl
theorem Zhg (x):ZbP true x=x:=rfl
theorem ZhV (x):ZbP false x=SV.any:=rfl
theorem Zl3 (x a b c):Zsr true x a b c=true:=rfl
theorem ZjK (x a b c d s):Zsr false (SV.gd c d s) x a b=x c d a b:=rfl
theorem ZeY (x a):Zd8 true x a=bbq x a:=rfl
theorem Zfo (x a):Zd8 false x a=false:=rfl
theorem Zp5: bbq true true=true:=rfl
theorem Zpi: bbq false false=true:=rfl
theorem Zg3 (x y):ZdN (SV.v (Value.bool x)) (SV.v (Value.bool y))=some (SV.v (Value.bool (x || y))):=rfl
theorem ZfH (x a):ZdN (SV.v (Value.bool x)) (SV.v (Value.tuple a))=bif x then some (SV.v (Value.bool true)) else none:=rfl
theorem Zg4 (x y):Zb6 (SV.v (Value.bool x)) (SV.v (Value.bool y))=some (SV.v (Value.bool (x && y))):=rfl
theorem Zf1 (x a):Zb6 (SV.v (Value.bool x)) (SV.v (Value.tuple a))=bif x then none else some (SV.v (Value.bool false)):=rfl
theorem ZkY (m r):ZsQ m (some r)=some (SV.sl true m r):=rfl
theorem Zjj (m):ZsQ m none=none:=rfl
theorem Zg0 (P g d σ r K a f b):ZjF P g d σ r K (SV.cl f b) a=Zsz P g f (a ++ b) d σ r K:=rfl
theorem ZkV (g d σ r K k v m a j):Zt5 g d σ r K true k v m a j=IXR g k v m a j d σ r K:=rfl
theorem ZlQ (g d σ r K k v m a j):Zt5 g d σ r K false k v m a j=False:=rfl
theorem Zls (g d σ r K k v m j a b c T):Zte g d σ r K (HB.row a b c T) k v m j=Zt5 g d σ r K (Wx (Nat.beq m b) (Nat.beq v a)) k v m (List.length c) j:=rfl
theorem Zk6 (g d σ r K k v m j a b c T o e f l):Zte g d σ r K (HB.rws a b c T o e f l) k v m j = ∃ i rows TT,v=a+i/\Z1 k a b c T o e f l i=some (m,rows,TT)/\IXR g k v m (List.length rows) j d σ r K:=rfl
theorem ZiW (g d σ r K a j):Zuc g d σ r K true a j=IXS g a j d σ r K:=rfl
theorem Zki (g d σ r K a j):Zuc g d σ r K false a j=False:=rfl
theorem ZjE (g d σ r K m k j c a b):ZtB g d σ r K (SV.v (Value.int k j)) (SV.sl c a b) m=Zuc g d σ r K (Nat.beq m a) b j:=rfl
theorem ZiG (g d σ r K m k j a v):ZtB g d σ r K (SV.v (Value.int k j)) (SV.mr a v) m=Zte g d σ r K (lkh a (St.hp σ)) a v m j:=rfl
theorem ZmI (g d σ r K x a m k n):Zu8 g d σ r K (SV.v (Value.int k n)) x a m=IXA g a n (fun n=>W0 (n * m) x) d σ r K:=rfl
theorem ZmU (g d σ r K a m b k j l):Zu2 g d σ r K (SV.v (Value.int k j)) (SV.agg l) a m b=IXA g a j (fun n=>Y7 l (n * m) m b) d σ r K:=rfl
theorem Zr5 (g d σ r K o m a l T):ldC g d σ r K (HB.cells l T) o m a=Xt (Y7 l o m a) d g σ r K:=rfl
theorem Zrw (g d σ r K a i o m b):ldB g d σ r K true a i o m b=LDR g a i o m b d σ r K:=rfl
theorem ZrS (g d σ r K a i o m b):ldB g d σ r K false a i o m b=False:=rfl
theorem ZrQ (g d σ r K k v a i o m b c e f T):ldR g d σ r K k (HB.row c e f T) v a i o m b=ldB g d σ r K (Wx (Nat.beq a e) (Nat.beq v c)) f i o m b:=rfl
theorem Zrb (g d σ r K k v b i o m c e f j T l p q s):ldR g d σ r K k (HB.rws e f j T l p q s) v b i o m c = ∃ a rows TT,v=e+a/\Z1 k e f j T l p q s a=some (b,rows,TT)/\LDR g rows i o m c d σ r K:=rfl
theorem ZoF (g d σ r K m a k o):ldK g d σ r K (SV.p k o) m a=ldC g d σ r K (lkh k (St.hp σ)) o m a:=rfl
theorem Zp2 (g d σ r K m a b o):ldK g d σ r K (SV.ps b o) m a=Xt (Y7 b o m a) d g σ r K:=rfl
theorem ZqU (g d σ r K m a k v b i o):ldK g d σ r K (SV.pr k v b i o) m a=ldR g d σ r K k (lkh k (St.hp σ)) v b i o m a:=rfl
theorem ZmF (g d σ r K b k u v):ZsU g d σ r K true b k u v=DIV g b k u v d σ r K:=rfl
theorem Zk7 (g d σ r K b k u v):ZsU g d σ r K false b k u v=False:=rfl
theorem ZkZ (g d σ r K b k a j c):ZuX g d σ r K b (SV.v (Value.int k a)) (SV.v (Value.int j c))=ZsU g d σ r K (Zat k j) b k a c:=rfl
theorem Zmt (g d σ r K a):ZtJ g d σ r K true a=Yc d (SV.v (Value.int IntKind.i64 ↑(List.length a))) g σ r K:=rfl
theorem Zjk (g d σ r K a):ZtJ g d σ r K false a=False:=rfl
theorem Zlk (g d σ r K k v a m b T):Zs8 g d σ r K k (HB.row a m b T) v=ZtJ g d σ r K (Nat.beq v a) b:=rfl
theorem Zm8 (g d σ r K k v b m c T o e f i):Zs8 g d σ r K k (HB.rws b m c T o e f i) v = ∃ a mm rows TT,v=b+a/\Z1 k b m c T o e f i a=some (mm,rows,TT)/\Yc d (SV.v (Value.int IntKind.i64 ↑(List.length rows))) g σ r K:=rfl
theorem ZlM (g d σ r K k v):ZsE g d σ r K (SV.mr k v)=Zs8 g d σ r K k (lkh k (St.hp σ)) v:=rfl
theorem ZjB (g d σ r K k v m i l):ZsE g d σ r K (SV.ms k v m i l)=Yc d (SV.v (Value.int IntKind.i64 ↑l)) g σ r K:=rfl
theorem Zkk (g d σ r K c m a):ZsE g d σ r K (SV.sl c m a)=Yc d (SV.v (Value.int IntKind.i64 ↑(List.length a))) g σ r K:=rfl
theorem Zmw (P g d σ r K f a):ZW P g d (SI.call f a) σ r K=Zsz P g f (Vn (rdG g (St.fr σ)) a) d σ r K:=rfl
theorem ZjR (P g d σ r K x a):ZW P g d (SI.calv x a) σ r K=ZjF P g d σ r K (rdG g (St.fr σ) x) (Vn (rdG g (St.fr σ)) a):=rfl
theorem Zl2 (P g d σ r K f a):ZW P g d (SI.callm f a) σ r K=False:=rfl
theorem Zlo (P g d σ r K x a):ZW P g d (SI.calvm x a) σ r K=False:=rfl
theorem Zll (P g d σ r K c a b):ZW P g d (SI.pick c a b) σ r K=Xt (Zd3 (St.fr σ) g c a b) d g σ r K:=rfl
theorem ZkR (P g d σ r K m T a):ZW P g d (SI.bsl m T a) σ r K=Xt (ZsQ m (ZeJ (rdG g (St.fr σ)) m a)) d g σ r K:=rfl
theorem Zi8 (P g d σ r K x a m):ZW P g d (SI.ixs x a m) σ r K=ZtB g d σ r K (rdG g (St.fr σ) a) (rdG g (St.fr σ) x) m:=rfl
theorem ZiL (P g d σ r K x a b m):ZW P g d (SI.ixa x a b m) σ r K=Zu8 g d σ r K (rdG g (St.fr σ) a) (rdG g (St.fr σ) x) b m:=rfl
theorem Zm6 (P g d σ r K x a b m c):ZW P g d (SI.idx x a b m c) σ r K=Zu2 g d σ r K (rdG g (St.fr σ) a) (rdG g (St.fr σ) x) b m c:=rfl
theorem Zh9 (P g d σ r K x m a):ZW P g d (SI.ld x m a) σ r K=ldK g d σ r K (rdG g (St.fr σ) x) m a:=rfl
theorem Zgh (P g d σ r K b x y):ZW P g d (SI.div b x y) σ r K=ZuX g d σ r K b (rdG g (St.fr σ) x) (rdG g (St.fr σ) y):=rfl
theorem ZhF (P g d σ r K x):ZW P g d (SI.len x) σ r K=ZsE g d σ r K (rdG g (St.fr σ) x):=rfl
theorem ZfN (P g d σ r K x):ZW P g d (SI.mv x) σ r K=Yc d (rdG g (St.fr σ) x) g σ r K:=rfl
theorem Zgr (P g d σ r K z a):ZW P g d (SI.build z a) σ r K=Xt (pv (rdG g (St.fr σ)) (SI.build z a)) d g σ r K:=rfl
theorem Zhz (P g d σ r K x):ZW P g d (SI.nilc x) σ r K=Xt (Zbi (rdG g (St.fr σ) x)) d g σ r K:=rfl
theorem Zia (P g d σ r K b x y):ZW P g d (SI.bin b x y) σ r K=Xt (ZsO b (rdG g (St.fr σ) x) (rdG g (St.fr σ) y)) d g σ r K:=rfl
theorem Zgv (P g d σ r K u x):ZW P g d (SI.un u x) σ r K=Xt (uni u (rdG g (St.fr σ) x)) d g σ r K:=rfl
theorem Zgy (P g d σ r K x o):ZW P g d (SI.addo x o) σ r K=Xt (W0 o (rdG g (St.fr σ) x)) d g σ r K:=rfl
theorem ZfL (P g d σ r K x o m a):ZW P g d (SI.fld x o m a) σ r K=Xt (pv (rdG g (St.fr σ)) (SI.fld x o m a)) d g σ r K:=rfl
theorem ZgE (P g d σ r K a b):ZW P g d (SI.mm a b) σ r K=Xt (mmS a (Vn (rdG g (St.fr σ)) b)) d g σ r K:=rfl
theorem Zfw (P g d σ r K f a):ZW P g d (SI.mkf f a) σ r K=Yc d (SV.cl f (Vn (rdG g (St.fr σ)) a)) g σ r K:=rfl
theorem Zg8 (P g d σ r K k x):ZW P g d (SI.conv k x) σ r K=Xt (pv (rdG g (St.fr σ)) (SI.conv k x)) d g σ r K:=rfl
theorem Zgw (P g d σ r K x a):ZW P g d (SI.ext x a) σ r K=Xt (pv (rdG g (St.fr σ)) (SI.ext x a)) d g σ r K:=rfl
theorem Zh8 (P g d σ r K x h k):ZW P g d (SI.slc x h k) σ r K=Zvg g (rdG g (St.fr σ) x) (rdG g (St.fr σ) h) (rdG g (St.fr σ) k) d σ r K:=rfl
theorem ZgK (P g d σ r K m x a b):ZW P g d (SI.sub m x a b) σ r K=ZuM g m (rdG g (St.fr σ)) a b (rdG g (St.fr σ) x) d σ r K:=rfl
theorem ZgN (P g d σ r K m b T x y):ZW P g d (SI.cln m b T x y) σ r K=False:=rfl
theorem ZgS (P g d σ r K m b T x y):ZW P g d (SI.appm m b T x y) σ r K=False:=rfl
theorem Zfj (P g d σ r K m x y):ZW P g d (SI.cpy m x y) σ r K=False:=rfl
theorem Zfz (P g d σ r K m b z T x):ZW P g d (SI.mks m b z T x) σ r K=False:=rfl
theorem ZeW (P g d σ r K x):ZW P g d (SI.isn x) σ r K=False:=rfl
theorem ZhX (P g d σ r K m b T x y):ZW P g d (SI.app m b T x y) σ r K=ZsB g m b (Zfn m (rdG g (St.fr σ) x)) (ZoJ m (St.hp σ) (rdG g (St.fr σ) y)) d σ r K:=rfl
theorem ZgQ (P g d σ r K x m T):ZW P g d (SI.box x m T) σ r K=False:=rfl
theorem ZfE (P g d σ r K z T):ZW P g d (SI.alloc z T) σ r K=False:=rfl
theorem Zf2 (P g d σ r K x y m):ZW P g d (SI.st x y m) σ r K=False:=rfl
theorem ZgX (P g d σ r K a b c x y):ZW P g d (SI.eqs a b c x y) σ r K=Xt (eqR a (Zks c b (rdG g (St.fr σ) x) (rdG g (St.fr σ) y))) d g σ r K:=rfl
theorem Zfm (P g d σ r K a b):ZW P g d (SI.raw a b) σ r K=False:=rfl
theorem Zft (P g d σ r K a b):ZW P g d (SI.rv a b) σ r K=False:=rfl
theorem Zil (P g d σ r K a x b):ZW P g d (SI.rb a x b) σ r K=False:=rfl
theorem Zj0 (x a b c d e):Zu1 false true x a b c d e=d { fr:=(x,SV.p (St.n c) 0) :: St.fr c,hp:=(St.n c,HB.cells a b) :: St.hp c,n:=St.n c+1,N:=St.N c,gs:=St.gs c } e:=rfl
theorem Zkf (T σ r K t a):ZeL (some t) (some a) T σ r K=Zu1 (Yz t (St.gs σ)) (Nat.blt t (St.N σ)) t a T σ r K:=rfl
theorem Zfu (x a b c d e f g i j):Zp7 false true x a b c d e f g i j=i { fr:=(x,SV.v (Value.int IntKind.i64 ↑e)) :: St.fr g,hp:=(a,HB.row b c d f) :: St.hp g,n:=St.n g,N:=St.N g,gs:=St.gs g } j:=rfl
theorem Zj1 (k v m a N T σ r K b):ZsS (some b) k v m a N T σ r K=Zp7 (Yz b (St.gs σ)) (Nat.blt b (St.N σ)) b k v m a N T σ r K:=rfl
theorem Zl6 (k v m a N T σ r K):ZsS none k v m a N T σ r K=r { fr:=St.fr σ,hp:=(k,HB.row v m a T) :: St.hp σ,n:=St.n σ,N:=St.N σ,gs:=St.gs σ } K:=rfl
theorem Zmr (d k v m i L a T σ r K c b e):Zoa d k v m i L a T (SV.sl c b e) σ r K=ZbJ (Nat.beq m b) (CPY d k v m i L a e T σ r K):=rfl
theorem Zlg (d k v m i L a T σ r K):Zoa d k v m i L a T (SV.v (Value.slice none 0 0)) σ r K=CPY d k v m i L a [] T σ r K:=rfl
theorem ZkC (d k v m i L a T σ r K b c):Zoa d k v m i L a T (SV.mr b c) σ r K=ZbJ (Wx (Nat.beq k b) (Nat.beq v c)) (CPY d k v m i L a a T σ r K):=rfl
theorem ZlY (d k v m i L a T σ r K b c e f g):Zoa d k v m i L a T (SV.ms b c e f g) σ r K=ZbJ (Wx (Wx (Nat.beq k b) (Nat.beq v c)) (Nat.beq m e)) (f+g<=List.length a/\CPY d k v m i L a (List.take g (List.drop f a)) T σ r K):=rfl
theorem ZtP (n m):lO (some m) n=m:=rfl
theorem Zup (n):lO none n=n:=rfl
theorem Zi3 (d m k v i a s σ r K b c e T):Zo2 d m k v i a (HB.row b c e T) s σ r K=ZbJ (Wx (Nat.beq m c) (Nat.beq v b)) (Zoa d k v m i (lO a (List.length e)) e T s σ r K):=rfl
theorem Ziz (d m a σ r K k v):Zsx d m (SV.mr k v) a σ r K=Zo2 d m k v 0 none (lkh k (St.hp σ)) a σ r K:=rfl
theorem ZmB (d m a σ r K k v b i l):Zsx d m (SV.ms k v b i l) a σ r K=ZbJ (Nat.beq m b) (Zo2 d m k v i (some l) (lkh k (St.hp σ)) a σ r K):=rfl
theorem ZlT (g k v m a d σ r K i j):Zsw g k v m a (some i) (some j) d σ r K=SBM g i j k v m a d σ r K:=rfl
theorem ZlL (g k v m a d σ r K b):Zsw g k v m a (some b) none d σ r K=False:=rfl
theorem ZjY (g k v m a b d σ r K):Zsw g k v m a none b d σ r K=False:=rfl
theorem Znk (p):ZbJ true p=p:=rfl
theorem Zne (p):ZbJ false p=False:=rfl
theorem Zk0 (g m ρ a b k v d σ r K c e f T):Zve g m ρ a b k v (HB.row c e f T) d σ r K=ZbJ (Wx (Nat.beq m e) (Nat.beq v c)) (Zsw g k v m f (Zah 0 ρ a) (Zah (↑(List.length f)) ρ b) d σ r K):=rfl
theorem Zkd (g m ρ a b d σ r K c e f):ZuM g m ρ a b (SV.sl c e f) d σ r K=bif Nat.beq m e then ZsN g m f (Zah 0 ρ a) (Zah (↑(List.length f)) ρ b) d σ r K else False:=rfl
theorem Zkt (g m ρ a b d σ r K k v):ZuM g m ρ a b (SV.mr k v) d σ r K=Zve g m ρ a b k v (lkh k (St.hp σ)) d σ r K:=rfl
theorem ZlZ (x a b c d e f g i):verB false true x a b c d e f g i=g { fr:=(x,SV.mr a b) :: St.fr f,hp:=(a,HB.row b c d e) :: St.hp f,n:=St.n f,N:=St.N f,gs:=St.gs f } i:=rfl
theorem Znz (k v m a T σ r K b):Zs2 (some b) k v m a T σ r K=verB (Yz b (St.gs σ)) (Nat.blt b (St.N σ)) b k v m a T σ r K:=rfl
theorem Zjo (k v m a T σ r K):Zs2 none k v m a T σ r K=False:=rfl
theorem Zi6 (b d k v m a c T σ r K):ZtN true b d k v m a c T σ r K=APM b d k v m a c T σ r K:=rfl
theorem ZjS (b d k v m a c T σ r K):ZtN false b d k v m a c T σ r K=False:=rfl
theorem Zjz (b d k v m a T σ r K c e f g):ZuR b d k v m (HB.row c e f g) a T σ r K=ZtN (Wx (Nat.beq m e) (Wx (Nat.beq v c) (Nat.beq T g))) b d k v m f a T σ r K:=rfl
theorem Zj3 (b d m a T σ r K k v):Zu9 b d m (SV.mr k v) a T σ r K=ZuR b d k v m (lkh k (St.hp σ)) a T σ r K:=rfl
theorem Zjs (b d m s T σ r K a):ZsG b d m s (some a) T σ r K=Zu9 b d m s a T σ r K:=rfl
theorem Zli (b d m s T σ r K):ZsG b d m s none T σ r K=False:=rfl
theorem Znf (x a b c d e f g):Zsy true x a b c d e f g=f { fr:=St.fr e,hp:=(x,HB.cells (Zo b a d) c) :: St.hp e,n:=St.n e,N:=St.N e,gs:=St.gs e } g:=rfl
theorem Znt (x a b c d e f g):Zsy false x a b c d e f g=False:=rfl
theorem ZpY (k o m c σ r K l T):stC k o m (HB.cells l T) c σ r K=Zsy (Nat.ble (o+m) (List.length l)) k o l T c σ r K:=rfl
theorem Zl5 (x a b c d e f g i j k):ZsL true x a b c d e f g i j k=STR x a b c d e f g i j k:=rfl
theorem Zlh (x a b c d e f g i j k):ZsL false x a b c d e f g i j k=False:=rfl
theorem Zrg (k v a j o c σ r K b m d T):stR k v a j o (HB.row b m d T) c σ r K=ZsL (Wx (Nat.beq a m) (Nat.beq v b)) b d j o k a c T σ r K:=rfl
theorem ZoM (k v a j o c σ r K b m d T e f g i):stR k v a j o (HB.rws b m d T e f g i) c σ r K=STW b m d T e f g i v a j o k c σ r K:=rfl
theorem Zq3 (m c σ r K k o):stX (SV.p k o) m c σ r K=stC k o m (lkh k (St.hp σ)) c σ r K:=rfl
theorem ZoP (m c σ r K k v a j o):stX (SV.pr k v a j o) m c σ r K=stR k v a j o (lkh k (St.hp σ)) c σ r K:=rfl
theorem ZdH (x a b c d e):Zbg true true x a b c d e=stX x a b c d e:=rfl
theorem Zer (m x σ r K a):Zbz none (some a) m x σ r K=Zbg (chk a m) (Ya a) x m a σ r K:=rfl
theorem Zqv (P Y d σ r K x y m):stp P Y d (SI.st x y m) σ r K=Zbz d (Z0 (rdG none (St.fr σ) y)) m (rdG none (St.fr σ) x) σ r K:=rfl
theorem Zoz (P Y d σ r K x m T):stp P Y d (SI.box x m T) σ r K=ZeL d (Z0 (rdG none (St.fr σ) x)) T σ r K:=rfl
theorem ZoY (P Y d σ r K z T):stp P Y d (SI.alloc z T) σ r K=ZeL d (some (lit z)) T σ r K:=rfl
theorem Zqf (P Y d σ r K m b T x y):stp P Y d (SI.cln m b T x y) σ r K=ZnH b d m (Zfn m (rdG none (St.fr σ) x)) (Zcs m (rdG none (St.fr σ) y)) T σ r K:=rfl
theorem Zpa (P Y d σ r K m b z T x):stp P Y d (SI.mks m b z T x) σ r K=ZuB b d m z (rdG none (St.fr σ) x) T σ r K:=rfl
theorem Zq2 (P Y d σ r K m x y):stp P Y d (SI.cpy m x y) σ r K=Zsx d m (rdG none (St.fr σ) x) (rdG none (St.fr σ) y) σ r K:=rfl
theorem Zpf (P Y d σ r K m b T x y):stp P Y d (SI.appm m b T x y) σ r K=ZsG b d m (rdG none (St.fr σ) x) (Zcs m (rdG none (St.fr σ) y)) T σ r K:=rfl
theorem Zqh (P Y d σ r K f a):stp P Y d (SI.callm f a) σ r K=ZaI P f (Vn (rdG none (St.fr σ)) a) d σ r K:=rfl
theorem Zop (P Y d σ r K x a):stp P Y d (SI.calvm x a) σ r K=Zes P Y (rdG none (St.fr σ) x) (Vn (rdG none (St.fr σ)) a) d σ r K:=rfl
theorem Zkz (P Y d σ r K x):stp P Y d (SI.isn x) σ r K=ZuZ d (rdG none (St.fr σ) x) σ r K:=rfl
theorem Zm3 (P Y d σ r K a b):stp P Y d (SI.raw a b) σ r K=RAW P d a b σ r K:=rfl
theorem ZmK (P Y d σ r K a b):stp P Y d (SI.rv a b) σ r K = ∃ s,RBE P a b σ s/\Yc d s none σ r K:=rfl
theorem Zmf (P Y d σ r K a x b):stp P Y d (SI.rb a x b) σ r K = ∃ k h1 s,rdG none (St.fr σ) x=SV.mp k/\WK (lkh k (St.hp σ)) h1/\RBB P a (x :: b) k (lkh k (St.hp σ)) h1 σ s/\Yc d s none { fr:=St.fr σ,hp:=(k,h1) :: St.hp σ,n:=St.n σ,N:=St.N σ,gs:=St.gs σ } r K:=rfl
theorem ZgY (d σ r K):ZoO d σ r K=Yc d (SV.v undef) none σ r K:=rfl
theorem ZsY (P Y j w d i σ r K b):gK P Y (SV.v (Value.bool b)) j w d i σ r K=GB P Y b j w d i σ r K:=rfl
theorem Ztk (P Y j w d i σ r K a c b):gK P Y (SV.gd a c (SV.v (Value.bool b))) j w d i σ r K=ZW P (some (j,w)) d i σ r K:=rfl
theorem ZoT (P Y σ r K d i af):st1 P Y { d:=d,i:=i,g:=none,af:=af } σ r K=stp P Y d i σ r K:=rfl
theorem Zsd (P Y σ r K d i j w af):st1 P Y { d:=d,i:=i,g:=some (j,w),af:=af } σ r K=gK P Y (lk j (St.fr σ)) j w d i σ r K:=rfl
theorem Zl7 (f g σ K b):ZuV (SV.v (Value.bool b)) f g σ K=BR b f g σ K:=rfl
theorem Znj (k x y):ZtH BinOp.quo k x y=IntKind.wrap k (Int.tdiv x y):=rfl
theorem Zqm (a N):st0 a N={ fr:=XS 0 a,hp:=[],n:=0,N:=N,gs:=[] }:=rfl
theorem Zju (ρ):Vn ρ []=[]:=rfl
theorem Zl4 (ρ a r):Vn ρ (a :: r) = ρ a :: Vn ρ r:=rfl
theorem ZkJ (g):UV g []=[]:=rfl
theorem Zk1 (g s l):UV g (s :: l)=g s :: UV g l:=rfl
theorem Zm5 (ρ m):ZeJ ρ m []=some []:=rfl
theorem ZjI (ρ m a r):ZeJ ρ m (a :: r)=ZsI (Z0 (ρ a)) m (ZeJ ρ m r):=rfl
theorem Zjt (hp):Zhu hp []=[]:=rfl
theorem Zlu (hp s l):Zhu hp (s :: l)=cvt hp s :: Zhu hp l:=rfl
theorem ZrB: lit []=[]:=rfl
theorem Zqi (a r):lit (a :: r)=SV.v a :: lit r:=rfl
theorem Zo6: chk [] 0=true:=rfl
theorem ZrT (a l n):chk (a :: l) (Nat.succ n)=chk l n:=rfl
theorem Zol (x):nth [] x=none:=rfl
theorem Zo7 (s a):nth (s :: a) 0=some s:=rfl
theorem Zri (a l n):nth (a :: l) (Nat.succ n)=nth l n:=rfl
theorem Zdu (a l c b):Zo (a :: l) 0 (c :: b)=c :: Zo l 0 b:=rfl
theorem Zd7 (x a l o):Zo (a :: l) (Nat.succ o) x=a :: Zo l o x:=rfl
theorem Zkp (o l t):Zsv o l t true=some ((o,l) :: t):=rfl
theorem Zmo (o l t):Zsv o l t false=none:=rfl
theorem Zj2 (o m l t):ZsP o m (some l) (some t)=Zsv o l t (chk l m):=rfl
theorem ZiH (ρ):ZlP ρ []=some []:=rfl
theorem Zj9 (ρ o m a r):ZlP ρ ((o,m,a) :: r)=ZsP o m (Z0 (ρ a)) (ZlP ρ r):=rfl
theorem ZrU (x):spl x []=x:=rfl
theorem Zp3 (x o l r):spl x ((o,l) :: r)=spl (Zo x o l) r:=rfl
theorem Zka (z t):Zis z (some t)=some (spl z t):=rfl
theorem Zi1 (z):Zis z none=none:=rfl
theorem ZkG (x):XS x []=[]:=rfl
theorem ZjH (x s l):XS x (s :: l)=(x,s) :: XS (x+1) l:=rfl
theorem Zo5 (j w s):gdS (SV.gd j w s)=true:=rfl
theorem Zsi (a):gdS (SV.v a)=false:=rfl
theorem Zq9 (k o):gdS (SV.p k o)=false:=rfl
theorem ZrD (l):gdS (SV.agg l)=false:=rfl
theorem Zq1 (c m a):gdS (SV.sl c m a)=false:=rfl
theorem Zpw (k v):gdS (SV.mr k v)=false:=rfl
theorem Zos (k v m i o):gdS (SV.pr k v m i o)=false:=rfl
theorem ZqJ (k v m i l):gdS (SV.ms k v m i l)=false:=rfl
theorem Zsb (a o):gdS (SV.ps a o)=false:=rfl
theorem ZkS (f a):gdS (SV.cl f a)=false:=rfl
theorem Zjx (l):gdS (SV.tup l)=false:=rfl
theorem Zmc (φ):gdS (SV.q φ)=false:=rfl
theorem ZlR (k):gdS (SV.mp k)=false:=rfl
theorem Zm1 (k):gdS (SV.yl k)=false:=rfl
theorem ZlV (T s):gdS (SV.ifc T s)=false:=rfl
theorem ZkE: gdS SV.any=false:=rfl
theorem Zsq (ρ k o):rnS ρ (SV.p k o)=SV.p (ρ k) o:=rfl
theorem Zro (ρ k v):rnS ρ (SV.mr k v)=SV.mr (ρ k) v:=rfl
theorem Zrn (ρ k v m i o):rnS ρ (SV.pr k v m i o)=SV.pr (ρ k) v m i o:=rfl
theorem ZoG (ρ k v m i o):rnS ρ (SV.ms k v m i o)=SV.ms (ρ k) v m i o:=rfl
theorem ZpD (ρ k):rnS ρ (SV.mp k)=SV.mp (ρ k):=rfl
theorem Zqs (ρ k):rnS ρ (SV.yl k)=SV.yl (ρ k):=rfl
theorem ZoX (ρ l):rnS ρ (SV.agg l)=SV.agg (rnL ρ l):=rfl
theorem Zpl (ρ l):rnS ρ (SV.tup l)=SV.tup (rnL ρ l):=rfl
theorem ZqK (ρ f l):rnS ρ (SV.cl f l)=SV.cl f (rnL ρ l):=rfl
theorem ZlN (ρ T s):rnS ρ (SV.ifc T s)=SV.ifc T (rnS ρ s):=rfl
theorem Zi4 (ρ a):rnS ρ (SV.v a)=SV.v a:=rfl
theorem Zjc (ρ c m a):rnS ρ (SV.sl c m a)=SV.sl c m a:=rfl
theorem ZiE (ρ l o):rnS ρ (SV.ps l o)=SV.ps l o:=rfl
theorem ZjA (ρ φ):rnS ρ (SV.q φ)=SV.q φ:=rfl
theorem ZkH (ρ j w s):rnS ρ (SV.gd j w s)=SV.gd j w s:=rfl
theorem Zjq (ρ):rnS ρ SV.any=SV.any:=rfl
theorem ZqL (ρ):rnL ρ []=[]:=rfl
theorem ZqN (ρ s l):rnL ρ (s :: l)=rnS ρ s :: rnL ρ l:=rfl
theorem Zps (ρ l T):rnH ρ (HB.cells l T)=HB.cells (rnL ρ l) T:=rfl
theorem ZpP (ρ v m a T):rnH ρ (HB.row v m a T)=HB.row v m a T:=rfl
theorem ZpO (ρ φ):rnH ρ (HB.ob φ)=HB.ob φ:=rfl
theorem Zo8 (ρ a c):rnH ρ (HB.map a c)=HB.map a c:=rfl
theorem ZpX (ρ a b c d):rnH ρ (HB.it a b c d)=HB.it (ρ a) b c d:=rfl
theorem Zrc (ρ a b):rnH ρ (HB.lp a b)=HB.lp a b:=rfl
theorem ZrR (ρ a):rnH ρ (HB.lb a)=HB.lb a:=rfl
theorem Zra (ρ v m a T o b c d):rnH ρ (HB.rws v m a T o b c d)=HB.rws v m a T o b c d:=rfl
theorem Zo9 (ρ):rnH ρ HB.gone=HB.gone:=rfl
theorem ZrV (ρ):rnP ρ []=[]:=rfl
theorem Zo1 (ρ u s r):rnP ρ ((u,s) :: r)=(ρ u,rnH ρ s) :: rnP ρ r:=rfl
theorem Zf8 (ρ):US ρ 0=[]:=rfl
theorem Zhv (ρ j):US ρ (Nat.succ j)=(ρ j,HB.gone) :: US ρ j:=rfl
theorem Zsg (b x y):exB b x y=bif b then x else y:=rfl
theorem ZqG (a hp n d σ r K):cmK false a hp n d σ r K=Yc d a none { fr:=St.fr σ,hp:=hp,n:=n,N:=St.N σ,gs:=St.gs σ } r K:=rfl
theorem ZrO (a hp n d σ r K):cmK true a hp n d σ r K=K (Ex.pan a) { fr:=St.fr σ,hp:=hp,n:=n,N:=St.N σ,gs:=St.gs σ }:=rfl
theorem ZfR (P Y a d σ r K f b):Zes P Y (SV.cl f b) a d σ r K=ZaI P f (a ++ b) d σ r K:=rfl
theorem Zfs (P Y a d σ r K k):Zes P Y (SV.yl k) a d σ r K=YLD Y k a d σ r K:=rfl
theorem ZrN (p T a s):mtI p T (SV.ifc a s)=(a=T/\p s):=rfl
theorem Zpy (p l):mtO p (some l)=p l:=rfl
theorem Zse (p):mtO p none=False:=rfl
theorem Zpd (σ K hp n a):itE σ K hp n (HB.lp a none)=K Ex.n { fr:=St.fr σ,hp:=(St.n σ,HB.gone) :: hp,n:=n,N:=St.N σ,gs:=[] }:=rfl
theorem Zo0 (σ K hp n a i):itE σ K hp n (HB.lp a (some (Ex.ex i)))=K (Ex.ex i) { fr:=St.fr σ,hp:=(St.n σ,HB.gone) :: hp,n:=n,N:=St.N σ,gs:=[] }:=rfl
theorem ZrI (σ K hp n a):itE σ K hp n (HB.lp a (some Ex.ret))=K Ex.ret { fr:=St.fr σ,hp:=(St.n σ,HB.gone) :: hp,n:=n,N:=St.N σ,gs:=[] }:=rfl
theorem Zpn (σ K o):itP σ K o=match Ot.pn o with | false=>itE σ K (Ot.hp o) (Ot.n o) (lkh (St.n σ) (Ot.hp o)) | true=>K (Ex.pan (Ot.res o)) { fr:=St.fr σ,hp:=Ot.hp o,n:=Ot.n o,N:=St.N σ,gs:=[] }:=rfl
theorem Znb (a r):Zn9 a (HB.lp r none)=(r=a):=rfl
theorem Zkx (a r):Ziw a (HB.lb r)=(r=a):=rfl
theorem ZrE (p a s l):pmS (p :: a) (s :: l)=(p,s) :: pmS a l:=rfl
theorem ZkP: Ziv [] []=true:=rfl
theorem Zkb (a l b m):Ziv (a :: l) (b :: m)=Ziv l m:=rfl
theorem ZgR (N):Vu N []=true:=rfl
theorem Zh7 (N j r):Vu N (j :: r)=bif Nat.blt j N then Vu N r else false:=rfl
theorem Zr3 (p):rfB true p=p:=rfl
theorem Zp0 (p):rfB false p=False:=rfl
theorem Zsf (P a b c σ K f d):rfK P a b (SV.cl f d) c σ K=gs0 (St.gs σ) (rfB (Vu (St.N σ) c) (RFUN P a b f d c σ K)):=rfl
theorem Zji (a hp n s):ZnW a hp n (some s)=a { pn:=false,res:=s,hp:=hp,n:=n }:=rfl
theorem Zmb (a hp n):ZnW a hp n none=False:=rfl
theorem ZjW (x s):ZsC (some s) x=rvD s x:=rfl
theorem ZjX (x):ZsC none x=none:=rfl
theorem Zmv (σ):ZbM σ []=some []:=rfl
theorem ZiI (σ r a):ZbM σ (r :: a)=ZsC (rv1 σ r) (ZbM σ a):=rfl
theorem ZmC (a b x):ZcS a b Ex.n x=ZnW b (St.hp x) (St.n x) (rvE (ZbM x a)):=rfl
theorem ZjO (a b x):ZcS a b Ex.ret x=ZnW b (St.hp x) (St.n x) (rvE (ZbM x a)):=rfl
theorem Zm7 (a b x s):ZcS a b (Ex.pan s) x=b { pn:=true,res:=s,hp:=St.hp x,n:=St.n x }:=rfl
theorem Znv (a b x c):ZcS a b (Ex.ex c) x=False:=rfl
theorem ZoH (a b Φ x):bdE a b Φ Ex.n x=(Ziw b (lkh a (St.hp x))/\Φ { pn:=false,res:=SV.v (Value.bool true),hp:=(a,HB.lp b none) :: St.hp x,n:=St.n x }):=rfl
theorem Zp6 (a b Φ x i):bdE a b Φ (Ex.ex i) x=(Ziw b (lkh a (St.hp x))/\Φ { pn:=false,res:=SV.v (Value.bool false),hp:=(a,HB.lp b (some (Ex.ex i))) :: St.hp x,n:=St.n x }):=rfl
theorem ZoI (a b Φ x):bdE a b Φ Ex.ret x=(Ziw b (lkh a (St.hp x))/\Φ { pn:=false,res:=SV.v (Value.bool false),hp:=(a,HB.lp b (some Ex.ret)) :: St.hp x,n:=St.n x }):=rfl
theorem ZpW (a b Φ x s):bdE a b Φ (Ex.pan s) x = Φ { pn:=true,res:=s,hp:=St.hp x,n:=St.n x }:=rfl
theorem ZoN (a b c K x):asE a b c K Ex.n x=(Zn9 b (lkh a (St.hp x))/\c { fr:=St.fr x,hp:=(a,HB.lb b) :: St.hp x,n:=St.n x,N:=St.N x,gs:=St.gs x } K):=rfl
theorem Zsm (a b c K x i):asE a b c K (Ex.ex i) x=False:=rfl
theorem Zq5 (a b c K x):asE a b c K Ex.ret x=False:=rfl
theorem Zoj (a b c K x s):asE a b c K (Ex.pan s) x=False:=rfl
theorem ZpB (x):rho [] x=0:=rfl
theorem Zp4 (a b):rho (a :: b) 0=a:=rfl
theorem ZrK (a l k):rho (a :: l) (Nat.succ k)=rho l k:=rfl
theorem Zov (ρ a x):mtS ρ a SV.any x=True:=rfl
theorem Zqd (ρ a x k o):mtS ρ a (SV.p k o) x=(k < a/\x=SV.p (ρ k) o):=rfl
theorem ZpL (ρ a x k v):mtS ρ a (SV.mr k v) x=(k < a/\x=SV.mr (ρ k) v):=rfl
theorem ZqI (ρ a x k v m i o):mtS ρ a (SV.pr k v m i o) x=(k < a/\x=SV.pr (ρ k) v m i o):=rfl
theorem Zqk (ρ a x k v m i o):mtS ρ a (SV.ms k v m i o) x=(k < a/\x=SV.ms (ρ k) v m i o):=rfl
theorem ZrG (ρ a x l):mtS ρ a (SV.agg l) x=mtO (mtL ρ a l) (VN x):=rfl
theorem Zpz (ρ a x l):mtS ρ a (SV.tup l) x=mtO (mtL ρ a l) (ZsR x):=rfl
theorem ZoZ (ρ a x f l):mtS ρ a (SV.cl f l) x=mtO (mtL ρ a l) (clL f x):=rfl
theorem Zot (ρ a x b):mtS ρ a (SV.v b) x=(x=SV.v b):=rfl
theorem Zjl (ρ a x c m b):mtS ρ a (SV.sl c m b) x=(x=SV.sl c m b/\KFR b):=rfl
theorem Zld (ρ a x l o):mtS ρ a (SV.ps l o) x=(x=SV.ps l o/\KFL l):=rfl
theorem Zjd (ρ a x k):mtS ρ a (SV.mp k) x=(k < a/\x=SV.mp (ρ k)):=rfl
theorem Zni (ρ a x k):mtS ρ a (SV.yl k) x=(k < a/\x=SV.yl (ρ k)):=rfl
theorem Zi2 (ρ a x T t):mtS ρ a (SV.ifc T t) x=mtI (mtS ρ a t) T x:=rfl
theorem Zkw (ρ a x φ):mtS ρ a (SV.q φ) x=(x=SV.q φ):=rfl
theorem Zmh (ρ a x j w s):mtS ρ a (SV.gd j w s) x=False:=rfl
theorem Zrv (ρ a x):mtL ρ a [] x=(x=[]):=rfl
theorem Zp9 (ρ a x s l):mtL ρ a (s :: l) x=mtB (mtS ρ a s) (mtL ρ a l) x:=rfl
theorem ZpM (ρ a x):mtH ρ a HB.gone x=True:=rfl
theorem Zq7 (ρ a l T b c):mtH ρ a (HB.cells l T) (HB.cells b c)=(c=T/\mtL ρ a l b):=rfl
theorem ZqC (ρ a x v m b T):mtH ρ a (HB.row v m b T) x=(x=HB.row v m b T/\KFR b):=rfl
theorem Zrh (ρ a x φ):mtH ρ a (HB.ob φ) x=(x=HB.ob φ):=rfl
theorem ZpJ (ρ a x b c):mtH ρ a (HB.map b c) x=(x=HB.map b c/\∀ (e:Nat × Value × SV),e ∈ b->KF (Prod.snd (Prod.snd e))):=rfl
theorem ZpS (ρ d x e a b c):mtH ρ d (HB.it e a b c) x=(e < d/\x=HB.it (ρ e) a b c):=rfl
theorem ZrW (ρ a x r b):mtH ρ a (HB.lp r b) x=(x=HB.lp r b):=rfl
theorem Zrj (ρ a x r):mtH ρ a (HB.lb r) x=(x=HB.lb r):=rfl
theorem ZrL (ρ a x v m b T o c d e):mtH ρ a (HB.rws v m b T o c d e) x=(x=HB.rws v m b T o c d e/\KFR b/\∀ (r:List (List SV)),r ∈ d->KFR r):=rfl
theorem ZmN (ρ a l T v m b c):mtH ρ a (HB.cells l T) (HB.row v m b c)=False:=rfl
theorem ZjM (ρ a l T φ):mtH ρ a (HB.cells l T) (HB.ob φ)=False:=rfl
theorem Znu (ρ a l T b c):mtH ρ a (HB.cells l T) (HB.map b c)=False:=rfl
theorem ZlG (ρ a l T b c d e):mtH ρ a (HB.cells l T) (HB.it b c d e)=False:=rfl
theorem ZkI (ρ a l T b c):mtH ρ a (HB.cells l T) (HB.lp b c)=False:=rfl
theorem ZlB (ρ a l T b):mtH ρ a (HB.cells l T) (HB.lb b)=False:=rfl
theorem ZiP (ρ a l T v m b c o d e f):mtH ρ a (HB.cells l T) (HB.rws v m b c o d e f)=False:=rfl
theorem ZiU (ρ a l T):mtH ρ a (HB.cells l T) HB.gone=False:=rfl
theorem ZrC (p):mtM true p=True:=rfl
theorem Zsl (p):mtM false p=p:=rfl
theorem Zq8 (ρ a x b):mtF ρ a x [] b=True:=rfl
theorem Zr7 (ρ a x b t s r):mtF ρ a x ((t,s) :: r) b=(mtM (Yz t x) (mtS ρ a s (lk t b))/\mtF ρ a (t :: x) r b):=rfl
theorem ZpV (ρ a hp b):mtP ρ a hp b 0=True:=rfl
theorem Zq4 (ρ a hp b j):mtP ρ a hp b (Nat.succ j)=(mtH ρ b (lkh j a) (lkh (ρ j) hp)/\mtP ρ a hp b j):=rfl
theorem Zrr (a):hpb a []=True:=rfl
theorem ZoC (a u s r):hpb a ((u,s) :: r)=(u < a/\hpb a r):=rfl
theorem Zpg (a b):eqC 0 (SV.v (Value.bool a)) (SV.v (Value.bool b))=some (a == b):=rfl
theorem ZpH (k a j b):eqC 1 (SV.v (Value.int k a)) (SV.v (Value.int j b))=bif Zat k j then some (a == b) else none:=rfl
theorem Zou (a b):eqC 2 (SV.v (Value.string a)) (SV.v (Value.string b))=some (ByteArray.toList a == ByteArray.toList b):=rfl
theorem Zsk (a b):eqA (some a) (some b)=some (a && b):=rfl
theorem Zma: Zee [] [] []=some true:=rfl
theorem ZmO (c a b d y e):Zee (c :: a) (b :: d) (y :: e)=eqA (eqC c b y) (Zee a d e):=rfl
theorem ZkA (c a b):Zks c true (SV.agg a) (SV.agg b)=Zee c a b:=rfl
theorem ZlO (c a b):Zks c false (SV.v (Value.bool a)) (SV.v (Value.bool b))=some (a == b):=rfl
theorem Zor (a b):eqR a (some b)=some (SV.v (Value.bool (ngB a b))):=rfl
theorem ZrF (a):eqR a none=none:=rfl
theorem ZrM (x):ngB true x = !x:=rfl
theorem ZqZ (x):ngB false x=x:=rfl
theorem Zmi (m hp c a b):ZoJ m hp (SV.sl c a b)=Zen b (Nat.beq m a):=rfl
theorem ZiK (m hp):ZoJ m hp (SV.v (Value.slice none 0 0))=some []:=rfl
theorem Zkj (m hp k v):ZoJ m hp (SV.mr k v)=ZeM m v (lkh k hp):=rfl
theorem Zk8 (m a b):Zfn m (SV.sl true a b)=Zen b (Nat.beq m a):=rfl
theorem Znd (m):Zfn m (SV.v (Value.slice none 0 0))=some []:=rfl
theorem Zkl (g m b d σ r K a c):ZsB g m b (some a) (some c) d σ r K=APP g m b a c d σ r K:=rfl
theorem Zly (g m b d σ r K a):ZsB g m b (some a) none d σ r K=False:=rfl
theorem ZlD (g m b y d σ r K):ZsB g m b none y d σ r K=False:=rfl
theorem Zjf (l):VN (SV.agg l)=some l:=rfl
theorem ZiY (l):ZsR (SV.tup l)=some l:=rfl
theorem Zqa (f a b):clL f (SV.cl a b)=bif Nat.beq a f then some b else none:=rfl
theorem ZqE (p q):mtB p q []=False:=rfl
theorem Zrm (p q s l):mtB p q (s :: l)=(p s/\q l):=rfl
theorem ZhN (x a b c d e f):Zk9 false true x a b c d e f=e { fr:=(x,SV.mr (St.n d) 0) :: St.fr d,hp:=(St.n d,HB.row 0 a b c) :: St.hp d,n:=St.n d+1,N:=St.N d,gs:=St.gs d } f:=rfl
theorem Zmp (m a T σ r K b):Zi0 (some b) m a T σ r K=Zk9 (Yz b (St.gs σ)) (Nat.blt b (St.N σ)) b m a T σ r K:=rfl
theorem ZmL (m a T σ r K):Zi0 none m a T σ r K=False:=rfl
theorem ZkM (b d m T σ r K a):ZnH b d m (some []) (some a) T σ r K=CLN b d m a T σ r K:=rfl
theorem ZiR (b d m y T σ r K a c):ZnH b d m (some (a :: c)) y T σ r K=False:=rfl
theorem Znw (b d m T σ r K):ZnH b d m (some []) none T σ r K=False:=rfl
theorem Zkq (b d m y T σ r K):ZnH b d m none y T σ r K=False:=rfl
theorem Zjm (b d m z T σ r K k n):ZuB b d m z (SV.v (Value.int k n)) T σ r K=MKS b d m (lit z) n T σ r K:=rfl
theorem Zm0 (d σ r K c m a):ZuZ d (SV.sl c m a) σ r K=ISN d a σ r K:=rfl
theorem Zl9 (g d σ r K c m a b n e j):Zvg g (SV.sl c m a) (SV.v (Value.int b n)) (SV.v (Value.int e j)) d σ r K=SLC g n j m a d σ r K:=rfl
theorem Zj4 (g m a d σ r K i j):ZsN g m a (some i) (some j) d σ r K=SUB g i j m a d σ r K:=rfl
theorem Zjp (g m a d σ r K b):ZsN g m a (some b) none d σ r K=False:=rfl
theorem ZnB (g m a b d σ r K):ZsN g m a none b d σ r K=False:=rfl
theorem ZmP (a ρ):Zah a ρ none=some a:=rfl
theorem ZiA (a ρ b):Zah a ρ (some b)=match ρ b with | SV.v (Value.int k n)=>some n | x=>none:=rfl
theorem ZmV (m c a b):Zcs m (SV.sl c a b)=Zen b (Nat.beq m a):=rfl
theorem ZiZ (m):Zcs m (SV.v (Value.slice none 0 0))=some []:=rfl
theorem ZlE (x h j w):Zsr false (.v x) h j w=false:=rfl
theorem ZdI (x l):Zo (x :: l) 0 []=x :: l:=rfl
theorem ZeG:Zo [] 0 []=[]:=rfl
attribute [go_sem] Zkc Zlw Zmq Zlv w64_0 w64_1 w64_2 w64_3 w64_4 w64_5 w64_6 e_stO ZtM Zoq ZlH Zql ZtT ZiQ ZmD ZqO ZlS Znh ZmJ Zub ZoS Zta Zrl Zph phx_1 phx_2 phK_n ZoR ZuJ Zr6 Zut Zjg Zrx Zq6 ZqT ZkN sx_gh Zja Zr9 Zt4 ZpK Ziy Zud ZjP ZuD Zko ZtA Zrq Zlx lkB_t lkB_f Zto ZsT ZoA Zow Zs0 ZtV ZkX Zqr Zr0 ZsX ZtU Zt7 e_lk e_lk0 e_lkh ZuE ZtC Zp8 e_blk Zfc ZiM ZqD Zsa ZqV ZhZ ZkB ZhU Zny Zrz Zpo Zsj Zhj Zmd Zcv Zdv ZgJ ZeR Zge ZbY ZdP Zdw Zfa ZjC Zj5 Zjw Zed ZeT ZoU ZdX Zfk ZkW ZiO Zln ZdQ Zga Zep Zei Ze1 Zgd Zng ZkL Zj8 Zlc Zl0 Zi5 ZdL ZeI Zhf Zgk ZeF Zgl ZmM Zk5 Zmj Zeq Ziq Zd5 Ze3 Zlz ZjU Znp ZdW Zgp Zb4 ZeC Zib Zfv ZhI Zd2 Zgz Zke Zpt Zqx Zoo ZfS Zj6 Zd1 Zii Znc ZkQ ZjN ZdY ZgT Zev Zin Zey Zhl Zb0 Zec Zhh ZgU Zhc Zcb ZdA Zb5 Zb8 e_yld e_exR e_hpM Ze8 ZbO Zek ZhD ZfA Zhq Zeb ZhW Zr8 ZbV Zd4 Zck Zdl ZaC UZ Zbj UY Uz e_rdG Zux Zt1 Zuz e_alw Zur e_vw1 e_vw2 e_vw3 e_vw4 ZiT Zmg ZtD Ze5 ZfU Zdk Zdp ZdK ZdV ZdJ Zdz Zd6 ZeD ZeA ZhG Zet ZdD Zej Zgj ZdB Zeu ZeB Zme Zjb Zhk ZgB Zhb Zhd Znn Zlt Ztr ZrP ZpE e_mm e_bld ZeE ZuI Zmn Zgb Zla Zns Zms Zip ZhR e_rvR Zuv Zoy Zre ZmE ZeH Zcd Zh2 ZlF ZdZ Zik Zfd ZiB Zem Zf3 ZfJ ZhH ZfZ Zhr Zl8 Zdm Zd9 Zig Zdo ZeV e_rvs ZlU Zgc Zkh ZqH Zui ZeZ ZgA Zif ZhS ZmT ZmS Zsc Zqu Zpk ZqA ZoK Zry Zpe ZkK Zj7 ZiV Zlb ZlC ZjQ Zlm Zmm Zlj ZiF ZiN ZjL Zqt ZqP ZoL ZoE Zrf ZpI ZpF Zok ZqX Zqg Zqy Zqp ZpT Zkv ZlJ Zje Zi7 ZmY Znm ZmH Zmu Zhg ZhV Zl3 ZjK ZeY Zfo Zp5 Zpi Zg3 ZfH Zg4 Zf1 ZkY Zjj Zg0 ZkV ZlQ Zls Zk6 ZiW Zki ZjE ZiG ZmI ZmU Zr5 Zrw ZrS ZrQ Zrb ZoF Zp2 ZqU ZmF Zk7 ZkZ Zmt Zjk Zlk Zm8 ZlM ZjB Zkk Zmw ZjR Zl2 Zlo Zll ZkR Zi8 ZiL Zm6 Zh9 Zgh ZhF ZfN Zgr Zhz Zia Zgv Zgy ZfL ZgE Zfw Zg8 Zgw Zh8 ZgK ZgN ZgS Zfj Zfz ZeW ZhX ZgQ ZfE Zf2 ZgX Zfm Zft Zil Zj0 Zkf Zfu Zj1 Zl6 Zmr Zlg ZkC ZlY ZtP Zup Zi3 Ziz ZmB ZlT ZlL ZjY Znk Zne Zk0 Zkd Zkt ZlZ Znz Zjo Zi6 ZjS Zjz Zj3 Zjs Zli Znf Znt ZpY Zl5 Zlh Zrg ZoM Zq3 ZoP ZdH Zer Zqv Zoz ZoY Zqf Zpa Zq2 Zpf Zqh Zop Zkz Zm3 ZmK Zmf ZgY ZsY Ztk ZoT Zsd Zl7 Znj Zqm Zju Zl4 ZkJ Zk1 Zm5 ZjI Zjt Zlu ZrB Zqi Zo6 ZrT Zol Zo7 Zri Zdu Zd7 Zkp Zmo Zj2 ZiH Zj9 ZrU Zp3 Zka Zi1 ZkG ZjH Zo5 Zsi Zq9 ZrD Zq1 Zpw Zos ZqJ Zsb ZkS Zjx Zmc ZlR Zm1 ZlV ZkE Zsq Zro Zrn ZoG ZpD Zqs ZoX Zpl ZqK ZlN Zi4 Zjc ZiE ZjA ZkH Zjq ZqL ZqN Zps ZpP ZpO Zo8 ZpX Zrc ZrR Zra Zo9 ZrV Zo1 Zf8 Zhv Zsg ZqG ZrO ZfR Zfs ZrN Zpy Zse Zpd Zo0 ZrI Zpn Znb Zkx ZrE ZkP Zkb ZgR Zh7 Zr3 Zp0 Zsf Zji Zmb ZjW ZjX Zmv ZiI ZmC ZjO Zm7 Znv ZoH Zp6 ZoI ZpW ZoN Zsm Zq5 Zoj ZpB Zp4 ZrK Zov Zqd ZpL ZqI Zqk ZrG Zpz ZoZ Zot Zjl Zld Zjd Zni Zi2 Zkw Zmh Zrv Zp9 ZpM Zq7 ZqC Zrh ZpJ ZpS ZrW Zrj ZrL ZmN ZjM Znu ZlG ZkI ZlB ZiP ZiU ZrC Zsl Zq8 Zr7 ZpV Zq4 Zrr ZoC Zpg ZpH Zou Zsk Zma ZmO ZkA ZlO Zor ZrF ZrM ZqZ Zmi ZiK Zkj Zk8 Znd Zkl Zly ZlD Zjf ZiY Zqa ZqE Zrm ZhN Zmp ZmL ZkM ZiR Znw Zkq Zjm Zm0 Zl9 Zj4 Zjp ZnB ZmP ZiA ZmV ZiZ ZlE ZdI ZeG List.drop List.take List.length List.cons_append List.nil_append Nat.beq Nat.blt Nat.ble Nat.zero_add Nat.add_zero Nat.mul_one Nat.zero_mul Nat.one_mul cond_true cond_false List.set
end Go.Sx
