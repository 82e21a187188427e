/- Walks and plain laws that lead to the given statement, part 4 of 9. -/
import Derived.Test.YtiigiflofnjilaaGreatQC
import Derived.MapKept
import Derived.WideKeyRuns
import Derived.Recover
set_option linter.all false
open Nat renaming reduceAdd->rA,reduceMul->rM,reduceSub->rS,beq_refl->nbr
namespace Go.Sx
open Go Go.RowKit
variable {Y:Hd}
section
variable (P:Program) (m:Nat) (σ : St) (K:Ex->St->Prop) (L:RK)
theorem ZwX:rx P Y [] σ L=L .n σ:=rfl
theorem Zsj (io:Ins) (r:List Ins):rx P Y (io :: r) σ L=st1 P Y io σ (rx P Y r) L:=rfl
theorem Zwq (ops:List Ins):sx P Y m (.reg ops) σ K=rx P Y ops σ (ZcG K):=rfl
theorem ZuX (ord:List Nat) (p:Ph) (ps:List Ph):sx P Y m (.regs ord p ps) σ K=phx P Y p ps σ (ZcG K):=rfl
theorem phx_1 (vs:List VI) (nA nB:Nat) (rest:List Ins):phx P Y ⟨vs,nA,nB,rest⟩ [] σ L=gs0 σ.gs (rxv P Y (ZcE σ.hp (rx P Y rest)) vs σ L):=rfl
theorem phx_2 (vs:List VI) (nA nB:Nat) (rest:List Ins) (q:Ph) (ps:List Ph):phx P Y ⟨vs,nA,nB,rest⟩ (q :: ps) σ L=gs0 σ.gs (rxv P Y (ZcE σ.hp (rx P Y rest)) vs σ (phK (phx P Y q ps) L)):=rfl
theorem phK_n (f:St->RK->Prop):phK f L .n σ = f σ L:=rfl
theorem Zvk (ord:List Nat) (vs:List VI) (nA nB:Nat) (rest:List Ins):sx P Y m (.regd ord vs nA nB rest) σ K=gs0 σ.gs (rxv P Y (ZcE σ.hp (rx P Y rest)) vs σ (ZcG K)):=rfl
theorem Ztg (r:KT):rxv P Y r [] σ L=r σ L:=rfl
theorem ZwJ (r:KT) (io:Ins) (l:List VI):rxv P Y r (.op io :: l) σ L=st1 P Y io σ (rxv P Y r l) L:=rfl
theorem ZpY (r:KT) (x:X) (l:List VI):rxv P Y r (.hide x :: l) σ L=Zdx (rdG none σ.fr x) σ (rxv P Y r l) L:=rfl
theorem Znm (hp:List (Nat × HB)) (r:KT):ZcE hp r σ L=r ⟨σ.fr,hp,σ.n,σ.N,σ.gs⟩ L:=rfl
theorem Zvf (k o:Nat) (r:KT):Zdx (.p k o) σ r L=r ⟨σ.fr,(k,.gone) :: σ.hp,σ.n,σ.N,σ.gs⟩ L:=rfl
theorem ZmT (k v:Nat) (r:KT):Zdx (.mr k v) σ r L=r ⟨σ.fr,(k,.gone) :: σ.hp,σ.n,σ.N,σ.gs⟩ L:=rfl
theorem Zo8 (k v m i o:Nat) (r:KT):Zdx (.pr k v m i o) σ r L=r ⟨σ.fr,(k,.gone) :: σ.hp,σ.n,σ.N,σ.gs⟩ L:=rfl
theorem Zqx (k v m i o:Nat) (r:KT):Zdx (.ms k v m i o) σ r L=r ⟨σ.fr,(k,.gone) :: σ.hp,σ.n,σ.N,σ.gs⟩ L:=rfl
theorem ZvB (p:Prop):gs0 [] p=p:=rfl
theorem ZxC (a b:SC):sx P Y m (.seq a b) σ K=sx P Y m a σ (Zu7 (sx P Y m b) K):=rfl
theorem Zr1 (c:X) (a b:SC):sx P Y m (.cond c a b) σ K=cndK (rdG none σ.fr c) (sx P Y m a) (sx P Y m b) σ K:=rfl
theorem Zpt (id:Nat) (c:SC):sx P Y m (.block id c) σ K=sx P Y m c σ (Zre id K):=rfl
theorem ZuN (c:SC):sx P Y m (.loop c) σ K=ZuQ m (sx P Y m c) σ K:=rfl
theorem ZrU (id:Nat):sx P Y m (.exit id) σ K=K (.ex id) σ:=rfl
theorem Zxy:sx P Y m .ret σ K=K .ret σ:=rfl
theorem ZvL:sx P Y m .skip σ K=K .n σ:=rfl
theorem ZnI (c:SC):sx P Y m (.scope c) σ K=sx P Y m c σ K:=rfl
theorem sx_gh (c:SC):sx P Y m (.gh c) σ K=GH m (sx P Y m c) σ K:=rfl
theorem Zmq (l:Nat):sx P Y m (.label l) σ K=K .n σ:=rfl
theorem Ztx (e:Ex):ZcG K e σ = K e (VF σ):=rfl
theorem ZwU (f:CT):Zu7 f K .n σ = f σ K:=rfl
theorem ZtV (f:CT) (i:Nat):Zu7 f K (.ex i) σ = K (.ex i) σ:=rfl
theorem Znp (f:CT) (s:SV):Zu7 f K (.pan s) σ = K (.pan s) σ:=rfl
theorem Znh (f:CT):Zu7 f K .ret σ = K .ret σ:=rfl
theorem ZxR (id:Nat):Zre id K .n σ = K .n σ:=rfl
theorem Zph (id:Nat) (s:SV):Zre id K (.pan s) σ = K (.pan s) σ:=rfl
theorem ZoW (id:Nat):Zre id K .ret σ = K .ret σ:=rfl
theorem Zxe (rs:List RV) (res:SV):Zyd rs res .n σ = (rvR rs σ = some res):=rfl
theorem Zpy (rs:List RV) (res:SV):Zyd rs res .ret σ = (rvR rs σ = some res):=rfl
theorem Zww {S:Type} (st:S->St) (rel:S->Prop) (μ : S->Nat) (s:S):Zqg m st rel μ s K .n σ = ∃ s',rel s'/\μ s' < μ s/\Ent m σ (st s'):=rfl
theorem Zua {S:Type} (st:S->St) (rel:S->Prop) (μ : S->Nat) (s:S) (i:Nat):Zqg m st rel μ s K (.ex i) σ = K (.ex i) σ:=rfl
theorem Zns {S:Type} (st:S->St) (rel:S->Prop) (μ : S->Nat) (s:S) (x:SV):Zqg m st rel μ s K (.pan x) σ = K (.pan x) σ:=rfl
theorem ZnE {S:Type} (st:S->St) (rel:S->Prop) (μ : S->Nat) (s:S):Zqg m st rel μ s K .ret σ = K .ret σ:=rfl
end
section
variable {P:Program} {m:Nat} {σ : St} {K:Ex->St->Prop} {L:RK} {r:KT} {d:Option Nat} {g:Option (Nat × Bool)}
theorem br {b:Bool} {f h:CT} (h1:b=true->f σ K) (h2:b=false->h σ K):BR b f h σ K:=⟨h1,h2⟩
theorem Zu {b:Bool} {f h:CT} (hb:b=true) (h1:f σ K):BR b f h σ K:=⟨fun _=>h1,fun e=>by rw [hb] at e;cases e⟩
theorem Zv {b:Bool} {f h:CT} (hb:b=false) (h1:h σ K):BR b f h σ K:=⟨fun e=>by (rw [hb] at e;cases e),fun _=>h1⟩
theorem gb {b w:Bool} {j:Nat} {i:SI} (h:stpV P (some (j,w)) d i σ r L):GB P Y b j w d i σ r L:=.inr (.inr h)
theorem Yp {b w:Bool} {j:Nat} {i:SI} (hb:b=w) (h:stp P Y d i σ r L):GB P Y b j w d i σ r L:=.inl ⟨hb,h⟩
theorem Ve {b w:Bool} {j:Nat} {i:SI} (hb:b≠w) (h:skipK d σ r L):GB P Y b j w d i σ r L:=.inr (.inl ⟨hb,h⟩)
theorem call {f:FuncId} {args:List SV} {res:SV} (h:Ct P f args res) (hk:putK d res g σ r L):CALL P g f args d σ r L:=⟨res,.inl (ZN.2 fun _=>h),hk⟩
theorem Zdm {f:FuncId} {args:List SV} {res:SV} (hf:FLT res) (h:Ct P f (mapS (vw4 σ.hp) args) res) (hk:putK d res g σ r L):CALL P g f args d σ r L:=⟨res,.inr ⟨hf,ZN.2 fun _=>h⟩,hk⟩
theorem ZqR {b:BinOp} {k:IntKind} {x y:Int} (h:y≠0) (hk:putK d (.v (.int k (divr b k x y))) g σ r L):DIV g b k x y d σ r L:=⟨ZN.2 fun _=>h,hk⟩
theorem ixs {xs:List (List SV)} {i:Int} (n:Nat) (row:List SV) (hi:i=(n:Int)) (hr:xs[n]? = some row) (hk:putK d (.ps row 0) g σ r L):IXS g xs i d σ r L:=⟨row,ZN.2 fun _=>⟨n,hi,hr⟩,hk⟩
theorem Zp {α : Type} {l:List α} {f:α->List SV} {i:Int} (n:Nat) (hn:n < l.length) (hi:i=(n:Int)) (hk:putK d (.ps (f l[n]) 0) g σ r L):IXS g (l.map f) i d σ r L :=
 ixs n _ hi (by simp [hn]) hk
theorem ixa {len:Nat} {i:Int} {F:Nat->Option SV} (n:Nat) (hi:i=(n:Int)) (hn:n < len) (hk:putO (F n) d g σ r L):IXA g len i F d σ r L:=⟨n,ZN.2 fun _=>⟨hi,hn⟩,hk⟩
theorem loop {f:CT} {S:Type} (st:S->St) (rel:S->Prop) (μ : S->Nat) (s:S) (h0:rel s) (he:Ent m σ (st s)) (hb:∀ s,rel s->f (st s) (Zqg m st rel μ s K)):ZuQ m f σ K :=
 .inr ⟨S,st,rel,μ,⟨s,h0,he⟩,hb⟩
theorem Xh {f:CT} (n:Nat) (h:Zwb f K n σ):ZuQ m f σ K:=.inl ⟨n,h⟩
theorem Zb {f:CT} (n:Nat):Zwb f K (n+1) σ = f σ (Zv5 (Zwb f K n) K):=rfl
theorem ZxY (p:St->Prop):Zv5 p K .n σ = p σ:=rfl
theorem Zus (p:St->Prop) (i:Nat):Zv5 p K (.ex i) σ = K (.ex i) σ:=rfl
theorem ZoQ (p:St->Prop) (s:SV):Zv5 p K (.pan s) σ = K (.pan s) σ:=rfl
theorem Zpu (p:St->Prop):Zv5 p K .ret σ = K .ret σ:=rfl
def Zv1:List (Nat × SV)->List (Nat × SV)->Prop
 | [],_=>True
 | (t,s) :: r,fr=>lk t fr=s/\Zv1 r fr
def Zv9:List (Nat × SV)->Bool
 | []=>true
 | (_,.gd _ _ _) :: _=>false
 | _ :: r=>Zv9 r
theorem Zjq:∀ {r fr:List (Nat × SV)},Zv1 r fr->∀ t,lk t r = .any\/lk t r=lk t fr
 | [],_,_,t=>.inl rfl
 | (u,s) :: r,fr,h,t=>by
  rw [ZF]
  by_cases ht:t=u
  . subst ht;rw [if_pos rfl];exact .inr h.1.symm
  . rw [if_neg ht];exact Zjq h.2 t
theorem ZeQ:∀ {r:List (Nat × SV)},Zv9 r=true->∀ t j b s,lk t r≠.gd j b s
 | [],_,t,j,b,s=>by simp [lk]
 | (u,s') :: r,h,t,j,b,s=>by
  rw [ZF]
  by_cases ht:t=u
  . rw [if_pos ht];rintro rfl;simp [Zv9] at h
  . rw [if_neg ht];exact ZeQ (by cases s'<;>first | exact h | simp [Zv9] at h) t j b s
end
section
variable {w:World} {E:Env} {ok ok':Nat->Prop} {ρ : Nat->Nat} {n':Nat} {n:Nat->Prop}
theorem ent {σ σ':St} (ρ : Nat->Nat) (hf:mtF ρ σ'.n [] σ'.fr σ.fr) (hp:mtP ρ σ'.hp σ.hp σ'.n σ'.n) (hb:hpb σ'.n σ'.hp) (hρ : ∀ i,i < σ'.n->∀ j,j < σ'.n->ρ i = ρ j->i=j) (hN:Nat.beq σ'.N σ.N=true) {m0:Nat} (hm:Nat.ble m0 σ'.n=true) (hfix:∀ i,i < m0->ρ i=i):Ent m0 σ σ':=by
 intro C E a w hm0 h
 have hN:=Nat.eq_of_beq_eq_true hN
 have hgone:=ZcM hb
 have hH:=Zld hp
 have hocc:∀ k b,occ (rnE E ρ) k (lkh k σ'.hp) b->k < σ'.n/\occ E (ρ k) (lkh (ρ k) σ.hp) b:=fun k b ho=>by
  by_cases hk:k < σ'.n
  . refine ⟨hk,?_⟩
    have:=hH k hk
    cases h1:lkh k σ'.hp<;>rw [h1] at ho this
    . cases h2:lkh (ρ k) σ.hp<;>rw [h2] at this<;>simp only [mtH] at this
      exact ho
    . simp only [mtH] at this;rw [this.1];exact ho
    . simp only [mtH] at this;rw [this];exact ho
    . simp only [mtH] at this;rw [this.1];exact ho
    . simp only [mtH] at this;rw [this.2];exact ho
    . simp only [mtH] at this;rw [this];exact ho
    . simp only [mtH] at this;rw [this];exact ho
    . simp only [mtH] at this;rw [this.1];exact ho
    . exact ho.elim
  . rw [hgone k hk] at ho;exact ho.elim
 have hst:ZG w w (okS C E σ.hp) (okS C (rnE E ρ) σ'.hp):=fun b hb _=>⟨⟨hb.1,fun k ho=>hb.2 _ (hocc k b ho).2⟩,rfl⟩
 refine ⟨rnE E ρ,fun t=>?_,by rw [hN];exact h.sz,XT hst h.df,fun t j b s ht=>?_,⟨hgone,fun k=>?_,fun k k' b h1 h2=>?_,fun k b h1=>?_,h.hs.kp,fun k hk=>?_⟩⟩
 . rcases Zk5 hf t rfl with h1 | h1
   . rw [h1];exact trivial
   . have:=mtS_R hst h1 (h.fr t)
     have hng:=Zct h1
     cases hs:lk t σ'.fr<;>rw [hs] at this hng<;>first | exact this | exact absurd rfl (hng _ _ _)
 . rcases Zk5 hf t rfl with h1 | h1
   . rw [h1] at ht;cases ht
   . exact absurd ht (Zct h1 j b s)
 . by_cases hk:k < σ'.n
   . have:=hH k hk
     have hbk:=h.hs.bk (ρ k)
     cases h1:lkh k σ'.hp<;>rw [h1] at this
     . cases h2:lkh (ρ k) σ.hp<;>rw [h2] at this hbk<;>simp only [mtH] at this
       obtain ⟨rfl,this⟩:=this
       simp only [Z6] at hbk ⊢
       obtain ⟨cs,k1,k2⟩:=hbk
       exact ⟨cs,k1,Zbm hst _ _ _ this k2⟩
     . simp only [mtH] at this
       rw [this.1] at hbk
       simp only [Z6] at hbk ⊢
       obtain ⟨hi0,hbk⟩:=hbk
       refine ⟨hi0,?_⟩
       rcases hbk with q | ⟨b,cap,cs,q1,q2,q3,q4,q5,q6,q7⟩
       . exact .inl q
       . exact .inr ⟨b,cap,cs,q1,q2,q3,q4,q5,q6,ZE hst (fun _ h=>Ele.rfl) (fun _ h=>h.elim) _ _ (Zbn (E':=rnE E ρ) (n':=fun _=>False) _ _ (VB this.2) q7)⟩
     . rename_i φ
       simp only [mtH] at this
       rw [this] at hbk
       simp only [Z6] at hbk ⊢
       obtain ⟨o,k1,k2⟩:=hbk
       exact ⟨o,k1,φ.mono _ _ _ _ _ hst k2⟩
     . simp only [mtH] at this
       obtain ⟨this,hkf⟩:=this
       rw [this] at hbk
       simp only [Z6] at hbk ⊢
       obtain ⟨ys,k1,k2⟩:=hbk
       exact ⟨ys,k1,Zp0 hst _ _ hkf k2⟩
     . simp only [mtH] at this
       rw [this.2] at hbk
       simp only [Z6] at hbk ⊢
       exact ⟨this.1,hbk.2⟩
     . simp only [mtH] at this
       rw [this] at hbk
       simp only [Z6] at hbk ⊢
       exact hbk
     . simp only [mtH] at this
       rw [this] at hbk
       simp only [Z6] at hbk ⊢
       exact hbk
     . simp only [mtH] at this
       obtain ⟨this,k1,k2⟩:=this
       rw [this] at hbk
       exact V0 (E:=E) (k:=ρ k) (E':=rnE E ρ) hst.c (fun _ _=>rfl) rfl hk k1 k2 hbk
     . trivial
   . rw [hgone k hk];trivial
 . have e1:=hocc k b h1
   have e2:=hocc k' b h2
   exact hρ k e1.1 k' e2.1 (h.hs.dj _ _ b e1.2 e2.2)
 . obtain ⟨e1,e2⟩:=hocc k b h1
   rcases h.hs.lo _ b e2 with q | q
   . exact .inl q
   . have q1:=Nat.lt_of_lt_of_le (hm0.2 _ _ q) hm0.1
     have q2:ρ k=k:=hρ _ (Nat.lt_of_lt_of_le q1 (Nat.le_of_ble_eq_true hm)) k e1 (hfix _ q1)
     rw [q2] at q;exact .inr q
 . have hk':k < m0:=Nat.lt_of_lt_of_le hk hm0.1
   obtain ⟨p1,p2,p3,p4⟩:=h.hs.pin k hk
   exact ⟨Nat.lt_of_lt_of_le hk' (Nat.le_of_ble_eq_true hm),by simp only [rnE,hfix k hk'];exact p2,by simp only [rnE,hfix k hk'];exact p3,by simp only [rnE,hfix k hk'];exact p4⟩
end
theorem ZlM {ρ : Nat->Nat} {n':Nat}:∀ {s:SV},KF s->mtS ρ n' s s:=by
 intro s
 exact SV.rec (motive_1:=fun s=>KF s->mtS ρ n' s s) (motive_2:=fun l=>KFL l->mtL ρ n' l l) (motive_3:=fun _=>True)
  (fun x _=>by simp [mtS]) (fun k o h=>by simp [KF] at h) (fun l ih h=>by simp only [KF] at h;simp only [mtS,aggL,mtO];exact ih h)
  (fun c m xs _ h=>by simp only [KF] at h;simp [mtS,h]) (fun k v h=>by simp [KF] at h) (fun k v m i o h=>by simp [KF] at h) (fun k v m i o h=>by simp [KF] at h)
  (fun l o _ h=>by simp only [KF] at h;simp [mtS,h]) (fun f l ih h=>by simp only [KF] at h;simp only [mtS,clL,nbr,cond_true,mtO];exact ih h)
  (fun l ih h=>by simp only [KF] at h;simp only [mtS,tupL,mtO];exact ih h) (fun k h=>by simp [KF] at h) (fun k h=>by simp [KF] at h) (fun T s ih h=>by simp only [KF] at h;simp only [mtS,mtI];exact ⟨trivial,ih h⟩) (fun φ _=>by simp [mtS]) (fun j w s _ h=>by simp [KF] at h) (fun _=>by simp [mtS])
  (fun _=>by simp [mtL]) (fun s l h1 h2 h=>by simp only [KFL] at h;simp only [mtL,mtB];exact ⟨h1 h.1,h2 h.2⟩)
  trivial (fun _ _ _ _=>trivial) s
theorem Zc {ρ : Nat->Nat} {n':Nat}:∀ {l:List SV},KFL l->mtL ρ n' l l
 | [],_=>by simp [mtL]
 | s :: l,h=>by simp only [mtL,mtB];exact ⟨ZlM h.1,Zc h.2⟩
abbrev I (n:Int):SV:=.v (.int .i64 n)
abbrev B (b:Bool):SV:=.v (.bool b)
theorem Zf:∀ {xs ys:List (List SV)},KFR (xs ++ ys)↔KFR xs/\KFR ys
 | [],ys=>by simp [KFR]
 | x :: xs,ys=>by simp [KFR,Zf (xs:=xs) (ys:=ys),and_assoc]
theorem Za {α : Type} {f:α->List SV} {l:List α}:KFR (l.map f)↔∀ x ∈ l,KFL (f x):=by
 induction l with
 | nil=>simp [KFR]
 | cons x l ih=>simp [KFR,ih]
theorem Zi {n:Int} (h1:-9223372036854775808<=n) (h2:n<=9223372036854775807):IntKind.i64.wrap n=n:=IntWalk.i64_in n ⟨h1,h2⟩
def stO {S:Type} (σ : St) (ov:S->List (Nat × SV)) (hv:S->List (Nat × HB)) (s:S):St:=⟨ov s ++ σ.fr,hv s ++ σ.hp,σ.n,σ.N,[]⟩
theorem e_stO {S:Type} (fr:List (Nat × SV)) (hp:List (Nat × HB)) (n N:Nat) (gs:List Nat) (ov:S->List (Nat × SV)) (hv:S->List (Nat × HB)) (s:S):stO ⟨fr,hp,n,N,gs⟩ ov hv s=⟨ov s ++ fr,hv s ++ hp,n,N,[]⟩:=rfl
theorem Xf {m:Nat} {f:CT} {σ : St} {K:Ex->St->Prop} {S:Type} (ov:S->List (Nat × SV)) (hv:S->List (Nat × HB)) (rel:S->Prop) (μ : S->Nat) (s0:S) (h0:rel s0) (he:Ent m σ (stO σ ov hv s0))
 (hb:∀ s,rel s->f (stO σ ov hv s) (Zqg m (stO σ ov hv) rel μ s K)):ZuQ m f σ K :=
 loop (stO σ ov hv) rel μ s0 h0 he hb
theorem Zc7 {m:Nat} {f:CT} {σ σ1:St} {K:Ex->St->Prop} {S:Type} (hg:Ent m σ σ1) (ov:S->List (Nat × SV)) (hv:S->List (Nat × HB)) (rel:S->Prop) (μ : S->Nat) (s0:S) (h0:rel s0) (he:Ent m σ1 (stO σ1 ov hv s0))
 (hb:∀ s,rel s->f (stO σ1 ov hv s) (Zqg m (stO σ1 ov hv) rel μ s K)):ZuQ m f σ K :=
 loop (stO σ1 ov hv) rel μ s0 h0 (Yo hg he) hb
theorem gh {m:Nat} {r:CT} {σ σ1:St} {K:Ex->St->Prop} (hg:Ent m σ σ1) (h:r σ1 K):GH m r σ K:=⟨σ1,hg,h⟩
theorem Zwz {C:Cx} {E:Env} {hp:List (Nat × HB)} {n:Nat->Prop} {w:World} {m k v m':Nat} {xs:List (List SV)} {T:TypeId} (hmc:MC C m) (hm:m<=k) (h:HSim C E hp n w) (hk:lkh k hp = .row v m' xs T) :
 (xs=[]/\∃ a,E.hv k v = .slice a 0 0)\/∃ b cap,E.hv k v = .slice (some ⟨b,0,none⟩) xs.length cap/\xs.length<=cap/\cap≠0/\xs.length<=9223372036854775807/\RR w E n (okS C E ((k,.gone) :: hp)) b m' xs 0:=by
 have hb:=h.bk k
 rw [hk] at hb;simp only [Z6] at hb
 rcases hb with ⟨_,h1 | ⟨b,cap,cs,h1,h2,h3,⟨h4,h4'⟩,h5,h6,h7⟩⟩
 . exact .inl h1
 . have hoc:occ E k (lkh k hp) b:=by rw [hk];exact ⟨_,_,h1,h4'⟩
   have hok:okS C E ((k,.gone) :: hp) b:=by
    refine ⟨?_,fun j ho=>?_⟩
    . rcases h.lo k b hoc with q | q
      . exact .inr q
      . have:=hmc.2 k b q;have:=hmc.1;omega
    . rw [Zt] at ho
      split at ho
      . exact ho.elim
      . exact absurd (h.dj j k b ho hoc).symm (by omega)
   exact .inr ⟨b,cap,h1,h4,h4',h5,Wq (cs:=cs) (ok:=okS C E hp) hok (fun j c hj=>by rw [cell_of_row _ _ _ _ _ _ h2];simpa using hj) (Zbo h k).2 xs 0 h6 (by simpa using h7)⟩
theorem Zop {m:Nat} {σ : St} (t k:Nat) (s:SV) (hg:σ.gs=[]) (hs:∀ j b u,s≠.gd j b u) (hR:∀ C E w y,MC C m->HSim C E σ.hp (ltn σ.n) w->R w E (ltn σ.n) (okS C E σ.hp) (lk t σ.fr) y->R w E (ltn σ.n) (okS C E ((k,.gone) :: σ.hp)) s y) :
 Ent m σ ⟨(t,s) :: σ.fr,(k,.gone) :: σ.hp,σ.n,σ.N,σ.gs⟩:=fun C E a w hmc h=>by
 obtain ⟨g1,g2⟩:=Zbo h.hs k
 have hR0:∀ u,R w E (ltn σ.n) (okS C E σ.hp) (lk u σ.fr) (a.tmps.getD u undef):=fun u=>Zvp (h.fr u) (fun j b u' e=>by have:=h.gs u j b u' e;rw [hg] at this;simp at this)
 refine ⟨E,fun u=>?_,h.sz,XT g2 h.df,fun u j b s' hu=>?_,g1⟩
 . rw [ZF]
   split
   . rename_i hu;subst hu
     have:=hR C E w _ hmc h.hs (hR0 _)
     cases s<;>first | exact this | exact absurd rfl (hs _ _ _)
   . refine Xj g2 (fun _ _=>Ele.rfl) (fun k hk=>hk) (fun j b s hs=>?_) (h.fr u)
     have:=h.gs u j b s hs;rw [hg] at this;simp at this
 . rw [ZF] at hu
   split at hu
   . exact absurd hu (hs _ _ _)
   . exact h.gs u j b s' hu
theorem UQ {m:Nat} {σ : St} (t k v:Nat) {m':Nat} {xs:List (List SV)} {T:TypeId} (hm:Nat.ble m k=true) (hg:σ.gs=[]) (hl:lk t σ.fr = .mr k v) (hk:lkh k σ.hp = .row v m' xs T) :
 Ent m σ ⟨(t,.sl false m' xs) :: σ.fr,(k,.gone) :: σ.hp,σ.n,σ.N,σ.gs⟩ :=
 Zop t k _ hg (fun _ _ _ e=>by cases e) fun C E w y hmc hh hR=>by
  rw [hl] at hR
  simp only [R] at hR ⊢
  rcases Zwz hmc (Nat.le_of_ble_eq_true hm) hh hk with ⟨h1,a0,h2⟩ | ⟨b,cap,h1,h4,h4',h5,h7⟩
  . exact ⟨a0,0,0,by rw [hR.2.2.1,h2],by simp [h1],⟨Nat.le_refl _,fun h=>by cases h⟩,by simp [h1],.inl h1⟩
  . exact ⟨_,_,_,hR.2.2.1.trans h1,rfl,⟨h4,fun h=>by cases h⟩,h5,.inr ⟨b,0,rfl,h7⟩⟩
theorem VS {m:Nat} {b:Bool} {s s':SV} {hp hp':List (Nat × HB)} {n n':Nat} (h:Ent m ⟨[(0,s)],hp,n,1,[]⟩ ⟨[(0,s')],hp',n',1,[]⟩) (hg:∀ j b u,s'≠.gd j b u):Zec m ⟨b,s,hp,n⟩ ⟨b,s',hp',n'⟩:=by
 refine ⟨rfl,fun C E w y hm hH hR=>?_⟩
 have hng:=Ui hR
 have hS:Sim C E ⟨[(0,s)],hp,n,1,[]⟩ { tmps:=#[y],defers:=C.ds } w:=by
  refine ⟨fun t=>?_,rfl,UW,fun t j b u ht=>?_,hH⟩
  . simp only [ZF]
    split
    . rename_i ht;subst ht
      show FR w E (ltn n) _ _ s y
      cases s<;>first | exact hR | exact absurd rfl (hng _ _ _)
    . exact trivial
  . simp only [ZF] at ht
    split at ht
    . exact absurd ht (hng _ _ _)
    . cases ht
 obtain ⟨E',h'⟩:=h C E _ w hm hS
 refine ⟨E',h'.hs,?_⟩
 have:=h'.fr 0
 exact Zvp this (fun j b u e=>hg j b u (by simpa [lk] using e))
theorem entO {m:Nat} {b:Bool} {s s':SV} {hp hp':List (Nat × HB)} {n n':Nat} (ρ : Nat->Nat) (hf:mtS ρ n' s' s) (hp0:mtP ρ hp' hp n' n') (hb:hpb n' hp') (hρ : ∀ i,i < n'->∀ j,j < n'->ρ i = ρ j->i=j) (hm:Nat.ble m n'=true) (hfix:∀ i,i < m->ρ i=i):Zec m ⟨b,s,hp,n⟩ ⟨b,s',hp',n'⟩ :=
 VS (ent ρ (show mtF ρ n' [] [(0,s')] [(0,s)] from ⟨hf,trivial⟩) hp0 hb hρ rfl hm hfix) (Zct hf)
theorem Yb {m:Nat} {b:Bool} {s s':SV} {hp hp':List (Nat × HB)} {n n':Nat} (hf:mtS id n' s' s) (hp0:mtP id hp' hp n' n') (hb:hpb n' hp') (hm:Nat.ble m n'=true):Zec m ⟨b,s,hp,n⟩ ⟨b,s',hp',n'⟩ :=
 entO id hf hp0 hb (fun _ _ _ _ h=>h) hm (fun _ _=>rfl)
theorem callm {P:Program} {f:FuncId} {args args0:List SV} {d:Option Nat} {σ : St} {r:KT} {K:RK} {hp0:List (Nat × HB)} {n0:Nat} {o:Ot} (ρ : Nat->Nat) (hc:CtM P f hp0 n0 args0 (· = o)) (h1:mtL ρ n0 args0 args) (h2:mtP ρ hp0 σ.hp n0 n0) (h3:Zyi ρ n0) (h4:∀ i,i < n0->ρ i < σ.n)
 (h5:cmK o.pn (rnS (exR ρ n0 σ.n) o.res) (hpM ρ n0 σ.n o σ.hp) (σ.n+(o.n - n0)) d σ r K):CALLM P f args d σ r K :=
 ⟨hp0,n0,args0,_,ρ,hc,h1,h2,h3,h4,fun _ e=>e ▸ h5⟩
def rho:List Nat->Nat->Nat
 | [],_=>0
 | a :: _,0=>a
 | _ :: l,k+1=>rho l k
theorem V3:∀ (l:List Nat) (k:Nat) (h:k < l.length),rho l k=l[k]
 | a :: _,0,_=>rfl
 | _ :: l,k+1,h=>by simpa [rho] using V3 l k (by simpa using h)
theorem UZ {P:Program} {f:FuncId} {args args0:List SV} {d:Option Nat} {σ : St} {r:KT} {K:RK} {hp0:List (Nat × HB)} {n0:Nat} {o:Ot} (l:List Nat) (hc:CtM P f hp0 n0 args0 (· = o)) (hn:Nat.beq l.length n0=true) (hi:Zcl l=true) (hl:ltAll σ.n l=true)
 (h1:mtL (rho l) n0 args0 args) (h2:mtP (rho l) hp0 σ.hp n0 n0) (h5:cmK o.pn (rnS (exR (rho l) n0 σ.n) o.res) (hpM (rho l) n0 σ.n o σ.hp) (σ.n+(o.n - n0)) d σ r K):CALLM P f args d σ r K:=by
 have hn:=Nat.eq_of_beq_eq_true hn
 refine callm (rho l) hc h1 h2 (fun i hi' j hj e=>?_) (fun i hi'=>?_) h5
 . rw [V3 l i (by omega),V3 l j (by omega)] at e
   have hp:=List.pairwise_iff_getElem.1 (X6 hi)
   rcases Nat.lt_trichotomy i j with h | h | h
   . exact absurd e (hp i j _ _ h)
   . exact h
   . exact absurd e.symm (hp j i _ _ h)
 . rw [V3 l i (by omega)];exact Up hl _ (List.getElem_mem _)
theorem Zl {m0:Nat} {σ σ':St} (hf:mtF id σ'.n [] σ'.fr σ.fr) (hp:mtP id σ'.hp σ.hp σ'.n σ'.n) (hb:hpb σ'.n σ'.hp) (hN:Nat.beq σ'.N σ.N=true) (hm:Nat.ble m0 σ'.n=true):Ent m0 σ σ':=ent id hf hp hb (fun _ _ _ _ h=>h) hN hm (fun _ _=>rfl)
theorem Zxq {fr:List (Nat × SV)} {j j':Nat} {w w' b:Bool} {p:Prop} (hl:lk j fr = .gd j' w' (.v (.bool b))) (h:b=w->p):Zep (some (j,w)) fr p:=fun hg=>h (by have:=(ZgQ hg hl).2;simpa using this)
theorem imp_v {fr:List (Nat × SV)} {j:Nat} {w b:Bool} {p:Prop} (hl:lk j fr = .v (.bool b)) (h:b=w->p):Zep (some (j,w)) fr p:=fun hg=>h (ZwB hg hl)
theorem ZiA {xs:List (List SV)} {i:Int} {σ : St} {r:KT} {L:RK} {d:Option Nat} {j j':Nat} {w w' b:Bool} (n:Nat) (row:List SV) (hl:lk j σ.fr = .gd j' w' (.v (.bool b))) (h:b=w->i=(n:Int)/\xs[n]? = some row) (hk:putK d (.ps row 0) (some (j,w)) σ r L) :
 IXS (some (j,w)) xs i d σ r L:=⟨row,Zxq hl fun e=>⟨n,(h e).1,(h e).2⟩,hk⟩
theorem ZwT {g:Option (Nat × Bool)} {m b:Nat} {xs ys:List (List SV)} {d:Option Nat} {σ : St} {r:KT} {L:RK} (h:(xs.length+ys.length) * b<=140737488355328) (hk:putK d (.sl false m (xs ++ ys)) g σ r L):APP g m b xs ys d σ r L:=⟨ZN.2 fun _=>h,hk⟩
theorem Zb1 {g:Option (Nat × Bool)} {k v m len:Nat} {i:Int} {d:Option Nat} {σ : St} {r:KT} {L:RK} (n:Nat) (hi:i=(n:Int)) (hn:n < len) (hk:putK d (.pr k v m n 0) g σ r L):IXR g k v m len i d σ r L:=⟨n,ZN.2 fun _=>⟨hi,hn⟩,hk⟩
theorem ZfM {α : Type} {l:List α} {f:α->List SV} {g:Option (Nat × Bool)} {i o m:Nat} {ag:Bool} {d:Option Nat} {σ : St} {r:KT} {L:RK} (hn:i < l.length) (hk:putO (partS (f l[i]) o m ag) d g σ r L):LDR g (l.map f) i o m ag d σ r L:=⟨f l[i],ZN.2 fun _=>by simp [hn],hk⟩
theorem Zqj {α : Type} {l:List α} {f:α->List SV} {j o k v m:Nat} {c:List SV} {T:TypeId} {σ : St} {r:KT} {L:RK} (y:α) (hn:j < l.length) (ho:o+c.length<=(f l[j]).length) (he:splice (f l[j]) o c=f y)
 (h:r ⟨σ.fr,(k,.row v m ((l.set j y).map f) T) :: σ.hp,σ.n,σ.N,σ.gs⟩ L):STR v (l.map f) j o k m c T σ r L :=
 ⟨f l[j],by simp [hn],ho,by rw [he,<- List.map_set];exact h⟩
theorem ZqS {k v m len:Nat} {i:Int} {d:Option Nat} {σ : St} {r:KT} {L:RK} {j:Nat} {w b:Bool} (n:Nat) (hl:lk j σ.fr = .v (.bool b)) (h:b=w->i=(n:Int)/\n < len) (hk:putK d (.pr k v m n 0) (some (j,w)) σ r L):IXR (some (j,w)) k v m len i d σ r L:=⟨n,imp_v hl h,hk⟩
theorem VQ {r:List SV} (h:KFL r):∀ n,KFR (List.replicate n r)
 | 0=>trivial
 | n+1=>⟨h,VQ h n⟩
theorem YM {P:Program} {f:FuncId} {args args0:List SV} {d:Option Nat} {σ : St} {r:KT} {K:RK} {hp0:List (Nat × HB)} {n0:Nat} {ZX:Ot->Prop} (l:List Nat) (hc:CtM P f hp0 n0 args0 ZX) (hn:Nat.beq l.length n0=true) (hi:Zcl l=true) (hl:ltAll σ.n l=true)
 (h1:mtL (rho l) n0 args0 args) (h2:mtP (rho l) hp0 σ.hp n0 n0) (h5:∀ o,ZX o->cmK o.pn (rnS (exR (rho l) n0 σ.n) o.res) (hpM (rho l) n0 σ.n o σ.hp) (σ.n+(o.n - n0)) d σ r K):CALLM P f args d σ r K:=by
 have hn:=Nat.eq_of_beq_eq_true hn
 refine ⟨hp0,n0,args0,ZX,rho l,hc,h1,h2,fun i hi' j hj e=>?_,fun i hi'=>?_,h5⟩
 . rw [V3 l i (by omega),V3 l j (by omega)] at e
   have hp:=List.pairwise_iff_getElem.1 (X6 hi)
   rcases Nat.lt_trichotomy i j with h | h | h
   . exact absurd e (hp i j _ _ h)
   . exact h
   . exact absurd e.symm (hp j i _ _ h)
 . rw [V3 l i (by omega)]
   exact Up hl _ (List.getElem_mem _)
theorem Vd {P:Program} {d:Option Nat} {op:BinOp} {t t' ty u:Nat} {c x v:Value} {σ : St} {r:KT} {K:RK} (hl:lk u σ.fr = .v x) (hop:op = .and\/op = .shr) (hr:∀ w:World,(binOp op t x c).run P w = .ok v w) (hv:v.oneCell'=true) (hk:putK d (.v v) none σ r K) :
 RAW P d (.binOp op t (.tmp u) (.const c) t') ty σ r K:=by
 intro o C E a w next Q h1 h2 h3 hs hn hq
 have hx:a.eval (.tmp u)=x:=by
  have:=hs.fr u
  rw [hl] at this
  simp only [FR,R] at this
  exact this
 have hrun:(execOp a.eval o).run P w = .ok (.value v) w:=by
  obtain ⟨dst,op',ty',pos,after,guard⟩:=o
  simp only at h2;subst h2
  have hc:a.eval (.const c)=c:=rfl
  simp only [execOp,hx,hc]
  rcases hop with rfl | rfl<;>simp [Sem.run_bind,eqGuard,hr]
 refine ZD hrun (by simp) ?_
 show next (a.put o.dst v) w
 rcases UG hk with ⟨g1,g2⟩ | ⟨t,g1,g2,g3,g4,g5⟩
 . have hS:=hs
   rw [h1,g1]
   exact hn _ E _ _ g2 hS
 . rw [h1,g1]
   exact hn _ E _ _ g5 (XM hs (fun b hb _=>⟨hb,rfl⟩) (fun _ _=>Ele.rfl) (Nat.le_refl _) hs.hs g2 g3 (fun j b u e=>by rw [e] at g4;cases g4) (by simp only [R]))
theorem w64_0:IntKind.i64.wrap 0=0:=rfl
theorem w64_1:IntKind.i64.wrap 1=1:=rfl
theorem w64_2:IntKind.i64.wrap 2=2:=rfl
theorem w64_3:IntKind.i64.wrap 3=3:=rfl
theorem w64_4:IntKind.i64.wrap 4=4:=rfl
theorem w64_5:IntKind.i64.wrap 5=5:=rfl
theorem w64_6:IntKind.i64.wrap 6=6:=rfl
theorem Ud {a b A B:Int} (h1:0<=a) (h2:a<=A) (h3:0<=b) (h4:b<=B):0<=a * b/\a * b<=A * B:=⟨Int.mul_nonneg h1 h3,Int.mul_le_mul h2 h4 h3 (by omega)⟩
def lkB (b:Bool) (s:SV) (t:Nat) (r:List (Nat × SV)):SV:=bif b then s else lk t r
def lkhB (b:Bool) (s:HB) (t:Nat) (r:List (Nat × HB)):HB:=bif b then s else lkh t r
def ZrV (b:Bool) (t:Nat) (r:List Nat):Bool:=bif b then true else memb t r
def blkE (b:Bool) (i:Nat) (K:Ex->St->Prop) (σ : St):Prop:=bif b then K .n σ else K (.ex i) σ
def Zq2 (b:Bool) (s:SV):Option (List SV):=bif b then some [s] else none
def ZwE (c:Bool) (b:BinOp) (k:IntKind) (x y:Int):Option SV:=bif c then Zga b k x y else none
def ZwF (b:Bool) (l:List SV) (o m:Nat):Option SV:=bif b then some (.agg ((l.drop o).take m)) else none
theorem lkB_t (s:SV) (t:Nat) (r:List (Nat × SV)):lkB true s t r=s:=rfl
theorem lkB_f (s:SV) (t:Nat) (r:List (Nat × SV)):lkB false s t r=lk t r:=rfl
theorem Zw8 (s:HB) (t:Nat) (r:List (Nat × HB)):lkhB true s t r=s:=rfl
theorem Zxw (s:HB) (t:Nat) (r:List (Nat × HB)):lkhB false s t r=lkh t r:=rfl
theorem ZuJ (t:Nat) (r:List Nat):ZrV true t r=true:=rfl
theorem Ztu (t:Nat) (r:List Nat):ZrV false t r=memb t r:=rfl
theorem ZxQ (i:Nat) (K:Ex->St->Prop) (σ : St):blkE true i K σ = K .n σ:=rfl
theorem Zxg (i:Nat) (K:Ex->St->Prop) (σ : St):blkE false i K σ = K (.ex i) σ:=rfl
theorem Zl9 (s:SV):Zq2 true s=some [s]:=rfl
theorem ZrJ (b:BinOp) (k:IntKind) (x y:Int):ZwE true b k x y=Zga b k x y:=rfl
theorem Zuv (l:List SV) (o m:Nat):ZwF true l o m=some (.agg ((l.drop o).take m)):=rfl
def mmE (k:IntKind):Option Int->Option SV
 | some z=>some (.v (.int k z))
 | none=>none
def chkB (b:Bool) (l:List SV) (ls:List (List SV)):Option (List (List SV)):=bif b then some (l :: ls) else none
theorem Zw1 (l:List SV) (ls:List (List SV)):chkB true l ls=some (l :: ls):=rfl
theorem Zwp (b:Bool):andB true b=b:=rfl
theorem Zx3 (b:Bool):andB false b=false:=rfl
def vwP (g:SV->SV) (o:Nat):HB->SV
 | .cells l _=>.ps (mapS g l) o
 | _=>.any
def vwM (v:Nat):HB->SV
 | .row v' m xs _=>vwN (Nat.beq v v') m xs
 | .rws v' m xs _ o m' inn _=>vwN (Nat.beq v v') m (frzX o m' inn xs)
 | _=>.any
def cvtM (v:Nat):HB->SV
 | .row v' m xs _=>vwN (Nat.beq v v') m xs
 | _=>.any
def rvH (o m:Nat) (ag:Bool):HB->Option SV
 | .cells l _=>partS l o m ag
 | _=>none
def rvX (hp:List (Nat × HB)) (m:Nat) (ag:Bool):SV->Option SV
 | .p k o=>rvH o m ag (lkh k hp)
 | _=>none
def pvF (o m:Nat) (ag:Bool):SV->Option SV
 | .agg l=>partS l o m ag
 | _=>none
def pvC (k:IntKind):SV->Option SV
 | .v (.int _ n)=>some (.v (.int k (k.wrap n)))
 | _=>none
def pvE (i:Nat):SV->Option SV
 | .tup l=>nth l i
 | _=>none
theorem e_lk (t u:Nat) (s:SV) (r:List (Nat × SV)):lk t ((u,s) :: r)=lkB (Nat.beq t u) s t r:=rfl
theorem e_lk0 (t:Nat):lk t [] = .any:=rfl
theorem e_lkh (t u:Nat) (s:HB) (r:List (Nat × HB)):lkh t ((u,s) :: r)=lkhB (Nat.beq t u) s t r:=rfl
theorem Zxd (t:Nat):lkh t [] = .gone:=rfl
theorem ZwV (t u:Nat) (r:List Nat):memb t (u :: r)=ZrV (Nat.beq t u) t r:=rfl
theorem ZvM (t:Nat):memb t []=false:=rfl
theorem e_blk (id i:Nat) (K:Ex->St->Prop) (σ : St):Zre id K (.ex i) σ = blkE (Nat.beq i id) i K σ:=rfl
theorem Zj5 (g:Option (Nat × Bool)) (fr:List (Nat × SV)) (x:Value):Xg g fr (.v x)=(.v x):=rfl
theorem Zpx (t:Nat) (r:List (Nat × SV)) (x:Value):Yu ((t,(.v x)) :: r)=(t,(.v x)) :: Yu r:=rfl
theorem ZuF (hp:List (Nat × HB)) (x:Value):cvt hp (.v x)=(.v x):=rfl
theorem ZrI (hp:List (Nat × HB)) (g:SV->SV) (x:Value):vwS hp g (.v x)=(.v x):=rfl
theorem Zvt (x:Value):vw0 (.v x)=(.v x):=rfl
theorem Zj0 (x:Value):cellsO (.v x)=Zq2 (Zku x) (.v x):=rfl
theorem ZqI (x:Value):ZaA (.v x)=Zku x:=rfl
theorem Zju (g:Option (Nat × Bool)) (fr:List (Nat × SV)) (k o:Nat):Xg g fr (.p k o)=(.p k o):=rfl
theorem ZqC (t:Nat) (r:List (Nat × SV)) (k o:Nat):Yu ((t,(.p k o)) :: r)=(t,(.p k o)) :: Yu r:=rfl
theorem Zvu (hp:List (Nat × HB)) (k o:Nat):cvt hp (.p k o)=(.p k o):=rfl
theorem Zvv (hp:List (Nat × HB)) (g:SV->SV) (k o:Nat):vwS hp g (.p k o)=vwP g o (lkh k hp):=rfl
theorem ZtO (k o:Nat):vw0 (.p k o) = .any:=rfl
theorem Zkr (k o:Nat):cellsO (.p k o)=some [(.p k o)]:=rfl
theorem ZmV (k o:Nat):ZaA (.p k o)=true:=rfl
theorem Zeq (g:Option (Nat × Bool)) (fr:List (Nat × SV)) (l:List SV):Xg g fr (.agg l)=(.agg l):=rfl
theorem ZgP (t:Nat) (r:List (Nat × SV)) (l:List SV):Yu ((t,(.agg l)) :: r)=(t,(.agg l)) :: Yu r:=rfl
theorem Zi1 (hp:List (Nat × HB)) (l:List SV):cvt hp (.agg l) = .agg (cvtL hp l):=rfl
theorem Zk0 (hp:List (Nat × HB)) (g:SV->SV) (l:List SV):vwS hp g (.agg l) = .agg (mapS g l):=rfl
theorem Zhv (l:List SV):vw0 (.agg l) = .any:=rfl
theorem ZeE (l:List SV):cellsO (.agg l)=some l:=rfl
theorem Zgl (l:List SV):ZaA (.agg l)=false:=rfl
theorem ZfT (g:Option (Nat × Bool)) (fr:List (Nat × SV)) (c:Bool) (m:Nat) (xs:List (List SV)):Xg g fr (.sl c m xs)=(.sl c m xs):=rfl
theorem ZiM (t:Nat) (r:List (Nat × SV)) (c:Bool) (m:Nat) (xs:List (List SV)):Yu ((t,(.sl c m xs)) :: r)=(t,(.sl c m xs)) :: Yu r:=rfl
theorem Zow (hp:List (Nat × HB)) (c:Bool) (m:Nat) (xs:List (List SV)):cvt hp (.sl c m xs)=(.sl c m xs):=rfl
theorem ZoC (hp:List (Nat × HB)) (g:SV->SV) (c:Bool) (m:Nat) (xs:List (List SV)):vwS hp g (.sl c m xs)=(.sl c m xs):=rfl
theorem ZlE (c:Bool) (m:Nat) (xs:List (List SV)):vw0 (.sl c m xs)=(.sl c m xs):=rfl
theorem Zgw (c:Bool) (m:Nat) (xs:List (List SV)):cellsO (.sl c m xs)=some [(.sl c m xs)]:=rfl
theorem Zh8 (c:Bool) (m:Nat) (xs:List (List SV)):ZaA (.sl c m xs)=true:=rfl
theorem Zvj (l:List SV):pmS [] l=[]:=rfl
theorem ZgM (g:Option (Nat × Bool)) (fr:List (Nat × SV)) (k v:Nat):Xg g fr (.mr k v)=(.mr k v):=rfl
theorem Zht (t:Nat) (r:List (Nat × SV)) (k v:Nat):Yu ((t,(.mr k v)) :: r)=(t,(.mr k v)) :: Yu r:=rfl
theorem Zmc (hp:List (Nat × HB)) (k v:Nat):cvt hp (.mr k v)=cvtM v (lkh k hp):=rfl
theorem ZlJ (hp:List (Nat × HB)) (g:SV->SV) (k v:Nat):vwS hp g (.mr k v)=vwM v (lkh k hp):=rfl
theorem ZnJ (k v:Nat):vw0 (.mr k v) = .any:=rfl
theorem Zg9 (k v:Nat):cellsO (.mr k v)=some [(.mr k v)]:=rfl
theorem ZhP (k v:Nat):ZaA (.mr k v)=true:=rfl
theorem Zgn (g:Option (Nat × Bool)) (fr:List (Nat × SV)) (k v m i o:Nat):Xg g fr (.pr k v m i o)=(.pr k v m i o):=rfl
theorem ZgZ (g:Option (Nat × Bool)) (fr:List (Nat × SV)) (k v m i o:Nat):Xg g fr (.ms k v m i o)=(.ms k v m i o):=rfl
theorem Zhu (t:Nat) (r:List (Nat × SV)) (k v m i o:Nat):Yu ((t,(.pr k v m i o)) :: r)=(t,(.pr k v m i o)) :: Yu r:=rfl
theorem ZjE (t:Nat) (r:List (Nat × SV)) (k v m i o:Nat):Yu ((t,(.ms k v m i o)) :: r)=(t,(.ms k v m i o)) :: Yu r:=rfl
theorem Zn0 (hp:List (Nat × HB)) (k v m i o:Nat):cvt hp (.pr k v m i o)=(.pr k v m i o):=rfl
theorem Zos (hp:List (Nat × HB)) (k v m i o:Nat):cvt hp (.ms k v m i o)=(.ms k v m i o):=rfl
theorem Zqq (hp:List (Nat × HB)) (g:SV->SV) (k v m i o:Nat):vwS hp g (.pr k v m i o)=(.pr k v m i o):=rfl
theorem Zqr (hp:List (Nat × HB)) (g:SV->SV) (k v m i o:Nat):vwS hp g (.ms k v m i o)=(.ms k v m i o):=rfl
theorem Zqb (k v m i o:Nat):vw0 (.pr k v m i o) = .any:=rfl
theorem Zqp (k v m i o:Nat):vw0 (.ms k v m i o) = .any:=rfl
theorem ZfV (k v m i o:Nat):cellsO (.pr k v m i o)=some [(.pr k v m i o)]:=rfl
theorem ZgI (k v m i o:Nat):cellsO (.ms k v m i o)=some [(.ms k v m i o)]:=rfl
theorem ZkK (k v m i o:Nat):ZaA (.pr k v m i o)=true:=rfl
theorem ZkX (k v m i o:Nat):ZaA (.ms k v m i o)=true:=rfl
theorem Zg2 (g:Option (Nat × Bool)) (fr:List (Nat × SV)) (row:List SV) (o:Nat):Xg g fr (.ps row o)=(.ps row o):=rfl
theorem ZiU (t:Nat) (r:List (Nat × SV)) (row:List SV) (o:Nat):Yu ((t,(.ps row o)) :: r)=(t,(.ps row o)) :: Yu r:=rfl
theorem Zok (hp:List (Nat × HB)) (row:List SV) (o:Nat):cvt hp (.ps row o)=(.ps row o):=rfl
theorem Zqu (hp:List (Nat × HB)) (g:SV->SV) (l:List SV) (o:Nat):vwS hp g (.ps l o) = .ps (mapS g l) o:=rfl
theorem Zqz (row:List SV) (o:Nat):vw0 (.ps row o) = .any:=rfl
theorem Zgh (row:List SV) (o:Nat):cellsO (.ps row o)=some [(.ps row o)]:=rfl
theorem ZkC (row:List SV) (o:Nat):ZaA (.ps row o)=true:=rfl
theorem Zgq (g:Option (Nat × Bool)) (fr:List (Nat × SV)) (f:FuncId) (l:List SV):Xg g fr (.cl f l)=(.cl f l):=rfl
theorem Zln (t:Nat) (r:List (Nat × SV)) (f:FuncId) (l:List SV):Yu ((t,(.cl f l)) :: r)=(t,(.cl f l)) :: Yu r:=rfl
theorem Zl5 (hp:List (Nat × HB)) (f:FuncId) (l:List SV):cvt hp (.cl f l)=(.cl f l):=rfl
theorem Zm3 (hp:List (Nat × HB)) (g:SV->SV) (f:FuncId) (l:List SV):vwS hp g (.cl f l) = .cl f (mapS g l):=rfl
theorem ZoS (f:FuncId) (l:List SV):vw0 (.cl f l) = .any:=rfl
theorem Zhd (f:FuncId) (l:List SV):cellsO (.cl f l)=some [(.cl f l)]:=rfl
theorem Zjl (f:FuncId) (l:List SV):ZaA (.cl f l)=true:=rfl
theorem ZeG (g:Option (Nat × Bool)) (fr:List (Nat × SV)) (l:List SV):Xg g fr (.tup l)=(.tup l):=rfl
theorem ZgU (t:Nat) (r:List (Nat × SV)) (l:List SV):Yu ((t,(.tup l)) :: r)=(t,(.tup l)) :: Yu r:=rfl
theorem ZjT (hp:List (Nat × HB)) (l:List SV):cvt hp (.tup l) = .tup (cvtL hp l):=rfl
theorem ZiX (hp:List (Nat × HB)) (g:SV->SV) (l:List SV):vwS hp g (.tup l) = .tup (mapS g l):=rfl
theorem Zkh (l:List SV):vw0 (.tup l) = .any:=rfl
theorem Zg3 (l:List SV):ZaA (.tup l)=false:=rfl
theorem Zim (g:Option (Nat × Bool)) (fr:List (Nat × SV)) (φ : VP):Xg g fr (.q φ)=(.q φ):=rfl
theorem ZoI (t:Nat) (r:List (Nat × SV)) (φ : VP):Yu ((t,(.q φ)) :: r)=(t,(.q φ)) :: Yu r:=rfl
theorem Zuf (hp:List (Nat × HB)) (φ : VP):cvt hp (.q φ)=(.q φ):=rfl
theorem Zty (hp:List (Nat × HB)) (g:SV->SV) (φ : VP):vwS hp g (.q φ)=(.q φ):=rfl
theorem Ztk (φ : VP):vw0 (.q φ)=(.q φ):=rfl
theorem Zkk (φ : VP):cellsO (.q φ)=some [(.q φ)]:=rfl
theorem Zo2 (φ : VP):ZaA (.q φ)=true:=rfl
theorem ZgR (g:Option (Nat × Bool)) (fr:List (Nat × SV)) (k:Nat):Xg g fr (.mp k)=(.mp k):=rfl
theorem Zlc (t:Nat) (r:List (Nat × SV)) (k:Nat):Yu ((t,(.mp k)) :: r)=(t,(.mp k)) :: Yu r:=rfl
theorem ZlG (hp:List (Nat × HB)) (k:Nat):cvt hp (.mp k)=(.mp k):=rfl
theorem ZoO (hp:List (Nat × HB)) (g:SV->SV) (k:Nat):vwS hp g (.mp k) = .any:=rfl
theorem ZoJ (k:Nat):vw0 (.mp k) = .any:=rfl
theorem Zha (k:Nat):cellsO (.mp k)=some [(.mp k)]:=rfl
theorem ZjM (k:Nat):ZaA (.mp k)=true:=rfl
theorem ZgX (g:Option (Nat × Bool)) (fr:List (Nat × SV)) (k:Nat):Xg g fr (.yl k)=(.yl k):=rfl
theorem Zji (t:Nat) (r:List (Nat × SV)) (k:Nat):Yu ((t,(.yl k)) :: r)=(t,(.yl k)) :: Yu r:=rfl
theorem Zg4 (k:Nat):cellsO (.yl k)=some [(.yl k)]:=rfl
theorem ZhQ (k:Nat):ZaA (.yl k)=true:=rfl
theorem ZeU (g:Option (Nat × Bool)) (fr:List (Nat × SV)) (T:TypeId) (s:SV):Xg g fr (.ifc T s)=(.ifc T s):=rfl
theorem ZgH (t:Nat) (r:List (Nat × SV)) (T:TypeId) (s:SV):Yu ((t,(.ifc T s)) :: r)=(t,(.ifc T s)) :: Yu r:=rfl
theorem ZiS (hp:List (Nat × HB)) (T:TypeId) (s:SV):cvt hp (.ifc T s) = .ifc T (cvt hp s):=rfl
theorem ZhN (hp:List (Nat × HB)) (g:SV->SV) (T:TypeId) (s:SV):vwS hp g (.ifc T s) = .ifc T (g s):=rfl
theorem ZkS (T:TypeId) (s:SV):vw0 (.ifc T s) = .any:=rfl
theorem ZeV (T:TypeId) (s:SV):cellsO (.ifc T s)=some [(.ifc T s)]:=rfl
theorem Zg8 (T:TypeId) (s:SV):ZaA (.ifc T s)=true:=rfl
theorem ZeS (P:Program) (Y:Hd) (d:Option Nat) (σ : St) (r:KT) (K:RK) (f:FuncId) (as:List X):stp P Y d (.callm f as) σ r K=CALLM P f (mapX (rdG none σ.fr) as) d σ r K:=rfl
theorem Zey (P:Program) (Y:Hd) (d:Option Nat) (σ : St) (r:KT) (K:RK) (x:X) (as:List X):stp P Y d (.calvm x as) σ r K=calvM P Y (rdG none σ.fr x) (mapX (rdG none σ.fr) as) d σ r K:=rfl
theorem e_yld (asg body:Nat->CT) (ps:List Nat) (kl:Nat) (rec:Loop) (fr:List (Nat × SV)) (N k:Nat) (args:List SV) (d:Option Nat) (σ : St) (r:KT) (K:RK):YLD (hdR asg body ps kl rec fr N) k args d σ r K =
 rfB (Nat.beq k kl) (isLp rec (lkh kl σ.hp)/\rfB (lenQ args ps) (asg σ.n ⟨pmS ps args ++ fr,σ.hp,σ.n,N,[]⟩ (asE kl rec (body σ.n) (bdE kl rec fun o=>cmK o.pn o.res o.hp o.n d σ r K)))):=rfl
theorem e_exR (ρ : Nat->Nat) (n0 n k:Nat):exR ρ n0 n k=exB (Nat.blt k n0) (ρ k) (n+(k - n0)):=rfl
theorem e_hpM (ρ : Nat->Nat) (n0 n:Nat) (o:Ot) (hp:List (Nat × HB)):hpM ρ n0 n o hp=rnP (exR ρ n0 n) o.hp ++ (goneP ρ n0 ++ hp):=rfl
theorem ZkD (P:Program) (Y:Hd) (m:Nat) (g:X) (ps:List Nat) (asg body:SC) (σ : St) (K:Ex->St->Prop):sx P Y m (.rfun g ps asg body) σ K=rfK P (fun n=>sx P Y0 n asg) (fun n=>sx P Y0 n body) (rdG none σ.fr g) ps σ K:=rfl
theorem ZeA (g:Option (Nat × Bool)) (fr:List (Nat × SV))  : Xg g fr (.any)=(.any):=rfl
theorem Zgj (t:Nat) (r:List (Nat × SV))  : Yu ((t,(.any)) :: r)=(t,(.any)) :: Yu r:=rfl
theorem Ziz (hp:List (Nat × HB))  : cvt hp (.any)=(.any):=rfl
theorem ZhZ (hp:List (Nat × HB)) (g:SV->SV)  : vwS hp g (.any)=(.any):=rfl
theorem Zic  : vw0 (.any) = .any:=rfl
theorem Zf0  : ZaA (.any)=false:=rfl
theorem Zie (t j:Nat) (w:Bool) (s:SV) (r:List (Nat × SV)):Yu ((t,.gd j w s) :: r)=(t,.any) :: Yu r:=rfl
theorem Ztq  : Yu []=[]:=rfl
theorem ZeN (fr:List (Nat × SV)) (j:Nat) (w:Bool) (s:SV):Xg none fr (.gd j w s) = .any:=rfl
theorem ZgT (fr:List (Nat × SV)) (j j0:Nat) (w w0:Bool) (s:SV):Xg (some (j0,w0)) fr (.gd j w s)=orAny (alw 8 fr j0 w0 j w) s:=rfl
theorem ZeB (b:Bool):Zku (.bool b)=true:=rfl
theorem Zf5 (k:IntKind) (n:Int):Zku (.int k n)=true:=rfl
theorem ZcR (s:ByteArray):Zku (.string s)=true:=rfl
theorem Zb3 (p:Option Addr):Zku (.pointer p)=true:=rfl
theorem Zd2 (a:Option Addr) (l c:Nat):Zku (.slice a l c)=true:=rfl
theorem ZbZ  : Zku .nilFunc=true:=rfl
theorem Za7  : Zku .nilIface=true:=rfl
theorem e_rdG (g:Option (Nat × Bool)) (fr:List (Nat × SV)) (x:X):rdG g fr x=Xg g fr (rd fr x):=rfl
theorem Zxi (fr:List (Nat × SV)) (n:Nat):rd fr (.t n)=lk n fr:=rfl
theorem Zwc (fr:List (Nat × SV)) (x:Value):rd fr (.c x) = .v x:=rfl
theorem ZxA (fr:List (Nat × SV)) (i:Nat):rd fr (.f i) = .cl i []:=rfl
theorem e_alw (f:Nat) (fr:List (Nat × SV)) (j0:Nat) (w0:Bool) (j:Nat) (w:Bool):alw (f+1) fr j0 w0 j w=alwS (sameG (Nat.beq j0 j) w0 w) (lk j0 fr) (alw f fr) j w:=rfl
theorem Zxu (fr:List (Nat × SV)) (j0:Nat) (w0:Bool) (j:Nat) (w:Bool):alw 0 fr j0 w0 j w=false:=rfl
theorem e_vw1 (hp:List (Nat × HB)) (s:SV):vw1 hp s=vwS hp vw0 s:=rfl
theorem e_vw2 (hp:List (Nat × HB)) (s:SV):vw2 hp s=vwS hp (vw1 hp) s:=rfl
theorem e_vw3 (hp:List (Nat × HB)) (s:SV):vw3 hp s=vwS hp (vw2 hp) s:=rfl
theorem e_vw4 (hp:List (Nat × HB)) (s:SV):vw4 hp s=vwS hp (vw3 hp) s:=rfl
theorem Znb (fr:List (Nat × SV)) (hp:List (Nat × HB)) (n N:Nat):VF ⟨fr,hp,n,N,[]⟩=⟨fr,hp,n,N,[]⟩:=rfl
theorem Zl2 (fr:List (Nat × SV)) (hp:List (Nat × HB)) (n N j:Nat) (l:List Nat):VF ⟨fr,hp,n,N,j :: l⟩=⟨Yu fr,hp,n,N,[]⟩:=rfl
theorem ZwZ (b:BinOp) (k j:IntKind) (x y:Int):bini b (.v (.int k x)) (.v (.int j y))=ZwE (kbeq k j) b k x y:=rfl
theorem ZkH (b:Bool):uni .not (.v (.bool b))=some (.v (.bool (!b))):=rfl
theorem ZkP (k:IntKind) (n:Int):uni .neg (.v (.int k n))=some (.v (.int k (k.wrap (0 - n)))):=rfl
theorem Zf3 (k:IntKind) (x y:Int):Zga .add k x y=some (.v (.int k (k.wrap (x+y)))):=rfl
theorem ZgY (k:IntKind) (x y:Int):Zga .sub k x y=some (.v (.int k (k.wrap (x - y)))):=rfl
theorem Zhe (k:IntKind) (x y:Int):Zga .mul k x y=some (.v (.int k (k.wrap (x * y)))):=rfl
theorem Zge (k:IntKind) (x y:Int):Zga .eql k x y=some (.v (.bool (x == y))):=rfl
theorem ZgL (k:IntKind) (x y:Int):Zga .neq k x y=some (.v (.bool (x != y))):=rfl
theorem ZgJ (k:IntKind) (x y:Int):Zga .lss k x y=some (.v (.bool (decide (x < y)))):=rfl
theorem Zgz (k:IntKind) (x y:Int):Zga .leq k x y=some (.v (.bool (decide (x<=y)))):=rfl
theorem ZfR (k:IntKind) (x y:Int):Zga .gtr k x y=some (.v (.bool (decide (x > y)))):=rfl
theorem ZgC (k:IntKind) (x y:Int):Zga .geq k x y=some (.v (.bool (decide (x ≥ y)))):=rfl
theorem Zi6  : kbeq .i8 .i8=true:=rfl
theorem Zgf  : kbeq .i16 .i16=true:=rfl
theorem Zf4  : kbeq .i32 .i32=true:=rfl
theorem Zgg  : kbeq .i64 .i64=true:=rfl
theorem Zhx  : kbeq .u8 .u8=true:=rfl
theorem ZgB  : kbeq .u16 .u16=true:=rfl
theorem Zgb  : kbeq .u32 .u32=true:=rfl
theorem ZgW  : kbeq .u64 .u64=true:=rfl
theorem Zn5 (o:Nat) (k q:Nat):addoS o (.p k q)=some (.p k (q+o)):=rfl
theorem Zm4 (k q:Nat):nilcS (.p k q)=some (.p k q):=rfl
theorem Zjv (o:Nat) (k v m i q:Nat):addoS o (.pr k v m i q)=some (.pr k v m i (q+o)):=rfl
theorem Zjp (k v m i q:Nat):nilcS (.pr k v m i q)=some (.pr k v m i q):=rfl
theorem Zj1 (o:Nat) (row:List SV) (q:Nat):addoS o (.ps row q)=some (.ps row (q+o)):=rfl
theorem ZkN (row:List SV) (q:Nat):nilcS (.ps row q)=some (.ps row q):=rfl
theorem ZlN (l:List SV) (o m:Nat):partS l o m true=ZwF (Nat.ble (o+m) l.length) l o m:=rfl
theorem Zl6 (l:List SV) (o m:Nat):partS l o m false=nth l o:=rfl
theorem Zwh (mx:Bool) (x:Int):mmf mx x []=some x:=rfl
theorem Zvx (k:IntKind) (x y:Int) (r:List SV):mmf true x (.v (.int k y) :: r)=mmf true (max x y) r:=rfl
theorem Zsr (k:IntKind) (x y:Int) (r:List SV):mmf false x (.v (.int k y) :: r)=mmf false (min x y) r:=rfl
theorem e_mm (mx:Bool) (k:IntKind) (x:Int) (r:List SV):mmS mx (.v (.int k x) :: r)=mmE k (mmf mx x r):=rfl
theorem e_bld (ρ : X->SV) (z:List SV) (ps:List (Nat × Nat × X)):bld ρ z ps=bldF z (bldX ρ ps):=rfl
theorem Zgo (ρ : X->SV) (z:List Value) (ps:List (Nat × Nat × X)):pv ρ (.build z ps)=bldE (bld ρ (lit z) ps):=rfl
theorem Zx2 (l:List SV) (m:Nat) (ls:List (List SV)):bslC (some l) m (some ls)=chkB (chk l m) l ls:=rfl
theorem ZpH (s:SV) (l:List SV):allOne (s :: l)=andB (ZaA s) (allOne l):=rfl
theorem ZhM  : allOne []=true:=rfl
theorem ZpI (fr:List (Nat × SV)) (g:Option (Nat × Bool)) (t:Nat) (b:X):pickS fr g (.t t) (.c (.bool true)) b=pickO (rdG g fr (.t t)) (rdG (some (t,false)) fr b):=rfl
theorem Zmg (fr:List (Nat × SV)) (g:Option (Nat × Bool)) (t n:Nat):pickS fr g (.t t) (.t n) (.c (.bool false))=pickA (rdG g fr (.t t)) (rdG (some (t,true)) fr (.t n)):=rfl
theorem ZpK (fr:List (Nat × SV)) (g:Option (Nat × Bool)) (t:Nat):pickS fr g (.t t) (.c (.bool false)) (.c (.bool false))=pickA (rdG g fr (.t t)) (rdG (some (t,true)) fr (.c (.bool false))):=rfl
theorem ZhO:pickA (.v (.bool false)) (.v undef)=some (.v (.bool false)):=rfl
theorem Zi9:pickO (.v (.bool true)) (.v undef)=some (.v (.bool true)):=rfl
theorem e_rvR (rs:List RV) (σ : St):rvR rs σ = rvE (rvs σ rs):=rfl
theorem Zwf (σ : St):rvs σ []=some []:=rfl
theorem ZtG (σ : St) (t:Nat):rv1 σ (.tmp t)=some (rdG none σ.fr (.t t)):=rfl
theorem Zsf (σ : St) (t m:Nat) (ag:Bool):rv1 σ (.cell t m ag)=rvX σ.hp m ag (rdG none σ.fr (.t t)):=rfl
theorem ZlL (P:Program) (Y:Hd) (d:Option Nat) (σ : St) (r:KT) (K:RK) (x:X):stp P Y d (.mv x) σ r K=stpV P none d (.mv x) σ r K:=rfl
theorem Zg7 (P:Program) (Y:Hd) (d:Option Nat) (σ : St) (r:KT) (K:RK) (c a b:X):stp P Y d (.pick c a b) σ r K=stpV P none d (.pick c a b) σ r K:=rfl
theorem ZeW (P:Program) (Y:Hd) (d:Option Nat) (σ : St) (r:KT) (K:RK) (z:List Value) (ps:List (Nat × Nat × X)):stp P Y d (.build z ps) σ r K=stpV P none d (.build z ps) σ r K:=rfl
theorem Zhy (P:Program) (Y:Hd) (d:Option Nat) (σ : St) (r:KT) (K:RK) (m:Nat) (T:TypeId) (ps:List X):stp P Y d (.bsl m T ps) σ r K=stpV P none d (.bsl m T ps) σ r K:=rfl
theorem ZlC (P:Program) (Y:Hd) (d:Option Nat) (σ : St) (r:KT) (K:RK) (x:X) (m:Nat) (ag:Bool):stp P Y d (.ld x m ag) σ r K=stpV P none d (.ld x m ag) σ r K:=rfl
theorem ZgF (P:Program) (Y:Hd) (d:Option Nat) (σ : St) (r:KT) (K:RK) (x:X):stp P Y d (.nilc x) σ r K=stpV P none d (.nilc x) σ r K:=rfl
theorem Zkn (P:Program) (Y:Hd) (d:Option Nat) (σ : St) (r:KT) (K:RK) (b:BinOp) (x y:X):stp P Y d (.bin b x y) σ r K=stpV P none d (.bin b x y) σ r K:=rfl
theorem Zli (P:Program) (Y:Hd) (d:Option Nat) (σ : St) (r:KT) (K:RK) (b:BinOp) (x y:X):stp P Y d (.div b x y) σ r K=stpV P none d (.div b x y) σ r K:=rfl
theorem ZqH (P:Program) (Y:Hd) (d:Option Nat) (σ : St) (r:KT) (K:RK) (u:UnOp) (x:X):stp P Y d (.un u x) σ r K=stpV P none d (.un u x) σ r K:=rfl
theorem Zg6 (P:Program) (Y:Hd) (d:Option Nat) (σ : St) (r:KT) (K:RK) (x:X) (o:Nat):stp P Y d (.addo x o) σ r K=stpV P none d (.addo x o) σ r K:=rfl
theorem ZjJ (P:Program) (Y:Hd) (d:Option Nat) (σ : St) (r:KT) (K:RK) (x:X) (o m:Nat) (ag:Bool):stp P Y d (.fld x o m ag) σ r K=stpV P none d (.fld x o m ag) σ r K:=rfl
theorem Zjg (P:Program) (Y:Hd) (d:Option Nat) (σ : St) (r:KT) (K:RK) (x i:X) (len m:Nat) (ag:Bool):stp P Y d (.idx x i len m ag) σ r K=stpV P none d (.idx x i len m ag) σ r K:=rfl
theorem ZhX (P:Program) (Y:Hd) (d:Option Nat) (σ : St) (r:KT) (K:RK) (x i:X) (len m:Nat):stp P Y d (.ixa x i len m) σ r K=stpV P none d (.ixa x i len m) σ r K:=rfl
theorem ZiY (P:Program) (Y:Hd) (d:Option Nat) (σ : St) (r:KT) (K:RK) (x i:X) (m:Nat):stp P Y d (.ixs x i m) σ r K=stpV P none d (.ixs x i m) σ r K:=rfl
theorem ZkF (P:Program) (Y:Hd) (d:Option Nat) (σ : St) (r:KT) (K:RK) (x:X):stp P Y d (.len x) σ r K=stpV P none d (.len x) σ r K:=rfl
theorem Zqo (P:Program) (Y:Hd) (d:Option Nat) (σ : St) (r:KT) (K:RK) (mx:Bool) (xs:List X):stp P Y d (.mm mx xs) σ r K=stpV P none d (.mm mx xs) σ r K:=rfl
theorem Zhh (P:Program) (Y:Hd) (d:Option Nat) (σ : St) (r:KT) (K:RK) (f:FuncId) (as:List X):stp P Y d (.call f as) σ r K=stpV P none d (.call f as) σ r K:=rfl
theorem Zg1 (P:Program) (Y:Hd) (d:Option Nat) (σ : St) (r:KT) (K:RK) (x:X) (as:List X):stp P Y d (.calv x as) σ r K=stpV P none d (.calv x as) σ r K:=rfl
theorem Zk9 (P:Program) (Y:Hd) (d:Option Nat) (σ : St) (r:KT) (K:RK) (f:FuncId) (cs:List X):stp P Y d (.mkf f cs) σ r K=stpV P none d (.mkf f cs) σ r K:=rfl
theorem ZgK (P:Program) (Y:Hd) (d:Option Nat) (σ : St) (r:KT) (K:RK) (k:IntKind) (x:X):stp P Y d (.conv k x) σ r K=stpV P none d (.conv k x) σ r K:=rfl
theorem Zkm (P:Program) (Y:Hd) (d:Option Nat) (σ : St) (r:KT) (K:RK) (x:X) (i:Nat):stp P Y d (.ext x i) σ r K=stpV P none d (.ext x i) σ r K:=rfl
theorem e_rvs (σ : St) (r:RV) (rs:List RV):rvs σ (r :: rs)=rvC σ.hp (rv1 σ r) (rvs σ rs):=rfl
theorem Zqs (ρ : X->SV) (x:X) (o m:Nat) (ag:Bool):pv ρ (.fld x o m ag)=pvF o m ag (ρ x):=rfl
theorem Ziu (ρ : X->SV) (k:IntKind) (x:X):pv ρ (.conv k x)=pvC k (ρ x):=rfl
theorem ZmQ (ρ : X->SV) (x:X) (i:Nat):pv ρ (.ext x i)=pvE i (ρ x):=rfl
theorem ZsS (fr:List (Nat × SV)):Zv1 [] fr=True:=rfl
theorem Zxs (t:Nat) (s:SV) (r fr:List (Nat × SV)):Zv1 ((t,s) :: r) fr=(lk t fr=s/\Zv1 r fr):=rfl
theorem Zi8 (P:Program) (Y:Hd) (d:Option Nat) (σ : St) (r:KT) (K:RK) (ng ag:Bool) (cls:List Nat) (x y:X):stp P Y d (.eqs ng ag cls x y) σ r K=stpV P none d (.eqs ng ag cls x y) σ r K:=rfl
theorem ZjK (P:Program) (Y:Hd) (d:Option Nat) (σ : St) (r:KT) (K:RK) (x h k:X):stp P Y d (.slc x h k) σ r K=stpV P none d (.slc x h k) σ r K:=rfl
theorem Ziq (P:Program) (Y:Hd) (d:Option Nat) (σ : St) (r:KT) (K:RK) (m:Nat) (x:X) (lo hi:Option X):stp P Y d (.sub m x lo hi) σ r K=stpV P none d (.sub m x lo hi) σ r K:=rfl
theorem ZjP (P:Program) (Y:Hd) (d:Option Nat) (σ : St) (r:KT) (K:RK) (m b:Nat) (T:TypeId) (x y:X):stp P Y d (.app m b T x y) σ r K=stpV P none d (.app m b T x y) σ r K:=rfl
theorem Zo9 (l:List Go.Sx.SV):Go.Sx.bldE (Option.some l)=Option.some (Go.Sx.SV.agg l):=rfl
theorem Zl1  : Go.Sx.bldE Option.none=Option.none:=rfl
theorem Zt4 (k:Go.IntKind) (z:Int):Go.Sx.mmE k (Option.some z)=Option.some (Go.Sx.SV.v (Go.Value.int k z)):=rfl
theorem Zr6 (k:Go.IntKind):Go.Sx.mmE k Option.none=Option.none:=rfl
theorem Zub (g:Go.Sx.SV->Go.Sx.SV) (o:Nat) (l:List Go.Sx.SV) (T:Go.TypeId):Go.Sx.vwP g o (Go.Sx.HB.cells l T)=Go.Sx.SV.ps (Go.Sx.mapS g l) o:=rfl
theorem ZuO (m:Nat) (xs:List (List Go.Sx.SV)):Go.Sx.vwN Bool.true m xs=Go.Sx.SV.sl Bool.false m xs:=rfl
theorem Zsg (m:Nat) (xs:List (List Go.Sx.SV)):Go.Sx.vwN Bool.false m xs=Go.Sx.SV.any:=rfl
theorem ZtB (v v' m:Nat) (xs:List (List Go.Sx.SV)) (T:Go.TypeId):Go.Sx.vwM v (Go.Sx.HB.row v' m xs T)=Go.Sx.vwN (Nat.beq v v') m xs:=rfl
theorem Zvm (v v' m:Nat) (xs:List (List Go.Sx.SV)) (T:Go.TypeId) (o m':Nat) (inn:List (List (List Go.Sx.SV))) (T':Go.TypeId):Go.Sx.vwM v (Go.Sx.HB.rws v' m xs T o m' inn T')=Go.Sx.vwN (Nat.beq v v') m (Go.Sx.frzX o m' inn xs):=rfl
theorem Zm9 (v v' m:Nat) (xs:List (List Go.Sx.SV)) (T:Go.TypeId):Go.Sx.cvtM v (Go.Sx.HB.row v' m xs T)=Go.Sx.vwN (Nat.beq v v') m xs:=rfl
theorem ZnC (m v v' m':Nat) (xs:List (List Go.Sx.SV)) (T:Go.TypeId):Go.Sx.sprH m v (Go.Sx.HB.row v' m' xs T)=Go.Sx.rowB xs (Go.Sx.andB (Nat.beq m m') (Nat.beq v v')):=rfl
theorem Zpd (m v:Nat) (l:List Go.Sx.SV) (T:Go.TypeId):Go.Sx.sprH m v (Go.Sx.HB.cells l T)=Option.none:=rfl
theorem ZoH (m v:Nat) (φ : Go.Sx.OP):Go.Sx.sprH m v (Go.Sx.HB.ob φ)=Option.none:=rfl
theorem Zl4 (m v:Nat) (es:List (Nat × Go.Value × Go.Sx.SV)) (clk:Nat):Go.Sx.sprH m v (Go.Sx.HB.map es clk)=Option.none:=rfl
theorem ZmW (m v km since:Nat) (seen:List Nat) (last:Nat):Go.Sx.sprH m v (Go.Sx.HB.it km since seen last)=Option.none:=rfl
theorem ZmH (m v:Nat) (rec:Go.Loop) (pd:Option Go.Sx.Ex):Go.Sx.sprH m v (Go.Sx.HB.lp rec pd)=Option.none:=rfl
theorem Zl8 (m v:Nat) (rec:Go.Loop):Go.Sx.sprH m v (Go.Sx.HB.lb rec)=Option.none:=rfl
theorem ZlK (m v v_1 m_1:Nat) (xs:List (List Go.Sx.SV)) (T:Go.TypeId) (o m':Nat) (inn:List (List (List Go.Sx.SV))) (T':Go.TypeId):Go.Sx.sprH m v (Go.Sx.HB.rws v_1 m_1 xs T o m' inn T')=Option.none:=rfl
theorem ZnY (m v:Nat):Go.Sx.sprH m v Go.Sx.HB.gone=Option.none:=rfl
theorem ZoA (xs:List (List Go.Sx.SV)):Go.Sx.rowB xs Bool.true=Option.some xs:=rfl
theorem Zqn (xs:List (List Go.Sx.SV)):Go.Sx.rowB xs Bool.false=Option.none:=rfl
theorem ZrE  : Go.Sx.rvE (Option.some [])=Option.some (Go.Sx.SV.tup []):=rfl
theorem ZvA (s:Go.Sx.SV):Go.Sx.rvE (Option.some [s])=Option.some s:=rfl
theorem Zs6 (a b:Go.Sx.SV) (l:List Go.Sx.SV):Go.Sx.rvE (Option.some (a :: b :: l))=Option.some (Go.Sx.SV.tup (a :: b :: l)):=rfl
theorem ZvX  : Go.Sx.rvE Option.none=Option.none:=rfl
theorem ZtR (s:Go.Sx.SV) (l:List Go.Sx.SV):Go.Sx.rvD s (Option.some l)=Option.some (s :: l):=rfl
theorem ZsP (s:Go.Sx.SV):Go.Sx.rvD s Option.none=Option.none:=rfl
theorem ZrK (hp:List (Nat × Go.Sx.HB)) (x:Option (List Go.Sx.SV)) (s:Go.Sx.SV):Go.Sx.rvC hp (Option.some s) x=Go.Sx.rvD (Go.Sx.cvt hp s) x:=rfl
theorem Zth (hp:List (Nat × Go.Sx.HB)) (x:Option (List Go.Sx.SV)):Go.Sx.rvC hp Option.none x=Option.none:=rfl
theorem ZrB (o m:Nat) (ag:Bool) (l:List Go.Sx.SV) (T:Go.TypeId):Go.Sx.rvH o m ag (Go.Sx.HB.cells l T)=Go.Sx.partS l o m ag:=rfl
theorem ZvE (hp:List (Nat × Go.Sx.HB)) (m:Nat) (ag:Bool) (k o:Nat):Go.Sx.rvX hp m ag (Go.Sx.SV.p k o)=Go.Sx.rvH o m ag (Go.Sx.lkh k hp):=rfl
theorem Ztv (o m:Nat) (ag:Bool) (l:List Go.Sx.SV):Go.Sx.pvF o m ag (Go.Sx.SV.agg l)=Go.Sx.partS l o m ag:=rfl
theorem ZsJ (k k_1:Go.IntKind) (n:Int):Go.Sx.pvC k (Go.Sx.SV.v (Go.Value.int k_1 n))=Option.some (Go.Sx.SV.v (Go.Value.int k (Go.IntKind.wrap k n))):=rfl
theorem ZtX (i:Nat) (l:List Go.Sx.SV):Go.Sx.pvE i (Go.Sx.SV.tup l)=Go.Sx.nth l i:=rfl
theorem ZnP (x:Nat) (x_1:Go.Sx.SV) (x_2:Go.Sx.St) (x_3:Go.Sx.KT) (x_4:Go.Sx.RK):Go.Sx.putB Bool.false Bool.true Bool.false x x_1 x_2 x_3 x_4=x_3 { fr:=(x,x_1) :: Go.Sx.St.fr x_2,hp:=Go.Sx.St.hp x_2,n:=Go.Sx.St.n x_2,N:=Go.Sx.St.N x_2,gs:=Go.Sx.St.gs x_2 } x_4:=rfl
theorem Zpk (x x_1:Nat) (x_2:Bool) (x_3:Go.Sx.SV) (x_4:Go.Sx.St) (x_5:Go.Sx.KT) (x_6:Go.Sx.RK):Go.Sx.putG Bool.false Bool.true Bool.false x x_1 x_2 x_3 x_4 x_5 x_6=x_5 { fr:=(x,Go.Sx.SV.gd x_1 x_2 x_3) :: Go.Sx.St.fr x_4,hp:=Go.Sx.St.hp x_4,n:=Go.Sx.St.n x_4,N:=Go.Sx.St.N x_4,gs:=x_1 :: Go.Sx.St.gs x_4 } x_6:=rfl
theorem Zoj (s:Go.Sx.SV) (σ : Go.Sx.St) (r:Go.Sx.KT) (K:Go.Sx.RK):Go.Sx.putK Option.none s Option.none σ r K=r σ K:=rfl
theorem Zoz (s:Go.Sx.SV) (σ : Go.Sx.St) (r:Go.Sx.KT) (K:Go.Sx.RK) (val:Nat × Bool):Go.Sx.putK Option.none s (Option.some val) σ r K=False:=rfl
theorem Zma (s:Go.Sx.SV) (σ : Go.Sx.St) (r:Go.Sx.KT) (K:Go.Sx.RK) (t:Nat):Go.Sx.putK (Option.some t) s Option.none σ r K=Go.Sx.putB (Go.Sx.memb t (Go.Sx.St.gs σ)) (Nat.blt t (Go.Sx.St.N σ)) (Go.Sx.gdS s) t s σ r K:=rfl
theorem Zof (s:Go.Sx.SV) (σ : Go.Sx.St) (r:Go.Sx.KT) (K:Go.Sx.RK) (t j:Nat) (w:Bool):Go.Sx.putK (Option.some t) s (Option.some (j,w)) σ r K=Go.Sx.putG (Go.Sx.memb t (Go.Sx.St.gs σ)) (Nat.blt t (Go.Sx.St.N σ)) (Nat.beq t j) t j w s σ r K:=rfl
theorem Zl3 (d:Option Nat) (g:Option (Nat × Bool)) (σ : Go.Sx.St) (r:Go.Sx.KT) (K:Go.Sx.RK) (s:Go.Sx.SV):Go.Sx.putO (Option.some s) d g σ r K=Go.Sx.putK d s g σ r K:=rfl
theorem ZlD (d:Option Nat) (g:Option (Nat × Bool)) (σ : Go.Sx.St) (r:Go.Sx.KT) (K:Go.Sx.RK):Go.Sx.putO Option.none d g σ r K=False:=rfl
theorem Zi3 (x:Go.Sx.SV):Go.Sx.orAny Bool.true x=x:=rfl
theorem ZhV (x:Go.Sx.SV):Go.Sx.orAny Bool.false x=Go.Sx.SV.any:=rfl
theorem ZoD (x:Go.Sx.SV) (x_1:Nat->Bool->Nat->Bool->Bool) (x_2:Nat) (x_3:Bool):Go.Sx.alwS Bool.true x x_1 x_2 x_3=Bool.true:=rfl
theorem ZlH (x:Nat->Bool->Nat->Bool->Bool) (x_1:Nat) (x_2:Bool) (j':Nat) (w':Bool) (s:Go.Sx.SV):Go.Sx.alwS Bool.false (Go.Sx.SV.gd j' w' s) x x_1 x_2=x j' w' x_1 x_2:=rfl
theorem ZkL (x x_1:Bool):Go.Sx.sameG Bool.true x x_1=Go.Sx.bbq x x_1:=rfl
theorem Zkp (x x_1:Bool):Go.Sx.sameG Bool.false x x_1=Bool.false:=rfl
theorem ZvN  : Go.Sx.bbq Bool.true Bool.true=Bool.true:=rfl
theorem Zsw  : Go.Sx.bbq Bool.false Bool.false=Bool.true:=rfl
theorem Zlh (x y:Bool):Go.Sx.pickO (Go.Sx.SV.v (Go.Value.bool x)) (Go.Sx.SV.v (Go.Value.bool y))=Option.some (Go.Sx.SV.v (Go.Value.bool (x || y))):=rfl
theorem ZhD (x:Bool) (vs:Array Go.Value):Go.Sx.pickO (Go.Sx.SV.v (Go.Value.bool x)) (Go.Sx.SV.v (Go.Value.tuple vs))=bif x then Option.some (Go.Sx.SV.v (Go.Value.bool Bool.true)) else Option.none:=rfl
theorem ZiV (x y:Bool):Go.Sx.pickA (Go.Sx.SV.v (Go.Value.bool x)) (Go.Sx.SV.v (Go.Value.bool y))=Option.some (Go.Sx.SV.v (Go.Value.bool (x && y))):=rfl
theorem ZhE (x:Bool) (vs:Array Go.Value):Go.Sx.pickA (Go.Sx.SV.v (Go.Value.bool x)) (Go.Sx.SV.v (Go.Value.tuple vs))=bif x then Option.none else Option.some (Go.Sx.SV.v (Go.Value.bool Bool.false)):=rfl
theorem ZlX (m:Nat) (r:List (List Go.Sx.SV)):Go.Sx.bslS m (Option.some r)=Option.some (Go.Sx.SV.sl Bool.true m r):=rfl
theorem Zp5 (m:Nat):Go.Sx.bslS m Option.none=Option.none:=rfl
theorem ZhY (P:Go.Program) (g:Option (Nat × Bool)) (d:Option Nat) (σ : Go.Sx.St) (r:Go.Sx.KT) (K:Go.Sx.RK) (args:List Go.Sx.SV) (f:Go.FuncId) (caps:List Go.Sx.SV):Go.Sx.calvK P g d σ r K (Go.Sx.SV.cl f caps) args=Go.Sx.CALL P g f (args ++ caps) d σ r K:=rfl
theorem Zol (g:Option (Nat × Bool)) (d:Option Nat) (σ : Go.Sx.St) (r:Go.Sx.KT) (K:Go.Sx.RK) (k v m len:Nat) (j:Int):Go.Sx.ixrB g d σ r K Bool.true k v m len j=Go.Sx.IXR g k v m len j d σ r K:=rfl
theorem ZmA (g:Option (Nat × Bool)) (d:Option Nat) (σ : Go.Sx.St) (r:Go.Sx.KT) (K:Go.Sx.RK) (k v m len:Nat) (j:Int):Go.Sx.ixrB g d σ r K Bool.false k v m len j=False:=rfl
theorem ZpV (g:Option (Nat × Bool)) (d:Option Nat) (σ : Go.Sx.St) (r:Go.Sx.KT) (K:Go.Sx.RK) (k v m:Nat) (j:Int) (v' m_1:Nat) (xs:List (List Go.Sx.SV)) (T:Go.TypeId):Go.Sx.ixrK g d σ r K (Go.Sx.HB.row v' m_1 xs T) k v m j=Go.Sx.ixrB g d σ r K (Go.Sx.andB (Nat.beq m m_1) (Nat.beq v v')) k v m (List.length xs) j:=rfl
theorem Zm7 (g:Option (Nat × Bool)) (d:Option Nat) (σ : Go.Sx.St) (r:Go.Sx.KT) (K:Go.Sx.RK) (k v m:Nat) (j:Int) (v' m_1:Nat) (xs:List (List Go.Sx.SV)) (T:Go.TypeId) (o m':Nat) (inn:List (List (List Go.Sx.SV))) (T':Go.TypeId):Go.Sx.ixrK g d σ r K (Go.Sx.HB.rws v' m_1 xs T o m' inn T') k v m j = ∃ i rows TT,v=v'+i/\Go.Sx.rwsAt k v' m_1 xs T o m' inn T' i=Option.some (m,rows,TT)/\Go.Sx.IXR g k v m (List.length rows) j d σ r K:=rfl
theorem Zpg (g:Option (Nat × Bool)) (d:Option Nat) (σ : Go.Sx.St) (r:Go.Sx.KT) (K:Go.Sx.RK) (xs:List (List Go.Sx.SV)) (j:Int):Go.Sx.ixsB g d σ r K Bool.true xs j=Go.Sx.IXS g xs j d σ r K:=rfl
theorem Zm5 (g:Option (Nat × Bool)) (d:Option Nat) (σ : Go.Sx.St) (r:Go.Sx.KT) (K:Go.Sx.RK) (xs:List (List Go.Sx.SV)) (j:Int):Go.Sx.ixsB g d σ r K Bool.false xs j=False:=rfl
theorem ZnD (g:Option (Nat × Bool)) (d:Option Nat) (σ : Go.Sx.St) (r:Go.Sx.KT) (K:Go.Sx.RK) (m:Nat) (k:Go.IntKind) (j:Int) (c:Bool) (m':Nat) (xs:List (List Go.Sx.SV)):Go.Sx.ixsK g d σ r K (Go.Sx.SV.v (Go.Value.int k j)) (Go.Sx.SV.sl c m' xs) m=Go.Sx.ixsB g d σ r K (Nat.beq m m') xs j:=rfl
theorem Zn9 (g:Option (Nat × Bool)) (d:Option Nat) (σ : Go.Sx.St) (r:Go.Sx.KT) (K:Go.Sx.RK) (m:Nat) (k:Go.IntKind) (j:Int) (k_1 v:Nat):Go.Sx.ixsK g d σ r K (Go.Sx.SV.v (Go.Value.int k j)) (Go.Sx.SV.mr k_1 v) m=Go.Sx.ixrK g d σ r K (Go.Sx.lkh k_1 (Go.Sx.St.hp σ)) k_1 v m j:=rfl
theorem Zqm (g:Option (Nat × Bool)) (d:Option Nat) (σ : Go.Sx.St) (r:Go.Sx.KT) (K:Go.Sx.RK) (x:Go.Sx.SV) (len m:Nat) (k:Go.IntKind) (n:Int):Go.Sx.ixaK g d σ r K (Go.Sx.SV.v (Go.Value.int k n)) x len m=Go.Sx.IXA g len n (fun n=>Go.Sx.addoS (n * m) x) d σ r K:=rfl
theorem Zpq (g:Option (Nat × Bool)) (d:Option Nat) (σ : Go.Sx.St) (r:Go.Sx.KT) (K:Go.Sx.RK) (len m:Nat) (ag:Bool) (k:Go.IntKind) (j:Int) (l:List Go.Sx.SV):Go.Sx.idxK g d σ r K (Go.Sx.SV.v (Go.Value.int k j)) (Go.Sx.SV.agg l) len m ag=Go.Sx.IXA g len j (fun n=>Go.Sx.partS l (n * m) m ag) d σ r K:=rfl
theorem ZsK (g:Option (Nat × Bool)) (d:Option Nat) (σ : Go.Sx.St) (r:Go.Sx.KT) (K:Go.Sx.RK) (o m:Nat) (ag:Bool) (l:List Go.Sx.SV) (T:Go.TypeId):Go.Sx.ldC g d σ r K (Go.Sx.HB.cells l T) o m ag=Go.Sx.putO (Go.Sx.partS l o m ag) d g σ r K:=rfl
theorem ZvH (g:Option (Nat × Bool)) (d:Option Nat) (σ : Go.Sx.St) (r:Go.Sx.KT) (K:Go.Sx.RK) (xs:List (List Go.Sx.SV)) (i o m:Nat) (ag:Bool):Go.Sx.ldB g d σ r K Bool.true xs i o m ag=Go.Sx.LDR g xs i o m ag d σ r K:=rfl
theorem Zvs (g:Option (Nat × Bool)) (d:Option Nat) (σ : Go.Sx.St) (r:Go.Sx.KT) (K:Go.Sx.RK) (xs:List (List Go.Sx.SV)) (i o m:Nat) (ag:Bool):Go.Sx.ldB g d σ r K Bool.false xs i o m ag=False:=rfl
theorem ZvO (g:Option (Nat × Bool)) (d:Option Nat) (σ : Go.Sx.St) (r:Go.Sx.KT) (K:Go.Sx.RK) (k v m' i o m:Nat) (ag:Bool) (v' m_1:Nat) (xs:List (List Go.Sx.SV)) (T:Go.TypeId):Go.Sx.ldR g d σ r K k (Go.Sx.HB.row v' m_1 xs T) v m' i o m ag=Go.Sx.ldB g d σ r K (Go.Sx.andB (Nat.beq m' m_1) (Nat.beq v v')) xs i o m ag:=rfl
theorem Zvd (g:Option (Nat × Bool)) (d:Option Nat) (σ : Go.Sx.St) (r:Go.Sx.KT) (K:Go.Sx.RK) (k v m' i o m:Nat) (ag:Bool) (v' m_1:Nat) (xs:List (List Go.Sx.SV)) (T:Go.TypeId) (o_1 m'_1:Nat) (inn:List (List (List Go.Sx.SV))) (T':Go.TypeId):Go.Sx.ldR g d σ r K k (Go.Sx.HB.rws v' m_1 xs T o_1 m'_1 inn T') v m' i o m ag = ∃ a rows TT,v=v'+a/\Go.Sx.rwsAt k v' m_1 xs T o_1 m'_1 inn T' a=Option.some (m',rows,TT)/\Go.Sx.LDR g rows i o m ag d σ r K:=rfl
theorem Zru (g:Option (Nat × Bool)) (d:Option Nat) (σ : Go.Sx.St) (r:Go.Sx.KT) (K:Go.Sx.RK) (m:Nat) (ag:Bool) (k o:Nat):Go.Sx.ldK g d σ r K (Go.Sx.SV.p k o) m ag=Go.Sx.ldC g d σ r K (Go.Sx.lkh k (Go.Sx.St.hp σ)) o m ag:=rfl
theorem ZuP (g:Option (Nat × Bool)) (d:Option Nat) (σ : Go.Sx.St) (r:Go.Sx.KT) (K:Go.Sx.RK) (m:Nat) (ag:Bool) (row:List Go.Sx.SV) (o:Nat):Go.Sx.ldK g d σ r K (Go.Sx.SV.ps row o) m ag=Go.Sx.putO (Go.Sx.partS row o m ag) d g σ r K:=rfl
theorem Zr5 (g:Option (Nat × Bool)) (d:Option Nat) (σ : Go.Sx.St) (r:Go.Sx.KT) (K:Go.Sx.RK) (m:Nat) (ag:Bool) (k v m' i o:Nat):Go.Sx.ldK g d σ r K (Go.Sx.SV.pr k v m' i o) m ag=Go.Sx.ldR g d σ r K k (Go.Sx.lkh k (Go.Sx.St.hp σ)) v m' i o m ag:=rfl
theorem Zoe (g:Option (Nat × Bool)) (d:Option Nat) (σ : Go.Sx.St) (r:Go.Sx.KT) (K:Go.Sx.RK) (b:Go.BinOp) (k:Go.IntKind) (u v:Int):Go.Sx.divB g d σ r K Bool.true b k u v=Go.Sx.DIV g b k u v d σ r K:=rfl
theorem ZpW (g:Option (Nat × Bool)) (d:Option Nat) (σ : Go.Sx.St) (r:Go.Sx.KT) (K:Go.Sx.RK) (b:Go.BinOp) (k:Go.IntKind) (u v:Int):Go.Sx.divB g d σ r K Bool.false b k u v=False:=rfl
theorem Zpn (g:Option (Nat × Bool)) (d:Option Nat) (σ : Go.Sx.St) (r:Go.Sx.KT) (K:Go.Sx.RK) (b:Go.BinOp) (k:Go.IntKind) (x_3:Int) (j:Go.IntKind) (y_1:Int):Go.Sx.divK g d σ r K b (Go.Sx.SV.v (Go.Value.int k x_3)) (Go.Sx.SV.v (Go.Value.int j y_1))=Go.Sx.divB g d σ r K (Go.Sx.kbeq k j) b k x_3 y_1:=rfl
theorem Znv (g:Option (Nat × Bool)) (d:Option Nat) (σ : Go.Sx.St) (r:Go.Sx.KT) (K:Go.Sx.RK) (xs:List (List Go.Sx.SV)):Go.Sx.lenB g d σ r K Bool.true xs=Go.Sx.putK d (Go.Sx.SV.v (Go.Value.int Go.IntKind.i64 ↑(List.length xs))) g σ r K:=rfl
theorem ZmE (g:Option (Nat × Bool)) (d:Option Nat) (σ : Go.Sx.St) (r:Go.Sx.KT) (K:Go.Sx.RK) (xs:List (List Go.Sx.SV)):Go.Sx.lenB g d σ r K Bool.false xs=False:=rfl
theorem ZmZ (g:Option (Nat × Bool)) (d:Option Nat) (σ : Go.Sx.St) (r:Go.Sx.KT) (K:Go.Sx.RK) (k v v' m:Nat) (xs:List (List Go.Sx.SV)) (T:Go.TypeId):Go.Sx.lenR g d σ r K k (Go.Sx.HB.row v' m xs T) v=Go.Sx.lenB g d σ r K (Nat.beq v v') xs:=rfl
theorem Znc (g:Option (Nat × Bool)) (d:Option Nat) (σ : Go.Sx.St) (r:Go.Sx.KT) (K:Go.Sx.RK) (k v v' m:Nat) (xs:List (List Go.Sx.SV)) (T:Go.TypeId) (o m':Nat) (inn:List (List (List Go.Sx.SV))) (T':Go.TypeId):Go.Sx.lenR g d σ r K k (Go.Sx.HB.rws v' m xs T o m' inn T') v = ∃ a mm rows TT,v=v'+a/\Go.Sx.rwsAt k v' m xs T o m' inn T' a=Option.some (mm,rows,TT)/\Go.Sx.putK d (Go.Sx.SV.v (Go.Value.int Go.IntKind.i64 ↑(List.length rows))) g σ r K:=rfl
theorem Zm1 (g:Option (Nat × Bool)) (d:Option Nat) (σ : Go.Sx.St) (r:Go.Sx.KT) (K:Go.Sx.RK) (k v:Nat):Go.Sx.lenK g d σ r K (Go.Sx.SV.mr k v)=Go.Sx.lenR g d σ r K k (Go.Sx.lkh k (Go.Sx.St.hp σ)) v:=rfl
theorem Zou (g:Option (Nat × Bool)) (d:Option Nat) (σ : Go.Sx.St) (r:Go.Sx.KT) (K:Go.Sx.RK) (k v m i l:Nat):Go.Sx.lenK g d σ r K (Go.Sx.SV.ms k v m i l)=Go.Sx.putK d (Go.Sx.SV.v (Go.Value.int Go.IntKind.i64 ↑l)) g σ r K:=rfl
theorem Zo6 (g:Option (Nat × Bool)) (d:Option Nat) (σ : Go.Sx.St) (r:Go.Sx.KT) (K:Go.Sx.RK) (c:Bool) (m:Nat) (xs:List (List Go.Sx.SV)):Go.Sx.lenK g d σ r K (Go.Sx.SV.sl c m xs)=Go.Sx.putK d (Go.Sx.SV.v (Go.Value.int Go.IntKind.i64 ↑(List.length xs))) g σ r K:=rfl
theorem Zno (P:Go.Program) (g:Option (Nat × Bool)) (d:Option Nat) (σ : Go.Sx.St) (r:Go.Sx.KT) (K:Go.Sx.RK) (f:Go.FuncId) (as:List Go.Sx.X):Go.Sx.stpV P g d (Go.Sx.SI.call f as) σ r K=Go.Sx.CALL P g f (Go.Sx.mapX (Go.Sx.rdG g (Go.Sx.St.fr σ)) as) d σ r K:=rfl
theorem Zmp (P:Go.Program) (g:Option (Nat × Bool)) (d:Option Nat) (σ : Go.Sx.St) (r:Go.Sx.KT) (K:Go.Sx.RK) (x:Go.Sx.X) (as:List Go.Sx.X):Go.Sx.stpV P g d (Go.Sx.SI.calv x as) σ r K=Go.Sx.calvK P g d σ r K (Go.Sx.rdG g (Go.Sx.St.fr σ) x) (Go.Sx.mapX (Go.Sx.rdG g (Go.Sx.St.fr σ)) as):=rfl
theorem ZpT (P:Go.Program) (g:Option (Nat × Bool)) (d:Option Nat) (σ : Go.Sx.St) (r:Go.Sx.KT) (K:Go.Sx.RK) (f:Go.FuncId) (as:List Go.Sx.X):Go.Sx.stpV P g d (Go.Sx.SI.callm f as) σ r K=False:=rfl
theorem Znn (P:Go.Program) (g:Option (Nat × Bool)) (d:Option Nat) (σ : Go.Sx.St) (r:Go.Sx.KT) (K:Go.Sx.RK) (x:Go.Sx.X) (as:List Go.Sx.X):Go.Sx.stpV P g d (Go.Sx.SI.calvm x as) σ r K=False:=rfl
theorem Zpj (P:Go.Program) (g:Option (Nat × Bool)) (d:Option Nat) (σ : Go.Sx.St) (r:Go.Sx.KT) (K:Go.Sx.RK) (c a b:Go.Sx.X):Go.Sx.stpV P g d (Go.Sx.SI.pick c a b) σ r K=Go.Sx.putO (Go.Sx.pickS (Go.Sx.St.fr σ) g c a b) d g σ r K:=rfl
theorem ZqD (P:Go.Program) (g:Option (Nat × Bool)) (d:Option Nat) (σ : Go.Sx.St) (r:Go.Sx.KT) (K:Go.Sx.RK) (m:Nat) (T:Go.TypeId) (ps:List Go.Sx.X):Go.Sx.stpV P g d (Go.Sx.SI.bsl m T ps) σ r K=Go.Sx.putO (Go.Sx.bslS m (Go.Sx.bslR (Go.Sx.rdG g (Go.Sx.St.fr σ)) m ps)) d g σ r K:=rfl
theorem Zpc (P:Go.Program) (g:Option (Nat × Bool)) (d:Option Nat) (σ : Go.Sx.St) (r:Go.Sx.KT) (K:Go.Sx.RK) (x i_2:Go.Sx.X) (m:Nat):Go.Sx.stpV P g d (Go.Sx.SI.ixs x i_2 m) σ r K=Go.Sx.ixsK g d σ r K (Go.Sx.rdG g (Go.Sx.St.fr σ) i_2) (Go.Sx.rdG g (Go.Sx.St.fr σ) x) m:=rfl
theorem Zmx (P:Go.Program) (g:Option (Nat × Bool)) (d:Option Nat) (σ : Go.Sx.St) (r:Go.Sx.KT) (K:Go.Sx.RK) (x i_2:Go.Sx.X) (len m:Nat):Go.Sx.stpV P g d (Go.Sx.SI.ixa x i_2 len m) σ r K=Go.Sx.ixaK g d σ r K (Go.Sx.rdG g (Go.Sx.St.fr σ) i_2) (Go.Sx.rdG g (Go.Sx.St.fr σ) x) len m:=rfl
theorem Zqy (P:Go.Program) (g:Option (Nat × Bool)) (d:Option Nat) (σ : Go.Sx.St) (r:Go.Sx.KT) (K:Go.Sx.RK) (x i_2:Go.Sx.X) (len m:Nat) (ag:Bool):Go.Sx.stpV P g d (Go.Sx.SI.idx x i_2 len m ag) σ r K=Go.Sx.idxK g d σ r K (Go.Sx.rdG g (Go.Sx.St.fr σ) i_2) (Go.Sx.rdG g (Go.Sx.St.fr σ) x) len m ag:=rfl
theorem Ziv (P:Go.Program) (g:Option (Nat × Bool)) (d:Option Nat) (σ : Go.Sx.St) (r:Go.Sx.KT) (K:Go.Sx.RK) (x:Go.Sx.X) (m:Nat) (ag:Bool):Go.Sx.stpV P g d (Go.Sx.SI.ld x m ag) σ r K=Go.Sx.ldK g d σ r K (Go.Sx.rdG g (Go.Sx.St.fr σ) x) m ag:=rfl
theorem Zhr (P:Go.Program) (g:Option (Nat × Bool)) (d:Option Nat) (σ : Go.Sx.St) (r:Go.Sx.KT) (K:Go.Sx.RK) (b:Go.BinOp) (x y:Go.Sx.X):Go.Sx.stpV P g d (Go.Sx.SI.div b x y) σ r K=Go.Sx.divK g d σ r K b (Go.Sx.rdG g (Go.Sx.St.fr σ) x) (Go.Sx.rdG g (Go.Sx.St.fr σ) y):=rfl
theorem Zh1 (P:Go.Program) (g:Option (Nat × Bool)) (d:Option Nat) (σ : Go.Sx.St) (r:Go.Sx.KT) (K:Go.Sx.RK) (x:Go.Sx.X):Go.Sx.stpV P g d (Go.Sx.SI.len x) σ r K=Go.Sx.lenK g d σ r K (Go.Sx.rdG g (Go.Sx.St.fr σ) x):=rfl
theorem ZiR (P:Go.Program) (g:Option (Nat × Bool)) (d:Option Nat) (σ : Go.Sx.St) (r:Go.Sx.KT) (K:Go.Sx.RK) (x:Go.Sx.X):Go.Sx.stpV P g d (Go.Sx.SI.mv x) σ r K=Go.Sx.putK d (Go.Sx.rdG g (Go.Sx.St.fr σ) x) g σ r K:=rfl
theorem Zjo (P:Go.Program) (g:Option (Nat × Bool)) (d:Option Nat) (σ : Go.Sx.St) (r:Go.Sx.KT) (K:Go.Sx.RK) (z:List Go.Value) (ps:List (Nat × Nat × Go.Sx.X)):Go.Sx.stpV P g d (Go.Sx.SI.build z ps) σ r K=Go.Sx.putO (Go.Sx.pv (Go.Sx.rdG g (Go.Sx.St.fr σ)) (Go.Sx.SI.build z ps)) d g σ r K:=rfl
theorem Zix (P:Go.Program) (g:Option (Nat × Bool)) (d:Option Nat) (σ : Go.Sx.St) (r:Go.Sx.KT) (K:Go.Sx.RK) (x:Go.Sx.X):Go.Sx.stpV P g d (Go.Sx.SI.nilc x) σ r K=Go.Sx.putO (Go.Sx.nilcS (Go.Sx.rdG g (Go.Sx.St.fr σ) x)) d g σ r K:=rfl
theorem Zh2 (P:Go.Program) (g:Option (Nat × Bool)) (d:Option Nat) (σ : Go.Sx.St) (r:Go.Sx.KT) (K:Go.Sx.RK) (b:Go.BinOp) (x y:Go.Sx.X):Go.Sx.stpV P g d (Go.Sx.SI.bin b x y) σ r K=Go.Sx.putO (Go.Sx.bini b (Go.Sx.rdG g (Go.Sx.St.fr σ) x) (Go.Sx.rdG g (Go.Sx.St.fr σ) y)) d g σ r K:=rfl
theorem ZkW (P:Go.Program) (g:Option (Nat × Bool)) (d:Option Nat) (σ : Go.Sx.St) (r:Go.Sx.KT) (K:Go.Sx.RK) (u:Go.UnOp) (x:Go.Sx.X):Go.Sx.stpV P g d (Go.Sx.SI.un u x) σ r K=Go.Sx.putO (Go.Sx.uni u (Go.Sx.rdG g (Go.Sx.St.fr σ) x)) d g σ r K:=rfl
theorem Zke (P:Go.Program) (g:Option (Nat × Bool)) (d:Option Nat) (σ : Go.Sx.St) (r:Go.Sx.KT) (K:Go.Sx.RK) (x:Go.Sx.X) (o:Nat):Go.Sx.stpV P g d (Go.Sx.SI.addo x o) σ r K=Go.Sx.putO (Go.Sx.addoS o (Go.Sx.rdG g (Go.Sx.St.fr σ) x)) d g σ r K:=rfl
theorem Zjh (P:Go.Program) (g:Option (Nat × Bool)) (d:Option Nat) (σ : Go.Sx.St) (r:Go.Sx.KT) (K:Go.Sx.RK) (x:Go.Sx.X) (o m:Nat) (ag:Bool):Go.Sx.stpV P g d (Go.Sx.SI.fld x o m ag) σ r K=Go.Sx.putO (Go.Sx.pv (Go.Sx.rdG g (Go.Sx.St.fr σ)) (Go.Sx.SI.fld x o m ag)) d g σ r K:=rfl
theorem Zii (P:Go.Program) (g:Option (Nat × Bool)) (d:Option Nat) (σ : Go.Sx.St) (r:Go.Sx.KT) (K:Go.Sx.RK) (mx:Bool) (xs:List Go.Sx.X):Go.Sx.stpV P g d (Go.Sx.SI.mm mx xs) σ r K=Go.Sx.putO (Go.Sx.mmS mx (Go.Sx.mapX (Go.Sx.rdG g (Go.Sx.St.fr σ)) xs)) d g σ r K:=rfl
theorem Zkx (P:Go.Program) (g:Option (Nat × Bool)) (d:Option Nat) (σ : Go.Sx.St) (r:Go.Sx.KT) (K:Go.Sx.RK) (f:Go.FuncId) (cs:List Go.Sx.X):Go.Sx.stpV P g d (Go.Sx.SI.mkf f cs) σ r K=Go.Sx.putK d (Go.Sx.SV.cl f (Go.Sx.mapX (Go.Sx.rdG g (Go.Sx.St.fr σ)) cs)) g σ r K:=rfl
theorem Zlp (P:Go.Program) (g:Option (Nat × Bool)) (d:Option Nat) (σ : Go.Sx.St) (r:Go.Sx.KT) (K:Go.Sx.RK) (k:Go.IntKind) (x:Go.Sx.X):Go.Sx.stpV P g d (Go.Sx.SI.conv k x) σ r K=Go.Sx.putO (Go.Sx.pv (Go.Sx.rdG g (Go.Sx.St.fr σ)) (Go.Sx.SI.conv k x)) d g σ r K:=rfl
theorem ZjG (P:Go.Program) (g:Option (Nat × Bool)) (d:Option Nat) (σ : Go.Sx.St) (r:Go.Sx.KT) (K:Go.Sx.RK) (x:Go.Sx.X) (i_2:Nat):Go.Sx.stpV P g d (Go.Sx.SI.ext x i_2) σ r K=Go.Sx.putO (Go.Sx.pv (Go.Sx.rdG g (Go.Sx.St.fr σ)) (Go.Sx.SI.ext x i_2)) d g σ r K:=rfl
theorem Zid (P:Go.Program) (g:Option (Nat × Bool)) (d:Option Nat) (σ : Go.Sx.St) (r:Go.Sx.KT) (K:Go.Sx.RK) (x h k:Go.Sx.X):Go.Sx.stpV P g d (Go.Sx.SI.slc x h k) σ r K=Go.Sx.slcK g (Go.Sx.rdG g (Go.Sx.St.fr σ) x) (Go.Sx.rdG g (Go.Sx.St.fr σ) h) (Go.Sx.rdG g (Go.Sx.St.fr σ) k) d σ r K:=rfl
theorem Zjb (P:Go.Program) (g:Option (Nat × Bool)) (d:Option Nat) (σ : Go.Sx.St) (r:Go.Sx.KT) (K:Go.Sx.RK) (m:Nat) (x:Go.Sx.X) (lo hi:Option Go.Sx.X):Go.Sx.stpV P g d (Go.Sx.SI.sub m x lo hi) σ r K=Go.Sx.subK g m (Go.Sx.rdG g (Go.Sx.St.fr σ)) lo hi (Go.Sx.rdG g (Go.Sx.St.fr σ) x) d σ r K:=rfl
theorem Zlk (P:Go.Program) (g:Option (Nat × Bool)) (d:Option Nat) (σ : Go.Sx.St) (r:Go.Sx.KT) (K:Go.Sx.RK) (m b:Nat) (T:Go.TypeId) (x y:Go.Sx.X):Go.Sx.stpV P g d (Go.Sx.SI.cln m b T x y) σ r K=False:=rfl
theorem ZjF (P:Go.Program) (g:Option (Nat × Bool)) (d:Option Nat) (σ : Go.Sx.St) (r:Go.Sx.KT) (K:Go.Sx.RK) (m b:Nat) (T:Go.TypeId) (x y:Go.Sx.X):Go.Sx.stpV P g d (Go.Sx.SI.appm m b T x y) σ r K=False:=rfl
theorem Zhn (P:Go.Program) (g:Option (Nat × Bool)) (d:Option Nat) (σ : Go.Sx.St) (r:Go.Sx.KT) (K:Go.Sx.RK) (m:Nat) (x y:Go.Sx.X):Go.Sx.stpV P g d (Go.Sx.SI.cpy m x y) σ r K=False:=rfl
theorem ZiC (P:Go.Program) (g:Option (Nat × Bool)) (d:Option Nat) (σ : Go.Sx.St) (r:Go.Sx.KT) (K:Go.Sx.RK) (m b:Nat) (z:List Go.Value) (T:Go.TypeId) (x:Go.Sx.X):Go.Sx.stpV P g d (Go.Sx.SI.mks m b z T x) σ r K=False:=rfl
theorem Zi2 (P:Go.Program) (g:Option (Nat × Bool)) (d:Option Nat) (σ : Go.Sx.St) (r:Go.Sx.KT) (K:Go.Sx.RK) (x:Go.Sx.X):Go.Sx.stpV P g d (Go.Sx.SI.isn x) σ r K=False:=rfl
theorem Zlq (P:Go.Program) (g:Option (Nat × Bool)) (d:Option Nat) (σ : Go.Sx.St) (r:Go.Sx.KT) (K:Go.Sx.RK) (m b:Nat) (T:Go.TypeId) (x y:Go.Sx.X):Go.Sx.stpV P g d (Go.Sx.SI.app m b T x y) σ r K=Go.Sx.appK g m b (Go.Sx.basS m (Go.Sx.rdG g (Go.Sx.St.fr σ) x)) (Go.Sx.sprS m (Go.Sx.St.hp σ) (Go.Sx.rdG g (Go.Sx.St.fr σ) y)) d σ r K:=rfl
theorem Zlj (P:Go.Program) (g:Option (Nat × Bool)) (d:Option Nat) (σ : Go.Sx.St) (r:Go.Sx.KT) (K:Go.Sx.RK) (x:Go.Sx.X) (m:Nat) (T:Go.TypeId):Go.Sx.stpV P g d (Go.Sx.SI.box x m T) σ r K=False:=rfl
theorem Zla (P:Go.Program) (g:Option (Nat × Bool)) (d:Option Nat) (σ : Go.Sx.St) (r:Go.Sx.KT) (K:Go.Sx.RK) (z:List Go.Value) (T:Go.TypeId):Go.Sx.stpV P g d (Go.Sx.SI.alloc z T) σ r K=False:=rfl
theorem Zhz (P:Go.Program) (g:Option (Nat × Bool)) (d:Option Nat) (σ : Go.Sx.St) (r:Go.Sx.KT) (K:Go.Sx.RK) (x y:Go.Sx.X) (m:Nat):Go.Sx.stpV P g d (Go.Sx.SI.st x y m) σ r K=False:=rfl
theorem ZiH (P:Go.Program) (g:Option (Nat × Bool)) (d:Option Nat) (σ : Go.Sx.St) (r:Go.Sx.KT) (K:Go.Sx.RK) (ng ag:Bool) (cls:List Nat) (x y:Go.Sx.X):Go.Sx.stpV P g d (Go.Sx.SI.eqs ng ag cls x y) σ r K=Go.Sx.putO (Go.Sx.eqR ng (Go.Sx.eqLO cls ag (Go.Sx.rdG g (Go.Sx.St.fr σ) x) (Go.Sx.rdG g (Go.Sx.St.fr σ) y))) d g σ r K:=rfl
theorem Zlb (P:Go.Program) (g:Option (Nat × Bool)) (d:Option Nat) (σ : Go.Sx.St) (r:Go.Sx.KT) (K:Go.Sx.RK) (op:Go.Op) (ty:Go.TypeId):Go.Sx.stpV P g d (Go.Sx.SI.raw op ty) σ r K=False:=rfl
theorem Zk7 (P:Go.Program) (g:Option (Nat × Bool)) (d:Option Nat) (σ : Go.Sx.St) (r:Go.Sx.KT) (K:Go.Sx.RK) (op:Go.Op) (xs:List Go.Sx.X):Go.Sx.stpV P g d (Go.Sx.SI.rv op xs) σ r K=False:=rfl
theorem Zkd (P:Go.Program) (g:Option (Nat × Bool)) (d:Option Nat) (σ : Go.Sx.St) (r:Go.Sx.KT) (K:Go.Sx.RK) (op:Go.Op) (x:Go.Sx.X) (xs:List Go.Sx.X):Go.Sx.stpV P g d (Go.Sx.SI.rb op x xs) σ r K=False:=rfl
theorem Zo5 (x:Nat) (x_1:List Go.Sx.SV) (x_2:Go.TypeId) (x_3:Go.Sx.St) (x_4:Go.Sx.KT) (x_5:Go.Sx.RK):Go.Sx.newB Bool.false Bool.true x x_1 x_2 x_3 x_4 x_5=x_4 { fr:=(x,Go.Sx.SV.p (Go.Sx.St.n x_3) 0) :: Go.Sx.St.fr x_3,hp:=(Go.Sx.St.n x_3,Go.Sx.HB.cells x_1 x_2) :: Go.Sx.St.hp x_3,n:=Go.Sx.St.n x_3+1,N:=Go.Sx.St.N x_3,gs:=Go.Sx.St.gs x_3 } x_5:=rfl
theorem ZlW (T:Go.TypeId) (σ : Go.Sx.St) (r:Go.Sx.KT) (K:Go.Sx.RK) (t:Nat) (c_2:List Go.Sx.SV):Go.Sx.newK (Option.some t) (Option.some c_2) T σ r K=Go.Sx.newB (Go.Sx.memb t (Go.Sx.St.gs σ)) (Nat.blt t (Go.Sx.St.N σ)) t c_2 T σ r K:=rfl
theorem Zh4 (x x_1 x_2 x_3:Nat) (x_4:List (List Go.Sx.SV)) (x_5:Nat) (x_6:Go.TypeId) (x_7:Go.Sx.St) (x_8:Go.Sx.KT) (x_9:Go.Sx.RK):Go.Sx.cpyPB Bool.false Bool.true x x_1 x_2 x_3 x_4 x_5 x_6 x_7 x_8 x_9=x_8 { fr:=(x,Go.Sx.SV.v (Go.Value.int Go.IntKind.i64 ↑x_5)) :: Go.Sx.St.fr x_7,hp:=(x_1,Go.Sx.HB.row x_2 x_3 x_4 x_6) :: Go.Sx.St.hp x_7,n:=Go.Sx.St.n x_7,N:=Go.Sx.St.N x_7,gs:=Go.Sx.St.gs x_7 } x_9:=rfl
theorem Zlz (k v m:Nat) (xs:List (List Go.Sx.SV)) (N:Nat) (T:Go.TypeId) (σ : Go.Sx.St) (r:Go.Sx.KT) (K:Go.Sx.RK) (m_1:Nat):Go.Sx.cpyP (Option.some m_1) k v m xs N T σ r K=Go.Sx.cpyPB (Go.Sx.memb m_1 (Go.Sx.St.gs σ)) (Nat.blt m_1 (Go.Sx.St.N σ)) m_1 k v m xs N T σ r K:=rfl
theorem Zmf (k v m:Nat) (xs:List (List Go.Sx.SV)) (N:Nat) (T:Go.TypeId) (σ : Go.Sx.St) (r:Go.Sx.KT) (K:Go.Sx.RK):Go.Sx.cpyP Option.none k v m xs N T σ r K=r { fr:=Go.Sx.St.fr σ,hp:=(k,Go.Sx.HB.row v m xs T) :: Go.Sx.St.hp σ,n:=Go.Sx.St.n σ,N:=Go.Sx.St.N σ,gs:=Go.Sx.St.gs σ } K:=rfl
theorem Zoq (d:Option Nat) (k v m i L:Nat) (xs:List (List Go.Sx.SV)) (T:Go.TypeId) (σ : Go.Sx.St) (r:Go.Sx.KT) (K:Go.Sx.RK) (c:Bool) (m':Nat) (ys:List (List Go.Sx.SV)):Go.Sx.cpyY d k v m i L xs T (Go.Sx.SV.sl c m' ys) σ r K=Go.Sx.sbmB (Nat.beq m m') (Go.Sx.CPY d k v m i L xs ys T σ r K):=rfl
theorem ZpB (d:Option Nat) (k v m i L:Nat) (xs:List (List Go.Sx.SV)) (T:Go.TypeId) (σ : Go.Sx.St) (r:Go.Sx.KT) (K:Go.Sx.RK):Go.Sx.cpyY d k v m i L xs T (Go.Sx.SV.v (Go.Value.slice Option.none 0 0)) σ r K=Go.Sx.CPY d k v m i L xs [] T σ r K:=rfl
theorem ZnH (d:Option Nat) (k v m i L:Nat) (xs:List (List Go.Sx.SV)) (T:Go.TypeId) (σ : Go.Sx.St) (r:Go.Sx.KT) (K:Go.Sx.RK) (k' v':Nat):Go.Sx.cpyY d k v m i L xs T (Go.Sx.SV.mr k' v') σ r K=Go.Sx.sbmB (Go.Sx.andB (Nat.beq k k') (Nat.beq v v')) (Go.Sx.CPY d k v m i L xs xs T σ r K):=rfl
theorem ZnN (d:Option Nat) (k v m i L:Nat) (xs:List (List Go.Sx.SV)) (T:Go.TypeId) (σ : Go.Sx.St) (r:Go.Sx.KT) (K:Go.Sx.RK) (k' v' m' i' l':Nat):Go.Sx.cpyY d k v m i L xs T (Go.Sx.SV.ms k' v' m' i' l') σ r K=Go.Sx.sbmB (Go.Sx.andB (Go.Sx.andB (Nat.beq k k') (Nat.beq v v')) (Nat.beq m m')) (i'+l'<=List.length xs/\Go.Sx.CPY d k v m i L xs (List.take l' (List.drop i' xs)) T σ r K):=rfl
theorem ZxB (n m:Nat):Go.Sx.lO (Option.some m) n=m:=rfl
theorem Zx5 (n:Nat):Go.Sx.lO Option.none n=n:=rfl
theorem Znd (d:Option Nat) (m k v i:Nat) (lo:Option Nat) (s:Go.Sx.SV) (σ : Go.Sx.St) (r:Go.Sx.KT) (K:Go.Sx.RK) (v' m':Nat) (xs:List (List Go.Sx.SV)) (T:Go.TypeId):Go.Sx.cpyH d m k v i lo (Go.Sx.HB.row v' m' xs T) s σ r K=Go.Sx.sbmB (Go.Sx.andB (Nat.beq m m') (Nat.beq v v')) (Go.Sx.cpyY d k v m i (Go.Sx.lO lo (List.length xs)) xs T s σ r K):=rfl
theorem ZoM (d:Option Nat) (m:Nat) (sy:Go.Sx.SV) (σ : Go.Sx.St) (r:Go.Sx.KT) (K:Go.Sx.RK) (k v:Nat):Go.Sx.cpyK d m (Go.Sx.SV.mr k v) sy σ r K=Go.Sx.cpyH d m k v 0 Option.none (Go.Sx.lkh k (Go.Sx.St.hp σ)) sy σ r K:=rfl
theorem Zl7 (d:Option Nat) (m:Nat) (sy:Go.Sx.SV) (σ : Go.Sx.St) (r:Go.Sx.KT) (K:Go.Sx.RK) (k v m' i l:Nat):Go.Sx.cpyK d m (Go.Sx.SV.ms k v m' i l) sy σ r K=Go.Sx.sbmB (Nat.beq m m') (Go.Sx.cpyH d m k v i (Option.some l) (Go.Sx.lkh k (Go.Sx.St.hp σ)) sy σ r K):=rfl
theorem ZmD (g:Option (Nat × Bool)) (k v m:Nat) (xs:List (List Go.Sx.SV)) (d:Option Nat) (σ : Go.Sx.St) (r:Go.Sx.KT) (K:Go.Sx.RK) (i j:Int):Go.Sx.sbmJ g k v m xs (Option.some i) (Option.some j) d σ r K=Go.Sx.SBM g i j k v m xs d σ r K:=rfl
theorem Zqe (g:Option (Nat × Bool)) (k v m:Nat) (xs:List (List Go.Sx.SV)) (d:Option Nat) (σ : Go.Sx.St) (r:Go.Sx.KT) (K:Go.Sx.RK) (val:Int):Go.Sx.sbmJ g k v m xs (Option.some val) Option.none d σ r K=False:=rfl
theorem Zql (g:Option (Nat × Bool)) (k v m:Nat) (xs:List (List Go.Sx.SV)) (hi:Option Int) (d:Option Nat) (σ : Go.Sx.St) (r:Go.Sx.KT) (K:Go.Sx.RK):Go.Sx.sbmJ g k v m xs Option.none hi d σ r K=False:=rfl
theorem ZnO (p:Prop):Go.Sx.sbmB Bool.true p=p:=rfl
theorem Zn3 (p:Prop):Go.Sx.sbmB Bool.false p=False:=rfl
theorem ZmN (g:Option (Nat × Bool)) (m:Nat) (ρ : Go.Sx.X->Go.Sx.SV) (lo hi:Option Go.Sx.X) (k v:Nat) (d:Option Nat) (σ : Go.Sx.St) (r:Go.Sx.KT) (K:Go.Sx.RK) (v' m':Nat) (xs:List (List Go.Sx.SV)) (T:Go.TypeId):Go.Sx.sbmH g m ρ lo hi k v (Go.Sx.HB.row v' m' xs T) d σ r K=Go.Sx.sbmB (Go.Sx.andB (Nat.beq m m') (Nat.beq v v')) (Go.Sx.sbmJ g k v m xs (Go.Sx.intO 0 ρ lo) (Go.Sx.intO (↑(List.length xs)) ρ hi) d σ r K):=rfl
theorem ZoN (g:Option (Nat × Bool)) (m:Nat) (ρ : Go.Sx.X->Go.Sx.SV) (lo hi:Option Go.Sx.X) (d:Option Nat) (σ : Go.Sx.St) (r:Go.Sx.KT) (K:Go.Sx.RK) (c:Bool) (m':Nat) (xs:List (List Go.Sx.SV)):Go.Sx.subK g m ρ lo hi (Go.Sx.SV.sl c m' xs) d σ r K=bif Nat.beq m m' then Go.Sx.subJ g m xs (Go.Sx.intO 0 ρ lo) (Go.Sx.intO (↑(List.length xs)) ρ hi) d σ r K else False:=rfl
theorem ZlA (g:Option (Nat × Bool)) (m:Nat) (ρ : Go.Sx.X->Go.Sx.SV) (lo hi:Option Go.Sx.X) (d:Option Nat) (σ : Go.Sx.St) (r:Go.Sx.KT) (K:Go.Sx.RK) (k v:Nat):Go.Sx.subK g m ρ lo hi (Go.Sx.SV.mr k v) d σ r K=Go.Sx.sbmH g m ρ lo hi k v (Go.Sx.lkh k (Go.Sx.St.hp σ)) d σ r K:=rfl
theorem ZnA (x x_1 x_2 x_3:Nat) (x_4:List (List Go.Sx.SV)) (x_5:Go.TypeId) (x_6:Go.Sx.St) (x_7:Go.Sx.KT) (x_8:Go.Sx.RK):Go.Sx.verB Bool.false Bool.true x x_1 x_2 x_3 x_4 x_5 x_6 x_7 x_8=x_7 { fr:=(x,Go.Sx.SV.mr x_1 x_2) :: Go.Sx.St.fr x_6,hp:=(x_1,Go.Sx.HB.row x_2 x_3 x_4 x_5) :: Go.Sx.St.hp x_6,n:=Go.Sx.St.n x_6,N:=Go.Sx.St.N x_6,gs:=Go.Sx.St.gs x_6 } x_8:=rfl
theorem ZmB (k v m:Nat) (xs:List (List Go.Sx.SV)) (T:Go.TypeId) (σ : Go.Sx.St) (r:Go.Sx.KT) (K:Go.Sx.RK) (m_1:Nat):Go.Sx.verK (Option.some m_1) k v m xs T σ r K=Go.Sx.verB (Go.Sx.memb m_1 (Go.Sx.St.gs σ)) (Nat.blt m_1 (Go.Sx.St.N σ)) m_1 k v m xs T σ r K:=rfl
theorem ZpR (k v m:Nat) (xs:List (List Go.Sx.SV)) (T:Go.TypeId) (σ : Go.Sx.St) (r:Go.Sx.KT) (K:Go.Sx.RK):Go.Sx.verK Option.none k v m xs T σ r K=False:=rfl
theorem Zpo (b:Nat) (d:Option Nat) (k v m:Nat) (xs ys:List (List Go.Sx.SV)) (T:Go.TypeId) (σ : Go.Sx.St) (r:Go.Sx.KT) (K:Go.Sx.RK):Go.Sx.apmB Bool.true b d k v m xs ys T σ r K=Go.Sx.APM b d k v m xs ys T σ r K:=rfl
theorem ZmY (b:Nat) (d:Option Nat) (k v m:Nat) (xs ys:List (List Go.Sx.SV)) (T:Go.TypeId) (σ : Go.Sx.St) (r:Go.Sx.KT) (K:Go.Sx.RK):Go.Sx.apmB Bool.false b d k v m xs ys T σ r K=False:=rfl
theorem Zqi (b:Nat) (d:Option Nat) (k v m:Nat) (ys:List (List Go.Sx.SV)) (T:Go.TypeId) (σ : Go.Sx.St) (r:Go.Sx.KT) (K:Go.Sx.RK) (v' m':Nat) (xs:List (List Go.Sx.SV)) (T_1:Go.TypeId):Go.Sx.apmH b d k v m (Go.Sx.HB.row v' m' xs T_1) ys T σ r K=Go.Sx.apmB (Go.Sx.andB (Nat.beq m m') (Go.Sx.andB (Nat.beq v v') (Nat.beq T T_1))) b d k v m xs ys T σ r K:=rfl
theorem Zl0 (b:Nat) (d:Option Nat) (m:Nat) (ys:List (List Go.Sx.SV)) (T:Go.TypeId) (σ : Go.Sx.St) (r:Go.Sx.KT) (K:Go.Sx.RK) (k v:Nat):Go.Sx.apmS b d m (Go.Sx.SV.mr k v) ys T σ r K=Go.Sx.apmH b d k v m (Go.Sx.lkh k (Go.Sx.St.hp σ)) ys T σ r K:=rfl
theorem Zmi (b:Nat) (d:Option Nat) (m:Nat) (s:Go.Sx.SV) (T:Go.TypeId) (σ : Go.Sx.St) (r:Go.Sx.KT) (K:Go.Sx.RK) (r_1:List (List Go.Sx.SV)):Go.Sx.apmK b d m s (Option.some r_1) T σ r K=Go.Sx.apmS b d m s r_1 T σ r K:=rfl
theorem ZmI (b:Nat) (d:Option Nat) (m:Nat) (s:Go.Sx.SV) (T:Go.TypeId) (σ : Go.Sx.St) (r:Go.Sx.KT) (K:Go.Sx.RK):Go.Sx.apmK b d m s Option.none T σ r K=False:=rfl
theorem Zlx (x x_1:Nat) (x_2:List Go.Sx.SV) (x_3:Go.TypeId) (x_4:List Go.Sx.SV) (x_5:Go.Sx.St) (x_6:Go.Sx.KT) (x_7:Go.Sx.RK):Go.Sx.stCB Bool.true x x_1 x_2 x_3 x_4 x_5 x_6 x_7=x_6 { fr:=Go.Sx.St.fr x_5,hp:=(x,Go.Sx.HB.cells (Go.Sx.splice x_2 x_1 x_4) x_3) :: Go.Sx.St.hp x_5,n:=Go.Sx.St.n x_5,N:=Go.Sx.St.N x_5,gs:=Go.Sx.St.gs x_5 } x_7:=rfl
theorem ZnF (x x_1:Nat) (x_2:List Go.Sx.SV) (x_3:Go.TypeId) (x_4:List Go.Sx.SV) (x_5:Go.Sx.St) (x_6:Go.Sx.KT) (x_7:Go.Sx.RK):Go.Sx.stCB Bool.false x x_1 x_2 x_3 x_4 x_5 x_6 x_7=False:=rfl
theorem ZuK (k o m:Nat) (c:List Go.Sx.SV) (σ : Go.Sx.St) (r:Go.Sx.KT) (K:Go.Sx.RK) (l:List Go.Sx.SV) (T:Go.TypeId):Go.Sx.stC k o m (Go.Sx.HB.cells l T) c σ r K=Go.Sx.stCB (Nat.ble (o+m) (List.length l)) k o l T c σ r K:=rfl
theorem Zqf (x:Nat) (x_1:List (List Go.Sx.SV)) (x_2 x_3 x_4 x_5:Nat) (x_6:List Go.Sx.SV) (x_7:Go.TypeId) (x_8:Go.Sx.St) (x_9:Go.Sx.KT) (x_10:Go.Sx.RK):Go.Sx.stRB Bool.true x x_1 x_2 x_3 x_4 x_5 x_6 x_7 x_8 x_9 x_10=Go.Sx.STR x x_1 x_2 x_3 x_4 x_5 x_6 x_7 x_8 x_9 x_10:=rfl
theorem Zpm (x:Nat) (x_1:List (List Go.Sx.SV)) (x_2 x_3 x_4 x_5:Nat) (x_6:List Go.Sx.SV) (x_7:Go.TypeId) (x_8:Go.Sx.St) (x_9:Go.Sx.KT) (x_10:Go.Sx.RK):Go.Sx.stRB Bool.false x x_1 x_2 x_3 x_4 x_5 x_6 x_7 x_8 x_9 x_10=False:=rfl
theorem Zvg (k v m' j o:Nat) (c:List Go.Sx.SV) (σ : Go.Sx.St) (r:Go.Sx.KT) (K:Go.Sx.RK) (v' m:Nat) (xs:List (List Go.Sx.SV)) (T:Go.TypeId):Go.Sx.stR k v m' j o (Go.Sx.HB.row v' m xs T) c σ r K=Go.Sx.stRB (Go.Sx.andB (Nat.beq m' m) (Nat.beq v v')) v' xs j o k m' c T σ r K:=rfl
theorem Zvc (k v m' j o:Nat) (c:List Go.Sx.SV) (σ : Go.Sx.St) (r:Go.Sx.KT) (K:Go.Sx.RK) (v' m:Nat) (xs:List (List Go.Sx.SV)) (T:Go.TypeId) (o_1 m'_1:Nat) (inn:List (List (List Go.Sx.SV))) (T':Go.TypeId):Go.Sx.stR k v m' j o (Go.Sx.HB.rws v' m xs T o_1 m'_1 inn T') c σ r K=Go.Sx.STW v' m xs T o_1 m'_1 inn T' v m' j o k c σ r K:=rfl
theorem Zue (m:Nat) (c:List Go.Sx.SV) (σ : Go.Sx.St) (r:Go.Sx.KT) (K:Go.Sx.RK) (k o:Nat):Go.Sx.stX (Go.Sx.SV.p k o) m c σ r K=Go.Sx.stC k o m (Go.Sx.lkh k (Go.Sx.St.hp σ)) c σ r K:=rfl
theorem ZuU (m:Nat) (c:List Go.Sx.SV) (σ : Go.Sx.St) (r:Go.Sx.KT) (K:Go.Sx.RK) (k v m' j o:Nat):Go.Sx.stX (Go.Sx.SV.pr k v m' j o) m c σ r K=Go.Sx.stR k v m' j o (Go.Sx.lkh k (Go.Sx.St.hp σ)) c σ r K:=rfl
theorem Zgx (x:Go.Sx.SV) (x_1:Nat) (x_2:List Go.Sx.SV) (x_3:Go.Sx.St) (x_4:Go.Sx.KT) (x_5:Go.Sx.RK):Go.Sx.storeB Bool.true Bool.true x x_1 x_2 x_3 x_4 x_5=Go.Sx.stX x x_1 x_2 x_3 x_4 x_5:=rfl
theorem Zgc (m:Nat) (x:Go.Sx.SV) (σ : Go.Sx.St) (r:Go.Sx.KT) (K:Go.Sx.RK) (c_2:List Go.Sx.SV):Go.Sx.storeK Option.none (Option.some c_2) m x σ r K=Go.Sx.storeB (Go.Sx.chk c_2 m) (Go.Sx.allOne c_2) x m c_2 σ r K:=rfl
theorem Zuw (P:Go.Program) (Y:Go.Sx.Hd) (d:Option Nat) (σ : Go.Sx.St) (r:Go.Sx.KT) (K:Go.Sx.RK) (x y:Go.Sx.X) (m:Nat):Go.Sx.stp P Y d (Go.Sx.SI.st x y m) σ r K=Go.Sx.storeK d (Go.Sx.cellsO (Go.Sx.rdG Option.none (Go.Sx.St.fr σ) y)) m (Go.Sx.rdG Option.none (Go.Sx.St.fr σ) x) σ r K:=rfl
theorem ZuE (P:Go.Program) (Y:Go.Sx.Hd) (d:Option Nat) (σ : Go.Sx.St) (r:Go.Sx.KT) (K:Go.Sx.RK) (x:Go.Sx.X) (m:Nat) (T:Go.TypeId):Go.Sx.stp P Y d (Go.Sx.SI.box x m T) σ r K=Go.Sx.newK d (Go.Sx.cellsO (Go.Sx.rdG Option.none (Go.Sx.St.fr σ) x)) T σ r K:=rfl
theorem Zrr (P:Go.Program) (Y:Go.Sx.Hd) (d:Option Nat) (σ : Go.Sx.St) (r:Go.Sx.KT) (K:Go.Sx.RK) (z:List Go.Value) (T:Go.TypeId):Go.Sx.stp P Y d (Go.Sx.SI.alloc z T) σ r K=Go.Sx.newK d (Option.some (Go.Sx.lit z)) T σ r K:=rfl
theorem ZvP (P:Go.Program) (Y:Go.Sx.Hd) (d:Option Nat) (σ : Go.Sx.St) (r:Go.Sx.KT) (K:Go.Sx.RK) (m b:Nat) (T:Go.TypeId) (x y:Go.Sx.X):Go.Sx.stp P Y d (Go.Sx.SI.cln m b T x y) σ r K=Go.Sx.clnK b d m (Go.Sx.basS m (Go.Sx.rdG Option.none (Go.Sx.St.fr σ) x)) (Go.Sx.sprV m (Go.Sx.rdG Option.none (Go.Sx.St.fr σ) y)) T σ r K:=rfl
theorem ZvU (P:Go.Program) (Y:Go.Sx.Hd) (d:Option Nat) (σ : Go.Sx.St) (r:Go.Sx.KT) (K:Go.Sx.RK) (m b:Nat) (z:List Go.Value) (T:Go.TypeId) (x:Go.Sx.X):Go.Sx.stp P Y d (Go.Sx.SI.mks m b z T x) σ r K=Go.Sx.mksK b d m z (Go.Sx.rdG Option.none (Go.Sx.St.fr σ) x) T σ r K:=rfl
theorem ZvK (P:Go.Program) (Y:Go.Sx.Hd) (d:Option Nat) (σ : Go.Sx.St) (r:Go.Sx.KT) (K:Go.Sx.RK) (m:Nat) (x y:Go.Sx.X):Go.Sx.stp P Y d (Go.Sx.SI.cpy m x y) σ r K=Go.Sx.cpyK d m (Go.Sx.rdG Option.none (Go.Sx.St.fr σ) x) (Go.Sx.rdG Option.none (Go.Sx.St.fr σ) y) σ r K:=rfl
theorem Zrt (P:Go.Program) (Y:Go.Sx.Hd) (d:Option Nat) (σ : Go.Sx.St) (r:Go.Sx.KT) (K:Go.Sx.RK) (m b:Nat) (T:Go.TypeId) (x y:Go.Sx.X):Go.Sx.stp P Y d (Go.Sx.SI.appm m b T x y) σ r K=Go.Sx.apmK b d m (Go.Sx.rdG Option.none (Go.Sx.St.fr σ) x) (Go.Sx.sprV m (Go.Sx.rdG Option.none (Go.Sx.St.fr σ) y)) T σ r K:=rfl
theorem Zsk (P:Go.Program) (Y:Go.Sx.Hd) (d:Option Nat) (σ : Go.Sx.St) (r:Go.Sx.KT) (K:Go.Sx.RK) (f:Go.FuncId) (as:List Go.Sx.X):Go.Sx.stp P Y d (Go.Sx.SI.callm f as) σ r K=Go.Sx.CALLM P f (Go.Sx.mapX (Go.Sx.rdG Option.none (Go.Sx.St.fr σ)) as) d σ r K:=rfl
theorem Zuq (P:Go.Program) (Y:Go.Sx.Hd) (d:Option Nat) (σ : Go.Sx.St) (r:Go.Sx.KT) (K:Go.Sx.RK) (x:Go.Sx.X) (as:List Go.Sx.X):Go.Sx.stp P Y d (Go.Sx.SI.calvm x as) σ r K=Go.Sx.calvM P Y (Go.Sx.rdG Option.none (Go.Sx.St.fr σ) x) (Go.Sx.mapX (Go.Sx.rdG Option.none (Go.Sx.St.fr σ)) as) d σ r K:=rfl
theorem Zon (P:Go.Program) (Y:Go.Sx.Hd) (d:Option Nat) (σ : Go.Sx.St) (r:Go.Sx.KT) (K:Go.Sx.RK) (x:Go.Sx.X):Go.Sx.stp P Y d (Go.Sx.SI.isn x) σ r K=Go.Sx.isnK d (Go.Sx.rdG Option.none (Go.Sx.St.fr σ) x) σ r K:=rfl
theorem ZlR (P:Go.Program) (Y:Go.Sx.Hd) (d:Option Nat) (σ : Go.Sx.St) (r:Go.Sx.KT) (K:Go.Sx.RK) (op:Go.Op) (ty:Go.TypeId):Go.Sx.stp P Y d (Go.Sx.SI.raw op ty) σ r K=Go.Sx.RAW P d op ty σ r K:=rfl
theorem Zo4 (P:Go.Program) (Y:Go.Sx.Hd) (d:Option Nat) (σ : Go.Sx.St) (r:Go.Sx.KT) (K:Go.Sx.RK) (op:Go.Op) (xs:List Go.Sx.X):Go.Sx.stp P Y d (Go.Sx.SI.rv op xs) σ r K = ∃ s,Go.Sx.RBE P op xs σ s/\Go.Sx.putK d s Option.none σ r K:=rfl
theorem Zmr (P:Go.Program) (Y:Go.Sx.Hd) (d:Option Nat) (σ : Go.Sx.St) (r:Go.Sx.KT) (K:Go.Sx.RK) (op:Go.Op) (x:Go.Sx.X) (xs:List Go.Sx.X):Go.Sx.stp P Y d (Go.Sx.SI.rb op x xs) σ r K = ∃ k h1 s,Go.Sx.rdG Option.none (Go.Sx.St.fr σ) x=Go.Sx.SV.mp k/\Go.Sx.WK (Go.Sx.lkh k (Go.Sx.St.hp σ)) h1/\Go.Sx.RBB P op (x :: xs) k (Go.Sx.lkh k (Go.Sx.St.hp σ)) h1 σ s/\Go.Sx.putK d s Option.none { fr:=Go.Sx.St.fr σ,hp:=(k,h1) :: Go.Sx.St.hp σ,n:=Go.Sx.St.n σ,N:=Go.Sx.St.N σ,gs:=Go.Sx.St.gs σ } r K:=rfl
theorem Zky (d:Option Nat) (σ : Go.Sx.St) (r:Go.Sx.KT) (K:Go.Sx.RK):Go.Sx.skipK d σ r K=Go.Sx.putK d (Go.Sx.SV.v Go.undef) Option.none σ r K:=rfl
theorem Zwn (P:Go.Program) (Y:Go.Sx.Hd) (j:Nat) (w:Bool) (d:Option Nat) (i:Go.Sx.SI) (σ : Go.Sx.St) (r:Go.Sx.KT) (K:Go.Sx.RK) (b:Bool):Go.Sx.gK P Y (Go.Sx.SV.v (Go.Value.bool b)) j w d i σ r K=Go.Sx.GB P Y b j w d i σ r K:=rfl
theorem ZxH (P:Go.Program) (Y:Go.Sx.Hd) (j:Nat) (w:Bool) (d:Option Nat) (i:Go.Sx.SI) (σ : Go.Sx.St) (r:Go.Sx.KT) (K:Go.Sx.RK) (j_1:Nat) (w_1 b:Bool):Go.Sx.gK P Y (Go.Sx.SV.gd j_1 w_1 (Go.Sx.SV.v (Go.Value.bool b))) j w d i σ r K=Go.Sx.stpV P (Option.some (j,w)) d i σ r K:=rfl
theorem ZtL (P:Go.Program) (Y:Go.Sx.Hd) (σ : Go.Sx.St) (r:Go.Sx.KT) (K:Go.Sx.RK) (d:Option Nat) (i:Go.Sx.SI) (af:List Nat):Go.Sx.st1 P Y { d:=d,i:=i,g:=Option.none,af:=af } σ r K=Go.Sx.stp P Y d i σ r K:=rfl
theorem Zsh (P:Go.Program) (Y:Go.Sx.Hd) (σ : Go.Sx.St) (r:Go.Sx.KT) (K:Go.Sx.RK) (d:Option Nat) (i:Go.Sx.SI) (j:Nat) (w:Bool) (af:List Nat):Go.Sx.st1 P Y { d:=d,i:=i,g:=Option.some (j,w),af:=af } σ r K=Go.Sx.gK P Y (Go.Sx.lk j (Go.Sx.St.fr σ)) j w d i σ r K:=rfl
theorem ZmS (f g:Go.Sx.CT) (σ : Go.Sx.St) (K:Go.Sx.Ex->Go.Sx.St->Prop) (b:Bool):Go.Sx.cndK (Go.Sx.SV.v (Go.Value.bool b)) f g σ K=Go.Sx.BR b f g σ K:=rfl
theorem Zmk (k:Go.IntKind) (x y:Int):Go.Sx.divr Go.BinOp.quo k x y=Go.IntKind.wrap k (Int.tdiv x y):=rfl
theorem Zsl (args:List Go.Sx.SV) (N:Nat):Go.Sx.st0 args N={ fr:=Go.Sx.enum 0 args,hp:=[],n:=0,N:=N,gs:=[] }:=rfl
theorem Zqt (ρ : Go.Sx.X->Go.Sx.SV):Go.Sx.mapX ρ []=[]:=rfl
theorem ZlV (ρ : Go.Sx.X->Go.Sx.SV) (x_1:Go.Sx.X) (r:List Go.Sx.X):Go.Sx.mapX ρ (x_1 :: r) = ρ x_1 :: Go.Sx.mapX ρ r:=rfl
theorem ZnZ (g:Go.Sx.SV->Go.Sx.SV):Go.Sx.mapS g []=[]:=rfl
theorem Zpa (g:Go.Sx.SV->Go.Sx.SV) (s:Go.Sx.SV) (l:List Go.Sx.SV):Go.Sx.mapS g (s :: l)=g s :: Go.Sx.mapS g l:=rfl
theorem ZnB (ρ : Go.Sx.X->Go.Sx.SV) (m:Nat):Go.Sx.bslR ρ m []=Option.some []:=rfl
theorem Zpp (ρ : Go.Sx.X->Go.Sx.SV) (m:Nat) (x_1:Go.Sx.X) (r:List Go.Sx.X):Go.Sx.bslR ρ m (x_1 :: r)=Go.Sx.bslC (Go.Sx.cellsO (ρ x_1)) m (Go.Sx.bslR ρ m r):=rfl
theorem Zoo (hp:List (Nat × Go.Sx.HB)):Go.Sx.cvtL hp []=[]:=rfl
theorem ZpJ (hp:List (Nat × Go.Sx.HB)) (s:Go.Sx.SV) (l:List Go.Sx.SV):Go.Sx.cvtL hp (s :: l)=Go.Sx.cvt hp s :: Go.Sx.cvtL hp l:=rfl
theorem Zt3  : Go.Sx.lit []=[]:=rfl
theorem ZvC (x_1:Go.Value) (r:List Go.Value):Go.Sx.lit (x_1 :: r)=Go.Sx.SV.v x_1 :: Go.Sx.lit r:=rfl
theorem Zts  : Go.Sx.chk [] 0=Bool.true:=rfl
theorem ZrW (head:Go.Sx.SV) (l:List Go.Sx.SV) (n:Nat):Go.Sx.chk (head :: l) (Nat.succ n)=Go.Sx.chk l n:=rfl
theorem Zs3 (x:Nat):Go.Sx.nth [] x=Option.none:=rfl
theorem Zve (s:Go.Sx.SV) (tail:List Go.Sx.SV):Go.Sx.nth (s :: tail) 0=Option.some s:=rfl
theorem Zvn (head:Go.Sx.SV) (l:List Go.Sx.SV) (n:Nat):Go.Sx.nth (head :: l) (Nat.succ n)=Go.Sx.nth l n:=rfl
theorem Zgs (head:Go.Sx.SV) (l:List Go.Sx.SV) (c:Go.Sx.SV) (cs:List Go.Sx.SV):Go.Sx.splice (head :: l) 0 (c :: cs)=c :: Go.Sx.splice l 0 cs:=rfl
theorem ZfW (x:List Go.Sx.SV) (x_3:Go.Sx.SV) (l:List Go.Sx.SV) (o:Nat):Go.Sx.splice (x_3 :: l) (Nat.succ o) x=x_3 :: Go.Sx.splice l o x:=rfl
theorem ZnG (o:Nat) (l:List Go.Sx.SV) (t:List (Nat × List Go.Sx.SV)):Go.Sx.bldZ o l t Bool.true=Option.some ((o,l) :: t):=rfl
theorem Zpz (o:Nat) (l:List Go.Sx.SV) (t:List (Nat × List Go.Sx.SV)):Go.Sx.bldZ o l t Bool.false=Option.none:=rfl
theorem ZlS (o m:Nat) (l:List Go.Sx.SV) (t:List (Nat × List Go.Sx.SV)):Go.Sx.bldY o m (Option.some l) (Option.some t)=Go.Sx.bldZ o l t (Go.Sx.chk l m):=rfl
theorem Znk (ρ : Go.Sx.X->Go.Sx.SV):Go.Sx.bldX ρ []=Option.some []:=rfl
theorem ZqE (ρ : Go.Sx.X->Go.Sx.SV) (o m:Nat) (x_1:Go.Sx.X) (r:List (Nat × Nat × Go.Sx.X)):Go.Sx.bldX ρ ((o,m,x_1) :: r)=Go.Sx.bldY o m (Go.Sx.cellsO (ρ x_1)) (Go.Sx.bldX ρ r):=rfl
theorem Ztm (x:List Go.Sx.SV):Go.Sx.spl x []=x:=rfl
theorem ZrA (x:List Go.Sx.SV) (o:Nat) (l:List Go.Sx.SV) (r:List (Nat × List Go.Sx.SV)):Go.Sx.spl x ((o,l) :: r)=Go.Sx.spl (Go.Sx.splice x o l) r:=rfl
theorem Zms (z:List Go.Sx.SV) (t:List (Nat × List Go.Sx.SV)):Go.Sx.bldF z (Option.some t)=Option.some (Go.Sx.spl z t):=rfl
theorem Zps (z:List Go.Sx.SV):Go.Sx.bldF z Option.none=Option.none:=rfl
theorem ZpU (x:Nat):Go.Sx.enum x []=[]:=rfl
theorem Zn4 (x:Nat) (s:Go.Sx.SV) (l:List Go.Sx.SV):Go.Sx.enum x (s :: l)=(x,s) :: Go.Sx.enum (x+1) l:=rfl
theorem Zr7 (j:Nat) (w:Bool) (s:Go.Sx.SV):Go.Sx.gdS (Go.Sx.SV.gd j w s)=Bool.true:=rfl
theorem ZuS (x_1:Go.Value):Go.Sx.gdS (Go.Sx.SV.v x_1)=Bool.false:=rfl
theorem ZtQ (k o:Nat):Go.Sx.gdS (Go.Sx.SV.p k o)=Bool.false:=rfl
theorem ZvQ (l:List Go.Sx.SV):Go.Sx.gdS (Go.Sx.SV.agg l)=Bool.false:=rfl
theorem ZsY (c:Bool) (m:Nat) (xs:List (List Go.Sx.SV)):Go.Sx.gdS (Go.Sx.SV.sl c m xs)=Bool.false:=rfl
theorem Ztl (k v:Nat):Go.Sx.gdS (Go.Sx.SV.mr k v)=Bool.false:=rfl
theorem Zt7 (k v m i o:Nat):Go.Sx.gdS (Go.Sx.SV.pr k v m i o)=Bool.false:=rfl
theorem Zry (k v m i l:Nat):Go.Sx.gdS (Go.Sx.SV.ms k v m i l)=Bool.false:=rfl
theorem Zsa (row:List Go.Sx.SV) (o:Nat):Go.Sx.gdS (Go.Sx.SV.ps row o)=Bool.false:=rfl
theorem Zn8 (f:Go.FuncId) (caps:List Go.Sx.SV):Go.Sx.gdS (Go.Sx.SV.cl f caps)=Bool.false:=rfl
theorem ZnQ (l:List Go.Sx.SV):Go.Sx.gdS (Go.Sx.SV.tup l)=Bool.false:=rfl
theorem ZmU (φ : Go.Sx.VP):Go.Sx.gdS (Go.Sx.SV.q φ)=Bool.false:=rfl
theorem Zp1 (k:Nat):Go.Sx.gdS (Go.Sx.SV.mp k)=Bool.false:=rfl
theorem Zor (k:Nat):Go.Sx.gdS (Go.Sx.SV.yl k)=Bool.false:=rfl
theorem ZpL (T:Go.TypeId) (s:Go.Sx.SV):Go.Sx.gdS (Go.Sx.SV.ifc T s)=Bool.false:=rfl
theorem ZmK  : Go.Sx.gdS Go.Sx.SV.any=Bool.false:=rfl
theorem ZsT (ρ : Nat->Nat) (k o:Nat):Go.Sx.rnS ρ (Go.Sx.SV.p k o)=Go.Sx.SV.p (ρ k) o:=rfl
theorem Zse (ρ : Nat->Nat) (k v:Nat):Go.Sx.rnS ρ (Go.Sx.SV.mr k v)=Go.Sx.SV.mr (ρ k) v:=rfl
theorem ZsU (ρ : Nat->Nat) (k v m i o:Nat):Go.Sx.rnS ρ (Go.Sx.SV.pr k v m i o)=Go.Sx.SV.pr (ρ k) v m i o:=rfl
theorem ZtP (ρ : Nat->Nat) (k v m i o:Nat):Go.Sx.rnS ρ (Go.Sx.SV.ms k v m i o)=Go.Sx.SV.ms (ρ k) v m i o:=rfl
theorem ZuI (ρ : Nat->Nat) (k:Nat):Go.Sx.rnS ρ (Go.Sx.SV.mp k)=Go.Sx.SV.mp (ρ k):=rfl
theorem Zux (ρ : Nat->Nat) (k:Nat):Go.Sx.rnS ρ (Go.Sx.SV.yl k)=Go.Sx.SV.yl (ρ k):=rfl
theorem ZrG (ρ : Nat->Nat) (l:List Go.Sx.SV):Go.Sx.rnS ρ (Go.Sx.SV.agg l)=Go.Sx.SV.agg (Go.Sx.rnL ρ l):=rfl
theorem ZrQ (ρ : Nat->Nat) (l:List Go.Sx.SV):Go.Sx.rnS ρ (Go.Sx.SV.tup l)=Go.Sx.SV.tup (Go.Sx.rnL ρ l):=rfl
theorem ZuT (ρ : Nat->Nat) (f:Go.FuncId) (l:List Go.Sx.SV):Go.Sx.rnS ρ (Go.Sx.SV.cl f l)=Go.Sx.SV.cl f (Go.Sx.rnL ρ l):=rfl
theorem ZoU (ρ : Nat->Nat) (T:Go.TypeId) (s:Go.Sx.SV):Go.Sx.rnS ρ (Go.Sx.SV.ifc T s)=Go.Sx.SV.ifc T (Go.Sx.rnS ρ s):=rfl
theorem ZlO (ρ : Nat->Nat) (x_1:Go.Value):Go.Sx.rnS ρ (Go.Sx.SV.v x_1)=Go.Sx.SV.v x_1:=rfl
theorem ZpE (ρ : Nat->Nat) (c:Bool) (m:Nat) (xs:List (List Go.Sx.SV)):Go.Sx.rnS ρ (Go.Sx.SV.sl c m xs)=Go.Sx.SV.sl c m xs:=rfl
theorem ZqL (ρ : Nat->Nat) (l:List Go.Sx.SV) (o:Nat):Go.Sx.rnS ρ (Go.Sx.SV.ps l o)=Go.Sx.SV.ps l o:=rfl
theorem ZoK (ρ : Nat->Nat) (φ : Go.Sx.VP):Go.Sx.rnS ρ (Go.Sx.SV.q φ)=Go.Sx.SV.q φ:=rfl
theorem Zn6 (ρ : Nat->Nat) (j:Nat) (w:Bool) (s:Go.Sx.SV):Go.Sx.rnS ρ (Go.Sx.SV.gd j w s)=Go.Sx.SV.gd j w s:=rfl
theorem Zn2 (ρ : Nat->Nat):Go.Sx.rnS ρ Go.Sx.SV.any=Go.Sx.SV.any:=rfl
theorem Zvz (ρ : Nat->Nat):Go.Sx.rnL ρ []=[]:=rfl
theorem ZuL (ρ : Nat->Nat) (s:Go.Sx.SV) (l:List Go.Sx.SV):Go.Sx.rnL ρ (s :: l)=Go.Sx.rnS ρ s :: Go.Sx.rnL ρ l:=rfl
theorem ZtS (ρ : Nat->Nat) (l:List Go.Sx.SV) (T:Go.TypeId):Go.Sx.rnH ρ (Go.Sx.HB.cells l T)=Go.Sx.HB.cells (Go.Sx.rnL ρ l) T:=rfl
theorem Zs1 (ρ : Nat->Nat) (v m:Nat) (xs:List (List Go.Sx.SV)) (T:Go.TypeId):Go.Sx.rnH ρ (Go.Sx.HB.row v m xs T)=Go.Sx.HB.row v m xs T:=rfl
theorem ZsW (ρ : Nat->Nat) (φ : Go.Sx.OP):Go.Sx.rnH ρ (Go.Sx.HB.ob φ)=Go.Sx.HB.ob φ:=rfl
theorem Zvi (ρ : Nat->Nat) (es:List (Nat × Go.Value × Go.Sx.SV)) (c:Nat):Go.Sx.rnH ρ (Go.Sx.HB.map es c)=Go.Sx.HB.map es c:=rfl
theorem Zuh (ρ : Nat->Nat) (km since:Nat) (seen:List Nat) (last:Nat):Go.Sx.rnH ρ (Go.Sx.HB.it km since seen last)=Go.Sx.HB.it (ρ km) since seen last:=rfl
theorem ZrS (ρ : Nat->Nat) (rec:Go.Loop) (pd:Option Go.Sx.Ex):Go.Sx.rnH ρ (Go.Sx.HB.lp rec pd)=Go.Sx.HB.lp rec pd:=rfl
theorem ZrZ (ρ : Nat->Nat) (rec:Go.Loop):Go.Sx.rnH ρ (Go.Sx.HB.lb rec)=Go.Sx.HB.lb rec:=rfl
theorem Zvo (ρ : Nat->Nat) (v m:Nat) (xs:List (List Go.Sx.SV)) (T:Go.TypeId) (o m':Nat) (inn:List (List (List Go.Sx.SV))) (T':Go.TypeId):Go.Sx.rnH ρ (Go.Sx.HB.rws v m xs T o m' inn T')=Go.Sx.HB.rws v m xs T o m' inn T':=rfl
theorem ZrM (ρ : Nat->Nat):Go.Sx.rnH ρ Go.Sx.HB.gone=Go.Sx.HB.gone:=rfl
theorem ZrY (ρ : Nat->Nat):Go.Sx.rnP ρ []=[]:=rfl
theorem Zsm (ρ : Nat->Nat) (u:Nat) (s:Go.Sx.HB) (r:List (Nat × Go.Sx.HB)):Go.Sx.rnP ρ ((u,s) :: r)=(ρ u,Go.Sx.rnH ρ s) :: Go.Sx.rnP ρ r:=rfl
theorem Zje (ρ : Nat->Nat):Go.Sx.goneP ρ 0=[]:=rfl
theorem ZkO (ρ : Nat->Nat) (j:Nat):Go.Sx.goneP ρ (Nat.succ j)=(ρ j,Go.Sx.HB.gone) :: Go.Sx.goneP ρ j:=rfl
theorem Zto (b:Bool) (x y:Nat):Go.Sx.exB b x y=bif b then x else y:=rfl
theorem Zsb (res:Go.Sx.SV) (hp:List (Nat × Go.Sx.HB)) (n:Nat) (d:Option Nat) (σ : Go.Sx.St) (r:Go.Sx.KT) (K:Go.Sx.RK):Go.Sx.cmK Bool.false res hp n d σ r K=Go.Sx.putK d res Option.none { fr:=Go.Sx.St.fr σ,hp:=hp,n:=n,N:=Go.Sx.St.N σ,gs:=Go.Sx.St.gs σ } r K:=rfl
theorem ZrP (res:Go.Sx.SV) (hp:List (Nat × Go.Sx.HB)) (n:Nat) (d:Option Nat) (σ : Go.Sx.St) (r:Go.Sx.KT) (K:Go.Sx.RK):Go.Sx.cmK Bool.true res hp n d σ r K=K (Go.Sx.Ex.pan res) { fr:=Go.Sx.St.fr σ,hp:=hp,n:=n,N:=Go.Sx.St.N σ,gs:=Go.Sx.St.gs σ }:=rfl
theorem Zh7 (P:Go.Program) (Y:Go.Sx.Hd) (args:List Go.Sx.SV) (d:Option Nat) (σ : Go.Sx.St) (r:Go.Sx.KT) (K:Go.Sx.RK) (f:Go.FuncId) (caps:List Go.Sx.SV):Go.Sx.calvM P Y (Go.Sx.SV.cl f caps) args d σ r K=Go.Sx.CALLM P f (args ++ caps) d σ r K:=rfl
theorem Zho (P:Go.Program) (Y:Go.Sx.Hd) (args:List Go.Sx.SV) (d:Option Nat) (σ : Go.Sx.St) (r:Go.Sx.KT) (K:Go.Sx.RK) (k:Nat):Go.Sx.calvM P Y (Go.Sx.SV.yl k) args d σ r K=Go.Sx.YLD Y k args d σ r K:=rfl
theorem Zvl (p:Go.Sx.SV->Prop) (T T2:Go.TypeId) (s:Go.Sx.SV):Go.Sx.mtI p T (Go.Sx.SV.ifc T2 s)=(T2=T/\p s):=rfl
theorem ZuH (p:List Go.Sx.SV->Prop) (l:List Go.Sx.SV):Go.Sx.mtO p (Option.some l)=p l:=rfl
theorem ZuB (p:List Go.Sx.SV->Prop):Go.Sx.mtO p Option.none=False:=rfl
theorem Ztc (σ : Go.Sx.St) (K:Go.Sx.Ex->Go.Sx.St->Prop) (hp:List (Nat × Go.Sx.HB)) (n:Nat) (rec:Go.Loop):Go.Sx.itE σ K hp n (Go.Sx.HB.lp rec Option.none)=K Go.Sx.Ex.n { fr:=Go.Sx.St.fr σ,hp:=(Go.Sx.St.n σ,Go.Sx.HB.gone) :: hp,n:=n,N:=Go.Sx.St.N σ,gs:=[] }:=rfl
theorem ZvJ (σ : Go.Sx.St) (K:Go.Sx.Ex->Go.Sx.St->Prop) (hp:List (Nat × Go.Sx.HB)) (n:Nat) (rec:Go.Loop) (i:Nat):Go.Sx.itE σ K hp n (Go.Sx.HB.lp rec (Option.some (Go.Sx.Ex.ex i)))=K (Go.Sx.Ex.ex i) { fr:=Go.Sx.St.fr σ,hp:=(Go.Sx.St.n σ,Go.Sx.HB.gone) :: hp,n:=n,N:=Go.Sx.St.N σ,gs:=[] }:=rfl
theorem ZsI (σ : Go.Sx.St) (K:Go.Sx.Ex->Go.Sx.St->Prop) (hp:List (Nat × Go.Sx.HB)) (n:Nat) (rec:Go.Loop):Go.Sx.itE σ K hp n (Go.Sx.HB.lp rec (Option.some Go.Sx.Ex.ret))=K Go.Sx.Ex.ret { fr:=Go.Sx.St.fr σ,hp:=(Go.Sx.St.n σ,Go.Sx.HB.gone) :: hp,n:=n,N:=Go.Sx.St.N σ,gs:=[] }:=rfl
theorem Zun (σ : Go.Sx.St) (K:Go.Sx.Ex->Go.Sx.St->Prop) (o:Go.Sx.Ot):Go.Sx.itP σ K o=match Go.Sx.Ot.pn o with | Bool.false=>Go.Sx.itE σ K (Go.Sx.Ot.hp o) (Go.Sx.Ot.n o) (Go.Sx.lkh (Go.Sx.St.n σ) (Go.Sx.Ot.hp o)) | Bool.true=>K (Go.Sx.Ex.pan (Go.Sx.Ot.res o)) { fr:=Go.Sx.St.fr σ,hp:=Go.Sx.Ot.hp o,n:=Go.Sx.Ot.n o,N:=Go.Sx.St.N σ,gs:=[] }:=rfl
theorem Zp7 (rec r:Go.Loop):Go.Sx.isLp rec (Go.Sx.HB.lp r Option.none)=(r=rec):=rfl
theorem ZlI (rec r:Go.Loop):Go.Sx.isLb rec (Go.Sx.HB.lb r)=(r=rec):=rfl
theorem ZuY (p:Nat) (ps:List Nat) (s:Go.Sx.SV) (l:List Go.Sx.SV):Go.Sx.pmS (p :: ps) (s :: l)=(p,s) :: Go.Sx.pmS ps l:=rfl
theorem Zm8  : Go.Sx.lenQ [] []=Bool.true:=rfl
theorem ZoB (head:Go.Sx.SV) (l:List Go.Sx.SV) (head_1:Nat) (m:List Nat):Go.Sx.lenQ (head :: l) (head_1 :: m)=Go.Sx.lenQ l m:=rfl
theorem Zkz (N:Nat):Go.Sx.ltAll N []=Bool.true:=rfl
theorem Zjf (N j:Nat) (r:List Nat):Go.Sx.ltAll N (j :: r)=bif Nat.blt j N then Go.Sx.ltAll N r else Bool.false:=rfl
theorem Zta (p:Prop):Go.Sx.rfB Bool.true p=p:=rfl
theorem ZuG (p:Prop):Go.Sx.rfB Bool.false p=False:=rfl
theorem ZtF (P:Go.Program) (asg body:Nat->Go.Sx.CT) (ps:List Nat) (σ : Go.Sx.St) (K:Go.Sx.Ex->Go.Sx.St->Prop) (f:Go.FuncId) (caps:List Go.Sx.SV):Go.Sx.rfK P asg body (Go.Sx.SV.cl f caps) ps σ K=Go.Sx.gs0 (Go.Sx.St.gs σ) (Go.Sx.rfB (Go.Sx.ltAll (Go.Sx.St.N σ) ps) (Go.Sx.RFUN P asg body f caps ps σ K)):=rfl
theorem ZqA (ZX:Go.Sx.Ot->Prop) (hp:List (Nat × Go.Sx.HB)) (n:Nat) (s:Go.Sx.SV):Go.Sx.retF ZX hp n (Option.some s)=ZX { pn:=Bool.false,res:=s,hp:=hp,n:=n }:=rfl
theorem Zoc (ZX:Go.Sx.Ot->Prop) (hp:List (Nat × Go.Sx.HB)) (n:Nat):Go.Sx.retF ZX hp n Option.none=False:=rfl
theorem Zme (x:Option (List Go.Sx.SV)) (s:Go.Sx.SV):Go.Sx.rvKC (Option.some s) x=Go.Sx.rvD s x:=rfl
theorem Zox (x:Option (List Go.Sx.SV)):Go.Sx.rvKC Option.none x=Option.none:=rfl
theorem ZlP (σ : Go.Sx.St):Go.Sx.rvsK σ []=Option.some []:=rfl
theorem ZqJ (σ : Go.Sx.St) (r:Go.Sx.RV) (rs:List Go.Sx.RV):Go.Sx.rvsK σ (r :: rs)=Go.Sx.rvKC (Go.Sx.rv1 σ r) (Go.Sx.rvsK σ rs):=rfl
theorem ZpS (rs:List Go.Sx.RV) (ZX:Go.Sx.Ot->Prop) (x:Go.Sx.St):Go.Sx.retM rs ZX Go.Sx.Ex.n x=Go.Sx.retF ZX (Go.Sx.St.hp x) (Go.Sx.St.n x) (Go.Sx.rvE (Go.Sx.rvsK x rs)):=rfl
theorem ZmG (rs:List Go.Sx.RV) (ZX:Go.Sx.Ot->Prop) (x:Go.Sx.St):Go.Sx.retM rs ZX Go.Sx.Ex.ret x=Go.Sx.retF ZX (Go.Sx.St.hp x) (Go.Sx.St.n x) (Go.Sx.rvE (Go.Sx.rvsK x rs)):=rfl
theorem Znt (rs:List Go.Sx.RV) (ZX:Go.Sx.Ot->Prop) (x:Go.Sx.St) (s:Go.Sx.SV):Go.Sx.retM rs ZX (Go.Sx.Ex.pan s) x=ZX { pn:=Bool.true,res:=s,hp:=Go.Sx.St.hp x,n:=Go.Sx.St.n x }:=rfl
theorem ZmR (rs:List Go.Sx.RV) (ZX:Go.Sx.Ot->Prop) (x:Go.Sx.St) (id:Nat):Go.Sx.retM rs ZX (Go.Sx.Ex.ex id) x=False:=rfl
theorem ZvW (kl:Nat) (rec:Go.Loop) (Φ : Go.Sx.Ot->Prop) (x:Go.Sx.St):Go.Sx.bdE kl rec Φ Go.Sx.Ex.n x=(Go.Sx.isLb rec (Go.Sx.lkh kl (Go.Sx.St.hp x))/\Φ { pn:=Bool.false,res:=Go.Sx.SV.v (Go.Value.bool Bool.true),hp:=(kl,Go.Sx.HB.lp rec Option.none) :: Go.Sx.St.hp x,n:=Go.Sx.St.n x }):=rfl
theorem ZrN (kl:Nat) (rec:Go.Loop) (Φ : Go.Sx.Ot->Prop) (x:Go.Sx.St) (i:Nat):Go.Sx.bdE kl rec Φ (Go.Sx.Ex.ex i) x=(Go.Sx.isLb rec (Go.Sx.lkh kl (Go.Sx.St.hp x))/\Φ { pn:=Bool.false,res:=Go.Sx.SV.v (Go.Value.bool Bool.false),hp:=(kl,Go.Sx.HB.lp rec (Option.some (Go.Sx.Ex.ex i))) :: Go.Sx.St.hp x,n:=Go.Sx.St.n x }):=rfl
theorem Zu1 (kl:Nat) (rec:Go.Loop) (Φ : Go.Sx.Ot->Prop) (x:Go.Sx.St):Go.Sx.bdE kl rec Φ Go.Sx.Ex.ret x=(Go.Sx.isLb rec (Go.Sx.lkh kl (Go.Sx.St.hp x))/\Φ { pn:=Bool.false,res:=Go.Sx.SV.v (Go.Value.bool Bool.false),hp:=(kl,Go.Sx.HB.lp rec (Option.some Go.Sx.Ex.ret)) :: Go.Sx.St.hp x,n:=Go.Sx.St.n x }):=rfl
theorem Zu6 (kl:Nat) (rec:Go.Loop) (Φ : Go.Sx.Ot->Prop) (x:Go.Sx.St) (s:Go.Sx.SV):Go.Sx.bdE kl rec Φ (Go.Sx.Ex.pan s) x = Φ { pn:=Bool.true,res:=s,hp:=Go.Sx.St.hp x,n:=Go.Sx.St.n x }:=rfl
theorem Zuz (kl:Nat) (rec:Go.Loop) (body:Go.Sx.CT) (K:Go.Sx.Ex->Go.Sx.St->Prop) (x:Go.Sx.St):Go.Sx.asE kl rec body K Go.Sx.Ex.n x=(Go.Sx.isLp rec (Go.Sx.lkh kl (Go.Sx.St.hp x))/\body { fr:=Go.Sx.St.fr x,hp:=(kl,Go.Sx.HB.lb rec) :: Go.Sx.St.hp x,n:=Go.Sx.St.n x,N:=Go.Sx.St.N x,gs:=Go.Sx.St.gs x } K):=rfl
theorem Zu8 (kl:Nat) (rec:Go.Loop) (body:Go.Sx.CT) (K:Go.Sx.Ex->Go.Sx.St->Prop) (x:Go.Sx.St) (i:Nat):Go.Sx.asE kl rec body K (Go.Sx.Ex.ex i) x=False:=rfl
theorem Zuk (kl:Nat) (rec:Go.Loop) (body:Go.Sx.CT) (K:Go.Sx.Ex->Go.Sx.St->Prop) (x:Go.Sx.St):Go.Sx.asE kl rec body K Go.Sx.Ex.ret x=False:=rfl
theorem ZuM (kl:Nat) (rec:Go.Loop) (body:Go.Sx.CT) (K:Go.Sx.Ex->Go.Sx.St->Prop) (x:Go.Sx.St) (s:Go.Sx.SV):Go.Sx.asE kl rec body K (Go.Sx.Ex.pan s) x=False:=rfl
theorem ZtJ (x:Nat):Go.Sx.rho [] x=0:=rfl
theorem ZtC (a:Nat) (tail:List Nat):Go.Sx.rho (a :: tail) 0=a:=rfl
theorem ZsR (head:Nat) (l:List Nat) (k:Nat):Go.Sx.rho (head :: l) (Nat.succ k)=Go.Sx.rho l k:=rfl
theorem ZsC (ρ : Nat->Nat) (n':Nat) (x:Go.Sx.SV):Go.Sx.mtS ρ n' Go.Sx.SV.any x=True:=rfl
theorem Zvr (ρ : Nat->Nat) (n':Nat) (x:Go.Sx.SV) (k o:Nat):Go.Sx.mtS ρ n' (Go.Sx.SV.p k o) x=(k < n'/\x=Go.Sx.SV.p (ρ k) o):=rfl
theorem Zs4 (ρ : Nat->Nat) (n':Nat) (x:Go.Sx.SV) (k v:Nat):Go.Sx.mtS ρ n' (Go.Sx.SV.mr k v) x=(k < n'/\x=Go.Sx.SV.mr (ρ k) v):=rfl
theorem Zr8 (ρ : Nat->Nat) (n':Nat) (x:Go.Sx.SV) (k v m i o:Nat):Go.Sx.mtS ρ n' (Go.Sx.SV.pr k v m i o) x=(k < n'/\x=Go.Sx.SV.pr (ρ k) v m i o):=rfl
theorem ZrO (ρ : Nat->Nat) (n':Nat) (x:Go.Sx.SV) (k v m i o:Nat):Go.Sx.mtS ρ n' (Go.Sx.SV.ms k v m i o) x=(k < n'/\x=Go.Sx.SV.ms (ρ k) v m i o):=rfl
theorem Zvy (ρ : Nat->Nat) (n':Nat) (x:Go.Sx.SV) (l:List Go.Sx.SV):Go.Sx.mtS ρ n' (Go.Sx.SV.agg l) x=Go.Sx.mtO (Go.Sx.mtL ρ n' l) (Go.Sx.aggL x):=rfl
theorem ZtH (ρ : Nat->Nat) (n':Nat) (x:Go.Sx.SV) (l:List Go.Sx.SV):Go.Sx.mtS ρ n' (Go.Sx.SV.tup l) x=Go.Sx.mtO (Go.Sx.mtL ρ n' l) (Go.Sx.tupL x):=rfl
theorem Zui (ρ : Nat->Nat) (n':Nat) (x:Go.Sx.SV) (f:Go.FuncId) (l:List Go.Sx.SV):Go.Sx.mtS ρ n' (Go.Sx.SV.cl f l) x=Go.Sx.mtO (Go.Sx.mtL ρ n' l) (Go.Sx.clL f x):=rfl
theorem Zu9 (ρ : Nat->Nat) (n':Nat) (x:Go.Sx.SV) (x_2:Go.Value):Go.Sx.mtS ρ n' (Go.Sx.SV.v x_2) x=(x=Go.Sx.SV.v x_2):=rfl
theorem Zpv (ρ : Nat->Nat) (n':Nat) (x:Go.Sx.SV) (c:Bool) (m:Nat) (xs:List (List Go.Sx.SV)):Go.Sx.mtS ρ n' (Go.Sx.SV.sl c m xs) x=(x=Go.Sx.SV.sl c m xs/\Go.Sx.KFR xs):=rfl
theorem ZpF (ρ : Nat->Nat) (n':Nat) (x:Go.Sx.SV) (l:List Go.Sx.SV) (o:Nat):Go.Sx.mtS ρ n' (Go.Sx.SV.ps l o) x=(x=Go.Sx.SV.ps l o/\Go.Sx.KFL l):=rfl
theorem Zmm (ρ : Nat->Nat) (n':Nat) (x:Go.Sx.SV) (k:Nat):Go.Sx.mtS ρ n' (Go.Sx.SV.mp k) x=(k < n'/\x=Go.Sx.SV.mp (ρ k)):=rfl
theorem ZpC (ρ : Nat->Nat) (n':Nat) (x:Go.Sx.SV) (k:Nat):Go.Sx.mtS ρ n' (Go.Sx.SV.yl k) x=(k < n'/\x=Go.Sx.SV.yl (ρ k)):=rfl
theorem ZnS (ρ : Nat->Nat) (n':Nat) (x:Go.Sx.SV) (T:Go.TypeId) (t:Go.Sx.SV):Go.Sx.mtS ρ n' (Go.Sx.SV.ifc T t) x=Go.Sx.mtI (Go.Sx.mtS ρ n' t) T x:=rfl
theorem Zml (ρ : Nat->Nat) (n':Nat) (x:Go.Sx.SV) (φ : Go.Sx.VP):Go.Sx.mtS ρ n' (Go.Sx.SV.q φ) x=(x=Go.Sx.SV.q φ):=rfl
theorem Zp3 (ρ : Nat->Nat) (n':Nat) (x:Go.Sx.SV) (j:Nat) (w:Bool) (s:Go.Sx.SV):Go.Sx.mtS ρ n' (Go.Sx.SV.gd j w s) x=False:=rfl
theorem ZrR (ρ : Nat->Nat) (n':Nat) (x:List Go.Sx.SV):Go.Sx.mtL ρ n' [] x=(x=[]):=rfl
theorem ZrH (ρ : Nat->Nat) (n':Nat) (x:List Go.Sx.SV) (s:Go.Sx.SV) (l:List Go.Sx.SV):Go.Sx.mtL ρ n' (s :: l) x=Go.Sx.mtB (Go.Sx.mtS ρ n' s) (Go.Sx.mtL ρ n' l) x:=rfl
theorem Zu0 (ρ : Nat->Nat) (n':Nat) (x:Go.Sx.HB):Go.Sx.mtH ρ n' Go.Sx.HB.gone x=True:=rfl
theorem ZuV (ρ : Nat->Nat) (n':Nat) (l:List Go.Sx.SV) (T:Go.TypeId) (l2:List Go.Sx.SV) (T2:Go.TypeId):Go.Sx.mtH ρ n' (Go.Sx.HB.cells l T) (Go.Sx.HB.cells l2 T2)=(T2=T/\Go.Sx.mtL ρ n' l l2):=rfl
theorem Zt9 (ρ : Nat->Nat) (n':Nat) (x:Go.Sx.HB) (v m:Nat) (xs:List (List Go.Sx.SV)) (T:Go.TypeId):Go.Sx.mtH ρ n' (Go.Sx.HB.row v m xs T) x=(x=Go.Sx.HB.row v m xs T/\Go.Sx.KFR xs):=rfl
theorem ZuC (ρ : Nat->Nat) (n':Nat) (x:Go.Sx.HB) (φ : Go.Sx.OP):Go.Sx.mtH ρ n' (Go.Sx.HB.ob φ) x=(x=Go.Sx.HB.ob φ):=rfl
theorem ZvV (ρ : Nat->Nat) (n':Nat) (x:Go.Sx.HB) (es:List (Nat × Go.Value × Go.Sx.SV)) (c:Nat):Go.Sx.mtH ρ n' (Go.Sx.HB.map es c) x=(x=Go.Sx.HB.map es c/\∀ (e:Nat × Go.Value × Go.Sx.SV),e ∈ es->Go.Sx.KF (Prod.snd (Prod.snd e))):=rfl
theorem Zsz (ρ : Nat->Nat) (n':Nat) (x:Go.Sx.HB) (km a:Nat) (b:List Nat) (c:Nat):Go.Sx.mtH ρ n' (Go.Sx.HB.it km a b c) x=(km < n'/\x=Go.Sx.HB.it (ρ km) a b c):=rfl
theorem Zu3 (ρ : Nat->Nat) (n':Nat) (x:Go.Sx.HB) (r:Go.Loop) (pd:Option Go.Sx.Ex):Go.Sx.mtH ρ n' (Go.Sx.HB.lp r pd) x=(x=Go.Sx.HB.lp r pd):=rfl
theorem ZrF (ρ : Nat->Nat) (n':Nat) (x:Go.Sx.HB) (r:Go.Loop):Go.Sx.mtH ρ n' (Go.Sx.HB.lb r) x=(x=Go.Sx.HB.lb r):=rfl
theorem ZsB (ρ : Nat->Nat) (n':Nat) (x:Go.Sx.HB) (v m:Nat) (xs:List (List Go.Sx.SV)) (T:Go.TypeId) (o m':Nat) (inn:List (List (List Go.Sx.SV))) (T':Go.TypeId):Go.Sx.mtH ρ n' (Go.Sx.HB.rws v m xs T o m' inn T') x=(x=Go.Sx.HB.rws v m xs T o m' inn T'/\Go.Sx.KFR xs/\∀ (r:List (List Go.Sx.SV)),r ∈ inn->Go.Sx.KFR r):=rfl
theorem Zp8 (ρ : Nat->Nat) (n':Nat) (l:List Go.Sx.SV) (T:Go.TypeId) (v m:Nat) (xs:List (List Go.Sx.SV)) (T_1:Go.TypeId):Go.Sx.mtH ρ n' (Go.Sx.HB.cells l T) (Go.Sx.HB.row v m xs T_1)=False:=rfl
theorem Znq (ρ : Nat->Nat) (n':Nat) (l:List Go.Sx.SV) (T:Go.TypeId) (φ : Go.Sx.OP):Go.Sx.mtH ρ n' (Go.Sx.HB.cells l T) (Go.Sx.HB.ob φ)=False:=rfl
theorem Zo3 (ρ : Nat->Nat) (n':Nat) (l:List Go.Sx.SV) (T:Go.TypeId) (es:List (Nat × Go.Value × Go.Sx.SV)) (clk:Nat):Go.Sx.mtH ρ n' (Go.Sx.HB.cells l T) (Go.Sx.HB.map es clk)=False:=rfl
theorem Zqa (ρ : Nat->Nat) (n':Nat) (l:List Go.Sx.SV) (T:Go.TypeId) (km since:Nat) (seen:List Nat) (last:Nat):Go.Sx.mtH ρ n' (Go.Sx.HB.cells l T) (Go.Sx.HB.it km since seen last)=False:=rfl
theorem Zp4 (ρ : Nat->Nat) (n':Nat) (l:List Go.Sx.SV) (T:Go.TypeId) (rec:Go.Loop) (pd:Option Go.Sx.Ex):Go.Sx.mtH ρ n' (Go.Sx.HB.cells l T) (Go.Sx.HB.lp rec pd)=False:=rfl
theorem Zm0 (ρ : Nat->Nat) (n':Nat) (l:List Go.Sx.SV) (T:Go.TypeId) (rec:Go.Loop):Go.Sx.mtH ρ n' (Go.Sx.HB.cells l T) (Go.Sx.HB.lb rec)=False:=rfl
theorem Zpf (ρ : Nat->Nat) (n':Nat) (l:List Go.Sx.SV) (T:Go.TypeId) (v m:Nat) (xs:List (List Go.Sx.SV)) (T_1:Go.TypeId) (o m':Nat) (inn:List (List (List Go.Sx.SV))) (T':Go.TypeId):Go.Sx.mtH ρ n' (Go.Sx.HB.cells l T) (Go.Sx.HB.rws v m xs T_1 o m' inn T')=False:=rfl
theorem Zqk (ρ : Nat->Nat) (n':Nat) (l:List Go.Sx.SV) (T:Go.TypeId):Go.Sx.mtH ρ n' (Go.Sx.HB.cells l T) Go.Sx.HB.gone=False:=rfl
theorem Ztw (p:Prop):Go.Sx.mtM Bool.true p=True:=rfl
theorem ZtA (p:Prop):Go.Sx.mtM Bool.false p=p:=rfl
theorem Zvb (ρ : Nat->Nat) (n':Nat) (x:List Nat) (x_1:List (Nat × Go.Sx.SV)):Go.Sx.mtF ρ n' x [] x_1=True:=rfl
theorem Zsd (ρ : Nat->Nat) (n':Nat) (x:List Nat) (x_1:List (Nat × Go.Sx.SV)) (t:Nat) (s:Go.Sx.SV) (r:List (Nat × Go.Sx.SV)):Go.Sx.mtF ρ n' x ((t,s) :: r) x_1=(Go.Sx.mtM (Go.Sx.memb t x) (Go.Sx.mtS ρ n' s (Go.Sx.lk t x_1))/\Go.Sx.mtF ρ n' (t :: x) r x_1):=rfl
theorem Zsn (ρ : Nat->Nat) (hp' hp:List (Nat × Go.Sx.HB)) (n':Nat):Go.Sx.mtP ρ hp' hp n' 0=True:=rfl
theorem ZsA (ρ : Nat->Nat) (hp' hp:List (Nat × Go.Sx.HB)) (n' j:Nat):Go.Sx.mtP ρ hp' hp n' (Nat.succ j)=(Go.Sx.mtH ρ n' (Go.Sx.lkh j hp') (Go.Sx.lkh (ρ j) hp)/\Go.Sx.mtP ρ hp' hp n' j):=rfl
theorem ZrX (n':Nat):Go.Sx.hpb n' []=True:=rfl
theorem ZtT (n' u:Nat) (s:Go.Sx.HB) (r:List (Nat × Go.Sx.HB)):Go.Sx.hpb n' ((u,s) :: r)=(u < n'/\Go.Sx.hpb n' r):=rfl
theorem ZrL (a b:Bool):Go.Sx.eqC 0 (Go.Sx.SV.v (Go.Value.bool a)) (Go.Sx.SV.v (Go.Value.bool b))=Option.some (a == b):=rfl
theorem ZtM (k:Go.IntKind) (a:Int) (j:Go.IntKind) (b:Int):Go.Sx.eqC 1 (Go.Sx.SV.v (Go.Value.int k a)) (Go.Sx.SV.v (Go.Value.int j b))=bif Go.Sx.kbeq k j then Option.some (a == b) else Option.none:=rfl
theorem Zut (a b:ByteArray):Go.Sx.eqC 2 (Go.Sx.SV.v (Go.Value.string a)) (Go.Sx.SV.v (Go.Value.string b))=Option.some (ByteArray.toList a == ByteArray.toList b):=rfl
theorem ZuA (a b:Bool):Go.Sx.eqA (Option.some a) (Option.some b)=Option.some (a && b):=rfl
theorem Zn7  : Go.Sx.eqLS [] [] []=Option.some Bool.true:=rfl
theorem ZpX (c:Nat) (cs:List Nat) (x_3:Go.Sx.SV) (xs:List Go.Sx.SV) (y:Go.Sx.SV) (ys:List Go.Sx.SV):Go.Sx.eqLS (c :: cs) (x_3 :: xs) (y :: ys)=Go.Sx.eqA (Go.Sx.eqC c x_3 y) (Go.Sx.eqLS cs xs ys):=rfl
theorem Zni (cls:List Nat) (a b:List Go.Sx.SV):Go.Sx.eqLO cls Bool.true (Go.Sx.SV.agg a) (Go.Sx.SV.agg b)=Go.Sx.eqLS cls a b:=rfl
theorem Zo0 (cls:List Nat) (a b:Bool):Go.Sx.eqLO cls Bool.false (Go.Sx.SV.v (Go.Value.bool a)) (Go.Sx.SV.v (Go.Value.bool b))=Option.some (a == b):=rfl
theorem ZsL (ng b:Bool):Go.Sx.eqR ng (Option.some b)=Option.some (Go.Sx.SV.v (Go.Value.bool (Go.Sx.ngB ng b))):=rfl
theorem Zti (ng:Bool):Go.Sx.eqR ng Option.none=Option.none:=rfl
theorem Zrq (x:Bool):Go.Sx.ngB Bool.true x = !x:=rfl
theorem ZtN (x:Bool):Go.Sx.ngB Bool.false x=x:=rfl
theorem ZoR (m:Nat) (hp:List (Nat × Go.Sx.HB)) (c:Bool) (m':Nat) (xs:List (List Go.Sx.SV)):Go.Sx.sprS m hp (Go.Sx.SV.sl c m' xs)=Go.Sx.rowB xs (Nat.beq m m'):=rfl
theorem Zpw (m:Nat) (hp:List (Nat × Go.Sx.HB)):Go.Sx.sprS m hp (Go.Sx.SV.v (Go.Value.slice Option.none 0 0))=Option.some []:=rfl
theorem ZoF (m:Nat) (hp:List (Nat × Go.Sx.HB)) (k v:Nat):Go.Sx.sprS m hp (Go.Sx.SV.mr k v)=Go.Sx.sprH m v (Go.Sx.lkh k hp):=rfl
theorem ZlB (m m':Nat) (xs:List (List Go.Sx.SV)):Go.Sx.basS m (Go.Sx.SV.sl Bool.true m' xs)=Go.Sx.rowB xs (Nat.beq m m'):=rfl
theorem Zmu (m:Nat):Go.Sx.basS m (Go.Sx.SV.v (Go.Value.slice Option.none 0 0))=Option.some []:=rfl
theorem ZnU (g:Option (Nat × Bool)) (m b:Nat) (d:Option Nat) (σ : Go.Sx.St) (r:Go.Sx.KT) (K:Go.Sx.RK) (xs ys:List (List Go.Sx.SV)):Go.Sx.appK g m b (Option.some xs) (Option.some ys) d σ r K=Go.Sx.APP g m b xs ys d σ r K:=rfl
theorem Zqv (g:Option (Nat × Bool)) (m b:Nat) (d:Option Nat) (σ : Go.Sx.St) (r:Go.Sx.KT) (K:Go.Sx.RK) (val:List (List Go.Sx.SV)):Go.Sx.appK g m b (Option.some val) Option.none d σ r K=False:=rfl
theorem ZmO (g:Option (Nat × Bool)) (m b:Nat) (y:Option (List (List Go.Sx.SV))) (d:Option Nat) (σ : Go.Sx.St) (r:Go.Sx.KT) (K:Go.Sx.RK):Go.Sx.appK g m b Option.none y d σ r K=False:=rfl
theorem ZlY (l:List Go.Sx.SV):Go.Sx.aggL (Go.Sx.SV.agg l)=Option.some l:=rfl
theorem Zoh (l:List Go.Sx.SV):Go.Sx.tupL (Go.Sx.SV.tup l)=Option.some l:=rfl
theorem Zsx (f f_1:Go.FuncId) (caps:List Go.Sx.SV):Go.Sx.clL f (Go.Sx.SV.cl f_1 caps)=bif Nat.beq f_1 f then Option.some caps else Option.none:=rfl
theorem Zs2 (p:Go.Sx.SV->Prop) (q:List Go.Sx.SV->Prop):Go.Sx.mtB p q []=False:=rfl
theorem ZsZ (p:Go.Sx.SV->Prop) (q:List Go.Sx.SV->Prop) (s:Go.Sx.SV) (l:List Go.Sx.SV):Go.Sx.mtB p q (s :: l)=(p s/\q l):=rfl
theorem Zjx (x x_1:Nat) (x_2:List (List Go.Sx.SV)) (x_3:Go.TypeId) (x_4:Go.Sx.St) (x_5:Go.Sx.KT) (x_6:Go.Sx.RK):Go.Sx.newRB Bool.false Bool.true x x_1 x_2 x_3 x_4 x_5 x_6=x_5 { fr:=(x,Go.Sx.SV.mr (Go.Sx.St.n x_4) 0) :: Go.Sx.St.fr x_4,hp:=(Go.Sx.St.n x_4,Go.Sx.HB.row 0 x_1 x_2 x_3) :: Go.Sx.St.hp x_4,n:=Go.Sx.St.n x_4+1,N:=Go.Sx.St.N x_4,gs:=Go.Sx.St.gs x_4 } x_6:=rfl
theorem Znl (m:Nat) (xs:List (List Go.Sx.SV)) (T:Go.TypeId) (σ : Go.Sx.St) (r:Go.Sx.KT) (K:Go.Sx.RK) (m_1:Nat):Go.Sx.rowK (Option.some m_1) m xs T σ r K=Go.Sx.newRB (Go.Sx.memb m_1 (Go.Sx.St.gs σ)) (Nat.blt m_1 (Go.Sx.St.N σ)) m_1 m xs T σ r K:=rfl
theorem Zp2 (m:Nat) (xs:List (List Go.Sx.SV)) (T:Go.TypeId) (σ : Go.Sx.St) (r:Go.Sx.KT) (K:Go.Sx.RK):Go.Sx.rowK Option.none m xs T σ r K=False:=rfl
theorem ZqB (b:Nat) (d:Option Nat) (m:Nat) (T:Go.TypeId) (σ : Go.Sx.St) (r:Go.Sx.KT) (K:Go.Sx.RK) (ys:List (List Go.Sx.SV)):Go.Sx.clnK b d m (Option.some []) (Option.some ys) T σ r K=Go.Sx.CLN b d m ys T σ r K:=rfl
theorem Zo7 (b:Nat) (d:Option Nat) (m:Nat) (y:Option (List (List Go.Sx.SV))) (T:Go.TypeId) (σ : Go.Sx.St) (r:Go.Sx.KT) (K:Go.Sx.RK) (head:List Go.Sx.SV) (tail:List (List Go.Sx.SV)):Go.Sx.clnK b d m (Option.some (head :: tail)) y T σ r K=False:=rfl
theorem Zmw (b:Nat) (d:Option Nat) (m:Nat) (T:Go.TypeId) (σ : Go.Sx.St) (r:Go.Sx.KT) (K:Go.Sx.RK):Go.Sx.clnK b d m (Option.some []) Option.none T σ r K=False:=rfl
theorem ZmL (b:Nat) (d:Option Nat) (m:Nat) (y:Option (List (List Go.Sx.SV))) (T:Go.TypeId) (σ : Go.Sx.St) (r:Go.Sx.KT) (K:Go.Sx.RK):Go.Sx.clnK b d m Option.none y T σ r K=False:=rfl
theorem Zn1 (b:Nat) (d:Option Nat) (m:Nat) (z:List Go.Value) (T:Go.TypeId) (σ : Go.Sx.St) (r:Go.Sx.KT) (K:Go.Sx.RK) (k:Go.IntKind) (n:Int):Go.Sx.mksK b d m z (Go.Sx.SV.v (Go.Value.int k n)) T σ r K=Go.Sx.MKS b d m (Go.Sx.lit z) n T σ r K:=rfl
theorem Znx (d:Option Nat) (σ : Go.Sx.St) (r:Go.Sx.KT) (K:Go.Sx.RK) (c:Bool) (m:Nat) (xs:List (List Go.Sx.SV)):Go.Sx.isnK d (Go.Sx.SV.sl c m xs) σ r K=Go.Sx.ISN d xs σ r K:=rfl
theorem Zmt (g:Option (Nat × Bool)) (d:Option Nat) (σ : Go.Sx.St) (r:Go.Sx.KT) (K:Go.Sx.RK) (c:Bool) (m:Nat) (xs:List (List Go.Sx.SV)) (k_2:Go.IntKind) (n:Int) (k_3:Go.IntKind) (j:Int):Go.Sx.slcK g (Go.Sx.SV.sl c m xs) (Go.Sx.SV.v (Go.Value.int k_2 n)) (Go.Sx.SV.v (Go.Value.int k_3 j)) d σ r K=Go.Sx.SLC g n j m xs d σ r K:=rfl
theorem ZpM (g:Option (Nat × Bool)) (m:Nat) (xs:List (List Go.Sx.SV)) (d:Option Nat) (σ : Go.Sx.St) (r:Go.Sx.KT) (K:Go.Sx.RK) (i j:Int):Go.Sx.subJ g m xs (Option.some i) (Option.some j) d σ r K=Go.Sx.SUB g i j m xs d σ r K:=rfl
theorem ZlQ (g:Option (Nat × Bool)) (m:Nat) (xs:List (List Go.Sx.SV)) (d:Option Nat) (σ : Go.Sx.St) (r:Go.Sx.KT) (K:Go.Sx.RK) (val:Int):Go.Sx.subJ g m xs (Option.some val) Option.none d σ r K=False:=rfl
theorem ZoZ (g:Option (Nat × Bool)) (m:Nat) (xs:List (List Go.Sx.SV)) (hi:Option Int) (d:Option Nat) (σ : Go.Sx.St) (r:Go.Sx.KT) (K:Go.Sx.RK):Go.Sx.subJ g m xs Option.none hi d σ r K=False:=rfl
theorem ZqG (dflt:Int) (ρ : Go.Sx.X->Go.Sx.SV):Go.Sx.intO dflt ρ Option.none=Option.some dflt:=rfl
theorem Zmj (dflt:Int) (ρ : Go.Sx.X->Go.Sx.SV) (x_1:Go.Sx.X):Go.Sx.intO dflt ρ (Option.some x_1)=match ρ x_1 with | Go.Sx.SV.v (Go.Value.int k n)=>Option.some n | x=>Option.none:=rfl
theorem Zoy (m:Nat) (c:Bool) (m':Nat) (xs:List (List Go.Sx.SV)):Go.Sx.sprV m (Go.Sx.SV.sl c m' xs)=Go.Sx.rowB xs (Nat.beq m m'):=rfl
theorem Zov (m:Nat):Go.Sx.sprV m (Go.Sx.SV.v (Go.Value.slice Option.none 0 0))=Option.some []:=rfl
theorem Zqc (x:Value) (h:Nat->Bool->Nat->Bool->Bool) (j:Nat) (w:Bool):alwS false (.v x) h j w=false:=rfl
theorem Zhc (x:SV) (l:List SV):splice (x :: l) 0 []=x :: l:=rfl
theorem Zf8:splice [] 0 []=[]:=rfl
attribute [go_sem] Znp Zph ZoQ Zns w64_0 w64_1 w64_2 w64_3 w64_4 w64_5 w64_6 e_stO ZxY Zus Zpu Ztg ZwJ ZpY Znm Zvf Zo8 ZmT Zqx ZwX Zsj Zwq Zvk ZuX phx_1 phx_2 phK_n ZvB ZxC Zr1 Zxy Zpt ZuN ZrU ZvL ZnI sx_gh Zmq Ztx ZwU ZtV Znh ZxR ZoW Zxe Zpy Zww Zua ZnE lkB_t lkB_f Zw8 Zxw ZuJ Ztu ZxQ Zxg Zl9 ZrJ Zuv Zw1 Zwp Zx3 e_lk e_lk0 e_lkh Zxd ZwV ZvM e_blk Zj5 Zpx ZuF ZrI Zvt Zj0 ZqI Zju ZqC Zvu Zvv ZtO Zkr ZmV Zeq ZgP Zi1 Zk0 Zhv ZeE Zgl ZfT ZiM Zow ZoC ZlE Zgw Zh8 Zvj ZgM Zht Zmc ZlJ ZnJ Zg9 ZhP Zgn ZgZ Zhu ZjE Zn0 Zos Zqq Zqr Zqb Zqp ZfV ZgI ZkK ZkX Zg2 ZiU Zok Zqu Zqz Zgh ZkC Zgq Zln Zl5 Zm3 ZoS Zhd Zjl ZeG ZgU ZjT ZiX Zkh Zg3 Zim ZoI Zuf Zty Ztk Zkk Zo2 ZgR Zlc ZlG ZoO ZoJ Zha ZjM ZgX Zji Zg4 ZhQ ZeU ZgH ZiS ZhN ZkS ZeV Zg8 ZeS Zey e_yld e_exR e_hpM ZkD ZeA Zgj Ziz ZhZ Zic Zf0 Zie Ztq ZeN ZgT ZeB Zf5 ZcR Zb3 Zd2 ZbZ Za7 e_rdG Zxi Zwc ZxA e_alw Zxu e_vw1 e_vw2 e_vw3 e_vw4 Znb Zl2 ZwZ ZkH ZkP Zf3 ZgY Zhe Zge ZgL ZgJ Zgz ZfR ZgC Zi6 Zgf Zf4 Zgg Zhx ZgB Zgb ZgW Zn5 Zm4 Zjv Zjp Zj1 ZkN ZlN Zl6 Zwh Zvx Zsr e_mm e_bld Zgo Zx2 ZpH ZhM ZpI Zmg ZpK ZhO Zi9 e_rvR Zwf ZtG Zsf ZlL Zg7 ZeW Zhy ZlC ZgF Zkn Zli ZqH Zg6 ZjJ Zjg ZhX ZiY ZkF Zqo Zhh Zg1 Zk9 ZgK Zkm e_rvs Zqs Ziu ZmQ ZsS Zxs Zi8 ZjK Ziq ZjP Zo9 Zl1 Zt4 Zr6 Zub ZuO Zsg ZtB Zvm Zm9 ZnC Zpd ZoH Zl4 ZmW ZmH Zl8 ZlK ZnY ZoA Zqn ZrE ZvA Zs6 ZvX ZtR ZsP ZrK Zth ZrB ZvE Ztv ZsJ ZtX ZnP Zpk Zoj Zoz Zma Zof Zl3 ZlD Zi3 ZhV ZoD ZlH ZkL Zkp ZvN Zsw Zlh ZhD ZiV ZhE ZlX Zp5 ZhY Zol ZmA ZpV Zm7 Zpg Zm5 ZnD Zn9 Zqm Zpq ZsK ZvH Zvs ZvO Zvd Zru ZuP Zr5 Zoe ZpW Zpn Znv ZmE ZmZ Znc Zm1 Zou Zo6 Zno Zmp ZpT Znn Zpj ZqD Zpc Zmx Zqy Ziv Zhr Zh1 ZiR Zjo Zix Zh2 ZkW Zke Zjh Zii Zkx Zlp ZjG Zid Zjb Zlk ZjF Zhn ZiC Zi2 Zlq Zlj Zla Zhz ZiH Zlb Zk7 Zkd Zo5 ZlW Zh4 Zlz Zmf Zoq ZpB ZnH ZnN ZxB Zx5 Znd ZoM Zl7 ZmD Zqe Zql ZnO Zn3 ZmN ZoN ZlA ZnA ZmB ZpR Zpo ZmY Zqi Zl0 Zmi ZmI Zlx ZnF ZuK Zqf Zpm Zvg Zvc Zue ZuU Zgx Zgc Zuw ZuE Zrr ZvP ZvU ZvK Zrt Zsk Zuq Zon ZlR Zo4 Zmr Zky Zwn ZxH ZtL Zsh ZmS Zmk Zsl Zqt ZlV ZnZ Zpa ZnB Zpp Zoo ZpJ Zt3 ZvC Zts ZrW Zs3 Zve Zvn Zgs ZfW ZnG Zpz ZlS Znk ZqE Ztm ZrA Zms Zps ZpU Zn4 Zr7 ZuS ZtQ ZvQ ZsY Ztl Zt7 Zry Zsa Zn8 ZnQ ZmU Zp1 Zor ZpL ZmK ZsT Zse ZsU ZtP ZuI Zux ZrG ZrQ ZuT ZoU ZlO ZpE ZqL ZoK Zn6 Zn2 Zvz ZuL ZtS Zs1 ZsW Zvi Zuh ZrS ZrZ Zvo ZrM ZrY Zsm Zje ZkO Zto Zsb ZrP Zh7 Zho Zvl ZuH ZuB Ztc ZvJ ZsI Zun Zp7 ZlI ZuY Zm8 ZoB Zkz Zjf Zta ZuG ZtF ZqA Zoc Zme Zox ZlP ZqJ ZpS ZmG Znt ZmR ZvW ZrN Zu1 Zu6 Zuz Zu8 Zuk ZuM ZtJ ZtC ZsR ZsC Zvr Zs4 Zr8 ZrO Zvy ZtH Zui Zu9 Zpv ZpF Zmm ZpC ZnS Zml Zp3 ZrR ZrH Zu0 ZuV Zt9 ZuC ZvV Zsz Zu3 ZrF ZsB Zp8 Znq Zo3 Zqa Zp4 Zm0 Zpf Zqk Ztw ZtA Zvb Zsd Zsn ZsA ZrX ZtT ZrL ZtM Zut ZuA Zn7 ZpX Zni Zo0 ZsL Zti Zrq ZtN ZoR Zpw ZoF ZlB Zmu ZnU Zqv ZmO ZlY Zoh Zsx Zs2 ZsZ Zjx Znl Zp2 ZqB Zo7 Zmw ZmL Zn1 Znx Zmt ZpM ZlQ ZoZ ZqG Zmj Zoy Zov Zqc Zhc Zf8 List.drop List.take List.length List.cons_append List.nil_append Nat.beq Nat.blt Nat.ble Nat.zero_add Nat.add_zero Nat.mul_one Nat.zero_mul Nat.one_mul cond_true cond_false List.set
section typed
variable {K V:Type} [DecidableEq K]
def mpS (key:K->Value) (val:V->SV) (L:List (Nat × K × V)):List (Nat × Value × SV):=L.map fun e=>(e.1,key e.2.1,val e.2.2)
def Xy (k:K):List (Nat × K × V)->Option V
 | []=>none
 | e :: l=>if e.2.1=k then some e.2.2 else Xy k l
def V1 (c:Nat) (k:K) (v:V):List (Nat × K × V)->List (Nat × K × V)
 | []=>[(c,k,v)]
 | e :: l=>if e.2.1=k then (e.1,k,v) :: l else e :: V1 c k v l
def Ug (k:K):List (Nat × K × V)->List (Nat × K × V)
 | []=>[]
 | e :: l=>if e.2.1=k then l else e :: Ug k l
def ZbR (c:Nat) (k:K) (L:List (Nat × K × V)):Nat:=bif (Xy k L).isSome then c else c+1
def fI (k:K):List K->List MapEntry->Nat->Option (Nat × Value)
 | q :: ks,e :: ys,i=>if q=k then some (i,e.val) else fI k ks ys (i+1)
 | _,_,_=>none
structure KeyT (P:Program) (kt:TypeId) (key:K->Value) (sv:K->SV):Prop where
 chk:∀ (em:Bool) (k:K) (w:World),(Instr.checkKey em 10000 kt (key k)).run P w = .ok () w
 fnd:∀ (k:K) (ks:List K) (ys:List MapEntry) (w:World),ys.map (·.key)=ks.map key->(Instr.findKey kt (key k) ys).run P w = .ok (fI k ks ys 0) w
 same:∀ k,Instr.sameBits 10000 (key k) (key k)=true
 svR:∀ {w:World} {E:Env} {n ok:Nat->Prop} (k:K) (y:Value),R w E n ok (sv k) y↔y=key k
theorem ZaW {w:World} {E:Env} {n ok:Nat->Prop} {key:K->Value} {val:V->SV} (k:K):∀ (L:List (Nat × K × V)) (ys:List MapEntry) (i:Nat),RM w E n ok (mpS key val L) ys ->
 (Xy k L=none/\fI k (L.map (·.2.1)) ys i=none/\Ug k L=L/\∀ {w':World} {E':Env} {n' ok':Nat->Prop} c v' y',R w' E' n' ok' (val v') y'->RM w' E' n' ok' (mpS key val L) ys->RM w' E' n' ok' (mpS key val (V1 c k v' L)) (ys ++ [⟨key k,y',c⟩])) \/
 ∃ j v e,Xy k L=some v/\fI k (L.map (·.2.1)) ys i=some (i+j,e.val)/\ys[j]? = some e/\e.key=key k/\R w E n ok (val v) e.val /\
  (∀ {w':World} {E':Env} {n' ok':Nat->Prop},RM w' E' n' ok' (mpS key val L) ys->RM w' E' n' ok' (mpS key val (Ug k L)) (ys.eraseIdx j)/\∀ c v' y',R w' E' n' ok' (val v') y'->RM w' E' n' ok' (mpS key val (V1 c k v' L)) (ys.modify j fun e=>{ e with key:=key k,val:=y' }))
 | [],ys,i,h=>by
  simp only [mpS,List.map_nil,RM] at h
  subst h
  exact .inl ⟨rfl,rfl,rfl,fun c v' y' hR _=>by simp only [V1,mpS,List.map_cons,List.map_nil,List.nil_append,RM];exact ⟨y',[],rfl,hR,rfl⟩⟩
 | e :: l,ys,i,h=>by
  simp only [mpS,List.map_cons,RM] at h
  obtain ⟨y,r,rfl,h1,h2⟩:=h
  by_cases hk:e.2.1=k
  . refine .inr ⟨0,e.2.2,⟨key e.2.1,y,e.1⟩,by simp [Xy,hk],by simp [fI,hk],rfl,by simp [hk],h1,fun {w' E' n' ok'} h'=>?_⟩
    simp only [mpS,List.map_cons,RM] at h'
    obtain ⟨y0,r0,e0,h3,h4⟩:=h'
    cases e0
    refine ⟨by simpa [Ug,hk,mpS] using h4,fun c v' y' hR=>?_⟩
    simp only [V1,hk,if_true,mpS,List.map_cons,RM]
    exact ⟨y',r,by simp,hR,h4⟩
  . rcases ZaW k l r (i+1) h2 with ⟨a1,a2,a3,a4⟩ | ⟨j,v,e',b1,b2,b3,b4,b5,b6⟩
    . refine .inl ⟨by simp [Xy,hk,a1],by simp [fI,hk,a2],by simp [Ug,hk,a3],fun {w' E' n' ok'} c v' y' hR h'=>?_⟩
      simp only [mpS,List.map_cons,RM] at h'
      obtain ⟨y0,r0,e0,h3,h4⟩:=h'
      cases e0
      simp only [V1,hk,if_false,mpS,List.map_cons,RM]
      exact ⟨y,_,rfl,h3,a4 c v' y' hR h4⟩
    . refine .inr ⟨j+1,v,e',by simp [Xy,hk,b1],by simp [fI,hk,b2];omega,by simpa using b3,b4,b5,fun {w' E' n' ok'} h'=>?_⟩
      simp only [mpS,List.map_cons,RM] at h'
      obtain ⟨y0,r0,e0,h3,h4⟩:=h'
      cases e0
      obtain ⟨c1,c2⟩:=b6 h4
      refine ⟨?_,fun c v' y' hR=>?_⟩
      . simp only [Ug,hk,if_false,mpS,List.map_cons,RM]
        exact ⟨y,_,by simp,h3,c1⟩
      . simp only [V1,hk,if_false,mpS,List.map_cons,RM]
        exact ⟨y,_,by simp,h3,c2 c v' y' hR⟩
omit [DecidableEq K] in
theorem Zbq {w:World} {E:Env} {n ok:Nat->Prop} {key:K->Value} {val:V->SV}:∀ {L:List (Nat × K × V)} {ys:List MapEntry},RM w E n ok (mpS key val L) ys->ys.map (·.key)=(L.map (·.2.1)).map key
 | [],ys,h=>by simp only [mpS,List.map_nil,RM] at h;subst h;rfl
 | e :: l,ys,h=>by
  simp only [mpS,List.map_cons,RM] at h
  obtain ⟨y,r,rfl,h1,h2⟩:=h
  simp only [List.map_cons,List.cons.injEq,true_and]
  exact Zbq h2
theorem Zrp {w:World} {E:Env} {n ok:Nat->Prop}:∀ {L:List (Nat × Value × SV)} {ys:List MapEntry},RM w E n ok L ys->ys.length=L.length
 | [],ys,h=>by simp only [RM] at h;subst h;rfl
 | e :: l,ys,h=>by simp only [RM] at h;obtain ⟨y,r,rfl,h1,h2⟩:=h;simp [Zrp h2]
theorem ZhB {w:World} {E:Env} {n ok:Nat->Prop}:∀ {L:List (Nat × Value × SV)} {ys:List MapEntry},RM w E n ok L ys->∀ e ∈ ys,∃ x ∈ L,e.born=x.1/\e.key=x.2.1/\R w E n ok x.2.2 e.val
 | [],ys,h=>by simp only [RM] at h;subst h;simp
 | e :: l,ys,h=>by
  simp only [RM] at h;obtain ⟨y,r,rfl,h1,h2⟩:=h
  intro e' he'
  rcases List.mem_cons.1 he' with rfl | he'
  . exact ⟨e,by simp,rfl,rfl,h1⟩
  . obtain ⟨x,hx,h⟩:=ZhB h2 e' he';exact ⟨x,by simp [hx],h⟩
theorem Zis {w:World} {E:Env} {n ok:Nat->Prop}:∀ {L:List (Nat × Value × SV)} {ys:List MapEntry},RM w E n ok L ys->∀ x ∈ L,∃ e ∈ ys,e.born=x.1
 | [],ys,h=>by simp
 | e :: l,ys,h=>by
  simp only [RM] at h;obtain ⟨y,r,rfl,h1,h2⟩:=h
  intro x hx
  rcases List.mem_cons.1 hx with rfl | hx
  . exact ⟨_,List.mem_cons_self,rfl⟩
  . obtain ⟨e',he',h⟩:=Zis h2 x hx;exact ⟨e',by simp [he'],h⟩
theorem Zwu {P:Program} {kt:TypeId} {kd:IntKind} (hu:P.underlying kt=some (.int kd)):KeyT P kt (fun n:Int=>.int kd n) (fun n=>.v (.int kd n)):=by
 refine ⟨fun em k w=>MapKept.run_checkKey hu (by simp [MapKept.IsKey]) em _,fun k ks ys w h=>?_,fun k=>by simp [Instr.sameBits],fun k y=>by simp only [R]⟩
 have:∀ (ks:List Int) (ys:List MapEntry) (i:Nat),ys.map (·.key)=ks.map (fun n:Int=>Value.int kd n)->Instr.findNow (.int kd) (.int kd k) ys i=some (fI k ks ys i):=by
  intro ks ys
  induction ys generalizing ks with
  | nil=>intro i h;cases ks with
   | nil=>rfl
   | cons a b=>simp at h
  | cons e ys ih=>intro i h;cases ks with
   | nil=>simp at h
   | cons a b =>
    simp only [List.map_cons,List.cons.injEq] at h
    simp only [Instr.findNow,h.1,Instr.sameNow,if_true,fI]
    by_cases ha:a=k
    . subst ha;simp
    . have:(k == a)=false:=by simpa using fun e=>ha e.symm
      simp [this,ha,ih b (i+1) h.2]
 exact MapKept.run_findKey hu (this ks ys 0 h)
end typed
section
variable {P:Program} {C:Cx} {E:Env} {σ : St} {a:Act} {w:World}
def Za0 (σ : St):Operand->SV
 | .tmp u=>lk u σ.fr
 | .const x=>.v x
 | _=>.any
theorem VD (h:Sim C E σ a w) {o:Operand} {s:SV} (hs:Za0 σ o=s) (hg:∀ j b u,s≠.gd j b u):R w E (ltn σ.n) (okS C E σ.hp) s (a.eval o):=by
 cases o with
 | tmp u =>
  have:=Zvp (h.fr u) (fun j b u' e=>hg j b u' (by rw [<- hs];exact e))
  simp only [Za0] at hs;rw [hs] at this;exact this
 | const x=>simp only [Za0] at hs;subst hs;simp only [R];rfl
 | _=>simp only [Za0] at hs;subst hs;simp only [R]
theorem U3 (h:Sim C E σ a w) {km c:Nat} {es:List (Nat × Value × SV)} (hk:lkh km σ.hp = .map es c) :
 ltn σ.n km/\∃ ys,w.heap[E.β km]? = some (.map ys c)/\RM w E (ltn σ.n) (okS C E σ.hp) es ys.toList:=by
 have hb:=h.hs.bk km
 rw [hk] at hb
 refine ⟨?_,hb⟩
 rcases Classical.em (ltn σ.n km) with q | q
 . exact q
 . rw [h.hs.kn km q] at hk;cases hk
theorem ZqY {d:Option Nat} {s:SV} {r:KT} {K:RK} {y:Value} {w':World} {E':Env} {hp':List (Nat × HB)} {n':Nat} {next:Act->World->Prop} (hk:putK d s none ⟨σ.fr,hp',n',σ.N,σ.gs⟩ r K) (h:Sim C E σ a w)
 (hst:ZG w w' (okS C E σ.hp) (okS C E' hp')) (hE:∀ k,k < σ.n->Ele E E' k k) (hn:σ.n<=n') (hh:HSim C E' hp' (ltn n') w') (hR:R w' E' (ltn n') (okS C E' hp') s y)
 (hnext:∀ σ' E' a' w',r σ' K->Sim C E' σ' a' w'->next a' w'):next (a.put d y) w':=by
 rcases UG hk with ⟨g1,g2⟩ | ⟨t,g1,g2,g3,g4,g5⟩
 . rw [g1];exact hnext _ E' _ _ g2 (Yv (σ:=σ) h hst hE hn hh)
 . rw [g1]
   exact hnext _ E' _ _ g5 (XM (σ:=σ) h hst hE hn hh g2 g3 (fun j b u e=>by rw [e] at g4;cases g4) hR)
theorem WT {d:Option Nat} {s:SV} {r:KT} {K:RK} {y:Value} {next:Act->World->Prop} (hk:putK d s none σ r K) (h:Sim C E σ a w) (hR:R w E (ltn σ.n) (okS C E σ.hp) s y)
 (hnext:∀ σ' E' a' w',r σ' K->Sim C E' σ' a' w'->next a' w'):next (a.put d y) w :=
 ZqY (hp':=σ.hp) (n':=σ.n) hk h (fun b hb _=>⟨hb,rfl⟩) (fun _ _=>Ele.rfl) (Nat.le_refl _) h.hs hR hnext
theorem Zkc {K':Type} [DecidableEq K'] {kt:TypeId} {key:K'->Value} {sv:K'->SV} (hK:KeyT P kt key sv) (k:K'):∀ j b u,sv k≠.gd j b u:=fun j b u e=>by
 have:=(hK.svR (w:=default) (E:=⟨fun _=>0,fun _ _=>undef,fun _=>0⟩) (n:=fun _=>True) (ok:=fun _=>True) k (key k)).2 rfl
 rw [e] at this;simp only [R] at this
theorem Zdw {hp:List (Nat × HB)} {n:Nat->Prop} {q:Nat} {hb:HB} {o:Obj} (h:HSim C E hp n w) (hq:¬ n q) (hocc:∀ (E:Env) b,occ E q hb b↔b=E.β q)
 (hok:∀ E',(∀ k,n k->Ele E E' k k)->E'.β q=w.heap.size->Z6 (w.alloc o) E' (fun k=>n k\/k=q) (okS C E' ((q,hb) :: hp)) q hb) :
 ∃ E',(∀ k,n k->Ele E E' k k)/\E'.β q=w.heap.size/\HSim C E' ((q,hb) :: hp) (fun k=>n k\/k=q) (w.alloc o)/\ZG w (w.alloc o) (okS C E hp) (okS C E' ((q,hb) :: hp)):=by
 let E':Env:=⟨fun k=>if k=q then w.heap.size else E.β k,E.hv,E.iss⟩
 have hE:∀ k,n k->Ele E E' k k:=fun k hk=>⟨by simp [E',show k≠q from by rintro rfl;exact hq hk],Nat.le_refl _,fun _ _=>rfl⟩
 have hEn:E'.β q=w.heap.size:=by simp [E']
 have hbel:Below w.heap.size w (w.alloc o):=(Below.refl _ _).alloc (Nat.le_refl _) _
 have hoc:∀ j b,j≠q->(occ E' j (lkh j ((q,hb) :: hp)) b↔occ E j (lkh j hp) b):=fun j b hj=>by
  rw [Zt,if_neg hj]
  cases hl:lkh j hp<;>simp only [occ,E',if_neg hj]
 have hocn:∀ b,occ E' q (lkh q ((q,hb) :: hp)) b↔b=w.heap.size:=fun b=>by
  rw [Zt,if_pos rfl,hocc,hEn]
 have hlt:∀ b,b < w.heap.size->(okS C E' ((q,hb) :: hp) b↔okS C E hp b):=fun b hb'=>by
  unfold okS
  constructor
  . rintro ⟨h1,h2⟩
    refine ⟨h1,fun j hj=>?_⟩
    by_cases hjn:j=q
    . subst hjn;rw [h.kn j hq] at hj;exact hj
    . exact h2 j ((hoc j b hjn).2 hj)
  . rintro ⟨h1,h2⟩
    refine ⟨h1,fun j hj=>?_⟩
    by_cases hjn:j=q
    . subst hjn;rw [hocn] at hj;omega
    . exact h2 j ((hoc j b hjn).1 hj)
 have hst:ZG w (w.alloc o) (okS C E hp) (okS C E' ((q,hb) :: hp)):=fun b hb' hs=>by
  have hlt':b < w.heap.size:=by
   obtain ⟨o,ho⟩:=Option.isSome_iff_exists.1 hs
   exact (Array.getElem?_eq_some_iff.1 ho).1
  exact ⟨(hlt b hlt').2 hb',hbel.block b hlt'⟩
 refine ⟨E',hE,hEn,⟨fun j hj=>?_,fun j=>?_,fun j j' b h1 h2=>?_,fun j b h1=>?_,WS h.kp hbel,fun k hk=>(by obtain ⟨p1,p2⟩:=h.pin k hk;exact ⟨.inl p1,p2.trans (hE k p1)⟩)⟩,hst⟩
 . rw [Zt,if_neg (fun e=>hj (.inr e))];exact h.kn j (fun e=>hj (.inl e))
 . rw [Zt]
   by_cases hj:j=q
   . subst hj;rw [if_pos rfl]
     exact hok E' hE hEn
   . rw [if_neg hj]
     refine YJ hst hE (fun _ h=>.inl h) ?_ (fun b ho=>hbel.block b (Yz h ho)) (by simp [E',hj]) (h.bk j)
     rcases Classical.em (n j) with h' | h'
     . exact .inr h'
     . exact .inl (h.kn j h')
 . by_cases hj:j=q<;>by_cases hj':j'=q
   . omega
   . subst hj;rw [hocn] at h1;rw [hoc j' b hj'] at h2;have:=Yz h h2;omega
   . subst hj';rw [hocn] at h2;rw [hoc j b hj] at h1;have:=Yz h h1;omega
   . exact h.dj j j' b ((hoc j b hj).1 h1) ((hoc j' b hj').1 h2)
 . by_cases hj:j=q
   . subst hj;rw [hocn] at h1;exact .inl (by rw [h1];exact h.kp.size)
   . exact h.lo j b ((hoc j b hj).1 h1)
end
section
variable {P:Program} {K' V:Type} [DecidableEq K'] {key:K'->Value} {sv:K'->SV} {val:V->SV} {L:List (Nat × K' × V)} {km c:Nat} {kt et t ty:TypeId} {mx ix vx:Operand} {σ : St} {r:KT} {K:RK} {d:Option Nat} {k:K'}
theorem ZbK {u:Nat} {rs:Option Operand} (hr:rs=none) (h1:memb u σ.gs=false) (h2:Nat.blt u σ.N=true) (h:r ⟨(u,.mp σ.n) :: σ.fr,(σ.n,.map [] 0) :: σ.hp,σ.n+1,σ.N,σ.gs⟩ K) :
 RAW P (some u) (.makeMap t rs) ty σ r K:=by
 subst hr
 intro o C E a w next Q e1 e2 e3 hS hn hq
 obtain ⟨E',k1,k2,k3,k4⟩:=Zdw (q:=σ.n) (hb:=.map [] 0) (o:=.map #[] 0) hS.hs (by simp [ltn]) (fun E b=>by simp only [occ]) (fun E' g1 g2=>by
  simp only [Z6,g2];exact ⟨#[],heap_alloc_new _ _,rfl⟩)
 have hV:(fun k=>ltn σ.n k\/k = σ.n)=ltn (σ.n+1):=by funext k;simp only [ltn,eq_iff_iff];omega
 rw [hV] at k3
 have hx:(execOp a.eval o).run P w = .ok (.value (.map (some w.heap.size))) (w.alloc (.map #[] 0)):=by
  obtain ⟨dst',op',ty',pos,after,guard⟩:=o
  simp only at e2;subst e2
  simp [execOp,Sem.run_bind,Instr.makeMap,Zc4,Sem.run_pure]
 refine ZD hx (by simp) ?_
 show next (a.put o.dst _) _
 rw [e1]
 refine hn _ E' _ _ h (XM hS k4 k1 (by omega) k3 (fun hh=>?_) (by simpa [Nat.blt_eq] using h2) (fun _ _ _ e=>by cases e) ?_)
 . rw [ZV.2 hh] at h1;cases h1
 . simp only [R,k2];exact ⟨by simp [ltn],trivial⟩
theorem ZaM {ok:Bool} {zs:SV} {z:Value} (hm:Za0 σ mx = .mp km) (hh:lkh km σ.hp = .map (mpS key val L) c) (ht:P.underlying t=some (.map kt et)) (hK:KeyT P kt key sv) (hi:Za0 σ ix=sv k)
 (hz:Y1 P et=some z) (hzR:∀ w E n ok,R w E n ok zs z)
 (h1:∀ v,Xy k L=some v->putK d (bif ok then .tup [val v,.v (.bool true)] else val v) none σ r K) (h0:Xy k L=none->putK d (bif ok then .tup [zs,.v (.bool false)] else zs) none σ r K) :
 RAW P d (.lookup t mx ix ok) ty σ r K:=by
 intro o C E a w next Q e1 e2 e3 hS hn hq
 have hmv:=VD hS hm (fun _ _ _=>by simp)
 have hiv:=(hK.svR k _).1 (VD hS hi (Zkc hK k))
 simp only [R] at hmv
 obtain ⟨g0,ys,g1,g2⟩:=U3 hS hh
 have hfn:=fun w=>hK.fnd k _ _ w (Zbq g2)
 have hex:∀ y,(Instr.lookup t (a.eval mx) (a.eval ix) ok).run P w = .ok y w->(execOp a.eval o).run P w = .ok (.value y) w:=fun y hy=>by
  obtain ⟨dst',op',ty',pos,after,guard⟩:=o
  simp only at e2;subst e2
  simp only [execOp,Sem.run_bind,hy,Result.andThen_ok,Sem.run_pure]
 rcases ZaW (w:=w) (E:=E) (n:=ltn σ.n) (ok:=okS C E σ.hp) k L ys.toList 0 g2 with ⟨a1,a2,-,-⟩ | ⟨j,v,e,b1,b2,b3,b4,b5,-⟩
 . have hrun:(Instr.lookup t (a.eval mx) (a.eval ix) ok).run P w = .ok (if ok then .tuple #[z,.bool false] else z) w:=by
    rw [hmv.2,hiv]
    simp only [Instr.lookup,Sem.run_bind,run_underlying ht,Result.andThen_ok,Yi g1 rfl,Sem.run_pure,hK.chk,hfn,a2,Vw hz]
   refine ZD (hex _ hrun) (by simp) ?_
   show next (a.put o.dst _) _
   rw [e1]
   refine WT (h0 a1) hS ?_ hn
   cases ok
   . exact hzR _ _ _ _
   . simp only [cond_true,if_true,R,RL];exact ⟨_,rfl,_,_,rfl,hzR _ _ _ _,_,_,rfl,rfl,rfl⟩
 . have hrun:(Instr.lookup t (a.eval mx) (a.eval ix) ok).run P w = .ok (if ok then .tuple #[e.val,.bool true] else e.val) w:=by
    rw [hmv.2,hiv]
    simp only [Instr.lookup,Sem.run_bind,run_underlying ht,Result.andThen_ok,Yi g1 rfl,Sem.run_pure,hK.chk,hfn,b2]
   refine ZD (hex _ hrun) (by simp) ?_
   show next (a.put o.dst _) _
   rw [e1]
   refine WT (h1 v b1) hS ?_ hn
   cases ok
   . exact b5
   . simp only [cond_true,if_true,R,RL];exact ⟨_,rfl,_,_,rfl,b5,_,_,rfl,rfl,rfl⟩
theorem Zpi {v:V} {s:SV} {ins:Bool} (hm:Za0 σ mx = .mp km) (hh:lkh km σ.hp = .map (mpS key val L) c) (ht:P.underlying t=some (.map kt et)) (hK:KeyT P kt key sv) (hi:Za0 σ ix=sv k)
 (hv:Za0 σ vx=s) (hvg:∀ j b u,s≠.gd j b u) (hsv:∀ w E n ok y,R w E n ok s y->R w E n ok (val v) y) (h:r ⟨σ.fr,(km,.map (mpS key val (V1 c k v L)) (ZbR c k L)) :: σ.hp,σ.n,σ.N,σ.gs⟩ K) :
 RAW P none (bif ins then .insert t mx ix vx else .mapUpdate t mx ix vx) ty σ r K:=by
 intro o C E a w next Q e1 e2 e3 hS hn hq
 have hmv:=VD hS hm (fun _ _ _=>by simp)
 have hiv:=(hK.svR k _).1 (VD hS hi (Zkc hK k))
 have hvv:=hsv _ _ _ _ _ (VD hS hv hvg)
 simp only [R] at hmv
 obtain ⟨g0,ys,g1,g2⟩:=U3 hS hh
 have hfn:=fun w=>hK.fnd k _ _ w (Zbq g2)
 have hex:∀ w',(Instr.mapUpdate t (a.eval mx) (a.eval ix) (a.eval vx)).run P w = .ok () w'->(execOp a.eval o).run P w = .ok .skip w':=fun w' hy=>by
  obtain ⟨dst',op',ty',pos,after,guard⟩:=o
  simp only at e2;subst e2
  cases ins<;>simp only [cond_true,cond_false,execOp,Sem.run_bind,hy,Result.andThen_ok,Sem.run_pure]
 have hfin:∀ ys',((ys':Array MapEntry),ZbR c k L)=(ys',ZbR c k L)->(∀ {w':World} {ok':Nat->Prop},RM w' E (ltn σ.n) ok' (mpS key val L) ys.toList->R w' E (ltn σ.n) ok' (val v) (a.eval vx)->RM w' E (ltn σ.n) ok' (mpS key val (V1 c k v L)) ys'.toList) ->
  next (a.put o.dst undef) (VZ w (E.β km) (.map ys' (ZbR c k L))):=fun ys' _ hRM=>by
  obtain ⟨q1,q2⟩:=WJ (k:=km) (hb:=.map (mpS key val (V1 c k v L)) (ZbR c k L)) (o:=.map ys' (ZbR c k L)) hS.hs (fun b=>by rw [hh];simp only [occ]) (fun b=>by simp only [occ]) (fun hlt hst=>by
   simp only [Z6]
   exact ⟨ys',XU hlt,hRM (Zbs hst.c (fun _ _=>Ele.rfl) (fun _ h=>h) _ _ g2) (ZQ hst.c (fun _ _=>Ele.rfl) (fun _ h=>h) _ _ hvv)⟩)
  rw [e1]
  exact hn _ E _ _ h (Yv hS q2 (fun _ _=>Ele.rfl) (Nat.le_refl _) q1)
 rcases ZaW (w:=w) (E:=E) (n:=ltn σ.n) (ok:=okS C E σ.hp) k L ys.toList 0 g2 with ⟨a1,a2,-,a4⟩ | ⟨j,v0,e,b1,b2,b3,b4,b5,b6⟩
 . have hc:ZbR c k L=c+1:=by simp [ZbR,a1]
   have hrun:(Instr.mapUpdate t (a.eval mx) (a.eval ix) (a.eval vx)).run P w = .ok () (VZ w (E.β km) (.map (ys.push ⟨key k,a.eval vx,c⟩) (c+1))):=by
    rw [hmv.2,hiv]
    simp only [Instr.mapUpdate,Sem.run_bind,run_underlying ht,Result.andThen_ok,Yi g1 rfl,Sem.run_pure,hK.chk,hfn,a2,YS _ g1 rfl]
   refine ZD (hex _ hrun) (by simp) ?_
   show next (a.put o.dst undef) _
   rw [<- hc]
   exact hfin _ rfl fun h1 h2=>by rw [Array.toList_push];exact a4 c v _ h2 h1
 . have hc:ZbR c k L=c:=by simp [ZbR,b1]
   rw [Nat.zero_add] at b2
   have hek:((ys[j]?).map (·.key)).getD (key k)=key k:=by
    have:ys[j]? = some e:=by simpa using b3
    simp [this,b4]
   have hrun:(Instr.mapUpdate t (a.eval mx) (a.eval ix) (a.eval vx)).run P w = .ok () (VZ w (E.β km) (.map (ys.modify j fun e=>{ e with key:=key k,val:=a.eval vx }) c)):=by
    rw [hmv.2,hiv]
    simp only [Instr.mapUpdate,Sem.run_bind,run_underlying ht,Result.andThen_ok,Yi g1 rfl,Sem.run_pure,hK.chk,hfn,b2,hek,Instr.keyThatStays,hK.same,if_true,YS _ g1 rfl]
   refine ZD (hex _ hrun) (by simp) ?_
   show next (a.put o.dst undef) _
   have:=hfin (ys.modify j fun e=>{ e with key:=key k,val:=a.eval vx }) rfl fun {w' ok'} h1 h2=>by
    rw [Array.toList_modify];exact (b6 h1).2 c v _ h2
   rw [hc] at this;exact this
theorem ZbD {v:V} {ins:Bool} (hm:Za0 σ mx = .mp km) (hh:lkh km σ.hp = .map (mpS key val L) c) (ht:P.underlying t=some (.map kt et)) (hK:KeyT P kt key sv) (hi:Za0 σ ix=sv k)
 (hv:Za0 σ vx=val v) (hvg:∀ j b u,val v≠.gd j b u) (h:r ⟨σ.fr,(km,.map (mpS key val (V1 c k v L)) (ZbR c k L)) :: σ.hp,σ.n,σ.N,σ.gs⟩ K) :
 RAW P none (bif ins then .insert t mx ix vx else .mapUpdate t mx ix vx) ty σ r K:=Zpi hm hh ht hK hi hv hvg (fun _ _ _ _ _ h=>h) h
theorem Zuc (hm:Za0 σ mx = .mp km) (hh:lkh km σ.hp = .map (mpS key val L) c) (ht:P.underlying t=some (.map kt et)) (hK:KeyT P kt key sv) (hi:Za0 σ ix=sv k) {ats:Array TypeId} (ha:ats[0]? = some t)
 (h:r ⟨σ.fr,(km,.map (mpS key val (Ug k L)) c) :: σ.hp,σ.n,σ.N,σ.gs⟩ K) :
 RAW P none (.call { callee:=.builtin .delete,args:=#[mx,ix],argTypes:=ats }) ty σ r K:=by
 intro o C E a w next Q e1 e2 e3 hS hn hq
 have hmv:=VD hS hm (fun _ _ _=>by simp)
 have hiv:=(hK.svR k _).1 (VD hS hi (Zkc hK k))
 simp only [R] at hmv
 obtain ⟨g0,ys,g1,g2⟩:=U3 hS hh
 have hfn:=fun w=>hK.fnd k _ _ w (Zbq g2)
 have hex:∀ w',(Builtin.delete_ ats ty #[a.eval mx,a.eval ix]).run P w = .ok (.tuple #[]) w'->(execOp a.eval o).run P w = .ok (.value (.tuple #[])) w':=fun w' hy=>by
  obtain ⟨dst',op',ty',pos,after,guard⟩:=o
  simp only at e2 e3;subst e2;subst e3
  simp [execOp,resolve,invoke,builtin,hy]
 have hfin:∀ ys':Array MapEntry,(∀ {w':World} {ok':Nat->Prop},RM w' E (ltn σ.n) ok' (mpS key val L) ys.toList->RM w' E (ltn σ.n) ok' (mpS key val (Ug k L)) ys'.toList) ->
  next (a.put o.dst (.tuple #[])) (VZ w (E.β km) (.map ys' c)):=fun ys' hRM=>by
  obtain ⟨q1,q2⟩:=WJ (k:=km) (hb:=.map (mpS key val (Ug k L)) c) (o:=.map ys' c) hS.hs (fun b=>by rw [hh];simp only [occ]) (fun b=>by simp only [occ]) (fun hlt hst=>by
   simp only [Z6]
   exact ⟨ys',XU hlt,hRM (Zbs hst.c (fun _ _=>Ele.rfl) (fun _ h=>h) _ _ g2)⟩)
  rw [e1]
  exact hn _ E _ _ h (Yv hS q2 (fun _ _=>Ele.rfl) (Nat.le_refl _) q1)
 rcases ZaW (w:=w) (E:=E) (n:=ltn σ.n) (ok:=okS C E σ.hp) k L ys.toList 0 g2 with ⟨a1,a2,a3,-⟩ | ⟨j,v0,e,b1,b2,b3,b4,b5,b6⟩
 . have hrun:(Builtin.delete_ ats ty #[a.eval mx,a.eval ix]).run P w = .ok (.tuple #[]) (VZ w (E.β km) (.map ys c)):=by
    rw [hmv.2,hiv]
    simp [Builtin.delete_,Sem.run_bind,ha,run_underlying ht,Result.andThen_ok,Yi g1 rfl,Sem.run_pure,hK.chk,hfn,a2,YS _ g1 rfl]
   refine ZD (hex _ hrun) (by simp) ?_
   show next (a.put o.dst _) _
   exact hfin _ fun h1=>by rw [a3];exact h1
 . rw [Nat.zero_add] at b2
   have hlt:j < ys.size:=by
    have:ys[j]? = some e:=by simpa using b3
    exact (Array.getElem?_eq_some_iff.1 this).1
   have hrun:(Builtin.delete_ ats ty #[a.eval mx,a.eval ix]).run P w = .ok (.tuple #[]) (VZ w (E.β km) (.map (ys.eraseIdxIfInBounds j) c)):=by
    rw [hmv.2,hiv]
    simp [Builtin.delete_,Sem.run_bind,ha,run_underlying ht,Result.andThen_ok,Yi g1 rfl,Sem.run_pure,hK.chk,hfn,b2,YS _ g1 rfl]
   refine ZD (hex _ hrun) (by simp) ?_
   show next (a.put o.dst _) _
   exact hfin _ fun {w' ok'} h1=>by
    have:(ys.eraseIdxIfInBounds j).toList=ys.toList.eraseIdx j:=by simp [Array.eraseIdxIfInBounds,hlt]
    rw [this];exact (b6 h1).1
theorem ZoY {es:List (Nat × Value × SV)} (hm:Za0 σ mx = .mp km) (hh:lkh km σ.hp = .map es c) (ht:P.underlying t=some (.map kt et)) {ats:Array TypeId} (ha:ats[0]? = some t)
 (h:putK d (.v (.int .i64 es.length)) none σ r K):RAW P d (.call { callee:=.builtin .len,args:=#[mx],argTypes:=ats }) ty σ r K:=by
 intro o C E a w next Q e1 e2 e3 hS hn hq
 have hmv:=VD hS hm (fun _ _ _=>by simp)
 simp only [R] at hmv
 obtain ⟨g0,ys,g1,g2⟩:=U3 hS hh
 have hl:=Zrp g2
 have hrun:(Builtin.len_ ats ty #[a.eval mx]).run P w = .ok (.int .i64 es.length) w:=by
  rw [hmv.2]
  simp [Builtin.len_,Sem.run_bind,ha,run_underlying ht,Result.andThen_ok,Yi g1 rfl,Sem.run_pure,goInt,<- hl]
 have hx:(execOp a.eval o).run P w = .ok (.value (.int .i64 es.length)) w:=by
  obtain ⟨dst',op',ty',pos,after,guard⟩:=o
  simp only at e2 e3;subst e2;subst e3
  simp [execOp,resolve,invoke,builtin,hrun]
 refine ZD hx (by simp) ?_
 show next (a.put o.dst _) _
 rw [e1]
 exact WT h hS (by simp only [R]) hn
theorem Zkb {u:Nat} {es:List (Nat × Value × SV)} (hm:Za0 σ mx = .mp km) (hh:lkh km σ.hp = .map es c) (ht:P.underlying t=some (.map kt et)) (h1:memb u σ.gs=false) (h2:Nat.blt u σ.N=true)
 (h:r ⟨(u,.p σ.n 0) :: σ.fr,(σ.n,.it km c [] c) :: σ.hp,σ.n+1,σ.N,σ.gs⟩ K):RAW P (some u) (.range t mx) ty σ r K:=by
 intro o C E a w next Q e1 e2 e3 hS hn hq
 have hmv:=VD hS hm (fun _ _ _=>by simp)
 simp only [R] at hmv
 obtain ⟨g0,ys,g1,g2⟩:=U3 hS hh
 obtain ⟨E',k1,k2,k3,k4⟩:=Zdw (q:=σ.n) (hb:=.it km c [] c) (o:=.mapIter (some (E.β km)) c #[] c) hS.hs (by simp [ltn]) (fun E b=>by simp only [occ]) (fun E' q1 q2=>by
  simp only [Z6,q2];exact ⟨.inl g0,by rw [(q1 km g0).1];exact heap_alloc_new _ _⟩)
 have hV:(fun k=>ltn σ.n k\/k = σ.n)=ltn (σ.n+1):=by funext k;simp only [ltn,eq_iff_iff];omega
 rw [hV] at k3
 have hx:(execOp a.eval o).run P w = .ok (.value (.pointer (some ⟨w.heap.size,0,none⟩))) (w.alloc (.mapIter (some (E.β km)) c #[] c)):=by
  obtain ⟨dst',op',ty',pos,after,guard⟩:=o
  simp only at e2;subst e2
  simp only [execOp,hmv.2]
  simp [Sem.run_bind,Instr.range,run_underlying ht,Yi g1 rfl,Zc4,Sem.run_pure]
 refine ZD hx (by simp) ?_
 show next (a.put o.dst _) _
 rw [e1]
 refine hn _ E' _ _ h (XM hS k4 k1 (by omega) k3 (fun hh=>?_) (by simpa [Nat.blt_eq] using h2) (fun _ _ _ e=>by cases e) ?_)
 . rw [ZV.2 hh] at h1;cases h1
 . simp only [R,k2];exact ⟨by simp [ltn],trivial⟩
theorem ZhT (w:World) (ty:TypeId) (rr bm since last:Nat) (seen:Array Nat) (es:Array MapEntry) (clock:Nat)
 (hr:w.heap[rr]? = some (.mapIter (some bm) since seen last)) (hb:w.heap[bm]? = some (.map es clock)) (hold:∀ x ∈ es.toList,x.born < since) (hsc:since<=last) :
 ((∀ x ∈ es.toList,seen.contains x.born=true)/\(Instr.next (.pointer (some ⟨rr,0,none⟩)) false ty).run P w = .ok (.tuple #[.bool false]) w) \/
 ∃ e ∈ es.toList,seen.contains e.born=false/\∃ k,(Instr.next (.pointer (some ⟨rr,0,none⟩)) false ty).run P w = .ok (.tuple #[.bool true,e.key,e.val]) (VZ { w with drawn:=k } rr (.mapIter (some bm) since (seen.push e.born) clock)):=by
 have htest:(!seen.isEmpty && !es.isEmpty && es.all (fun x=>decide (x.born ≥ last)))=false:=by
  rw [Bool.eq_false_iff]
  intro hh
  simp only [Bool.and_eq_true,Bool.not_eq_true'] at hh
  obtain ⟨⟨-,h2⟩,h3⟩:=hh
  have h0:0 < es.size:=by
   rcases Nat.eq_zero_or_pos es.size with h0 | h0
   . simp [Array.isEmpty,h0] at h2
   . exact h0
  rw [Array.all_eq_true_iff_forall_mem] at h3
  have h4:=h3 _ (Array.getElem_mem h0)
  have h5:=hold es[0] (by simp)
  simp at h4;omega
 have hL:(Array.filter (fun e=>!seen.contains e.born) es).filter (fun x=>decide (x.born < since))=Array.filter (fun e=>!seen.contains e.born) es :=
  Array.filter_eq_self.2 fun x hx=>by
   simp only [Array.mem_filter] at hx;simpa using hold x (by simpa using hx.1)
 have hL2:(Array.filter (fun e=>!seen.contains e.born) es).filter (fun x=>decide (x.born ≥ since)) = #[]:=by
  rw [Array.filter_eq_empty_iff]
  intro x hx
  simp only [Array.mem_filter] at hx
  have:=hold x (by simpa using hx.1)
  simp;omega
 simp only [Instr.next,Sem.run_bind,Yi hr rfl,Yi hb rfl,Result.andThen_ok,htest,Bool.false_eq_true,if_false,hL,hL2,Array.append_empty]
 have hmem:∀ x,x ∈ Array.filter (fun e=>!seen.contains e.born) es↔x ∈ es.toList/\seen.contains x.born=false:=fun x=>by
  simp [Array.mem_filter]
 generalize hF:Array.filter (fun e=>!seen.contains e.born) es=F at hmem ⊢
 by_cases h0:F.size=0
 . left
   have hE:F = #[]:=Array.eq_empty_of_size_eq_zero h0
   subst hE
   refine ⟨fun x hx=>?_,?_⟩
   . cases hc:seen.contains x.born with
     | true=>rfl
     | false=>have:=(hmem x).2 ⟨hx,hc⟩;simp at this
   . simp [choose,Sem.run,Question.forced]
 . right
   have hne:F.isEmpty=false:=by simp [Array.isEmpty,h0]
   simp only [hne,Bool.false_eq_true,if_false,Array.empty_append,Array.size_map]
   have hch:∃ (j:Nat) (k:Nat),j < F.size/\(choose (Question.mapNext F.size)).run P w = .ok j { w with drawn:=k }:=by
    by_cases hf:F.size<=1
    . exact ⟨0,w.drawn,by omega,by simp [choose,Sem.run,Question.forced,hf]⟩
    . exact ⟨_,w.drawn+1,Nat.mod_lt _ (by omega),by
       simp only [choose,Sem.run,Question.forced,decide_eq_true_eq,hf,if_false,Question.cut]
       rfl⟩
   obtain ⟨j,k,hj,hrun⟩:=hch
   have hm:=(hmem F[j]).1 (Array.getElem_mem hj)
   refine ⟨F[j],hm.1,hm.2,k,?_⟩
   have hr1:({ w with drawn:=k }:World).heap[rr]? = some (.mapIter (some bm) since seen last):=hr
   simp only [hrun,Array.getElem?_map,Array.getElem?_eq_getElem hj,Option.map_some,Sem.run_bind,Result.andThen_ok,YS _ hr1 rfl,Sem.run_pure]
theorem Zp9 {q since last:Nat} {seen:List Nat} (hm:Za0 σ mx = .p q 0) (hq:lkh q σ.hp = .it km since seen last) (hh:lkh km σ.hp = .map (mpS key val L) c) (hold:∀ e ∈ L,e.1 < since) (hsc:since<=last) (hK:KeyT P kt key sv)
 (h0:(∀ e ∈ L,e.1 ∈ seen)->putK d (.tup [.v (.bool false)]) none σ r K)
 (h1:∀ e ∈ L,e.1 ∉ seen->putK d (.tup [.v (.bool true),sv e.2.1,val e.2.2]) none ⟨σ.fr,(q,.it km since (seen ++ [e.1]) c) :: σ.hp,σ.n,σ.N,σ.gs⟩ r K) :
 RAW P d (.next mx false) ty σ r K:=by
 intro o C E a w next Q e1 e2 e3 hS hn _
 have hmv:=VD hS hm (fun _ _ _=>by simp)
 simp only [R] at hmv
 obtain ⟨g0,ys,g1,g2⟩:=U3 hS hh
 have hb:=hS.hs.bk q
 rw [hq] at hb
 obtain ⟨-,hit⟩:=hb
 have hex:∀ y w',(Instr.next (a.eval mx) false ty).run P w = .ok y w'->(execOp a.eval o).run P w = .ok (.value y) w':=fun y w' hy=>by
  obtain ⟨dst',op',ty',pos,after,guard⟩:=o
  simp only at e2 e3;subst e2;subst e3
  simp only [execOp,Sem.run_bind,hy,Result.andThen_ok,Sem.run_pure]
 rw [hmv.2] at hex
 rcases ZhT (P:=P) w ty (E.β q) (E.β km) since last seen.toArray ys c hit g1 (fun x hx=>by
  obtain ⟨z,hz,z1,z2,z3⟩:=ZhB g2 x hx
  obtain ⟨e,he,rfl⟩:=List.mem_map.1 hz
  rw [z1];exact hold e he) hsc with ⟨k1,k2⟩ | ⟨e,k1,k2,k,k3⟩
 . refine ZD (hex _ _ k2) (by simp) ?_
   show next (a.put o.dst _) _
   rw [e1]
   refine WT (h0 fun e he=>?_) hS (by simp only [R,RL];exact ⟨_,rfl,_,_,rfl,rfl,rfl⟩) hn
   obtain ⟨y,hy,hyb⟩:=Zis g2 (e.1,key e.2.1,val e.2.2) (List.mem_map.2 ⟨e,he,rfl⟩)
   have:=k1 y hy
   rw [hyb] at this
   simpa using this
 . refine ZD (hex _ _ k3) (by simp) ?_
   show next (a.put o.dst _) _
   obtain ⟨z,hz,z1,z2,z3⟩:=ZhB g2 e k1
   obtain ⟨x,hx,rfl⟩:=List.mem_map.1 hz
   simp only at z1 z2 z3
   have hS':=Zdk hS k
   have hqn:ltn σ.n q:=by
    rcases Classical.em (ltn σ.n q) with h | h
    . exact h
    . rw [hS.hs.kn q h] at hq;cases hq
   obtain ⟨q1,q2⟩:=WJ (k:=q) (hb:=.it km since (seen ++ [x.1]) c) (o:=.mapIter (some (E.β km)) since (seen.toArray.push e.born) c) hS'.hs (fun b=>by rw [hq];simp only [occ]) (fun b=>by simp only [occ]) (fun hlt hst=>by
    simp only [Z6]
    refine ⟨g0,?_⟩
    rw [z1]
    have:(seen ++ [x.1]).toArray=seen.toArray.push x.1:=by simp
    rw [this]
    exact XU hlt)
   rw [e1]
   refine ZqY (h1 x hx (by rw [z1] at k2;simpa using k2)) hS' q2 (fun _ _=>Ele.rfl) (Nat.le_refl _) q1 ?_ hn
   simp only [R,RL]
   have e4:=(hK.svR (w:=VZ { w with drawn:=k } (E.β q) (.mapIter (some (E.β km)) since (seen.toArray.push e.born) c)) (E:=E) (n:=ltn σ.n) (ok:=okS C E ((q,.it km since (seen ++ [x.1]) c) :: σ.hp)) x.2.1 e.key).2 z2
   have z4:R { w with drawn:=k } E (ltn σ.n) (okS C E σ.hp) (val x.2.2) e.val:=ZQ (w:=w) (w':={ w with drawn:=k }) (ok:=okS C E σ.hp) (fun b hb _=>⟨hb,rfl⟩) (fun _ _=>Ele.rfl) (fun _ h=>h) _ _ z3
   exact ⟨_,rfl,_,_,rfl,rfl,_,_,rfl,e4,_,_,rfl,ZQ q2.c (fun _ _=>Ele.rfl) (fun _ h=>h) _ _ z4,rfl⟩
theorem ZjX {q since:Nat} {seen:List Nat} {e:Nat × K' × V} (hm:Za0 σ mx = .p q 0) (hq:lkh q σ.hp = .it km since (seen ++ [e.1]) c) (hh:lkh km σ.hp = .map (mpS key val L) c) (he:e ∈ L) (hn:(L.map (·.1)).Nodup) (hK:KeyT P kt key sv)
 (hk:putK d (.tup [sv e.2.1,val e.2.2]) none σ r K):RAW P d (.entry mx) ty σ r K:=by
 intro o C E a w next Q e1 e2 e3 hS hnx _
 have hmv:=VD hS hm (fun _ _ _=>by simp)
 simp only [R] at hmv
 obtain ⟨g0,ys,g1,g2⟩:=U3 hS hh
 have hb:=hS.hs.bk q
 rw [hq] at hb
 obtain ⟨-,hit⟩:=hb
 have hfind:∀ (L:List (Nat × K' × V)) (ys:List MapEntry),RM w E (ltn σ.n) (okS C E σ.hp) (mpS key val L) ys->e ∈ L->(L.map (·.1)).Nodup->∃ y,ys.find? (·.born == e.1)=some y/\y.key=key e.2.1/\R w E (ltn σ.n) (okS C E σ.hp) (val e.2.2) y.val:=by
  intro L
  induction L with
  | nil=>intro ys _ he;cases he
  | cons x l ih =>
   intro ys h he hn
   simp only [mpS,List.map_cons,RM] at h
   obtain ⟨y,r,rfl,h1,h2⟩:=h
   simp only [List.map_cons,List.nodup_cons] at hn
   rcases List.mem_cons.1 he with rfl | he
   . exact ⟨⟨key e.2.1,y,e.1⟩,by simp,rfl,h1⟩
   . obtain ⟨y',q1,q2⟩:=ih r h2 he hn.2
     refine ⟨y',?_,q2⟩
     have:x.1≠e.1:=fun hx=>hn.1 (hx ▸ List.mem_map.2 ⟨e,he,rfl⟩)
     simp [this,q1]
 obtain ⟨y,f1,f2,f3⟩:=hfind L ys.toList g2 he hn
 have f1':ys.find? (·.born == e.1)=some y:=by rw [<- Array.find?_toList];exact f1
 have hrun:(Instr.entry (.pointer (some ⟨E.β q,0,none⟩))).run P w = .ok (.tuple #[y.key,y.val]) w:=by
  have:(seen ++ [e.1]).toArray.back? = some e.1:=by simp
  simp only [Instr.entry,Sem.run_bind,Yi hit rfl,Yi g1 rfl,Result.andThen_ok,this,bne_self_eq_false,Bool.false_eq_true,if_false,f1',Sem.run_pure]
 have hx:(execOp a.eval o).run P w = .ok (.value (.tuple #[y.key,y.val])) w:=by
  obtain ⟨dst',op',ty',pos,after,guard⟩:=o
  simp only at e2;subst e2
  simp only [execOp,Sem.run_bind,hmv.2,hrun,Result.andThen_ok,Sem.run_pure]
 refine ZD hx (by simp) ?_
 show next (a.put o.dst _) _
 rw [e1]
 refine WT hk hS ?_ hnx
 simp only [R,RL]
 exact ⟨_,rfl,_,_,rfl,(hK.svR _ _).2 f2,_,_,rfl,f3,rfl⟩
end
section
variable {K V:Type} [DecidableEq K] {k k':K} {v:V} {c:Nat} {L:List (Nat × K × V)}
structure MW (L:List (Nat × K × V)) (c:Nat):Prop where
 bn:(L.map (·.1)).Nodup
 bl:∀ e ∈ L,e.1 < c
 kn:(L.map (·.2.1)).Nodup
omit [DecidableEq K] in
theorem MW.nil {c:Nat}:MW ([]:List (Nat × K × V)) c:=⟨List.nodup_nil,(fun e h=>by cases h),List.nodup_nil⟩
theorem Ze4:∀ {L:List (Nat × K × V)},Xy k L=some v->∃ b,(b,k,v) ∈ L
 | [],h=>by cases h
 | e :: l,h=>by
  simp only [Xy] at h
  split at h
  . rename_i hk;cases h;subst hk;exact ⟨e.1,by simp⟩
  . obtain ⟨b,hb⟩:=Ze4 h;exact ⟨b,by simp [hb]⟩
theorem Xp:∀ {L:List (Nat × K × V)},Xy k L=none↔∀ e ∈ L,e.2.1≠k
 | []=>by simp [Xy]
 | e :: l=>by
  simp only [Xy]
  split
  . rename_i hk;simp [hk]
  . rename_i hk;rw [Xp];simp [hk]
theorem Zh9:∀ {L:List (Nat × K × V)} {e:Nat × K × V},(L.map (·.2.1)).Nodup->e ∈ L->Xy e.2.1 L=some e.2.2
 | x :: l,e,hn,he=>by
  simp only [List.map_cons,List.nodup_cons] at hn
  simp only [Xy]
  rcases List.mem_cons.1 he with rfl | he
  . simp
  . rw [if_neg (fun hx:x.2.1=e.2.1=>hn.1 (by rw [hx];exact List.mem_map.2 ⟨e,he,rfl⟩))]
    exact Zh9 hn.2 he
theorem V5:∀ {L:List (Nat × K × V)},Xy k' (V1 c k v L)=if k'=k then some v else Xy k' L
 | []=>by simp only [V1,Xy];by_cases h:k=k'<;>simp [h,eq_comm]
 | e :: l=>by
  simp only [V1]
  by_cases he:e.2.1=k
  . rw [if_pos he]
    simp only [Xy]
    by_cases hk:k=k'
    . subst hk;simp
    . rw [if_neg hk,if_neg (fun h=>hk h.symm),if_neg (fun h=>hk (he.symm.trans h))]
  . rw [if_neg he]
    simp only [Xy]
    by_cases hk:e.2.1=k'
    . rw [if_pos hk,if_neg (fun h=>he (hk.trans h)),if_pos hk]
    . rw [if_neg hk,if_neg hk,V5]
theorem Zas:∀ {L:List (Nat × K × V)},Xy k L=none->V1 c k v L=L ++ [(c,k,v)]
 | [],_=>rfl
 | e :: l,h=>by
  simp only [Xy] at h
  split at h
  . cases h
  . rename_i he;simp only [V1,if_neg he,Zas h,List.cons_append]
theorem Zfo:∀ {L:List (Nat × K × V)},(Xy k L).isSome->(V1 c k v L).map (fun e=>(e.1,e.2.1))=L.map fun e=>(e.1,e.2.1)
 | [],h=>by simp [Xy] at h
 | e :: l,h=>by
  simp only [Xy] at h
  simp only [V1]
  split
  . rename_i he;simp [he]
  . rename_i he;rw [if_neg he] at h;simp [Zfo h]
theorem MW.set (h:MW L c) (v:V):MW (V1 c k v L) (ZbR c k L):=by
 cases hg:Xy k L with
 | none =>
  have hc:ZbR c k L=c+1:=by simp [ZbR,hg]
  rw [Zas hg,hc]
  have hk:=Xp.1 hg
  refine ⟨?_,fun e he=>?_,?_⟩
  . rw [List.map_append,List.nodup_append]
    refine ⟨h.bn,by simp,fun a ha b hb=>?_⟩
    obtain ⟨e,he,rfl⟩:=List.mem_map.1 ha
    simp only [List.map_cons,List.map_nil,List.mem_singleton] at hb
    have:=h.bl e he;omega
  . rcases List.mem_append.1 he with he | he
    . have:=h.bl e he;omega
    . simp only [List.mem_singleton] at he;subst he;simp
  . rw [List.map_append,List.nodup_append]
    refine ⟨h.kn,by simp,fun a ha b hb=>?_⟩
    obtain ⟨e,he,rfl⟩:=List.mem_map.1 ha
    simp only [List.map_cons,List.map_nil,List.mem_singleton] at hb
    rw [hb];exact hk e he
 | some v0 =>
  have hc:ZbR c k L=c:=by simp [ZbR,hg]
  have hm:=Zfo (c:=c) (v:=v) (k:=k) (L:=L) (by rw [hg];rfl)
  have e1:(V1 c k v L).map (·.1)=L.map (·.1):=by
   have:=congrArg (List.map Prod.fst) hm;simpa [List.map_map,Function.comp_def] using this
  have e2:(V1 c k v L).map (·.2.1)=L.map (·.2.1):=by
   have:=congrArg (List.map Prod.snd) hm;simpa [List.map_map,Function.comp_def] using this
  rw [hc]
  refine ⟨by rw [e1];exact h.bn,fun e he=>?_,by rw [e2];exact h.kn⟩
  have:e.1 ∈ L.map (·.1):=by rw [<- e1];exact List.mem_map.2 ⟨e,he,rfl⟩
  obtain ⟨x,hx,hxe⟩:=List.mem_map.1 this
  rw [<- hxe];exact h.bl x hx
theorem Ut:∀ {L:List (Nat × K × V)},(Ug k L).Sublist L
 | []=>.slnil
 | e :: l=>by
  simp only [Ug]
  split
  . exact List.sublist_cons_self _ _
  . exact Ut.cons_cons _
theorem MW.del (h:MW L c):MW (Ug k L) c:=⟨(Ut.map _).nodup h.bn,fun e he=>h.bl e (Ut.subset he),(Ut.map _).nodup h.kn⟩
theorem ZfJ:∀ {L:List (Nat × K × V)},(L.map (·.2.1)).Nodup->Xy k' (Ug k L)=if k'=k then none else Xy k' L
 | [],_=>by simp [Ug,Xy]
 | e :: l,hn=>by
  simp only [List.map_cons,List.nodup_cons] at hn
  simp only [Ug]
  by_cases he:e.2.1=k
  . rw [if_pos he]
    by_cases hk:k'=k
    . rw [if_pos hk,Xp]
      intro x hx hxe
      exact hn.1 (by rw [he,<- hk,<- hxe];exact List.mem_map.2 ⟨x,hx,rfl⟩)
    . rw [if_neg hk];simp only [Xy];rw [if_neg (fun h=>hk (h.symm.trans he))]
  . rw [if_neg he]
    simp only [Xy]
    by_cases hk:e.2.1=k'
    . rw [if_pos hk,if_pos hk,if_neg (fun h=>he (hk.trans h))]
    . rw [if_neg hk,if_neg hk,ZfJ hn.2]
theorem ZfA:∀ {L:List (Nat × K × V)},(Xy k L).isSome->(Ug k L).length+1=L.length
 | [],h=>by simp [Xy] at h
 | e :: l,h=>by
  simp only [Xy] at h
  simp only [Ug]
  split
  . simp
  . rename_i he;rw [if_neg he] at h;simp [ZfA h]
omit [DecidableEq K] in
theorem Zs {key:K->Value} {val:V->SV}:(∀ e ∈ mpS key val L,KF e.2.2)↔∀ v ∈ L.map (·.2.2),KF (val v):=by
 simp only [mpS,List.mem_map]
 exact ⟨fun h v ⟨e,he,hv⟩=>hv ▸ h _ ⟨e,he,rfl⟩,fun h _ ⟨e,he,hx⟩=>hx ▸ h _ ⟨e,he,rfl⟩⟩
omit [DecidableEq K] in
theorem Zn {key:K->Value} {val:V->SV}:(∀ (a:Nat) (b:Value) (c:SV),(a,b,c) ∈ mpS key val L->KF c)↔∀ v ∈ L.map (·.2.2),KF (val v):=by
 rw [<- Zs (key:=key)]
 exact ⟨fun h e he=>h e.1 e.2.1 e.2.2 he,fun h a b c he=>h _ he⟩
omit [DecidableEq K] in
def ZpA (L:List (Nat × K × V)) (seen:List Nat):Nat:=(L.filter fun e=>!seen.contains e.1).length
omit [DecidableEq K] in
theorem ZpQ {e:Nat × K × V} {seen:List Nat} (he:e ∈ L) (hs:e.1 ∉ seen):ZpA L (seen ++ [e.1]) < ZpA L seen:=by
 unfold ZpA
 have hsub:(L.filter fun x=>!(seen ++ [e.1]).contains x.1)=(L.filter fun x=>!seen.contains x.1).filter fun x=>!(x.1 == e.1):=by
  rw [List.filter_filter]
  congr 1;funext x
  simp only [List.contains_append,Bool.not_or]
  rw [Bool.and_comm]
  congr 1
  simp only [List.contains_cons,List.contains_nil,Bool.or_false]
 rw [hsub]
 refine Nat.lt_of_le_of_ne (List.length_filter_le _ _) fun h=>?_
 have:=List.length_filter_eq_length_iff.1 h e (by simp [he,hs])
 simp at this
end
end Go.Sx
namespace Go.Sx
open Go Go.RowKit
def Y6 (s s':SV):Prop:=∀ (w:World) (E:Env) (n ok:Nat->Prop) (y:Value),R w E n ok s y->R w E n ok s' y
theorem Y6.rfl {s:SV}:Y6 s s:=fun _ _ _ _ _ h=>h
theorem YA {c:Bool} {m:Nat}:Y6 (.v (.slice none 0 0)) (.sl c m []):=fun w E n ok y h=>by
 simp only [R] at h ⊢
 exact ⟨none,0,0,h,by simp,⟨Nat.le_refl _,fun _=>Eq.refl _⟩,by simp,by simp⟩
theorem Zcf {c:Bool} {m:Nat} {xs:List (List SV)}:Y6 (.sl c m xs) (.sl false m xs):=fun w E n ok y h=>by
 simp only [R] at h ⊢
 obtain ⟨a,len,cap,h1,h2,h3,h4,h5⟩:=h
 exact ⟨a,len,cap,h1,h2,⟨h3.1,fun h=>by cases h⟩,h4,h5⟩
theorem X1 {l l':List SV} (h:∀ (w:World) (E:Env) (n ok:Nat->Prop) (ys:List Value),RL w E n ok l ys->RL w E n ok l' ys):Y6 (.tup l) (.tup l'):=fun w E n ok y hy=>by
 simp only [R] at hy ⊢
 obtain ⟨cs,h1,h2⟩:=hy
 exact ⟨cs,h1,h _ _ _ _ _ h2⟩
theorem ZO {s s':SV} {l l':List SV} (h1:Y6 s s') (h2:∀ (w:World) (E:Env) (n ok:Nat->Prop) (ys:List Value),RL w E n ok l ys->RL w E n ok l' ys):∀ (w:World) (E:Env) (n ok:Nat->Prop) (ys:List Value),RL w E n ok (s :: l) ys->RL w E n ok (s' :: l') ys:=fun w E n ok ys h=>by
 simp only [RL] at h ⊢
 obtain ⟨y,r,q1,q2,q3⟩:=h
 exact ⟨y,r,q1,h1 _ _ _ _ _ q2,h2 _ _ _ _ _ q3⟩
def ZlT (rs:List RV) (res:SV):Ex->St->Prop
 | .ex _,_=>False
 | .n,σ=>∃ s,rvR rs σ = some s/\Y6 s res
 | .ret,σ=>∃ s,rvR rs σ = some s/\Y6 s res
 | .pan _,_=>False
theorem ZxG (rs:List RV) (res:SV) (σ : St):ZlT rs res .n σ = ∃ s,rvR rs σ = some s/\Y6 s res:=rfl
theorem Zmo (rs:List RV) (res:SV) (σ : St):ZlT rs res .ret σ = ∃ s,rvR rs σ = some s/\Y6 s res:=rfl
attribute [go_sem] ZxG Zmo
section
variable {P:Program}
theorem Wf {f:FuncId} {fn:Func} {code:Code} {ir:SC} {args:List SV} {res:SV} {rs:List RV} {N:Nat} (hf:P.funcs[f]? = some fn) (hb:fn.body=some code) (hnm:YF P f=true) (hc:XA P ir code=true)
 (hr:We P rs fn.results.toList=true) (hN:fn.ntmps=N) (hA:args.length<=N) (ka:KFL args) (kr:KF res) (h:sx P Y0 0 ir (st0 args N) (ZlT rs res)):Ct P f args res:=by
 refine ⟨hnm,ka,kr,fun w ok vs hR=>?_⟩
 let C:Cx:=⟨w,ok,fun _ _=>False,[],none,E0,0⟩
 have hok:∀ b,ok b->okS C E0 [] b:=fun b hb=>⟨.inl hb,fun _ h=>h⟩
 refine UF (C:=C) (E:=E0) (hp0:=[]) (n0:=0) hf hb hc hN hA rfl rfl ⟨Nat.le_refl _,fun _ _ h=>h.elim⟩
  ⟨fun k _=>rfl,fun k=>trivial,fun k k' b h=>h.elim,fun k b h=>h.elim,⟨rfl,rfl,rfl,Nat.le_refl _,fun _ _ _=>rfl⟩,fun k hk=>absurd hk (Nat.not_lt_zero k)⟩
  (ZE (fun b hb _=>⟨hok b hb,rfl⟩) (fun _ h=>Ele.rfl) (fun _ h=>h.elim) _ _ hR) Za3 h fun e σ hk C' E a w' c1 c2 c3 c4 c5 hs=>?_
 have hpass:∀ k b,¬ C'.pass k b:=fun k b=>by rw [c3];exact fun h=>h
 have hend:(∃ s,rvR rs σ = some s/\Y6 s res)->∃ v,(results fn a.tmps).run P w' = .ok v w'/\∃ y,Ending.returned v = .returned y/\R w' E0 (fun _=>False) (fun b=>ok b\/w.heap.size<=b) res y/\Below w.heap.size w w':=fun ⟨s,hrr,hw⟩=>by
  obtain ⟨v,h1,h2⟩:=Uy (P:=P) (fn:=fn) (a:=a) (w:=w') (E:=E) (n:=ltn σ.n) (ok:=okF C') hrr fun l hl=>Zkt hs hpass rs _ l hr hl
  have hkp:=hs.hs.kp
  have e1:okF C'=fun b=>ok b\/w.heap.size<=b:=by funext b;simp only [okF,c1,c2];rfl
  rw [e1] at h2
  have e0:C'.w0=w:=c1
  refine ⟨v,h1,v,rfl,Zhm res v kr (hw _ _ _ _ _ h2),?_⟩
  have q:=hkp
  exact ⟨by rw [<- e0];exact q.os,by rw [<- e0];exact q.tape,by rw [<- e0];exact q.output,by rw [<- e0];exact q.size,fun b hb=>by rw [<- e0];exact q.block b (by rw [e0];exact hb) (fun k=>hpass k b)⟩
 cases e with
 | ex i=>exact hk.elim
 | pan s=>exact hk.elim
 | n=>exact hend hk
 | ret=>exact hend hk
end
theorem Ct.args {P:Program} {f:FuncId} {args args0:List SV} {res:SV} (h:Ct P f args res) (ka:KFL args0) (hw:∀ (w:World) (E:Env) (n ok:Nat->Prop) (ys:List Value),RL w E n ok args0 ys->RL w E n ok args ys):Ct P f args0 res :=
 ⟨h.1,ka,h.3,fun w ok vs hR=>h.4 w ok vs (hw _ _ _ _ _ hR)⟩
inductive FB where
 | tail (c:SC)
 | seq (a:SC) (b:FB)
 | dfr (ops:List Ins) (mx kx:X) (t:TypeId) (b:FB)
 | rcv (ops:List Ins) (cx:X) (b:FB)
def ZwM (mx kx:X) (t:TypeId) (o:Oper):Bool :=
 match o.op,o.dst,o.guard with
 | .defer c,none,none=>(match c.callee with | .builtin .delete=>true | _=>false) && (match c.args.toList with | [m,k]=>YT mx m && YT kx k | _=>false) && (match c.argTypes[0]? with | some u=>u == t | none=>false)
 | _,_,_=>false
def ZqN (cx:X) (o:Oper):Bool :=
 match o.op,o.dst,o.guard with
 | .defer c,none,none=>(match c.callee with | .value y=>YT cx y | _=>false) && c.args.isEmpty
 | _,_,_=>false
def Zaf (P:Program):FB->Code->Bool
 | .tail c,code=>XA P c code
 | .seq a b,code=>(match code with | .seq x y=>XA P a x && Zaf P b y | _=>false)
 | .dfr ops mx kx t b,code=>(match code with
  | .seq (.region _ os false) y=>U2 P os ops (os.toList.take ops.length) && (match os.toList.drop ops.length with | [o]=>ZwM mx kx t o | _=>false) && Zaf P b y
  | _=>false)
 | .rcv ops cx b,code=>(match code with
  | .seq (.region _ os false) y=>U2 P os ops (os.toList.take ops.length) && (match os.toList.drop ops.length with | [o]=>ZqN cx o | _=>false) && Zaf P b y
  | _=>false)
def Zrw (P:Program) (t:TypeId) (kv:Value) (hb hb':HB):Prop :=
 ∃ (K V:Type) (_:DecidableEq K) (key:K->Value) (val:V->SV) (sv:K->SV) (L:List (Nat × K × V)) (k:K) (kt et:TypeId) (c:Nat),
  hb = .map (mpS key val L) c/\hb' = .map (mpS key val (Ug k L)) c/\kv=key k/\P.underlying t=some (.map kt et)/\KeyT P kt key sv
theorem Zv4 {P:Program} {K V:Type} [DecidableEq K] {t:TypeId} {key:K->Value} {val:V->SV} {sv:K->SV} {L:List (Nat × K × V)} {k:K} {c:Nat} {kt et:TypeId} (ht:P.underlying t=some (.map kt et)) (hK:KeyT P kt key sv) :
 Zrw P t (key k) (.map (mpS key val L) c) (.map (mpS key val (Ug k L)) c):=⟨K,V,inferInstance,key,val,sv,L,k,kt,et,c,rfl,rfl,rfl,ht,hK⟩
def dK (P:Program) (t:TypeId) (km:Nat) (kv:Value) (K:Ex->St->Prop):Ex->St->Prop
 | .n,σ=>∃ hb',Zrw P t kv (lkh km σ.hp) hb'/\K .n ⟨σ.fr,(km,hb') :: σ.hp,σ.n,σ.N,σ.gs⟩
 | .ret,σ=>∃ hb',Zrw P t kv (lkh km σ.hp) hb'/\K .ret ⟨σ.fr,(km,hb') :: σ.hp,σ.n,σ.N,σ.gs⟩
 | _,_=>False
def fxS (f:St->(Ex->St->Prop)->Prop) (K:Ex->St->Prop):Ex->St->Prop
 | .n,σ=>f σ K
 | .ex _,_=>False
 | .ret,σ=>K .ret σ
 | .pan s,σ=>K (.pan s) σ
def mpO:SV->Option Nat
 | .mp k=>some k
 | _=>none
def vO:SV->Option Value
 | .v x=>some x
 | _=>none
def ZwY (P:Program) (t:TypeId) (f:Nat->St->(Ex->St->Prop)->Prop) (km:Option Nat) (kv:Option Value) (σ : St) (K:Ex->St->Prop):Prop :=
 match km,kv with
 | some km,some kv=>Nat.blt km σ.n=true/\f σ.n σ (dK P t km kv K)
 | _,_=>False
def Zpe (t:Nat) (o:Oper):Bool :=
 match o.op,o.dst,o.guard with
 | .call c,some u,none=>u == t && (match c.callee with | .builtin .recover=>true | _=>false) && c.args.isEmpty
 | _,_,_=>false
structure RcF (P:Program) (g:FuncId) (t:Nat) (l:List Ins) (c:SC) (N:Nat):Prop where
 ex:∃ fn id os y0 o1,P.funcs[g]? = some fn/\fn.body=some (.seq (.region id os false) y0)/\os[0]? = some o1/\Zpe t o1=true/\U2 P os l (os.toList.drop 1)=true/\XA P c y0=true/\fn.ntmps=N/\t < N/\fn.results = #[]
 bd:YF P g=true
def rcK (σ : St) (k:St->Prop):Ex->St->Prop
 | .n,σ'=>k ⟨σ.fr,σ'.hp,σ'.n,σ.N,σ.gs⟩
 | .ret,σ'=>k ⟨σ.fr,σ'.hp,σ'.n,σ.N,σ.gs⟩
 | _,_=>False
def rcR (P:Program) (t:Nat) (l:List Ins) (c:SC) (N:Nat) (caps:List SV) (s:SV) (σ : St) (k:St->Prop):Prop :=
 Nat.ble caps.length N=true/\rx P Y0 l ⟨(t,s) :: enum 0 caps,σ.hp,σ.n,N,[]⟩ (ZcG (fxS (fun σ' K=>sx P Y0 σ.n c σ' K) (rcK σ k)))
def ZxP (P:Program) (f:Nat->St->(Ex->St->Prop)->Prop) (rk:FuncId->List SV->Ex->St->Prop) (s:SV) (σ : St):Prop :=
 match s with
 | .cl g caps=>f σ.n σ (rk g caps)
 | _=>False
def rK (P:Program) (K:Ex->St->Prop) (g:FuncId) (caps:List SV):Ex->St->Prop
 | .n,σ=>∃ t l c N,RcF P g t l c N/\rcR P t l c N caps (.v .nilIface) σ (K .n)
 | .ret,σ=>∃ t l c N,RcF P g t l c N/\rcR P t l c N caps (.v .nilIface) σ (K .ret)
 | .pan s,σ=>∃ t l c N,RcF P g t l c N/\rcR P t l c N caps s σ (K .ret)
 | .ex _,_=>False
def fx (P:Program):Nat->FB->St->(Ex->St->Prop)->Prop
 | m,.tail c,σ,K=>sx P Y0 m c σ K
 | m,.seq a b,σ,K=>sx P Y0 m a σ (fxS (fx P m b) K)
 | _,.dfr ops mx kx t b,σ,K=>rx P Y0 ops σ (ZcG (fxS (fun σ K=>ZwY P t (fun n=>fx P n b) (mpO (rdG none σ.fr mx)) (vO (rdG none σ.fr kx)) σ K) K))
 | _,.rcv ops cx b,σ,K=>rx P Y0 ops σ (ZcG (fxS (fun σ K=>ZxP P (fun n=>fx P n b) (rK P K) (rdG none σ.fr cx) σ) K))
theorem Zug (P:Program) (m:Nat) (c:SC) (σ : St) (K:Ex->St->Prop):fx P m (.tail c) σ K=sx P Y0 m c σ K:=rfl
theorem Zwg (P:Program) (m:Nat) (a:SC) (b:FB) (σ : St) (K:Ex->St->Prop):fx P m (.seq a b) σ K=sx P Y0 m a σ (fxS (fx P m b) K):=rfl
theorem Zwo (P:Program) (m:Nat) (ops:List Ins) (mx kx:X) (t:TypeId) (b:FB) (σ : St) (K:Ex->St->Prop):fx P m (.dfr ops mx kx t b) σ K=rx P Y0 ops σ (ZcG (fxS (fun σ K=>ZwY P t (fun n=>fx P n b) (mpO (rdG none σ.fr mx)) (vO (rdG none σ.fr kx)) σ K) K)):=rfl
theorem Zw9 (P:Program) (m:Nat) (ops:List Ins) (cx:X) (b:FB) (σ : St) (K:Ex->St->Prop):fx P m (.rcv ops cx b) σ K=rx P Y0 ops σ (ZcG (fxS (fun σ K=>ZxP P (fun n=>fx P n b) (rK P K) (rdG none σ.fr cx) σ) K)):=rfl
theorem ZvR (P:Program) (f:Nat->St->(Ex->St->Prop)->Prop) (rk:FuncId->List SV->Ex->St->Prop) (g:FuncId) (caps:List SV) (σ : St):ZxP P f rk (.cl g caps) σ = f σ.n σ (rk g caps):=rfl
theorem rK_n (P:Program) (K:Ex->St->Prop) (g:FuncId) (caps:List SV) (σ : St):rK P K g caps .n σ = ∃ t l c N,RcF P g t l c N/\rcR P t l c N caps (.v .nilIface) σ (K .n):=rfl
theorem Zxl (P:Program) (K:Ex->St->Prop) (g:FuncId) (caps:List SV) (σ : St):rK P K g caps .ret σ = ∃ t l c N,RcF P g t l c N/\rcR P t l c N caps (.v .nilIface) σ (K .ret):=rfl
theorem ZxD (P:Program) (K:Ex->St->Prop) (g:FuncId) (caps:List SV) (s:SV) (σ : St):rK P K g caps (.pan s) σ = ∃ t l c N,RcF P g t l c N/\rcR P t l c N caps s σ (K .ret):=rfl
theorem e_rcR (P:Program) (t:Nat) (l:List Ins) (c:SC) (N:Nat) (caps:List SV) (s:SV) (σ : St) (k:St->Prop):rcR P t l c N caps s σ k=(Nat.ble caps.length N=true/\rx P Y0 l ⟨(t,s) :: enum 0 caps,σ.hp,σ.n,N,[]⟩ (ZcG (fxS (fun σ' K=>sx P Y0 σ.n c σ' K) (rcK σ k)))):=rfl
theorem rcK_n (σ : St) (k:St->Prop) (σ':St):rcK σ k .n σ'=k ⟨σ.fr,σ'.hp,σ'.n,σ.N,σ.gs⟩:=rfl
theorem Zrx (σ : St) (k:St->Prop) (σ':St):rcK σ k .ret σ'=k ⟨σ.fr,σ'.hp,σ'.n,σ.N,σ.gs⟩:=rfl
attribute [go_sem] Zw9 ZvR rK_n Zxl ZxD e_rcR rcK_n Zrx
theorem fxS_n (f:St->(Ex->St->Prop)->Prop) (K:Ex->St->Prop) (σ : St):fxS f K .n σ = f σ K:=rfl
theorem Zr9 (f:St->(Ex->St->Prop)->Prop) (K:Ex->St->Prop) (σ : St):fxS f K .ret σ = K .ret σ:=rfl
theorem Zw4 (P:Program) (t:TypeId) (f:Nat->St->(Ex->St->Prop)->Prop) (km:Nat) (kv:Value) (σ : St) (K:Ex->St->Prop):ZwY P t f (some km) (some kv) σ K=(Nat.blt km σ.n=true/\f σ.n σ (dK P t km kv K)):=rfl
theorem Zxc (k:Nat):mpO (.mp k)=some k:=rfl
theorem vO_v (x:Value):vO (.v x)=some x:=rfl
theorem dK_n (P:Program) (t:TypeId) (km:Nat) (kv:Value) (K:Ex->St->Prop) (σ : St):dK P t km kv K .n σ = ∃ hb',Zrw P t kv (lkh km σ.hp) hb'/\K .n ⟨σ.fr,(km,hb') :: σ.hp,σ.n,σ.N,σ.gs⟩:=rfl
theorem ZxZ (P:Program) (t:TypeId) (km:Nat) (kv:Value) (K:Ex->St->Prop) (σ : St):dK P t km kv K .ret σ = ∃ hb',Zrw P t kv (lkh km σ.hp) hb'/\K .ret ⟨σ.fr,(km,hb') :: σ.hp,σ.n,σ.N,σ.gs⟩:=rfl
attribute [go_sem] Zug Zwg Zwo fxS_n Zr9 Zw4 Zxc vO_v dK_n ZxZ
section
variable {P:Program}
theorem ZhI {C:Cx} {Y:Hd} (hY:ZeD P C Y) {ops:Array Oper} {Q:Exit->Act->World->Prop} {K:RK} {os2:List Oper} (hn:∀ σ E a w,K .n σ->Sim C E σ a w->Um C.rd P ops Q os2 a w)
 (hp:∀ s σ' E a w y,K (.pan s) σ'->Sim C E σ' a w->R w E (ltn σ'.n) (okS C E σ'.hp) s y->Q (.panic [{ v:=y,recovered:=false }]) a w):∀ (l:List Ins) (os:List Oper),U2 P ops l os=true ->
 ∀ (σ : St) E a w,rx P Y l σ K->Sim C E σ a w->Um C.rd P ops Q (os ++ os2) a w
 | [],[],_,σ,E,a,w,hr,h=>hn σ E a w hr h
 | io :: l,o :: os,hc,σ,E,a,w,hr,h=>by
  simp only [U2,Bool.and_eq_true] at hc
  have ih:=ZhI hY hn hp l os hc.2
  exact Zbd (next:=Um C.rd P ops Q (os ++ os2)) hc.1 hr h (fun σ' E' a' w' h1 h2=>ih σ' E' a' w' h1 h2) (fun s σ' E' w' y h1 h2 h3=>hp s σ' E' a w' y h1 h2 h3) hY
 | [],_ :: _,h,_,_,_,_,_,_=>by simp [U2] at h
 | _ :: _,[],h,_,_,_,_,_,_=>by simp [U2] at h
theorem Zt6 {C:Cx} {E:Env} {σ : St} {a:Act} {w:World} (h:Sim C E σ a w) {t:TypeId} {km:Nat} {kv:Value} {hb':HB} {ats:Array TypeId} {ty:TypeId} {cc:Array Bool} (ha:ats[0]? = some t) (hd:Zrw P t kv (lkh km σ.hp) hb') :
 ∃ x w',(invoke (.builtin .delete ats ty cc) #[.map (some (E.β km)),kv]).run P w = .ok (.value x) w'/\Sim C E ⟨σ.fr,(km,hb') :: σ.hp,σ.n,σ.N,σ.gs⟩ a w'/\ZG w w' (okS C E σ.hp) (okS C E ((km,hb') :: σ.hp)):=by
 obtain ⟨K,V,_,key,val,sv,L,k,kt,et,c,hh,rfl,rfl,ht,hK⟩:=hd
 obtain ⟨g0,ys,g1,g2⟩:=U3 h hh
 have hfn:=fun w=>hK.fnd k _ _ w (Zbq g2)
 have hex:∀ w',(Builtin.delete_ ats ty #[.map (some (E.β km)),key k]).run P w = .ok (.tuple #[]) w'->(invoke (.builtin .delete ats ty cc) #[.map (some (E.β km)),key k]).run P w = .ok (.value (.tuple #[])) w':=fun w' hy=>by
  simp [invoke,builtin,hy]
 have hfin:∀ ys':Array MapEntry,(∀ {w':World} {ok':Nat->Prop},RM w' E (ltn σ.n) ok' (mpS key val L) ys.toList->RM w' E (ltn σ.n) ok' (mpS key val (Ug k L)) ys'.toList) ->
  Sim C E ⟨σ.fr,(km,.map (mpS key val (Ug k L)) c) :: σ.hp,σ.n,σ.N,σ.gs⟩ a (VZ w (E.β km) (.map ys' c))/\ZG w (VZ w (E.β km) (.map ys' c)) (okS C E σ.hp) (okS C E ((km,.map (mpS key val (Ug k L)) c) :: σ.hp)):=fun ys' hRM=>by
  obtain ⟨q1,q2⟩:=WJ (k:=km) (hb:=.map (mpS key val (Ug k L)) c) (o:=.map ys' c) h.hs (fun b=>by rw [hh];simp only [occ]) (fun b=>by simp only [occ]) (fun hlt hst=>by
   simp only [Z6]
   exact ⟨ys',XU hlt,hRM (Zbs hst.c (fun _ _=>Ele.rfl) (fun _ h=>h) _ _ g2)⟩)
  exact ⟨Yv h q2 (fun _ _=>Ele.rfl) (Nat.le_refl _) q1,q2⟩
 rcases ZaW (w:=w) (E:=E) (n:=ltn σ.n) (ok:=okS C E σ.hp) k L ys.toList 0 g2 with ⟨a1,a2,a3,-⟩ | ⟨j,v0,e,b1,b2,b3,b4,b5,b6⟩
 . have hrun:(Builtin.delete_ ats ty #[.map (some (E.β km)),key k]).run P w = .ok (.tuple #[]) (VZ w (E.β km) (.map ys c)):=by
    simp [Builtin.delete_,Sem.run_bind,ha,run_underlying ht,Result.andThen_ok,Yi g1 rfl,Sem.run_pure,hK.chk,hfn,a2,YS _ g1 rfl]
   exact ⟨_,_,hex _ hrun,hfin _ fun h1=>by rw [a3];exact h1⟩
 . rw [Nat.zero_add] at b2
   have hlt:j < ys.size:=by
    have:ys[j]? = some e:=by simpa using b3
    exact (Array.getElem?_eq_some_iff.1 this).1
   have hrun:(Builtin.delete_ ats ty #[.map (some (E.β km)),key k]).run P w = .ok (.tuple #[]) (VZ w (E.β km) (.map (ys.eraseIdxIfInBounds j) c)):=by
    simp [Builtin.delete_,Sem.run_bind,ha,run_underlying ht,Result.andThen_ok,Yi g1 rfl,Sem.run_pure,hK.chk,hfn,b2,YS _ g1 rfl]
   exact ⟨_,_,hex _ hrun,hfin _ fun {w' ok'} h1=>by
    have:(ys.eraseIdxIfInBounds j).toList=ys.toList.eraseIdx j:=by simp [Array.eraseIdxIfInBounds,hlt]
    rw [this];exact (b6 h1).1⟩
theorem ZeP {C C':Cx} {E E':Env} {σ σ':St} {a a':Act} {w w':World} (h:Sim C E σ a w) (h':Sim C' E' σ' a' w') (c1:C'.w0=w) (c2:C'.okp=okS C E σ.hp) (c3:C'.pass=fun k b=>occ E k (lkh k σ.hp) b) (c4:C'.e0=E) (c5:C'.m0 = σ.n) (hm:C.m0<=σ.n) :
 Sim { C with ds:=a'.defers } E' σ' a' w':=by
 have hok:∀ b,okS C' E' σ'.hp b->okS C E' σ'.hp b:=fun b hb=>by
  obtain ⟨g1,g2⟩:=hb
  refine ⟨?_,g2⟩
  rw [c1,c2] at g1
  rcases g1 with g1 | g1
  . exact g1.1
  . exact .inr (Nat.le_trans h.hs.kp.size g1)
 have hst:YO w' w' (okS C' E' σ'.hp) (okS C E' σ'.hp):=fun b hb _=>⟨hok b hb,rfl⟩
 refine ⟨fun t=>?_,h'.sz,UW,h'.gs,⟨h'.hs.kn,fun k=>?_,h'.hs.dj,fun k b ho=>?_,⟨?_,?_,?_,?_,fun b h1 h2=>?_⟩,fun k hk=>?_⟩⟩
 . have:=h'.fr t
   cases hq:lk t σ'.fr<;>rw [hq] at this<;>try exact ZQ hst (fun _ _=>Ele.rfl) (fun _ h=>h) _ _ this
   exact ⟨fun hg=>ZQ hst (fun _ _=>Ele.rfl) (fun _ h=>h) _ _ (this.1 hg),this.2⟩
 . refine XL hst (fun _ _=>Ele.rfl) (fun _ h=>h) ?_ (fun b ho=>rfl) rfl (h'.hs.bk k)
   rcases Classical.em (ltn σ'.n k) with hk | hk
   . exact .inr hk
   . exact .inl (h'.hs.kn k hk)
 . rcases h'.hs.lo k b ho with g | g
   . rw [c1] at g;exact .inl (Nat.le_trans h.hs.kp.size g)
   . rw [c3] at g;exact h.hs.lo k b g
 . have:=h'.hs.kp.os;rw [c1] at this;exact this.trans h.hs.kp.os
 . have:=h'.hs.kp.tape;rw [c1] at this;exact this.trans h.hs.kp.tape
 . have:=h'.hs.kp.output;rw [c1] at this;exact this.trans h.hs.kp.output
 . have:=h'.hs.kp.size;rw [c1] at this;exact Nat.le_trans h.hs.kp.size this
 . have h1':b < C.w0.heap.size:=h1
   have h2':∀ k,¬ C.pass k b:=h2
   have hb:=h'.hs.kp.block b (by rw [c1];exact Nat.lt_of_lt_of_le h1' h.hs.kp.size) (fun k hk=>by
    rw [c3] at hk
    rcases h.hs.lo k b hk with g | g
    . exact absurd h1' (Nat.not_lt.2 g)
    . exact h2' k g)
   rw [c1] at hb
   exact hb.trans (h.hs.kp.block b h1' h2')
 . have hk':k < C.m0:=hk
   have p1:=h.hs.pin k hk'
   have p2:=h'.hs.pin k (by rw [c5];exact Nat.lt_of_lt_of_le hk' hm)
   rw [c4] at p2
   exact ⟨p2.1,p1.2.trans p2.2⟩
theorem X2 {fn:Func} {R':Ending->World->Prop} {C:Cx} {K:Ex->St->Prop}
 (hK:∀ e σ',K e σ'->∀ (C':Cx) E' a' w',C'.w0=C.w0->C'.okp=C.okp->C'.pass=C.pass->C'.e0=C.e0->C'.m0=C.m0->Sim C' E' σ' a' w'->match e with
  | .n | .ret=>Lv P fn a'.tmps R' C.ds .returning w'
  | .ex _=>False
  | .pan s=>∀ y,R w' E' (ltn σ'.n) (okS C' E' σ'.hp) s y->Lv P fn a'.tmps R' C.ds (.panicking [{ v:=y,recovered:=false }]) w')
 (e:Ex) (σ':St) (hk:K e σ') (E':Env) (a':Act) (w':World) (hs:Sim C E' σ' a' w'):ExQ C (Ym P fn R') e σ' E' a' w':=by
 obtain ⟨ms,d1,d2,d3⟩:=hs.df
 have key:=hK e σ' hk
 cases e with
 | ex i=>exact (key C E' a' w' rfl rfl rfl rfl rfl hs).elim
 | n =>
  show Lv P fn a'.tmps R' a'.defers .returning w'
  rw [d1]
  refine XD ms _ _ (by simp) d2.1 (fun m hm=>(d3 m hm).2.2) fun w'' hu=>?_
  exact key { C with ds:=a'.defers } E' a' w'' rfl rfl rfl rfl rfl (X9 hs d3 hu)
 | ret =>
  show Lv P fn a'.tmps R' a'.defers .returning w'
  rw [d1]
  refine XD ms _ _ (by simp) d2.1 (fun m hm=>(d3 m hm).2.2) fun w'' hu=>?_
  exact key { C with ds:=a'.defers } E' a' w'' rfl rfl rfl rfl rfl (X9 hs d3 hu)
 | pan s =>
  intro y hy
  show Lv P fn a'.tmps R' a'.defers (.panicking _) w'
  rw [d1]
  refine XD ms _ _ (by simp) d2.1 (fun m hm=>(d3 m hm).2.2) fun w'' hu=>?_
  have hst:YO w' w'' (okS C E' σ'.hp) (okS C E' σ'.hp):=fun b hb q=>⟨hb,hu.other b fun hm'=>by rcases q with ⟨cs,T,fz,e⟩ | ⟨es,c,e⟩<;>(rw [(d3 b hm').2.2] at e;cases e)⟩
  exact key { C with ds:=a'.defers } E' a' w'' rfl rfl rfl rfl rfl (X9 hs d3 hu) y (ZQ hst (fun _ _=>Ele.rfl) (fun _ h=>h) _ _ hy)
theorem ZkG {C:Cx} {E:Env} {σ : St} {a:Act} {w:World} (h:Sim C E σ a w) (ds:List Deferred):Sim ⟨w,okS C E σ.hp,fun k b=>occ E k (lkh k σ.hp) b,ds,none,E,σ.n⟩ E σ { a with defers:=ds } w:=by
 have hst:YO w w (okS C E σ.hp) (okS ⟨w,okS C E σ.hp,fun k b=>occ E k (lkh k σ.hp) b,ds,none,E,σ.n⟩ E σ.hp):=fun b hb _=>⟨⟨.inl hb,hb.2⟩,rfl⟩
 refine ⟨fun t=>?_,h.sz,UW,h.gs,⟨h.hs.kn,fun k=>?_,h.hs.dj,fun k b ho=>.inr ho,⟨rfl,rfl,rfl,Nat.le_refl _,fun _ _ _=>rfl⟩,fun k hk=>⟨hk,Ele.rfl⟩⟩⟩
 . have:=h.fr t
   show FR w E (ltn σ.n) _ σ.fr (lk t σ.fr) (a.tmps.getD t undef)
   cases hq:lk t σ.fr<;>rw [hq] at this<;>try exact ZQ hst (fun _ _=>Ele.rfl) (fun _ h=>h) _ _ this
   exact ⟨fun hg=>ZQ hst (fun _ _=>Ele.rfl) (fun _ h=>h) _ _ (this.1 hg),this.2⟩
 . refine XL hst (fun _ _=>Ele.rfl) (fun _ h=>h) ?_ (fun b ho=>rfl) rfl (h.hs.bk k)
   rcases Classical.em (ltn σ.n k) with hk | hk
   . exact .inr hk
   . exact .inl (h.hs.kn k hk)
def Zx8 (v:Value) (u u':FrameMode):Prop:=(u = .returning/\v = .nilIface/\u' = .returning)\/(u = .panicking [{ v:=v,recovered:=false }]/\u' = .panicking [{ v:=v,recovered:=true }])
theorem Zqd {b c₀:Frame} {a:Act} {k:List Item} {cs:List Frame} {w:World} {os:Array Oper} {o:Oper} {rest:List Nat} {t:Nat} {v:Value} {u u':FrameMode} (hb:b.kind = .deferred) (h0:os[0]? = some o) (hr:Zpe t o=true)
 (hc:c₀.mode=u) (hu:Zx8 v u u'):step P (lone (b.at a (.inRegion os (0 :: rest) :: k)) (c₀ :: cs) w) = .next (lone (b.at (a.put (some t) v) (.inRegion os rest :: k)) ({ c₀ with mode:=u' } :: cs) w):=by
 obtain ⟨dst,op,ty,pos,after,guard⟩:=o
 unfold Zpe at hr
 split at hr
 case h_2=>cases hr
 rename_i c x e1 e2 e3
 simp only at e1 e2 e3
 subst e1;subst e2;subst e3
 simp only [Bool.and_eq_true,beq_iff_eq] at hr
 obtain ⟨⟨rfl,hr1⟩,hr2⟩:=hr
 split at hr1
 case h_2=>cases hr1
 rename_i hcal
 have hw:Region.wanted (⟨some x,.call c,ty,pos,after,none⟩:Oper) (yielded os a.tmps)=true:=rfl
 have hg:=stepG_op (P:=P) (b:=b) (k:=k) (cs:=c₀ :: cs) (w:=w) (rest:=rest) h0 hw
 have hfin:∀ v,(b.at a (.inRegion os (0 :: rest) :: k)).finish v=b.at (a.put (some x) v) (.inRegion os rest :: k):=by
  intro v;rw [Frame.finish_at,h0];rfl
 have hrun:(execOp a.eval (⟨some x,.call c,ty,pos,after,none⟩:Oper)).run P w = .ok .recover w:=by
  simp [execOp,resolve,hcal,invoke,builtin,Sem.run_bind,Sem.run_pure]
 have hk:(b.at a (.inRegion os (0 :: rest) :: k)).kind = .deferred:=hb
 have htr:=tryRecover_deferred hk (c₀ :: cs)
 refine step_lone_go ?_
 rw [hg,<- hfin]
 rcases hu with ⟨rfl,rfl,rfl⟩ | ⟨rfl,rfl⟩
 . have hrd:recoverD (c₀ :: cs)=none:=by simp [recoverD,hc]
   have hcc:({ c₀ with mode:=.returning }:Frame)=c₀:=by rw [<- hc]
   simp only [Frame.at] at htr ⊢
   simp [stepG.apply,hrun,htr,hrd,hcc]
 . have hrd:recoverD (c₀ :: cs)=some (v,{ c₀ with mode:=.panicking [{ v:=v,recovered:=true }] } :: cs):=by simp [recoverD,hc]
   simp only [Frame.at] at htr ⊢
   simp [stepG.apply,hrun,htr,hrd]
theorem Zq8 {fr:Frame} {cs:List Frame}:∀ (ms:List Nat) (w:World),fr.mode≠.run->fr.defers=ms.map Zcs->ms.Nodup->(∀ m ∈ ms,w.heap[m]? = some (.deferred (some []))) ->
 ∃ w',Unm ms w w'/\Steps P (lone fr cs w) (lone { fr with defers:=[] } cs w')
 | [],w,_,hd,_,_=>⟨w,Unm.refl w,by rw [show ({ fr with defers:=[] }:Frame)=fr by rw [<- show fr.defers=[] from hd]];exact Steps.refl P _⟩
 | m :: ms,w,hm,hd,hnd,hh=>by
  rw [List.nodup_cons] at hnd
  have hm0:=hh m (by simp)
  have hlt:=(Array.getElem?_eq_some_iff.1 hm0).1
  have h1:step P (lone fr cs w) = .next (lone { fr with defers:=ms.map Zcs } cs (VZ w m (.deferred none))) :=
   VO hm hd rfl (by simp only [Instr.takeDeferred,Sem.run_bind,Yi hm0 rfl,Result.andThen_ok,YS _ hm0 rfl,Sem.run_pure])
  obtain ⟨w',g1,g2⟩:=Zq8 (fr:={ fr with defers:=ms.map Zcs }) (cs:=cs) ms (VZ w m (.deferred none)) hm rfl hnd.2 (fun k hk=>by
   rw [Wh (by rintro rfl;exact hnd.1 hk)];exact hh k (by simp [hk]))
  refine ⟨w',⟨g1.os,g1.tape,g1.output,by rw [g1.size,Za6],fun b hb=>?_⟩,.head h1 g2⟩
  rw [List.mem_cons,not_or] at hb
  rw [g1.other b hb.2];exact Wh hb.1
theorem Zka {g:FuncId} {fn:Func} {id:Nat} {os:Array Oper} {y0:Code} {o1:Oper} {t:Nat} {args:Array Value} {w:World} {u u':FrameMode} {v:Value} {R:Ending->FrameMode->World->Prop} {Q:Exit->Act->World->Prop}
 (hf:P.funcs[g]? = some fn) (hb:fn.body=some (.seq (.region id os false) y0)) (h0:os[0]? = some o1) (hrec:Zpe t o1=true) (hu:Zx8 v u u')
 (h:Um none P os (Exit.then (wpX none P y0 Q) Q) (os.toList.drop 1) (({ tmps:=args ++ Array.replicate (fn.ntmps - args.size) undef,defers:=[] }:Act).put (some t) v) w)
 (hQ:∀ e a w,Q e a w->(e = .normal\/e = .ret)/\∃ ms:List Nat,a.defers=ms.map Zcs/\ms.Nodup/\(∀ m ∈ ms,w.heap[m]? = some (.deferred (some [])))/\∀ w',Unm ms w w'->∃ val,(results fn a.tmps).run P w' = .ok val w'/\R (.returned val) u' w') :
 CallsD P g args u w R:=by
 intro c₀ cs hc
 let b:Frame:={ (default:Frame) with fn:=g,kind:=.deferred }
 let a0:Act:={ tmps:=args ++ Array.replicate (fn.ntmps - args.size) undef,defers:=[] }
 have henter:Frame.enter P g args .deferred=b.at a0 [.code (.seq (.region id os false) y0)]:=by
  simp [Frame.enter,Frame.at,hf,hb,b,a0]
 have hsz:0 < os.size:=(Array.getElem?_eq_some_iff.1 h0).1
 have hrange:List.range os.size=0 :: List.range' 1 (os.size - 1):=by
  rw [List.range_eq_range',show os.size=(os.size - 1)+1 from by omega,List.range'_succ];simp
 have h1:=Zbw (r:=none) (P:=P) (ops:=os) (os.toList.drop 1) 1 (fun j hj=>by simp [List.getElem?_drop,Nat.add_comm]) _ w h
 rw [List.length_drop,Array.length_toList] at h1
 obtain ⟨e,a1,w1,q,s⟩:=Zar _ _ w h1 b [.code y0] ({ c₀ with mode:=u' } :: cs) rfl (by simp [b,hf])
 have s:=(arrivesIn_iff (b:=b) (fun _ _=>steps_iff.symm) rfl).1 s
 rw [Frame.atR_of_none (b:=b) rfl] at s
 have hpre:Steps P (lone (Frame.enter P g args .deferred) (c₀ :: cs) w) (lone (b.at (a0.put (some t) v) (.inRegion os (List.range' 1 (os.size - 1)) :: [.code y0])) ({ c₀ with mode:=u' } :: cs) w):=by
  rw [henter]
  refine .head step_seq (.head step_region ?_)
  rw [hrange]
  exact .one (Zqd rfl h0 hrec hc hu)
 have fin:∀ (e:Exit) (a:Act) (w2:World) (todo:List Item),Q e a w2->Steps P (lone (Frame.enter P g args .deferred) (c₀ :: cs) w) (lone ({ b.at a todo with mode:=.returning }:Frame) ({ c₀ with mode:=u' } :: cs) w2) ->
  ∃ e u'' w' fr,R e u'' w'/\Comes P (lone (Frame.enter P g args .deferred) (c₀ :: cs) w) (lone fr ({ c₀ with mode:=u'' } :: cs) w') e/\fr.kind = .deferred/\fr.going P w' e:=fun e a w2 todo hq hs=>by
  obtain ⟨_,ms,d1,d2,d3,d4⟩:=hQ e a w2 hq
  obtain ⟨w3,g1,g2⟩:=Zq8 (P:=P) (fr:={ b.at a todo with mode:=.returning }) (cs:={ c₀ with mode:=u' } :: cs) ms w2 (by simp) d1 d2 d3
  obtain ⟨val,hr,hR⟩:=d4 w3 g1
  exact ⟨.returned val,u',w3,_,hR,Steps.trans hs g2,rfl,rfl,rfl,fn,hf,hr⟩
 have tl:∀ (a:Act) (w2:World),wpX none P y0 Q a w2->Steps P (lone (Frame.enter P g args .deferred) (c₀ :: cs) w) (lone (b.at a [.code y0]) ({ c₀ with mode:=u' } :: cs) w2) ->
  ∃ e u'' w' fr,R e u'' w'/\Comes P (lone (Frame.enter P g args .deferred) (c₀ :: cs) w) (lone fr ({ c₀ with mode:=u'' } :: cs) w') e/\fr.kind = .deferred/\fr.going P w' e:=fun a w2 hy hs=>by
  obtain ⟨e2,a2,w3,q2,s2⟩:=hy b [] ({ c₀ with mode:=u' } :: cs) rfl (by simp [b,hf])
  have s2:=(arrivesIn_iff (b:=b) (fun _ _=>steps_iff.symm) rfl).1 s2
  rw [Frame.atR_of_none (b:=b) rfl] at s2
  rcases (hQ e2 a2 w3 q2).1 with rfl | rfl
  . exact fin _ a2 w3 [] q2 (Steps.trans hs (Steps.trans s2 (.one step_end)))
  . obtain ⟨todo,s3⟩:=s2
    exact fin _ a2 w3 todo q2 (Steps.trans hs s3)
 cases e with
 | normal=>exact tl a1 w1 q (Steps.trans hpre s)
 | ret =>
  obtain ⟨todo,s3⟩:=s
  exact fin _ a1 w1 todo q (Steps.trans hpre s3)
 | panic chain=>rcases (hQ _ a1 w1 q).1 with h | h<;>cases h
 | exit id=>rcases (hQ _ a1 w1 q).1 with h | h<;>cases h
 | goto l=>rcases (hQ _ a1 w1 q).1 with h | h<;>cases h
 | outgrown=>rcases (hQ _ a1 w1 q).1 with h | h<;>cases h
theorem Zj3 {C:Cx} {E:Env} {hp0:List (Nat × HB)} {n0 N:Nat} {args:List SV} {vs:List Value} {w:World} (hN:args.length<=N) (hds:C.ds=[]) (hH:HSim C E hp0 (ltn n0) w) (hR:RL w E (ltn n0) (okS C E hp0) args vs) :
 Sim C E ⟨enum 0 args,hp0,n0,N,[]⟩ { tmps:=vs.toArray ++ Array.replicate (N - vs.toArray.size) undef,defers:=[] } w:=by
 have hlen:=ZH hR
 have hng:∀ t j b s,lk t (enum 0 args)≠.gd j b s:=by
  intro t j b s ht
  simp only [VY,Nat.zero_le,if_true,Nat.sub_zero] at ht
  by_cases htl:t < args.length
  . have e1:args.getD t .any=args[t]:=by simp [htl]
    obtain ⟨y,h1,h2⟩:=Vi hR (List.getElem?_eq_getElem htl)
    rw [e1] at ht;rw [ht] at h2;simp only [R] at h2
  . have e1:args.getD t .any = .any:=by simp [List.getElem?_eq_none (Nat.le_of_not_lt htl)]
    rw [e1] at ht;cases ht
 refine ⟨fun t=>?_,by simp;omega,by rw [<- hds];exact UW,fun t j b s ht=>absurd ht (hng t j b s),hH⟩
 have hng:=hng t
 have hFR:R w E (ltn n0) (okS C E hp0) (lk t (enum 0 args)) ((vs.toArray ++ Array.replicate (N - vs.toArray.size) undef).getD t undef):=by
  simp only [VY,Nat.zero_le,if_true,Nat.sub_zero]
  by_cases ht:t < args.length
  . have e1:args.getD t .any=args[t]:=by simp [ht]
    obtain ⟨y,h1,h2⟩:=Vi hR (List.getElem?_eq_getElem ht)
    have e2:(vs.toArray ++ Array.replicate (N - vs.toArray.size) undef).getD t undef=y:=by
     have:t < vs.length:=by omega
     have h1':=(List.getElem?_eq_some_iff.1 h1).2
     simp [Array.getElem?_append,this,h1']
    rw [e1,e2];exact h2
  . have e1:args.getD t .any = .any:=by simp [List.getElem?_eq_none (Nat.le_of_not_lt ht)]
    rw [e1];simp only [R]
 simp only
 cases hq:lk t (enum 0 args)<;>rw [hq] at hFR hng<;>first | exact hFR | exact absurd rfl (hng _ _ _)
theorem Zxk {g:FuncId} {t N:Nat} {l:List Ins} {c:SC} (hF:RcF P g t l c N) {C:Cx} {E:Env} {σ : St} {a:Act} {w:World} (hS:Sim C E σ a w) (hm:C.m0<=σ.n) {caps:List SV} {vs:List Value} (hR:RL w E (ltn σ.n) (okS C E σ.hp) caps vs)
 {s:SV} {v:Value} (hv:R w E (ltn σ.n) (okS C E σ.hp) s v) {k:St->Prop} (hrun:rcR P t l c N caps s σ k) {u u':FrameMode} (hu:Zx8 v u u') {R':Ending->FrameMode->World->Prop}
 (hk:∀ hp' n' E' w',k ⟨σ.fr,hp',n',σ.N,σ.gs⟩->Sim C E' ⟨σ.fr,hp',n',σ.N,σ.gs⟩ a w'->R' (.returned (.tuple #[])) u' w'):CallsD P g vs.toArray u w R':=by
 obtain ⟨fn,id,os,y0,o1,f1,f2,f3,f4,f5,f6,f7,f8,f9⟩:=hF.ex
 obtain ⟨hcl,hrun⟩:=hrun
 have hcl:=Nat.le_of_ble_eq_true hcl
 let C2:Cx:=⟨w,okS C E σ.hp,fun k b=>occ E k (lkh k σ.hp) b,[],none,E,σ.n⟩
 have hst:YO w w (okS C E σ.hp) (okS C2 E σ.hp):=fun b hb _=>⟨⟨.inl hb,hb.2⟩,rfl⟩
 have hin:=ZkG hS []
 have hR2:RL w E (ltn σ.n) (okS C2 E σ.hp) caps vs:=ZE hst (fun _ _=>Ele.rfl) (fun _ h=>h) _ _ hR
 have hv2:R w E (ltn σ.n) (okS C2 E σ.hp) s v:=ZQ hst (fun _ _=>Ele.rfl) (fun _ h=>h) _ _ hv
 have h0:Sim C2 E ⟨enum 0 caps,σ.hp,σ.n,N,[]⟩ { tmps:=vs.toArray ++ Array.replicate (N - vs.toArray.size) undef,defers:=[] } w:=Zj3 hcl rfl hin.hs hR2
 have h1:Sim C2 E ⟨(t,s) :: enum 0 caps,σ.hp,σ.n,N,[]⟩ (Act.put { tmps:=vs.toArray ++ Array.replicate (N - vs.toArray.size) undef,defers:=[] } (some t) v) w :=
  XM h0 (fun b hb _=>⟨hb,rfl⟩) (fun _ _=>Ele.rfl) (Nat.le_refl _) hin.hs (by simp) f8 (Ui hv) hv2
 let Q:Exit->Act->World->Prop:=fun e a2 w2=>(e = .normal\/e = .ret)/\∃ σ' E',k ⟨σ.fr,σ'.hp,σ'.n,σ.N,σ.gs⟩/\Sim C2 E' σ' a2 w2
 have hKQ:LkQ C2 (rcK σ k) Q:=fun e σ' hk' E' a' w' hs=>by
  cases e with
  | n=>exact ⟨.inl rfl,σ',E',hk',hs⟩
  | ret=>exact ⟨.inr rfl,σ',E',hk',hs⟩
  | ex i=>exact hk'.elim
  | pan s=>exact hk'.elim
 have hmc:MC C2 σ.n:=⟨Nat.le_refl _,fun j b ho=>by
  rcases Classical.em (ltn σ.n j) with hj | hj
  . exact hj
  . have ho':occ E j (lkh j σ.hp) b:=ho
    rw [hS.hs.kn j hj] at ho';exact ho'.elim⟩
 have hlist:=ZcY (P:=P) (C:=C2) (Y:=Y0) Za3 (ops:=os) (Q:=Exit.then (wpX none P y0 Q) Q) (K:=ZcG (fxS (fun σ' K=>sx P Y0 σ.n c σ' K) (rcK σ k))) (fun e σ' hk' E' a' w' hs0=>by
  have hs:=Xx hs0
  cases e with
  | n =>
   have hwp:=Yt c C2 Y0 σ.n y0 (VF σ') (rcK σ k) Q E' a' w' hmc Za3 (.inl rfl) f6 hk' hKQ hs
   exact hwp
  | ret=>exact hKQ .ret _ hk' E' a' w' hs
  | ex i=>exact hk'.elim
  | pan s=>exact hk'.elim) l _ f5 _ E _ w hrun h1
 refine Zka (u':=u') (v:=v) f1 f2 f3 f4 hu (Q:=Q) (by rw [f7];exact hlist) (fun e a2 w2 hq=>⟨hq.1,?_⟩)
 obtain ⟨_,σ',E',hk',hs'⟩:=hq
 obtain ⟨ms,d1,d2,d3⟩:=hs'.df
 refine ⟨ms,by rw [d1];simp [C2],d2.1,fun m hm'=>(d3 m hm').2.2,fun w3 hu3=>?_⟩
 refine ⟨.tuple #[],by simp [results,f9],?_⟩
 have hs3:=X9 hs' d3 hu3
 have hout:=ZeP hS hs3 rfl rfl rfl rfl rfl hm
 obtain ⟨g1,g2⟩:=ZeZ (C:=C) hout.hs rfl rfl rfl rfl rfl
 have hpin:∀ j,j < σ.n->j < σ'.n/\Ele E E' j j:=fun j hj=>hs3.hs.pin j hj
 refine hk σ'.hp σ'.n E' w3 hk' (Yv hS (fun b hb hsome=>?_) (fun j hj=>(hpin j hj).2) ?_ g1)
 . obtain ⟨b1,b2⟩:=hb
   have hlt:b < w.heap.size:=by
    rcases Nat.lt_or_ge b w.heap.size with q | q
    . exact q
    . rw [Array.getElem?_eq_none q] at hsome;cases hsome
   refine ⟨⟨b1,fun j ho=>?_⟩,?_⟩
   . rcases hs3.hs.lo j b ho with q | q
     . exact absurd hlt (Nat.not_lt.2 q)
     . exact b2 j q
   . exact hs3.hs.kp.block b hlt (fun j q=>b2 j q)
 . rcases Nat.lt_or_ge σ'.n σ.n with q | q
   . exact absurd (hpin σ'.n q).1 (Nat.lt_irrefl _)
   . exact q
theorem Zao {fn:Func} {R':Ending->World->Prop}:∀ (b:FB) (C:Cx) (m:Nat) (code:Code) (σ : St) (K:Ex->St->Prop) (E:Env) (a:Act) (w:World),MC C m->C.rd=none->Zaf P b code=true->fx P m b σ K->Sim C E σ a w ->
 (∀ e σ',K e σ'->∀ (C':Cx) E' a' w',C'.w0=C.w0->C'.okp=C.okp->C'.pass=C.pass->C'.e0=C.e0->C'.m0=C.m0->Sim C' E' σ' a' w'->match e with
  | .n | .ret=>Lv P fn a'.tmps R' C.ds .returning w'
  | .ex _=>False
  | .pan s=>∀ y,R w' E' (ltn σ'.n) (okS C' E' σ'.hp) s y->Lv P fn a'.tmps R' C.ds (.panicking [{ v:=y,recovered:=false }]) w') ->
 wpX none P code (Ym P fn R') a w
 | .tail c,C,m,code,σ,K,E,a,w,hm,hrd,hc,h,hS,hK=>by
  have hwp:=Yt c C Y0 m code σ K (Ym P fn R') E a w hm Za3 (.inl hrd) hc h (fun e σ' hk E' a' w' hs=>X2 hK e σ' hk E' a' w' hs) hS
  rw [hrd] at hwp;exact hwp
 | .seq x b,C,m,code,σ,K,E,a,w,hm,hrd,hc,h,hS,hK=>by
  cases code<;>simp [Zaf] at hc
  rename_i cx cy
  refine ZcL ?_
  have hwp:=Yt x C Y0 m cx σ (fxS (fx P m b) K) (Exit.then (wpX none P cy (Ym P fn R')) (Ym P fn R')) E a w hm Za3 (.inl hrd) hc.1 h (fun e σ' hk E' a' w' hs=>?_) hS
  . rw [hrd] at hwp;exact hwp
  cases e with
  | n=>exact Zao b C m cy σ' K E' a' w' hm hrd hc.2 hk hs hK
  | ex i=>exact hk.elim
  | ret=>exact X2 hK .ret σ' hk E' a' w' hs
  | pan s=>exact X2 hK (.pan s) σ' hk E' a' w' hs
 | .dfr ops mx kx t b,C,m,code,σ,K,E,a,w,hm,hrd,hc,h,hS,hK=>by
  unfold Zaf at hc
  split at hc
  case h_2=>cases hc
  rename_i id os cy
  simp only [Bool.and_eq_true] at hc
  obtain ⟨⟨hc1,hc2⟩,hc3⟩:=hc
  split at hc2
  case h_2=>cases hc2
  rename_i o ho
  have hos:os.toList=os.toList.take ops.length ++ [o]:=by rw [<- ho,List.take_append_drop]
  refine ZcL (XP ?_)
  rw [hos,<- hrd]
  refine ZhI (C:=C) (Q:=Exit.then (wpX C.rd P cy (Ym P fn R')) (Ym P fn R')) (os2:=[o]) Za3 (K:=ZcG (fxS (fun σ K=>ZwY P t (fun n=>fx P n b) (mpO (rdG none σ.fr mx)) (vO (rdG none σ.fr kx)) σ K) K)) (fun σ0 E1 a1 w1 hk0 hs0=>?_)
   (fun s σ' E' a' w' y hk hs hy=>X2 hK (.pan s) (VF σ') hk E' a' w' (Xx hs) y (by rw [Zed,Zc9];exact hy)) ops _ hc1 σ E a w h hS
  have hs:=Xx hs0
  simp only [ZcG,fxS] at hk0
  generalize VF σ0 = σ1 at hs hk0
  obtain ⟨ms,d1,d2,d3⟩:=hs.df
  unfold ZwY at hk0
  split at hk0
  case h_2=>exact hk0.elim
  rename_i km kv hkm hkv
  obtain ⟨hlt,hfx⟩:=hk0
  have hlt:=Nat.le_of_ble_eq_true hlt
  have hmv:a1.tmps=a1.tmps/\evX a1 mx = .map (some (E1.β km)):=by
   have hR:=YB hs.fr (g:=none) trivial mx
   cases hq:rdG none σ1.fr mx<;>rw [hq] at hkm<;>simp only [mpO,Option.some.injEq,reduceCtorEq] at hkm
   subst hkm
   rw [hq] at hR;simp only [R] at hR
   exact ⟨rfl,hR.2⟩
  have hkv':evX a1 kx=kv:=by
   have hR:=YB hs.fr (g:=none) trivial kx
   cases hq:rdG none σ1.fr kx<;>rw [hq] at hkv<;>simp only [vO,Option.some.injEq,reduceCtorEq] at hkv
   subst hkv
   rw [hq] at hR;simp only [R] at hR
   exact hR
  have hmn:C.m0<=σ1.n:=by
   rcases Nat.lt_or_ge σ1.n C.m0 with q | q
   . exact absurd (hs.hs.pin σ1.n q).1 (Nat.lt_irrefl _)
   . exact q
  unfold ZwM at hc2
  split at hc2
  case h_2=>cases hc2
  rename_i c hop hdst hgd
  simp only [Bool.and_eq_true] at hc2
  obtain ⟨⟨e1,e2⟩,e3⟩:=hc2
  split at e1
  case h_2=>cases e1
  rename_i hcal
  split at e2
  case h_2=>cases e2
  rename_i om ok hargs
  simp only [Bool.and_eq_true] at e2
  split at e3
  case h_2=>cases e3
  rename_i u hu
  have hut:u=t:=by simpa using e3
  subst hut
  have hca:c.args = #[om,ok]:=by apply Array.toList_inj.1;rw [hargs]
  rw [hrd]
  simp only [Um,Region.wanted,hgd]
  simp only [if_true]
  have hrun:(o.semAt none a1.eval).run P w1 = .ok (.defer { target:=.builtin .delete c.argTypes o.type (c.args.map fun | .const _=>true | _=>false),args:=#[.map (some (E1.β km)),kv] }) w1:=by
   rw [Oper.semAt_none]
   obtain ⟨dst',op',ty',pos,after,guard⟩:=o
   simp only at hop;subst hop
   simp only [execOp,Sem.run_bind,resolve,hcal,Sem.run_pure,Result.andThen_ok,hca]
   simp only [List.map_toArray,List.map_cons,List.map_nil,Zh e2.1 a1,Zh e2.2 a1,hmv.2,hkv']
   cases om<;>cases ok<;>rfl
  show o.wpq none P a1 w1 _ _
  unfold Oper.wpq
  rw [hrun]
  simp only [Oper.uponX,hdst]
  show Exit.then _ _ .normal _ w1
  simp only [Exit.then]
  show wpX none P cy (Ym P fn R') { a1 with defers:=_ :: a1.defers } w1
  refine Zao b _ σ1.n cy σ1 (dK P u km kv K) E1 _ w1 ⟨Nat.le_refl _,fun k b ho=>?_⟩ rfl hc3 hfx (ZkG hs _) (fun e σ' hk C2 E' a' w' c1 c2 c3 c4 c5 hs'=>?_)
  . rcases Classical.em (ltn σ1.n k) with hk | hk
    . exact hk
    . have ho':occ E1 k (lkh k σ1.hp) b:=ho
      rw [hs.hs.kn k hk] at ho';exact ho'.elim
  have main:∀ (hb':HB),Zrw P u kv (lkh km σ'.hp) hb'->(∀ (C':Cx) E' a' w',C'.w0=C.w0->C'.okp=C.okp->C'.pass=C.pass->C'.e0=C.e0->C'.m0=C.m0->Sim C' E' ⟨σ'.fr,(km,hb') :: σ'.hp,σ'.n,σ'.N,σ'.gs⟩ a' w'->Lv P fn a'.tmps R' C.ds .returning w') ->
   Lv P fn a'.tmps R' ({ target:=.builtin .delete c.argTypes o.type (c.args.map fun | .const _=>true | _=>false),args:=#[.map (some (E1.β km)),kv] } :: a1.defers) .returning w':=fun hb' hdel hKK=>by
   obtain ⟨x,w2,hrun2,hs2,_⟩:=Zt6 hs' (ty:=o.type) (cc:=c.args.map fun | .const _=>true | _=>false) hu hdel
   have hβ : E'.β km=E1.β km:=by
    have:=(hs'.hs.pin km (by rw [c5];exact hlt)).2.1
    rw [c4] at this;exact this
   rw [hβ] at hrun2
   refine ⟨by simp,.inr (.inl ⟨.delete,c.argTypes,o.type,_,w2,x,rfl,hrun2,?_⟩)⟩
   rw [d1]
   have hsim:=ZeP hs hs2 c1 c2 c3 c4 c5 hmn
   have hmark:∀ m ∈ ms,C.w0.heap.size<=m/\okS C E' ((km,hb') :: σ'.hp) m/\w2.heap[m]? = some (.deferred (some [])):=fun m hm=>by
    obtain ⟨p1,p2,p3⟩:=d3 m hm
    have hlt':m < w1.heap.size:=(Array.getElem?_eq_some_iff.1 p3).1
    have hnp:∀ k,¬ C2.pass k m:=fun k hk=>by rw [c3] at hk;exact p2.2 k hk
    refine ⟨p1,⟨p2.1,fun k ho=>?_⟩,?_⟩
    . rcases hs2.hs.lo k m ho with g | g
      . rw [c1] at g;exact absurd hlt' (Nat.not_lt.2 g)
      . exact hnp k g
    . have:=hs2.hs.kp.block m (by rw [c1];exact hlt') hnp
      rw [c1] at this;rw [this];exact p3
   refine XD ms _ _ (by simp) d2.1 (fun m hm=>(hmark m hm).2.2) fun w3 hu3=>?_
   exact hKK { C with ds:=a'.defers } E' a' w3 rfl rfl rfl rfl rfl (X9 (C:={ C with ds:=a'.defers }) hsim hmark hu3)
  cases e with
  | ex i=>exact hk.elim
  | pan s=>exact hk.elim
  | n =>
   obtain ⟨hb',h1,h2⟩:=hk
   exact main hb' h1 (fun C' E' a' w' q1 q2 q3 q4 q5 q6=>hK .n _ h2 C' E' a' w' q1 q2 q3 q4 q5 q6)
  | ret =>
   obtain ⟨hb',h1,h2⟩:=hk
   exact main hb' h1 (fun C' E' a' w' q1 q2 q3 q4 q5 q6=>hK .ret _ h2 C' E' a' w' q1 q2 q3 q4 q5 q6)
 | .rcv ops cx b,C,m,code,σ,K,E,a,w,hm,hrd,hc,h,hS,hK=>by
  unfold Zaf at hc
  split at hc
  case h_2=>cases hc
  rename_i id os cy
  simp only [Bool.and_eq_true] at hc
  obtain ⟨⟨hc1,hc2⟩,hc3⟩:=hc
  split at hc2
  case h_2=>cases hc2
  rename_i o ho
  have hos:os.toList=os.toList.take ops.length ++ [o]:=by rw [<- ho,List.take_append_drop]
  refine ZcL (XP ?_)
  rw [hos,<- hrd]
  refine ZhI (C:=C) (Q:=Exit.then (wpX C.rd P cy (Ym P fn R')) (Ym P fn R')) (os2:=[o]) Za3 (K:=ZcG (fxS (fun σ K=>ZxP P (fun n=>fx P n b) (rK P K) (rdG none σ.fr cx) σ) K)) (fun σ0 E1 a1 w1 hk0 hs0=>?_)
   (fun s σ' E' a' w' y hk hs hy=>X2 hK (.pan s) (VF σ') hk E' a' w' (Xx hs) y (by rw [Zed,Zc9];exact hy)) ops _ hc1 σ E a w h hS
  have hs:=Xx hs0
  simp only [ZcG,fxS] at hk0
  generalize VF σ0 = σ1 at hs hk0
  obtain ⟨ms,d1,d2,d3⟩:=hs.df
  unfold ZxP at hk0
  split at hk0
  case h_2=>exact hk0.elim
  rename_i g caps hcl
  have hRx:=YB hs.fr (g:=none) trivial cx
  rw [hcl] at hRx
  simp only [R] at hRx
  obtain ⟨cs,k1,k2⟩:=hRx
  have hmn:C.m0<=σ1.n:=by
   rcases Nat.lt_or_ge σ1.n C.m0 with q | q
   . exact absurd (hs.hs.pin σ1.n q).1 (Nat.lt_irrefl _)
   . exact q
  unfold ZqN at hc2
  split at hc2
  case h_2=>cases hc2
  rename_i cc hop hdst hgd
  simp only [Bool.and_eq_true] at hc2
  obtain ⟨e1,e2⟩:=hc2
  split at e1
  case h_2=>cases e1
  rename_i y hcal
  have hca:cc.args = #[]:=by simpa using e2
  rw [hrd]
  simp only [Um,Region.wanted,hgd]
  simp only [if_true]
  have hrun:(o.semAt none a1.eval).run P w1 = .ok (.defer { target:=.fn (.func g) cs,args:=#[] }) w1:=by
   rw [Oper.semAt_none]
   obtain ⟨dst',op',ty',pos,after,guard⟩:=o
   simp only at hop;subst hop
   simp [execOp,resolve,hcal,hca,Zh e1 a1,k1,Deferred.ofValue,Sem.run_bind,Sem.run_pure]
  show o.wpq none P a1 w1 _ _
  unfold Oper.wpq
  rw [hrun]
  simp only [Oper.uponX,hdst]
  show Exit.then _ _ .normal _ w1
  simp only [Exit.then]
  show wpX none P cy (Ym P fn R') { a1 with defers:=_ :: a1.defers } w1
  refine Zao b _ σ1.n cy σ1 (rK P K g caps) E1 _ w1 ⟨Nat.le_refl _,fun k b ho=>?_⟩ rfl hc3 hk0 (ZkG hs _) (fun e σ' hk C2 E' a' w' c1 c2 c3 c4 c5 hs'=>?_)
  . rcases Classical.em (ltn σ1.n k) with hk | hk
    . exact hk
    . have ho':occ E1 k (lkh k σ1.hp) b:=ho
      rw [hs.hs.kn k hk] at ho';exact ho'.elim
  have hpin:∀ j,j < σ1.n->j < σ'.n/\Ele E1 E' j j:=fun j hj=>by
   have:=hs'.hs.pin j (by rw [c5];exact hj)
   rw [c4] at this;exact this
  have hstC:YO w1 w' (okS C E1 σ1.hp) (okS C2 E' σ'.hp):=fun b hb q=>by
   have hlt:b < w1.heap.size:=by rcases q with ⟨cells,T,fz,hcell⟩ | ⟨es,c,hcell⟩<;>exact (Array.getElem?_eq_some_iff.1 hcell).1
   refine ⟨⟨.inl (by rw [c2];exact hb),fun j ho=>?_⟩,?_⟩
   . rcases hs'.hs.lo j b ho with q | q
     . rw [c1] at q;exact absurd hlt (Nat.not_lt.2 q)
     . rw [c3] at q;exact hb.2 j q
   . have:=hs'.hs.kp.block b (by rw [c1];exact hlt) (fun j q=>by rw [c3] at q;exact hb.2 j q)
     rw [c1] at this;exact this
  have hcaps:RL w' E' (ltn σ'.n) (okS C2 E' σ'.hp) caps cs.toList:=ZE hstC (fun j hj=>(hpin j hj).2) (fun j hj=>(hpin j hj).1) _ _ k2
  have fin:∀ (kk:St->Prop) (eK:Ex) (heK:eK = .n\/eK = .ret),(∀ σ,kk σ->K eK σ)->∀ hp' n' E3 w3,kk ⟨σ'.fr,hp',n',σ'.N,σ'.gs⟩->Sim C2 E3 ⟨σ'.fr,hp',n',σ'.N,σ'.gs⟩ a' w3->Lv P fn a'.tmps R' a1.defers .returning w3:=fun kk eK heK hkk hp' n' E3 w3 hq hs2=>by
   rw [d1]
   have hsim:=ZeP hs hs2 c1 c2 c3 c4 c5 hmn
   have hmark:∀ m ∈ ms,C.w0.heap.size<=m/\okS C E3 hp' m/\w3.heap[m]? = some (.deferred (some [])):=fun m hm=>by
    obtain ⟨p1,p2,p3⟩:=d3 m hm
    have hlt':m < w1.heap.size:=(Array.getElem?_eq_some_iff.1 p3).1
    have hnp:∀ k,¬ C2.pass k m:=fun k hk=>by rw [c3] at hk;exact p2.2 k hk
    refine ⟨p1,⟨p2.1,fun k ho=>?_⟩,?_⟩
    . rcases hs2.hs.lo k m ho with g | g
      . rw [c1] at g;exact absurd hlt' (Nat.not_lt.2 g)
      . exact hnp k g
    . have:=hs2.hs.kp.block m (by rw [c1];exact hlt') hnp
      rw [c1] at this;rw [this];exact p3
   refine XD ms _ _ (by simp) d2.1 (fun m hm=>(hmark m hm).2.2) fun w4 hu4=>?_
   rcases heK with rfl | rfl
   . exact hK .n _ (hkk _ hq) { C with ds:=a'.defers } E3 a' w4 rfl rfl rfl rfl rfl (X9 (C:={ C with ds:=a'.defers }) hsim hmark hu4)
   . exact hK .ret _ (hkk _ hq) { C with ds:=a'.defers } E3 a' w4 rfl rfl rfl rfl rfl (X9 (C:={ C with ds:=a'.defers }) hsim hmark hu4)
  have hm2:C2.m0<=σ'.n:=by
   rw [c5]
   rcases Nat.lt_or_ge σ'.n σ1.n with q | q
   . exact absurd (hpin σ'.n q).1 (Nat.lt_irrefl _)
   . exact q
  have main:∀ (s:SV) (v:Value) (u u':FrameMode) (eK:Ex),(eK = .n\/eK = .ret)->R w' E' (ltn σ'.n) (okS C2 E' σ'.hp) s v->Zx8 v u u'->(∃ t l c N,RcF P g t l c N/\rcR P t l c N caps s σ' (K eK)) ->
   Lv P fn a'.tmps R' ({ target:=.fn (.func g) cs,args:=#[] } :: a1.defers) u w':=fun s v u u' eK heK hv hu hex=>by
   obtain ⟨t,l,c,N,hF,hrun⟩:=hex
   have hset:u≠.run/\settle u' = .returning:=by
    rcases hu with ⟨rfl,rfl,rfl⟩ | ⟨rfl,rfl⟩
    . exact ⟨by simp,rfl⟩
    . exact ⟨by simp,rfl⟩
   refine ⟨hset.1,.inr (.inr ⟨.func g,cs,g,cs,rfl,by simp [invoke,YW hF.bd],?_⟩)⟩
   have hcalls:=Zxk hF hs' hm2 hcaps hv hrun hu (R':=fun e u'' w''=>match e with
    | .returned _=>Lv P fn a'.tmps R' a1.defers (settle u'') w''
    | .panicked chain=>Lv P fn a'.tmps R' a1.defers (raised u'' chain) w''
    | .outgrown=>R' .outgrown w'') (fun hp' n' E3 w3 hq hs3=>by
    show Lv P fn a'.tmps R' a1.defers (settle u') w3
    rw [hset.2]
    exact fin (K eK) eK heK (fun _ h=>h) hp' n' E3 w3 hq hs3)
   rw [show cs.toList.toArray=cs from rfl] at hcalls
   intro c₀ cs0 hc0
   obtain ⟨e2,u2,w2,fr2,q1,q2,q3,q4⟩:=hcalls c₀ cs0 hc0
   refine ⟨e2,u2,w2,fr2,?_,q2,q3,q4⟩
   cases e2<;>exact q1
  cases e with
  | ex i=>exact hk.elim
  | n=>exact main _ _ _ _ .n (.inl rfl) (by simp only [R]) (.inl ⟨rfl,rfl,rfl⟩) hk
  | ret=>exact main _ _ _ _ .ret (.inr rfl) (by simp only [R]) (.inl ⟨rfl,rfl,rfl⟩) hk
  | pan s=>intro y hy;exact main s y _ _ .ret (.inr rfl) hy (.inr ⟨rfl,rfl⟩) hk
theorem ZeK {f:FuncId} {fn:Func} {code:Code} {fb:FB} {args:List SV} {N n0 m:Nat} {hp0:List (Nat × HB)} {C:Cx} {E:Env} {w:World} {vs:List Value} {K:Ex->St->Prop} {R':Ending->World->Prop}
 (hf:P.funcs[f]? = some fn) (hb:fn.body=some code) (hc:Zaf P fb code=true) (hN:fn.ntmps=N) (hA:args.length<=N) (hds:C.ds=[]) (hrd:C.rd=none) (hm:MC C m)
 (hH:HSim C E hp0 (ltn n0) w) (hR:RL w E (ltn n0) (okS C E hp0) args vs) (h:fx P m fb ⟨enum 0 args,hp0,n0,N,[]⟩ K)
 (hK:∀ e σ,K e σ->∀ C' E a w',C'.w0=C.w0->C'.okp=C.okp->C'.pass=C.pass->C'.e0=C.e0->C'.m0=C.m0->Sim C' E σ a w'->match e with
  | .n | .ret=>∃ v,(results fn a.tmps).run P w' = .ok v w'/\R' (.returned v) w'
  | .ex _=>False
  | .pan s=>∀ y,R w' E (ltn σ.n) (okS C' E σ.hp) s y->R' (.panicked [{ v:=y,recovered:=false }]) w'):Calls P f vs.toArray w R':=by
 have hlen:=ZH hR
 have hng:∀ t j b s,lk t (enum 0 args)≠.gd j b s:=by
  intro t j b s ht
  simp only [VY,Nat.zero_le,if_true,Nat.sub_zero] at ht
  by_cases htl:t < args.length
  . have e1:args.getD t .any=args[t]:=by simp [htl]
    obtain ⟨y,h1,h2⟩:=Vi hR (List.getElem?_eq_getElem htl)
    rw [e1] at ht;rw [ht] at h2;simp only [R] at h2
  . have e1:args.getD t .any = .any:=by simp [List.getElem?_eq_none (Nat.le_of_not_lt htl)]
    rw [e1] at ht;cases ht
 have hS:Sim C E ⟨enum 0 args,hp0,n0,N,[]⟩ { tmps:=vs.toArray ++ Array.replicate (fn.ntmps - vs.toArray.size) undef,defers:=[] } w:=by
  refine ⟨fun t=>?_,by simp [hN];omega,by rw [<- hds];exact UW,fun t j b s ht=>absurd ht (hng t j b s),hH⟩
  have hng:=hng t
  have hFR:R w E (ltn n0) (okS C E hp0) (lk t (enum 0 args)) ((vs.toArray ++ Array.replicate (fn.ntmps - vs.toArray.size) undef).getD t undef):=by
   simp only [VY,Nat.zero_le,if_true,Nat.sub_zero]
   by_cases ht:t < args.length
   . have e1:args.getD t .any=args[t]:=by simp [ht]
     obtain ⟨y,h1,h2⟩:=Vi hR (List.getElem?_eq_getElem ht)
     have e2:(vs.toArray ++ Array.replicate (fn.ntmps - vs.toArray.size) undef).getD t undef=y:=by
      have:t < vs.length:=by omega
      have h1':=(List.getElem?_eq_some_iff.1 h1).2
      simp [Array.getElem?_append,this,h1']
     rw [e1,e2];exact h2
   . have e1:args.getD t .any = .any:=by simp [List.getElem?_eq_none (Nat.le_of_not_lt ht)]
     rw [e1];simp only [R]
  simp only
  cases hq:lk t (enum 0 args)<;>rw [hq] at hFR hng<;>first | exact hFR | exact absurd rfl (hng _ _ _)
 refine VN hf hb ?_
 refine Zao fb C m code _ K E _ w hm hrd hc h hS (fun e σ hk C' E a w' c1 c2 c3 c4 c5 hs=>?_)
 have key:=hK e σ hk C' E a w' c1 c2 c3 c4 c5 hs
 rw [hds]
 cases e with
 | ex i=>exact key
 | n=>exact key
 | ret=>exact key
 | pan s=>exact key
theorem Zf6 {f:FuncId} {fn:Func} {code:Code} {fb:FB} {args:List SV} {rs:List RV} {N n0:Nat} {hp0:List (Nat × HB)} {ZX:Ot->Prop} (hf:P.funcs[f]? = some fn) (hb:fn.body=some code) (hc:Zaf P fb code=true)
 (hr:We P rs fn.results.toList=true) (hN:fn.ntmps=N) (hA:args.length<=N) (h:fx P n0 fb ⟨enum 0 args,hp0,n0,N,[]⟩ (retM rs ZX)):CtY P Y0 f hp0 n0 args ZX:=by
 intro C E w vs d1 d2 d3 d4 d5 d6 hY hH hR
 refine ZeK hf hb hc hN hA d3 d2 ⟨Nat.le_of_eq d5,d6⟩ hH hR h fun e σ hk C' E' a w' c1 c2 c3 c4 c5 hs=>?_
 obtain ⟨g1,g2⟩:=ZeZ hs.hs c1 c2 c3 c4 c5
 have hend:retF ZX σ.hp σ.n (rvE (rvsK σ rs))->∃ v,(results fn a.tmps).run P w' = .ok v w'/\∃ o E' y,ZX o/\HSim C E' o.hp (ltn o.n) w'/\R w' E' (ltn o.n) (okS C E' o.hp) o.res y/\Ending.returned v=ZtE o.pn y:=fun hrr=>by
  cases hq:rvE (rvsK σ rs) with
  | none=>rw [hq] at hrr;exact hrr.elim
  | some s =>
   rw [hq] at hrr
   obtain ⟨v,h1,h2⟩:=Uy (P:=P) (fn:=fn) (a:=a) (w:=w') (E:=E') (n:=ltn σ.n) (ok:=okS C' E' σ.hp) hq fun l hl=>ZeO hs rs _ l hr hl
   rw [g2] at h2
   exact ⟨v,h1,_,E',v,hrr,g1,h2,rfl⟩
 cases e with
 | ex i=>exact hk.elim
 | n=>exact hend hk
 | ret=>exact hend hk
 | pan s=>intro y hy;rw [g2] at hy;exact ⟨_,E',y,hk,g1,hy,rfl⟩
theorem Zb7 {f:FuncId} {fn:Func} {code:Code} {fb:FB} {args:List SV} {rs:List RV} {N n0:Nat} {hp0:List (Nat × HB)} {ZX:Ot->Prop} (hf:P.funcs[f]? = some fn) (hb:fn.body=some code) (hnm:YF P f=true) (hc:Zaf P fb code=true)
 (hr:We P rs fn.results.toList=true) (hN:fn.ntmps=N) (hA:args.length<=N) (hh:hpb n0 hp0) (hx:∀ o,ZX o->KX o.res/\KXP o.hp) (h:fx P n0 fb ⟨enum 0 args,hp0,n0,N,[]⟩ (retM rs fun o=>∃ o',ZX o'/\Zec n0 o o')):CtM P f hp0 n0 args ZX :=
 ⟨hnm,hh,hx,(Zf6 hf hb hc hr hN hA h).mono fun _ h=>h⟩
end
theorem ZbI {m:Nat} {σ : St} (t:Nat) {s':SV} (hg:σ.gs=[]) (hw:Y6 (lk t σ.fr) s') (h2:∀ j b u,s'≠.gd j b u):Ent m σ ⟨(t,s') :: σ.fr,σ.hp,σ.n,σ.N,σ.gs⟩:=fun C E a w hmc h=>by
 have hR0:∀ u,R w E (ltn σ.n) (okS C E σ.hp) (lk u σ.fr) (a.tmps.getD u undef):=fun u=>Zvp (h.fr u) (fun j b u' e=>by have:=h.gs u j b u' e;rw [hg] at this;simp at this)
 have g2:ZG w w (okS C E σ.hp) (okS C E σ.hp):=fun b hb _=>⟨hb,rfl⟩
 refine ⟨E,fun u=>?_,h.sz,h.df,fun u j b s hu=>?_,h.hs⟩
 . rw [ZF]
   split
   . rename_i hu;subst hu
     have:=hw _ _ _ _ _ (hR0 u)
     cases s'<;>first | exact this | exact absurd rfl (h2 _ _ _)
   . refine Xj g2 (fun _ _=>Ele.rfl) (fun k hk=>hk) (fun j b s hs=>?_) (h.fr u)
     have:=h.gs u j b s hs;rw [hg] at this;simp at this
 . rw [ZF] at hu
   split at hu
   . exact absurd hu (h2 _ _ _)
   . exact h.gs u j b s hu
end Go.Sx
