/- Walks and plain laws that lead to the given statement, part 4 of 10. -/
import Derived.Test.YtiigiflofnjilaaGreatQC
set_option linter.all false
open Nat renaming reduceAdd->rA,reduceMul->rM,reduceSub->rS,beq_refl->nbr
namespace Go.Sx
open Go Go.RowKit
variable {Y:Hd}
section
variable (P:Program) (m:Nat) (σ : St) (K:Ex->St->Prop) (L:RK)
theorem ZyM:rx P Y [] σ L=L .n σ:=rfl
theorem ZtY (io:Ins) (r:List Ins):rx P Y (io :: r) σ L=st1 P Y io σ (rx P Y r) L:=rfl
theorem Zzi (ops:List Ins):sx P Y m (.reg ops) σ K=rx P Y ops σ (Zdb K):=rfl
theorem Zs0 (ord:List Nat) (p:Ph) (ps:List Ph):sx P Y m (.regs ord p ps) σ K=phx P Y p ps σ (Zdb K):=rfl
theorem phx_1 (vs:List VI) (nA nB:Nat) (rest:List Ins):phx P Y ⟨vs,nA,nB,rest⟩ [] σ L=gs0 σ.gs (rxv P Y (Zc8 σ.hp (rx P Y rest)) vs σ L):=rfl
theorem phx_2 (vs:List VI) (nA nB:Nat) (rest:List Ins) (q:Ph) (ps:List Ph):phx P Y ⟨vs,nA,nB,rest⟩ (q :: ps) σ L=gs0 σ.gs (rxv P Y (Zc8 σ.hp (rx P Y rest)) vs σ (phK (phx P Y q ps) L)):=rfl
theorem phK_n (f:St->RK->Prop):phK f L .n σ = f σ L:=rfl
theorem Zuw (ord:List Nat) (vs:List VI) (nA nB:Nat) (rest:List Ins):sx P Y m (.regd ord vs nA nB rest) σ K=gs0 σ.gs (rxv P Y (Zc8 σ.hp (rx P Y rest)) vs σ (Zdb K)):=rfl
theorem Zxp (r:KT):rxv P Y r [] σ L=r σ L:=rfl
theorem Zx5 (r:KT) (io:Ins) (l:List VI):rxv P Y r (.op io :: l) σ L=st1 P Y io σ (rxv P Y r l) L:=rfl
theorem Zni (r:KT) (x:X) (l:List VI):rxv P Y r (.hide x :: l) σ L=Zeb (rdG none σ.fr x) σ (rxv P Y r l) L:=rfl
theorem ZmX (hp:List (Nat × HB)) (r:KT):Zc8 hp r σ L=r ⟨σ.fr,hp,σ.n,σ.N,σ.gs⟩ L:=rfl
theorem Zxb (k o:Nat) (r:KT):Zeb (.p k o) σ r L=r ⟨σ.fr,(k,.gone) :: σ.hp,σ.n,σ.N,σ.gs⟩ L:=rfl
theorem Zpj (k v:Nat) (r:KT):Zeb (.mr k v) σ r L=r ⟨σ.fr,(k,.gone) :: σ.hp,σ.n,σ.N,σ.gs⟩ L:=rfl
theorem Zqd (k v m i o:Nat) (r:KT):Zeb (.pr k v m i o) σ r L=r ⟨σ.fr,(k,.gone) :: σ.hp,σ.n,σ.N,σ.gs⟩ L:=rfl
theorem ZrU (k v m i o:Nat) (r:KT):Zeb (.ms k v m i o) σ r L=r ⟨σ.fr,(k,.gone) :: σ.hp,σ.n,σ.N,σ.gs⟩ L:=rfl
theorem ZuX (p:Prop):gs0 [] p=p:=rfl
theorem Zy3 (a b:SC):sx P Y m (.seq a b) σ K=sx P Y m a σ (ZtP (sx P Y m b) K):=rfl
theorem ZvS (c:X) (a b:SC):sx P Y m (.cond c a b) σ K=ZAu (rdG none σ.fr c) (sx P Y m a) (sx P Y m b) σ K:=rfl
theorem ZrD (id:Nat) (c:SC):sx P Y m (.block id c) σ K=sx P Y m c σ (Zsr id K):=rfl
theorem ZtU (c:SC):sx P Y m (.loop c) σ K=Zu8 m (sx P Y m c) σ K:=rfl
theorem ZtC (id:Nat):sx P Y m (.exit id) σ K=K (.ex id) σ:=rfl
theorem Zzn:sx P Y m .ret σ K=K .ret σ:=rfl
theorem ZwE:sx P Y m .skip σ K=K .n σ:=rfl
theorem Zrz (c:SC):sx P Y m (.scope c) σ K=sx P Y m c σ K:=rfl
theorem sx_gh (c:SC):sx P Y m (.gh c) σ K=GH m (sx P Y m c) σ K:=rfl
theorem Zpd (l:Nat):sx P Y m (.label l) σ K=K .n σ:=rfl
theorem Zu1 (e:Ex):Zdb K e σ = K e (V1 σ):=rfl
theorem Zz8 (f:CT):ZtP f K .n σ = f σ K:=rfl
theorem Ztv (f:CT) (i:Nat):ZtP f K (.ex i) σ = K (.ex i) σ:=rfl
theorem ZoL (f:CT) (s:SV):ZtP f K (.pan s) σ = K (.pan s) σ:=rfl
theorem Zno (f:CT):ZtP f K .ret σ = K .ret σ:=rfl
theorem Zzc (id:Nat):Zsr id K .n σ = K .n σ:=rfl
theorem ZnQ (id:Nat) (s:SV):Zsr id K (.pan s) σ = K (.pan s) σ:=rfl
theorem Zq8 (id:Nat):Zsr id K .ret σ = K .ret σ:=rfl
theorem Zz5 (rs:List RV) (res:SV):ZAh rs res .n σ = (rvR rs σ = some res):=rfl
theorem Zqc (rs:List RV) (res:SV):ZAh rs res .ret σ = (rvR rs σ = some res):=rfl
theorem ZyF {S:Type} (st:S->St) (rel:S->Prop) (μ : S->Nat) (s:S):Zm5 m st rel μ s K .n σ = ∃ s',rel s'/\μ s' < μ s/\Ent m σ (st s'):=rfl
theorem ZwT {S:Type} (st:S->St) (rel:S->Prop) (μ : S->Nat) (s:S) (i:Nat):Zm5 m st rel μ s K (.ex i) σ = K (.ex i) σ:=rfl
theorem Zqs {S:Type} (st:S->St) (rel:S->Prop) (μ : S->Nat) (s:S) (x:SV):Zm5 m st rel μ s K (.pan x) σ = K (.pan x) σ:=rfl
theorem Zpc {S:Type} (st:S->St) (rel:S->Prop) (μ : S->Nat) (s:S):Zm5 m st rel μ s K .ret σ = K .ret σ:=rfl
end
section
variable {P:Program} {m:Nat} {σ : St} {K:Ex->St->Prop} {L:RK} {r:KT} {d:Option Nat} {g:Option (Nat × Bool)}
theorem br {b:Bool} {f h:CT} (h1:b=true->f σ K) (h2:b=false->h σ K):BR b f h σ K:=⟨h1,h2⟩
theorem Zv {b:Bool} {f h:CT} (hb:b=true) (h1:f σ K):BR b f h σ K:=⟨fun _=>h1,fun e=>by rw [hb] at e;cases e⟩
theorem Zw {b:Bool} {f h:CT} (hb:b=false) (h1:h σ K):BR b f h σ K:=⟨fun e=>by (rw [hb] at e;cases e),fun _=>h1⟩
theorem gb {b w:Bool} {j:Nat} {i:SI} (h:Yt P (some (j,w)) d i σ r L):GB P Y b j w d i σ r L:=.inr (.inr h)
theorem Yn {b w:Bool} {j:Nat} {i:SI} (hb:b=w) (h:stp P Y d i σ r L):GB P Y b j w d i σ r L:=.inl ⟨hb,h⟩
theorem Vt {b w:Bool} {j:Nat} {i:SI} (hb:b≠w) (h:Zwz d σ r L):GB P Y b j w d i σ r L:=.inr (.inl ⟨hb,h⟩)
theorem call {f:FuncId} {args:List SV} {res:SV} (h:Ct P f args res) (hk:YA d res g σ r L):ZxY P g f args d σ r L:=⟨res,.inl (ZQ.2 fun _=>h),hk⟩
theorem ZeE {f:FuncId} {args:List SV} {res:SV} (hf:FLT res) (h:Ct P f (Zcz (vw4 σ.hp) args) res) (hk:YA d res g σ r L):ZxY P g f args d σ r L:=⟨res,.inr ⟨hf,ZQ.2 fun _=>h⟩,hk⟩
theorem Zir {b:BinOp} {k:IntKind} {x y:Int} (h:y≠0) (hk:YA d (.v (.int k (Zof b k x y))) g σ r L):DIV g b k x y d σ r L:=⟨ZQ.2 fun _=>h,hk⟩
theorem ixs {xs:List (List SV)} {i:Int} (n:Nat) (row:List SV) (hi:i=(n:Int)) (hr:xs[n]? = some row) (hk:YA d (.ps row 0) g σ r L):IXS g xs i d σ r L:=⟨row,ZQ.2 fun _=>⟨n,hi,hr⟩,hk⟩
theorem Zp {α : Type} {l:List α} {f:α->List SV} {i:Int} (n:Nat) (hn:n < l.length) (hi:i=(n:Int)) (hk:YA d (.ps (f l[n]) 0) g σ r L):IXS g (l.map f) i d σ r L :=
 ixs n _ hi (by simp [hn]) hk
theorem ixa {len:Nat} {i:Int} {F:Nat->Option SV} (n:Nat) (hi:i=(n:Int)) (hn:n < len) (hk:WD (F n) d g σ r L):IXA g len i F d σ r L:=⟨n,ZQ.2 fun _=>⟨hi,hn⟩,hk⟩
theorem loop {f:CT} {S:Type} (st:S->St) (rel:S->Prop) (μ : S->Nat) (s:S) (h0:rel s) (he:Ent m σ (st s)) (hb:∀ s,rel s->f (st s) (Zm5 m st rel μ s K)):Zu8 m f σ K :=
 .inr ⟨S,st,rel,μ,⟨s,h0,he⟩,hb⟩
theorem Xp {f:CT} (n:Nat) (h:ZxU f K n σ):Zu8 m f σ K:=.inl ⟨n,h⟩
theorem Zb {f:CT} (n:Nat):ZxU f K (n+1) σ = f σ (ZxJ (ZxU f K n) K):=rfl
theorem ZzF (p:St->Prop):ZxJ p K .n σ = p σ:=rfl
theorem ZsU (p:St->Prop) (i:Nat):ZxJ p K (.ex i) σ = K (.ex i) σ:=rfl
theorem ZqK (p:St->Prop) (s:SV):ZxJ p K (.pan s) σ = K (.pan s) σ:=rfl
theorem ZpX (p:St->Prop):ZxJ p K .ret σ = K .ret σ:=rfl
def ZxH:List (Nat × SV)->List (Nat × SV)->Prop
 | [],_=>True
 | (t,s) :: r,fr=>lk t fr=s/\ZxH r fr
def ZxX:List (Nat × SV)->Bool
 | []=>true
 | (_,.gd _ _ _) :: _=>false
 | _ :: r=>ZxX r
theorem Zkp:∀ {r fr:List (Nat × SV)},ZxH r fr->∀ t,lk t r = .any\/lk t r=lk t fr
 | [],_,_,t=>.inl rfl
 | (u,s) :: r,fr,h,t=>by
  rw [ZF]
  by_cases ht:t=u
  . subst ht;rw [if_pos rfl];exact .inr h.1.symm
  . rw [if_neg ht];exact Zkp h.2 t
theorem Ze2:∀ {r:List (Nat × SV)},ZxX r=true->∀ t j b s,lk t r≠.gd j b s
 | [],_,t,j,b,s=>by simp [lk]
 | (u,s') :: r,h,t,j,b,s=>by
  rw [ZF]
  by_cases ht:t=u
  . rw [if_pos ht];rintro rfl;simp [ZxX] at h
  . rw [if_neg ht];exact Ze2 (by cases s'<;>first | exact h | simp [ZxX] at h) t j b s
end
section
variable {w:World} {E:Env} {ok ok':Nat->Prop} {ρ : Nat->Nat} {n':Nat} {n:Nat->Prop}
theorem ent {σ σ':St} (ρ : Nat->Nat) (hf:mtF ρ σ'.n [] σ'.fr σ.fr) (hp:mtP ρ σ'.hp σ.hp σ'.n σ'.n) (hb:hpb σ'.n σ'.hp) (hρ : ∀ i,i < σ'.n->∀ j,j < σ'.n->ρ i = ρ j->i=j) (hN:Nat.beq σ'.N σ.N=true) {m0:Nat} (hm:Nat.ble m0 σ'.n=true) (hfix:∀ i,i < m0->ρ i=i):Ent m0 σ σ':=by
 intro C E a w hm0 h
 have hN:=Nat.eq_of_beq_eq_true hN
 have hgone:=Zc5 hb
 have hH:=Zi2 hp
 have hocc:∀ k b,occ (rnE E ρ) k (lkh k σ'.hp) b->k < σ'.n/\occ E (ρ k) (lkh (ρ k) σ.hp) b:=fun k b ho=>by
  by_cases hk:k < σ'.n
  . refine ⟨hk,?_⟩
    have:=hH k hk
    cases h1:lkh k σ'.hp<;>rw [h1] at ho this
    . cases h2:lkh (ρ k) σ.hp<;>rw [h2] at this<;>simp only [mtH] at this
      exact ho
    . simp only [mtH] at this;rw [this.1];exact ho
    . simp only [mtH] at this;rw [this];exact ho
    . simp only [mtH] at this;rw [this.1];exact ho
    . simp only [mtH] at this;rw [this.2];exact ho
    . simp only [mtH] at this;rw [this];exact ho
    . simp only [mtH] at this;rw [this];exact ho
    . simp only [mtH] at this;rw [this.1];exact ho
    . exact ho.elim
  . rw [hgone k hk] at ho;exact ho.elim
 have hst:ZG w w (okS C E σ.hp) (okS C (rnE E ρ) σ'.hp):=fun b hb _=>⟨⟨hb.1,fun k ho=>hb.2 _ (hocc k b ho).2⟩,rfl⟩
 refine ⟨rnE E ρ,fun t=>?_,by rw [hN];exact h.sz,X2 hst h.df,fun t j b s ht=>?_,⟨hgone,fun k=>?_,fun k k' b h1 h2=>?_,fun k b h1=>?_,h.hs.kp,fun k hk=>?_⟩⟩
 . rcases ZjD hf t rfl with h1 | h1
   . rw [h1];exact trivial
   . have:=mtS_R hst h1 (h.fr t)
     have hng:=Zc3 h1
     cases hs:lk t σ'.fr<;>rw [hs] at this hng<;>first | exact this | exact absurd rfl (hng _ _ _)
 . rcases ZjD hf t rfl with h1 | h1
   . rw [h1] at ht;cases ht
   . exact absurd ht (Zc3 h1 j b s)
 . by_cases hk:k < σ'.n
   . have:=hH k hk
     have hbk:=h.hs.bk (ρ k)
     cases h1:lkh k σ'.hp<;>rw [h1] at this
     . cases h2:lkh (ρ k) σ.hp<;>rw [h2] at this hbk<;>simp only [mtH] at this
       obtain ⟨rfl,this⟩:=this
       simp only [Yc] at hbk ⊢
       obtain ⟨cs,k1,k2⟩:=hbk
       exact ⟨cs,k1,Zbj hst _ _ _ this k2⟩
     . simp only [mtH] at this
       rw [this.1] at hbk
       simp only [Yc] at hbk ⊢
       obtain ⟨hi0,hbk⟩:=hbk
       refine ⟨hi0,?_⟩
       rcases hbk with q | ⟨b,cap,cs,q1,q2,q3,q4,q5,q6,q7⟩
       . exact .inl q
       . exact .inr ⟨b,cap,cs,q1,q2,q3,q4,q5,q6,ZD hst (fun _ h=>Ele.rfl) (fun _ h=>h.elim) _ _ (Zb0 (E':=rnE E ρ) (n':=fun _=>False) _ _ (VO this.2) q7)⟩
     . rename_i φ
       simp only [mtH] at this
       rw [this] at hbk
       simp only [Yc] at hbk ⊢
       obtain ⟨o,k1,k2⟩:=hbk
       exact ⟨o,k1,φ.mono _ _ _ _ _ hst k2⟩
     . simp only [mtH] at this
       obtain ⟨this,hkf⟩:=this
       rw [this] at hbk
       simp only [Yc] at hbk ⊢
       obtain ⟨ys,k1,k2⟩:=hbk
       exact ⟨ys,k1,Zqx hst _ _ hkf k2⟩
     . simp only [mtH] at this
       rw [this.2] at hbk
       simp only [Yc] at hbk ⊢
       exact ⟨this.1,hbk.2⟩
     . simp only [mtH] at this
       rw [this] at hbk
       simp only [Yc] at hbk ⊢
       exact hbk
     . simp only [mtH] at this
       rw [this] at hbk
       simp only [Yc] at hbk ⊢
       exact hbk
     . simp only [mtH] at this
       obtain ⟨this,k1,k2⟩:=this
       rw [this] at hbk
       exact Uk (E:=E) (k:=ρ k) (E':=rnE E ρ) hst.c (fun _ _=>rfl) rfl hk k1 k2 hbk
     . trivial
   . rw [hgone k hk];trivial
 . have e1:=hocc k b h1
   have e2:=hocc k' b h2
   exact hρ k e1.1 k' e2.1 (h.hs.dj _ _ b e1.2 e2.2)
 . obtain ⟨e1,e2⟩:=hocc k b h1
   rcases h.hs.lo _ b e2 with q | q
   . exact .inl q
   . have q1:=Nat.lt_of_lt_of_le (hm0.2 _ _ q) hm0.1
     have q2:ρ k=k:=hρ _ (Nat.lt_of_lt_of_le q1 (Nat.le_of_ble_eq_true hm)) k e1 (hfix _ q1)
     rw [q2] at q;exact .inr q
 . have hk':k < m0:=Nat.lt_of_lt_of_le hk hm0.1
   obtain ⟨p1,p2,p3,p4⟩:=h.hs.pin k hk
   exact ⟨Nat.lt_of_lt_of_le hk' (Nat.le_of_ble_eq_true hm),by simp only [rnE,hfix k hk'];exact p2,by simp only [rnE,hfix k hk'];exact p3,by simp only [rnE,hfix k hk'];exact p4⟩
end
theorem Zoa {ρ : Nat->Nat} {n':Nat}:∀ {s:SV},KF s->mtS ρ n' s s:=by
 intro s
 exact SV.rec (motive_1:=fun s=>KF s->mtS ρ n' s s) (motive_2:=fun l=>KFL l->mtL ρ n' l l) (motive_3:=fun _=>True)
  (fun x _=>by simp [mtS]) (fun k o h=>by simp [KF] at h) (fun l ih h=>by simp only [KF] at h;simp only [mtS,ZxN,mtO];exact ih h)
  (fun c m xs _ h=>by simp only [KF] at h;simp [mtS,h]) (fun k v h=>by simp [KF] at h) (fun k v m i o h=>by simp [KF] at h) (fun k v m i o h=>by simp [KF] at h)
  (fun l o _ h=>by simp only [KF] at h;simp [mtS,h]) (fun f l ih h=>by simp only [KF] at h;simp only [mtS,clL,nbr,cond_true,mtO];exact ih h)
  (fun l ih h=>by simp only [KF] at h;simp only [mtS,ZxS,mtO];exact ih h) (fun k h=>by simp [KF] at h) (fun k h=>by simp [KF] at h) (fun T s ih h=>by simp only [KF] at h;simp only [mtS,mtI];exact ⟨trivial,ih h⟩) (fun φ _=>by simp [mtS]) (fun j w s _ h=>by simp [KF] at h) (fun _=>by simp [mtS])
  (fun _=>by simp [mtL]) (fun s l h1 h2 h=>by simp only [KFL] at h;simp only [mtL,mtB];exact ⟨h1 h.1,h2 h.2⟩)
  trivial (fun _ _ _ _=>trivial) s
theorem Zc {ρ : Nat->Nat} {n':Nat}:∀ {l:List SV},KFL l->mtL ρ n' l l
 | [],_=>by simp [mtL]
 | s :: l,h=>by simp only [mtL,mtB];exact ⟨Zoa h.1,Zc h.2⟩
abbrev I (n:Int):SV:=.v (.int .i64 n)
abbrev B (b:Bool):SV:=.v (.bool b)
theorem Ze:∀ {xs ys:List (List SV)},KFR (xs ++ ys)↔KFR xs/\KFR ys
 | [],ys=>by simp [KFR]
 | x :: xs,ys=>by simp [KFR,Ze (xs:=xs) (ys:=ys),and_assoc]
theorem Za {α : Type} {f:α->List SV} {l:List α}:KFR (l.map f)↔∀ x ∈ l,KFL (f x):=by
 induction l with
 | nil=>simp [KFR]
 | cons x l ih=>simp [KFR,ih]
theorem Zf {n:Int} (h1:-9223372036854775808<=n) (h2:n<=9223372036854775807):IntKind.i64.wrap n=n:=IntWalk.i64_in n ⟨h1,h2⟩
def stO {S:Type} (σ : St) (ov:S->List (Nat × SV)) (hv:S->List (Nat × HB)) (s:S):St:=⟨ov s ++ σ.fr,hv s ++ σ.hp,σ.n,σ.N,[]⟩
theorem e_stO {S:Type} (fr:List (Nat × SV)) (hp:List (Nat × HB)) (n N:Nat) (gs:List Nat) (ov:S->List (Nat × SV)) (hv:S->List (Nat × HB)) (s:S):stO ⟨fr,hp,n,N,gs⟩ ov hv s=⟨ov s ++ fr,hv s ++ hp,n,N,[]⟩:=rfl
theorem Xt {m:Nat} {f:CT} {σ : St} {K:Ex->St->Prop} {S:Type} (ov:S->List (Nat × SV)) (hv:S->List (Nat × HB)) (rel:S->Prop) (μ : S->Nat) (s0:S) (h0:rel s0) (he:Ent m σ (stO σ ov hv s0))
 (hb:∀ s,rel s->f (stO σ ov hv s) (Zm5 m (stO σ ov hv) rel μ s K)):Zu8 m f σ K :=
 loop (stO σ ov hv) rel μ s0 h0 he hb
theorem ZeN {m:Nat} {f:CT} {σ σ1:St} {K:Ex->St->Prop} {S:Type} (hg:Ent m σ σ1) (ov:S->List (Nat × SV)) (hv:S->List (Nat × HB)) (rel:S->Prop) (μ : S->Nat) (s0:S) (h0:rel s0) (he:Ent m σ1 (stO σ1 ov hv s0))
 (hb:∀ s,rel s->f (stO σ1 ov hv s) (Zm5 m (stO σ1 ov hv) rel μ s K)):Zu8 m f σ K :=
 loop (stO σ1 ov hv) rel μ s0 h0 (YF hg he) hb
theorem gh {m:Nat} {r:CT} {σ σ1:St} {K:Ex->St->Prop} (hg:Ent m σ σ1) (h:r σ1 K):GH m r σ K:=⟨σ1,hg,h⟩
theorem Zzj {C:Cx} {E:Env} {hp:List (Nat × HB)} {n:Nat->Prop} {w:World} {m k v m':Nat} {xs:List (List SV)} {T:TypeId} (hmc:MC C m) (hm:m<=k) (h:HSim C E hp n w) (hk:lkh k hp = .row v m' xs T) :
 (xs=[]/\∃ a,E.hv k v = .slice a 0 0)\/∃ b cap,E.hv k v = .slice (some ⟨b,0,none⟩) xs.length cap/\xs.length<=cap/\cap≠0/\xs.length<=9223372036854775807/\RR w E n (okS C E ((k,.gone) :: hp)) b m' xs 0:=by
 have hb:=h.bk k
 rw [hk] at hb;simp only [Yc] at hb
 rcases hb with ⟨_,h1 | ⟨b,cap,cs,h1,h2,h3,⟨h4,h4'⟩,h5,h6,h7⟩⟩
 . exact .inl h1
 . have hoc:occ E k (lkh k hp) b:=by rw [hk];exact ⟨_,_,h1,h4'⟩
   have hok:okS C E ((k,.gone) :: hp) b:=by
    refine ⟨?_,fun j ho=>?_⟩
    . rcases h.lo k b hoc with q | q
      . exact .inr q
      . have:=hmc.2 k b q;have:=hmc.1;omega
    . rw [Zt] at ho
      split at ho
      . exact ho.elim
      . exact absurd (h.dj j k b ho hoc).symm (by omega)
   exact .inr ⟨b,cap,h1,h4,h4',h5,WF (cs:=cs) (ok:=okS C E hp) hok (fun j c hj=>by rw [cell_of_row _ _ _ _ _ _ h2];simpa using hj) (ZbW h k).2 xs 0 h6 (by simpa using h7)⟩
theorem Znk {m:Nat} {σ : St} (t k:Nat) (s:SV) (hg:σ.gs=[]) (hs:∀ j b u,s≠.gd j b u) (hR:∀ C E w y,MC C m->HSim C E σ.hp (ltn σ.n) w->R w E (ltn σ.n) (okS C E σ.hp) (lk t σ.fr) y->R w E (ltn σ.n) (okS C E ((k,.gone) :: σ.hp)) s y) :
 Ent m σ ⟨(t,s) :: σ.fr,(k,.gone) :: σ.hp,σ.n,σ.N,σ.gs⟩:=fun C E a w hmc h=>by
 obtain ⟨g1,g2⟩:=ZbW h.hs k
 have hR0:∀ u,R w E (ltn σ.n) (okS C E σ.hp) (lk u σ.fr) (a.tmps.getD u undef):=fun u=>Zvr (h.fr u) (fun j b u' e=>by have:=h.gs u j b u' e;rw [hg] at this;simp at this)
 refine ⟨E,fun u=>?_,h.sz,X2 g2 h.df,fun u j b s' hu=>?_,g1⟩
 . rw [ZF]
   split
   . rename_i hu;subst hu
     have:=hR C E w _ hmc h.hs (hR0 _)
     cases s<;>first | exact this | exact absurd rfl (hs _ _ _)
   . refine Xq g2 (fun _ _=>Ele.rfl) (fun k hk=>hk) (fun j b s hs=>?_) (h.fr u)
     have:=h.gs u j b s hs;rw [hg] at this;simp at this
 . rw [ZF] at hu
   split at hu
   . exact absurd hu (hs _ _ _)
   . exact h.gs u j b s' hu
theorem ZbD {m:Nat} {σ : St} (t k v:Nat) {m':Nat} {xs:List (List SV)} {T:TypeId} (hm:Nat.ble m k=true) (hg:σ.gs=[]) (hl:lk t σ.fr = .mr k v) (hk:lkh k σ.hp = .row v m' xs T) :
 Ent m σ ⟨(t,.sl false m' xs) :: σ.fr,(k,.gone) :: σ.hp,σ.n,σ.N,σ.gs⟩ :=
 Znk t k _ hg (fun _ _ _ e=>by cases e) fun C E w y hmc hh hR=>by
  rw [hl] at hR
  simp only [R] at hR ⊢
  rcases Zzj hmc (Nat.le_of_ble_eq_true hm) hh hk with ⟨h1,a0,h2⟩ | ⟨b,cap,h1,h4,h4',h5,h7⟩
  . exact ⟨a0,0,0,by rw [hR.2.2.1,h2],by simp [h1],⟨Nat.le_refl _,fun h=>by cases h⟩,by simp [h1],.inl h1⟩
  . exact ⟨_,_,_,hR.2.2.1.trans h1,rfl,⟨h4,fun h=>by cases h⟩,h5,.inr ⟨b,0,rfl,h7⟩⟩
theorem Uc {m:Nat} {b:Bool} {s s':SV} {hp hp':List (Nat × HB)} {n n':Nat} (h:Ent m ⟨[(0,s)],hp,n,1,[]⟩ ⟨[(0,s')],hp',n',1,[]⟩) (hg:∀ j b u,s'≠.gd j b u):ZeW m ⟨b,s,hp,n⟩ ⟨b,s',hp',n'⟩:=by
 refine ⟨rfl,fun C E w y hm hH hR=>?_⟩
 have hng:=Uw hR
 have hS:Sim C E ⟨[(0,s)],hp,n,1,[]⟩ { tmps:=#[y],defers:=C.ds } w:=by
  refine ⟨fun t=>?_,rfl,Zaq,fun t j b u ht=>?_,hH⟩
  . simp only [ZF]
    split
    . rename_i ht;subst ht
      show FR w E (ltn n) _ _ s y
      cases s<;>first | exact hR | exact absurd rfl (hng _ _ _)
    . exact trivial
  . simp only [ZF] at ht
    split at ht
    . exact absurd ht (hng _ _ _)
    . cases ht
 obtain ⟨E',h'⟩:=h C E _ w hm hS
 refine ⟨E',h'.hs,?_⟩
 have:=h'.fr 0
 exact Zvr this (fun j b u e=>hg j b u (by simpa [lk] using e))
theorem entO {m:Nat} {b:Bool} {s s':SV} {hp hp':List (Nat × HB)} {n n':Nat} (ρ : Nat->Nat) (hf:mtS ρ n' s' s) (hp0:mtP ρ hp' hp n' n') (hb:hpb n' hp') (hρ : ∀ i,i < n'->∀ j,j < n'->ρ i = ρ j->i=j) (hm:Nat.ble m n'=true) (hfix:∀ i,i < m->ρ i=i):ZeW m ⟨b,s,hp,n⟩ ⟨b,s',hp',n'⟩ :=
 Uc (ent ρ (show mtF ρ n' [] [(0,s')] [(0,s)] from ⟨hf,trivial⟩) hp0 hb hρ rfl hm hfix) (Zc3 hf)
theorem Z1 {m:Nat} {b:Bool} {s s':SV} {hp hp':List (Nat × HB)} {n n':Nat} (hf:mtS id n' s' s) (hp0:mtP id hp' hp n' n') (hb:hpb n' hp') (hm:Nat.ble m n'=true):ZeW m ⟨b,s,hp,n⟩ ⟨b,s',hp',n'⟩ :=
 entO id hf hp0 hb (fun _ _ _ _ h=>h) hm (fun _ _=>rfl)
theorem callm {P:Program} {f:FuncId} {args args0:List SV} {d:Option Nat} {σ : St} {r:KT} {K:RK} {hp0:List (Nat × HB)} {n0:Nat} {o:Ot} (ρ : Nat->Nat) (hc:CtM P f hp0 n0 args0 (· = o)) (h1:mtL ρ n0 args0 args) (h2:mtP ρ hp0 σ.hp n0 n0) (h3:ZAt ρ n0) (h4:∀ i,i < n0->ρ i < σ.n)
 (h5:cmK o.pn (rnS (exR ρ n0 σ.n) o.res) (hpM ρ n0 σ.n o σ.hp) (σ.n+(o.n - n0)) d σ r K):Zc0 P f args d σ r K :=
 ⟨hp0,n0,args0,_,ρ,hc,h1,h2,h3,h4,fun _ e=>e ▸ h5⟩
def rho:List Nat->Nat->Nat
 | [],_=>0
 | a :: _,0=>a
 | _ :: l,k+1=>rho l k
theorem Ui:∀ (l:List Nat) (k:Nat) (h:k < l.length),rho l k=l[k]
 | a :: _,0,_=>rfl
 | _ :: l,k+1,h=>by simpa [rho] using Ui l k (by simpa using h)
theorem ZbK {P:Program} {f:FuncId} {args args0:List SV} {d:Option Nat} {σ : St} {r:KT} {K:RK} {hp0:List (Nat × HB)} {n0:Nat} {o:Ot} (l:List Nat) (hc:CtM P f hp0 n0 args0 (· = o)) (hn:Nat.beq l.length n0=true) (hi:ZcL l=true) (hl:U0 σ.n l=true)
 (h1:mtL (rho l) n0 args0 args) (h2:mtP (rho l) hp0 σ.hp n0 n0) (h5:cmK o.pn (rnS (exR (rho l) n0 σ.n) o.res) (hpM (rho l) n0 σ.n o σ.hp) (σ.n+(o.n - n0)) d σ r K):Zc0 P f args d σ r K:=by
 have hn:=Nat.eq_of_beq_eq_true hn
 refine callm (rho l) hc h1 h2 (fun i hi' j hj e=>?_) (fun i hi'=>?_) h5
 . rw [Ui l i (by omega),Ui l j (by omega)] at e
   have hp:=List.pairwise_iff_getElem.1 (Wl hi)
   rcases Nat.lt_trichotomy i j with h | h | h
   . exact absurd e (hp i j _ _ h)
   . exact h
   . exact absurd e.symm (hp j i _ _ h)
 . rw [Ui l i (by omega)];exact UJ hl _ (List.getElem_mem _)
theorem Zl {m0:Nat} {σ σ':St} (hf:mtF id σ'.n [] σ'.fr σ.fr) (hp:mtP id σ'.hp σ.hp σ'.n σ'.n) (hb:hpb σ'.n σ'.hp) (hN:Nat.beq σ'.N σ.N=true) (hm:Nat.ble m0 σ'.n=true):Ent m0 σ σ':=ent id hf hp hb (fun _ _ _ _ h=>h) hN hm (fun _ _=>rfl)
theorem Zzk {fr:List (Nat × SV)} {j j':Nat} {w w' b:Bool} {p:Prop} (hl:lk j fr = .gd j' w' (.v (.bool b))) (h:b=w->p):ZfR (some (j,w)) fr p:=fun hg=>h (by have:=(Zhz hg hl).2;simpa using this)
theorem imp_v {fr:List (Nat × SV)} {j:Nat} {w b:Bool} {p:Prop} (hl:lk j fr = .v (.bool b)) (h:b=w->p):ZfR (some (j,w)) fr p:=fun hg=>h (ZyJ hg hl)
theorem Zso {xs:List (List SV)} {i:Int} {σ : St} {r:KT} {L:RK} {d:Option Nat} {j j':Nat} {w w' b:Bool} (n:Nat) (row:List SV) (hl:lk j σ.fr = .gd j' w' (.v (.bool b))) (h:b=w->i=(n:Int)/\xs[n]? = some row) (hk:YA d (.ps row 0) (some (j,w)) σ r L) :
 IXS (some (j,w)) xs i d σ r L:=⟨row,Zzk hl fun e=>⟨n,(h e).1,(h e).2⟩,hk⟩
theorem ZAv {g:Option (Nat × Bool)} {m b:Nat} {xs ys:List (List SV)} {d:Option Nat} {σ : St} {r:KT} {L:RK} (h:(xs.length+ys.length) * b<=140737488355328) (hk:YA d (.sl false m (xs ++ ys)) g σ r L):APP g m b xs ys d σ r L:=⟨ZQ.2 fun _=>h,hk⟩
theorem ZdN {g:Option (Nat × Bool)} {k v m len:Nat} {i:Int} {d:Option Nat} {σ : St} {r:KT} {L:RK} (n:Nat) (hi:i=(n:Int)) (hn:n < len) (hk:YA d (.pr k v m n 0) g σ r L):IXR g k v m len i d σ r L:=⟨n,ZQ.2 fun _=>⟨hi,hn⟩,hk⟩
theorem ZgW {α : Type} {l:List α} {f:α->List SV} {g:Option (Nat × Bool)} {i o m:Nat} {ag:Bool} {d:Option Nat} {σ : St} {r:KT} {L:RK} (hn:i < l.length) (hk:WD (X9 (f l[i]) o m ag) d g σ r L):LDR g (l.map f) i o m ag d σ r L:=⟨f l[i],ZQ.2 fun _=>by simp [hn],hk⟩
theorem Zxc {α : Type} {l:List α} {f:α->List SV} {j o k v m:Nat} {c:List SV} {T:TypeId} {σ : St} {r:KT} {L:RK} (y:α) (hn:j < l.length) (ho:o+c.length<=(f l[j]).length) (he:Zy (f l[j]) o c=f y)
 (h:r ⟨σ.fr,(k,.row v m ((l.set j y).map f) T) :: σ.hp,σ.n,σ.N,σ.gs⟩ L):STR v (l.map f) j o k m c T σ r L :=
 ⟨f l[j],by simp [hn],ho,by rw [he,<- List.map_set];exact h⟩
theorem Zsg {k v m len:Nat} {i:Int} {d:Option Nat} {σ : St} {r:KT} {L:RK} {j:Nat} {w b:Bool} (n:Nat) (hl:lk j σ.fr = .v (.bool b)) (h:b=w->i=(n:Int)/\n < len) (hk:YA d (.pr k v m n 0) (some (j,w)) σ r L):IXR (some (j,w)) k v m len i d σ r L:=⟨n,imp_v hl h,hk⟩
theorem Ud {r:List SV} (h:KFL r):∀ n,KFR (List.replicate n r)
 | 0=>trivial
 | n+1=>⟨h,Ud h n⟩
theorem YO {P:Program} {f:FuncId} {args args0:List SV} {d:Option Nat} {σ : St} {r:KT} {K:RK} {hp0:List (Nat × HB)} {n0:Nat} {Yi:Ot->Prop} (l:List Nat) (hc:CtM P f hp0 n0 args0 Yi) (hn:Nat.beq l.length n0=true) (hi:ZcL l=true) (hl:U0 σ.n l=true)
 (h1:mtL (rho l) n0 args0 args) (h2:mtP (rho l) hp0 σ.hp n0 n0) (h5:∀ o,Yi o->cmK o.pn (rnS (exR (rho l) n0 σ.n) o.res) (hpM (rho l) n0 σ.n o σ.hp) (σ.n+(o.n - n0)) d σ r K):Zc0 P f args d σ r K:=by
 have hn:=Nat.eq_of_beq_eq_true hn
 refine ⟨hp0,n0,args0,Yi,rho l,hc,h1,h2,fun i hi' j hj e=>?_,fun i hi'=>?_,h5⟩
 . rw [Ui l i (by omega),Ui l j (by omega)] at e
   have hp:=List.pairwise_iff_getElem.1 (Wl hi)
   rcases Nat.lt_trichotomy i j with h | h | h
   . exact absurd e (hp i j _ _ h)
   . exact h
   . exact absurd e.symm (hp j i _ _ h)
 . rw [Ui l i (by omega)]
   exact UJ hl _ (List.getElem_mem _)
theorem VH {P:Program} {d:Option Nat} {op:BinOp} {t t' ty u:Nat} {c x v:Value} {σ : St} {r:KT} {K:RK} (hl:lk u σ.fr = .v x) (hop:op = .and\/op = .shr) (hr:∀ w:World,(binOp op t x c).run P w = .ok v w) (hv:v.oneCell'=true) (hk:YA d (.v v) none σ r K) :
 RAW P d (.binOp op t (.tmp u) (.const c) t') ty σ r K:=by
 intro o C E a w next Q h1 h2 h3 hs hn hq
 have hx:a.eval (.tmp u)=x:=by
  have:=hs.fr u
  rw [hl] at this
  simp only [FR,R] at this
  exact this
 have hrun:(execOp a.eval o).run P w = .ok (.value v) w:=by
  obtain ⟨dst,op',ty',pos,after,guard⟩:=o
  simp only at h2;subst h2
  have hc:a.eval (.const c)=c:=rfl
  simp only [execOp,hx,hc]
  rcases hop with rfl | rfl<;>simp [Sem.run_bind,eqGuard,hr]
 refine ZE hrun (by simp) ?_
 show next (a.put o.dst v) w
 rcases Zad hk with ⟨g1,g2⟩ | ⟨t,g1,g2,g3,g4,g5⟩
 . have hS:=hs
   rw [h1,g1]
   exact hn _ E _ _ g2 hS
 . rw [h1,g1]
   exact hn _ E _ _ g5 (XX hs (fun b hb _=>⟨hb,rfl⟩) (fun _ _=>Ele.rfl) (Nat.le_refl _) hs.hs g2 g3 (fun j b u e=>by rw [e] at g4;cases g4) (by simp only [R]))
theorem w64_0:IntKind.i64.wrap 0=0:=rfl
theorem w64_1:IntKind.i64.wrap 1=1:=rfl
theorem w64_2:IntKind.i64.wrap 2=2:=rfl
theorem w64_3:IntKind.i64.wrap 3=3:=rfl
theorem w64_4:IntKind.i64.wrap 4=4:=rfl
theorem w64_5:IntKind.i64.wrap 5=5:=rfl
theorem w64_6:IntKind.i64.wrap 6=6:=rfl
theorem Xg {a b A B:Int} (h1:0<=a) (h2:a<=A) (h3:0<=b) (h4:b<=B):0<=a * b/\a * b<=A * B:=⟨Int.mul_nonneg h1 h3,Int.mul_le_mul h2 h4 h3 (by omega)⟩
def lkB (b:Bool) (s:SV) (t:Nat) (r:List (Nat × SV)):SV:=bif b then s else lk t r
def lkhB (b:Bool) (s:HB) (t:Nat) (r:List (Nat × HB)):HB:=bif b then s else lkh t r
def Zv3 (b:Bool) (t:Nat) (r:List Nat):Bool:=bif b then true else Xv t r
def blkE (b:Bool) (i:Nat) (K:Ex->St->Prop) (σ : St):Prop:=bif b then K .n σ else K (.ex i) σ
def ZsN (b:Bool) (s:SV):Option (List SV):=bif b then some [s] else none
def ZzM (c:Bool) (b:BinOp) (k:IntKind) (x y:Int):Option SV:=bif c then ZhE b k x y else none
def Zya (b:Bool) (l:List SV) (o m:Nat):Option SV:=bif b then some (.agg ((l.drop o).take m)) else none
theorem lkB_t (s:SV) (t:Nat) (r:List (Nat × SV)):lkB true s t r=s:=rfl
theorem lkB_f (s:SV) (t:Nat) (r:List (Nat × SV)):lkB false s t r=lk t r:=rfl
theorem ZyX (s:HB) (t:Nat) (r:List (Nat × HB)):lkhB true s t r=s:=rfl
theorem Zzo (s:HB) (t:Nat) (r:List (Nat × HB)):lkhB false s t r=lkh t r:=rfl
theorem ZwD (t:Nat) (r:List Nat):Zv3 true t r=true:=rfl
theorem Zwl (t:Nat) (r:List Nat):Zv3 false t r=Xv t r:=rfl
theorem Zz3 (i:Nat) (K:Ex->St->Prop) (σ : St):blkE true i K σ = K .n σ:=rfl
theorem Zx9 (i:Nat) (K:Ex->St->Prop) (σ : St):blkE false i K σ = K (.ex i) σ:=rfl
theorem ZnJ (s:SV):ZsN true s=some [s]:=rfl
theorem Zwu (b:BinOp) (k:IntKind) (x y:Int):ZzM true b k x y=ZhE b k x y:=rfl
theorem Ztx (l:List SV) (o m:Nat):Zya true l o m=some (.agg ((l.drop o).take m)):=rfl
def mmE (k:IntKind):Option Int->Option SV
 | some z=>some (.v (.int k z))
 | none=>none
def chkB (b:Bool) (l:List SV) (ls:List (List SV)):Option (List (List SV)):=bif b then some (l :: ls) else none
theorem Zza (l:List SV) (ls:List (List SV)):chkB true l ls=some (l :: ls):=rfl
theorem ZyG (b:Bool):VZ true b=b:=rfl
theorem Zyk (b:Bool):VZ false b=false:=rfl
def vwP (g:SV->SV) (o:Nat):HB->SV
 | .cells l _=>.ps (Zcz g l) o
 | _=>.any
def vwM (v:Nat):HB->SV
 | .row v' m xs _=>vwN (Nat.beq v v') m xs
 | .rws v' m xs _ o m' inn _=>vwN (Nat.beq v v') m (Zfz o m' inn xs)
 | _=>.any
def cvtM (v:Nat):HB->SV
 | .row v' m xs _=>vwN (Nat.beq v v') m xs
 | _=>.any
def rvH (o m:Nat) (ag:Bool):HB->Option SV
 | .cells l _=>X9 l o m ag
 | _=>none
def rvX (hp:List (Nat × HB)) (m:Nat) (ag:Bool):SV->Option SV
 | .p k o=>rvH o m ag (lkh k hp)
 | _=>none
def pvF (o m:Nat) (ag:Bool):SV->Option SV
 | .agg l=>X9 l o m ag
 | _=>none
def pvC (k:IntKind):SV->Option SV
 | .v (.int _ n)=>some (.v (.int k (k.wrap n)))
 | _=>none
def pvE (i:Nat):SV->Option SV
 | .tup l=>nth l i
 | _=>none
theorem e_lk (t u:Nat) (s:SV) (r:List (Nat × SV)):lk t ((u,s) :: r)=lkB (Nat.beq t u) s t r:=rfl
theorem e_lk0 (t:Nat):lk t [] = .any:=rfl
theorem e_lkh (t u:Nat) (s:HB) (r:List (Nat × HB)):lkh t ((u,s) :: r)=lkhB (Nat.beq t u) s t r:=rfl
theorem Zzr (t:Nat):lkh t [] = .gone:=rfl
theorem Zzy (t u:Nat) (r:List Nat):Xv t (u :: r)=Zv3 (Nat.beq t u) t r:=rfl
theorem Zw1 (t:Nat):Xv t []=false:=rfl
theorem e_blk (id i:Nat) (K:Ex->St->Prop) (σ : St):Zsr id K (.ex i) σ = blkE (Nat.beq i id) i K σ:=rfl
theorem Zj8 (g:Option (Nat × Bool)) (fr:List (Nat × SV)) (x:Value):Xo g fr (.v x)=(.v x):=rfl
theorem ZrE (t:Nat) (r:List (Nat × SV)) (x:Value):YD ((t,(.v x)) :: r)=(t,(.v x)) :: YD r:=rfl
theorem Ztp (hp:List (Nat × HB)) (x:Value):cvt hp (.v x)=(.v x):=rfl
theorem Ztl (hp:List (Nat × HB)) (g:SV->SV) (x:Value):vwS hp g (.v x)=(.v x):=rfl
theorem Zwp (x:Value):vw0 (.v x)=(.v x):=rfl
theorem Zks (x:Value):Yx (.v x)=ZsN (ZlM x) (.v x):=rfl
theorem ZoT (x:Value):Za2 (.v x)=ZlM x:=rfl
theorem ZlF (g:Option (Nat × Bool)) (fr:List (Nat × SV)) (k o:Nat):Xo g fr (.p k o)=(.p k o):=rfl
theorem ZoI (t:Nat) (r:List (Nat × SV)) (k o:Nat):YD ((t,(.p k o)) :: r)=(t,(.p k o)) :: YD r:=rfl
theorem Zuj (hp:List (Nat × HB)) (k o:Nat):cvt hp (.p k o)=(.p k o):=rfl
theorem ZuK (hp:List (Nat × HB)) (g:SV->SV) (k o:Nat):vwS hp g (.p k o)=vwP g o (lkh k hp):=rfl
theorem Zv2 (k o:Nat):vw0 (.p k o) = .any:=rfl
theorem ZiP (k o:Nat):Yx (.p k o)=some [(.p k o)]:=rfl
theorem ZoE (k o:Nat):Za2 (.p k o)=true:=rfl
theorem ZfD (g:Option (Nat × Bool)) (fr:List (Nat × SV)) (l:List SV):Xo g fr (.agg l)=(.agg l):=rfl
theorem ZhA (t:Nat) (r:List (Nat × SV)) (l:List SV):YD ((t,(.agg l)) :: r)=(t,(.agg l)) :: YD r:=rfl
theorem ZjW (hp:List (Nat × HB)) (l:List SV):cvt hp (.agg l) = .agg (Zla hp l):=rfl
theorem ZjV (hp:List (Nat × HB)) (g:SV->SV) (l:List SV):vwS hp g (.agg l) = .agg (Zcz g l):=rfl
theorem Zlm (l:List SV):vw0 (.agg l) = .any:=rfl
theorem Zfg (l:List SV):Yx (.agg l)=some l:=rfl
theorem Zg7 (l:List SV):Za2 (.agg l)=false:=rfl
theorem Zib (g:Option (Nat × Bool)) (fr:List (Nat × SV)) (c:Bool) (m:Nat) (xs:List (List SV)):Xo g fr (.sl c m xs)=(.sl c m xs):=rfl
theorem Zlp (t:Nat) (r:List (Nat × SV)) (c:Bool) (m:Nat) (xs:List (List SV)):YD ((t,(.sl c m xs)) :: r)=(t,(.sl c m xs)) :: YD r:=rfl
theorem ZqX (hp:List (Nat × HB)) (c:Bool) (m:Nat) (xs:List (List SV)):cvt hp (.sl c m xs)=(.sl c m xs):=rfl
theorem ZmV (hp:List (Nat × HB)) (g:SV->SV) (c:Bool) (m:Nat) (xs:List (List SV)):vwS hp g (.sl c m xs)=(.sl c m xs):=rfl
theorem Zr2 (c:Bool) (m:Nat) (xs:List (List SV)):vw0 (.sl c m xs)=(.sl c m xs):=rfl
theorem Zhi (c:Bool) (m:Nat) (xs:List (List SV)):Yx (.sl c m xs)=some [(.sl c m xs)]:=rfl
theorem ZjM (c:Bool) (m:Nat) (xs:List (List SV)):Za2 (.sl c m xs)=true:=rfl
theorem ZvF (l:List SV):pmS [] l=[]:=rfl
theorem Zhk (g:Option (Nat × Bool)) (fr:List (Nat × SV)) (k v:Nat):Xo g fr (.mr k v)=(.mr k v):=rfl
theorem ZjG (t:Nat) (r:List (Nat × SV)) (k v:Nat):YD ((t,(.mr k v)) :: r)=(t,(.mr k v)) :: YD r:=rfl
theorem Zry (hp:List (Nat × HB)) (k v:Nat):cvt hp (.mr k v)=cvtM v (lkh k hp):=rfl
theorem Zq6 (hp:List (Nat × HB)) (g:SV->SV) (k v:Nat):vwS hp g (.mr k v)=vwM v (lkh k hp):=rfl
theorem Zm7 (k v:Nat):vw0 (.mr k v) = .any:=rfl
theorem ZhH (k v:Nat):Yx (.mr k v)=some [(.mr k v)]:=rfl
theorem ZiG (k v:Nat):Za2 (.mr k v)=true:=rfl
theorem Zhe (g:Option (Nat × Bool)) (fr:List (Nat × SV)) (k v m i o:Nat):Xo g fr (.pr k v m i o)=(.pr k v m i o):=rfl
theorem ZhN (g:Option (Nat × Bool)) (fr:List (Nat × SV)) (k v m i o:Nat):Xo g fr (.ms k v m i o)=(.ms k v m i o):=rfl
theorem ZjR (t:Nat) (r:List (Nat × SV)) (k v m i o:Nat):YD ((t,(.pr k v m i o)) :: r)=(t,(.pr k v m i o)) :: YD r:=rfl
theorem ZkD (t:Nat) (r:List (Nat × SV)) (k v m i o:Nat):YD ((t,(.ms k v m i o)) :: r)=(t,(.ms k v m i o)) :: YD r:=rfl
theorem ZnP (hp:List (Nat × HB)) (k v m i o:Nat):cvt hp (.pr k v m i o)=(.pr k v m i o):=rfl
theorem Zm1 (hp:List (Nat × HB)) (k v m i o:Nat):cvt hp (.ms k v m i o)=(.ms k v m i o):=rfl
theorem ZqC (hp:List (Nat × HB)) (g:SV->SV) (k v m i o:Nat):vwS hp g (.pr k v m i o)=(.pr k v m i o):=rfl
theorem ZrN (hp:List (Nat × HB)) (g:SV->SV) (k v m i o:Nat):vwS hp g (.ms k v m i o)=(.ms k v m i o):=rfl
theorem ZrQ (k v m i o:Nat):vw0 (.pr k v m i o) = .any:=rfl
theorem ZoG (k v m i o:Nat):vw0 (.ms k v m i o) = .any:=rfl
theorem Zii (k v m i o:Nat):Yx (.pr k v m i o)=some [(.pr k v m i o)]:=rfl
theorem ZhU (k v m i o:Nat):Yx (.ms k v m i o)=some [(.ms k v m i o)]:=rfl
theorem ZlB (k v m i o:Nat):Za2 (.pr k v m i o)=true:=rfl
theorem ZlG (k v m i o:Nat):Za2 (.ms k v m i o)=true:=rfl
theorem ZhY (g:Option (Nat × Bool)) (fr:List (Nat × SV)) (row:List SV) (o:Nat):Xo g fr (.ps row o)=(.ps row o):=rfl
theorem ZlK (t:Nat) (r:List (Nat × SV)) (row:List SV) (o:Nat):YD ((t,(.ps row o)) :: r)=(t,(.ps row o)) :: YD r:=rfl
theorem Zrq (hp:List (Nat × HB)) (row:List SV) (o:Nat):cvt hp (.ps row o)=(.ps row o):=rfl
theorem ZoJ (hp:List (Nat × HB)) (g:SV->SV) (l:List SV) (o:Nat):vwS hp g (.ps l o) = .ps (Zcz g l) o:=rfl
theorem Zok (row:List SV) (o:Nat):vw0 (.ps row o) = .any:=rfl
theorem Zhw (row:List SV) (o:Nat):Yx (.ps row o)=some [(.ps row o)]:=rfl
theorem ZkY (row:List SV) (o:Nat):Za2 (.ps row o)=true:=rfl
theorem ZgU (g:Option (Nat × Bool)) (fr:List (Nat × SV)) (f:FuncId) (l:List SV):Xo g fr (.cl f l)=(.cl f l):=rfl
theorem Zmb (t:Nat) (r:List (Nat × SV)) (f:FuncId) (l:List SV):YD ((t,(.cl f l)) :: r)=(t,(.cl f l)) :: YD r:=rfl
theorem ZoW (hp:List (Nat × HB)) (f:FuncId) (l:List SV):cvt hp (.cl f l)=(.cl f l):=rfl
theorem ZmT (hp:List (Nat × HB)) (g:SV->SV) (f:FuncId) (l:List SV):vwS hp g (.cl f l) = .cl f (Zcz g l):=rfl
theorem ZnY (f:FuncId) (l:List SV):vw0 (.cl f l) = .any:=rfl
theorem Zhu (f:FuncId) (l:List SV):Yx (.cl f l)=some [(.cl f l)]:=rfl
theorem ZkB (f:FuncId) (l:List SV):Za2 (.cl f l)=true:=rfl
theorem ZfU (g:Option (Nat × Bool)) (fr:List (Nat × SV)) (l:List SV):Xo g fr (.tup l)=(.tup l):=rfl
theorem ZhW (t:Nat) (r:List (Nat × SV)) (l:List SV):YD ((t,(.tup l)) :: r)=(t,(.tup l)) :: YD r:=rfl
theorem ZkS (hp:List (Nat × HB)) (l:List SV):cvt hp (.tup l) = .tup (Zla hp l):=rfl
theorem ZjI (hp:List (Nat × HB)) (g:SV->SV) (l:List SV):vwS hp g (.tup l) = .tup (Zcz g l):=rfl
theorem Zlz (l:List SV):vw0 (.tup l) = .any:=rfl
theorem Zht (l:List SV):Za2 (.tup l)=false:=rfl
theorem ZjS (g:Option (Nat × Bool)) (fr:List (Nat × SV)) (φ : VP):Xo g fr (.q φ)=(.q φ):=rfl
theorem ZnT (t:Nat) (r:List (Nat × SV)) (φ : VP):YD ((t,(.q φ)) :: r)=(t,(.q φ)) :: YD r:=rfl
theorem Zxs (hp:List (Nat × HB)) (φ : VP):cvt hp (.q φ)=(.q φ):=rfl
theorem Zvk (hp:List (Nat × HB)) (g:SV->SV) (φ : VP):vwS hp g (.q φ)=(.q φ):=rfl
theorem Zv5 (φ : VP):vw0 (.q φ)=(.q φ):=rfl
theorem Zk8 (φ : VP):Yx (.q φ)=some [(.q φ)]:=rfl
theorem ZqL (φ : VP):Za2 (.q φ)=true:=rfl
theorem ZgK (g:Option (Nat × Bool)) (fr:List (Nat × SV)) (k:Nat):Xo g fr (.mp k)=(.mp k):=rfl
theorem Zld (t:Nat) (r:List (Nat × SV)) (k:Nat):YD ((t,(.mp k)) :: r)=(t,(.mp k)) :: YD r:=rfl
theorem ZnV (hp:List (Nat × HB)) (k:Nat):cvt hp (.mp k)=(.mp k):=rfl
theorem ZpY (hp:List (Nat × HB)) (g:SV->SV) (k:Nat):vwS hp g (.mp k) = .any:=rfl
theorem ZqU (k:Nat):vw0 (.mp k) = .any:=rfl
theorem ZhB (k:Nat):Yx (.mp k)=some [(.mp k)]:=rfl
theorem Zje (k:Nat):Za2 (.mp k)=true:=rfl
theorem ZgZ (g:Option (Nat × Bool)) (fr:List (Nat × SV)) (k:Nat):Xo g fr (.yl k)=(.yl k):=rfl
theorem ZkZ (t:Nat) (r:List (Nat × SV)) (k:Nat):YD ((t,(.yl k)) :: r)=(t,(.yl k)) :: YD r:=rfl
theorem Zg1 (k:Nat):Yx (.yl k)=some [(.yl k)]:=rfl
theorem Zke (k:Nat):Za2 (.yl k)=true:=rfl
theorem Ze1 (g:Option (Nat × Bool)) (fr:List (Nat × SV)) (T:TypeId) (s:SV):Xo g fr (.ifc T s)=(.ifc T s):=rfl
theorem Zhv (t:Nat) (r:List (Nat × SV)) (T:TypeId) (s:SV):YD ((t,(.ifc T s)) :: r)=(t,(.ifc T s)) :: YD r:=rfl
theorem ZkM (hp:List (Nat × HB)) (T:TypeId) (s:SV):cvt hp (.ifc T s) = .ifc T (cvt hp s):=rfl
theorem ZlN (hp:List (Nat × HB)) (g:SV->SV) (T:TypeId) (s:SV):vwS hp g (.ifc T s) = .ifc T (g s):=rfl
theorem Zmm (T:TypeId) (s:SV):vw0 (.ifc T s) = .any:=rfl
theorem ZfM (T:TypeId) (s:SV):Yx (.ifc T s)=some [(.ifc T s)]:=rfl
theorem Zid (T:TypeId) (s:SV):Za2 (.ifc T s)=true:=rfl
theorem Zfc (P:Program) (Y:Hd) (d:Option Nat) (σ : St) (r:KT) (K:RK) (f:FuncId) (as:List X):stp P Y d (.callm f as) σ r K=Zc0 P f (UV (rdG none σ.fr) as) d σ r K:=rfl
theorem Zfe (P:Program) (Y:Hd) (d:Option Nat) (σ : St) (r:KT) (K:RK) (x:X) (as:List X):stp P Y d (.calvm x as) σ r K=Zig P Y (rdG none σ.fr x) (UV (rdG none σ.fr) as) d σ r K:=rfl
theorem e_yld (asg body:Nat->CT) (ps:List Nat) (kl:Nat) (rec:Loop) (fr:List (Nat × SV)) (N k:Nat) (args:List SV) (d:Option Nat) (σ : St) (r:KT) (K:RK):YLD (hdR asg body ps kl rec fr N) k args d σ r K =
 rfB (Nat.beq k kl) (Zsh rec (lkh kl σ.hp)/\rfB (ZmA args ps) (asg σ.n ⟨pmS ps args ++ fr,σ.hp,σ.n,N,[]⟩ (asE kl rec (body σ.n) (bdE kl rec fun o=>cmK o.pn o.res o.hp o.n d σ r K)))):=rfl
theorem e_exR (ρ : Nat->Nat) (n0 n k:Nat):exR ρ n0 n k=exB (Nat.blt k n0) (ρ k) (n+(k - n0)):=rfl
theorem e_hpM (ρ : Nat->Nat) (n0 n:Nat) (o:Ot) (hp:List (Nat × HB)):hpM ρ n0 n o hp=rnP (exR ρ n0 n) o.hp ++ (Zbo ρ n0 ++ hp):=rfl
theorem ZlI (P:Program) (Y:Hd) (m:Nat) (g:X) (ps:List Nat) (asg body:SC) (σ : St) (K:Ex->St->Prop):sx P Y m (.rfun g ps asg body) σ K=rfK P (fun n=>sx P Y0 n asg) (fun n=>sx P Y0 n body) (rdG none σ.fr g) ps σ K:=rfl
theorem Ze5 (g:Option (Nat × Bool)) (fr:List (Nat × SV))  : Xo g fr (.any)=(.any):=rfl
theorem ZgM (t:Nat) (r:List (Nat × SV))  : YD ((t,(.any)) :: r)=(t,(.any)) :: YD r:=rfl
theorem ZlQ (hp:List (Nat × HB))  : cvt hp (.any)=(.any):=rfl
theorem Zmc (hp:List (Nat × HB)) (g:SV->SV)  : vwS hp g (.any)=(.any):=rfl
theorem ZkX  : vw0 (.any) = .any:=rfl
theorem ZhM  : Za2 (.any)=false:=rfl
theorem Zi0 (t j:Nat) (w:Bool) (s:SV) (r:List (Nat × SV)):YD ((t,.gd j w s) :: r)=(t,.any) :: YD r:=rfl
theorem Ztq  : YD []=[]:=rfl
theorem Zfp (fr:List (Nat × SV)) (j:Nat) (w:Bool) (s:SV):Xo none fr (.gd j w s) = .any:=rfl
theorem Zg0 (fr:List (Nat × SV)) (j j0:Nat) (w w0:Bool) (s:SV):Xo (some (j0,w0)) fr (.gd j w s)=ZfG (alw 8 fr j0 w0 j w) s:=rfl
theorem Zfq (b:Bool):ZlM (.bool b)=true:=rfl
theorem Zih (k:IntKind) (n:Int):ZlM (.int k n)=true:=rfl
theorem Zde (s:ByteArray):ZlM (.string s)=true:=rfl
theorem Zcw (p:Option Addr):ZlM (.pointer p)=true:=rfl
theorem Zd7 (a:Option Addr) (l c:Nat):ZlM (.slice a l c)=true:=rfl
theorem Zcr  : ZlM .nilFunc=true:=rfl
theorem ZbS  : ZlM .nilIface=true:=rfl
theorem e_rdG (g:Option (Nat × Bool)) (fr:List (Nat × SV)) (x:X):rdG g fr x=Xo g fr (rd fr x):=rfl
theorem Zzv (fr:List (Nat × SV)) (n:Nat):rd fr (.t n)=lk n fr:=rfl
theorem ZzD (fr:List (Nat × SV)) (x:Value):rd fr (.c x) = .v x:=rfl
theorem Zzz (fr:List (Nat × SV)) (i:Nat):rd fr (.f i) = .cl i []:=rfl
theorem e_alw (f:Nat) (fr:List (Nat × SV)) (j0:Nat) (w0:Bool) (j:Nat) (w:Bool):alw (f+1) fr j0 w0 j w=ZxE (Zhl (Nat.beq j0 j) w0 w) (lk j0 fr) (alw f fr) j w:=rfl
theorem ZzL (fr:List (Nat × SV)) (j0:Nat) (w0:Bool) (j:Nat) (w:Bool):alw 0 fr j0 w0 j w=false:=rfl
theorem e_vw1 (hp:List (Nat × HB)) (s:SV):vw1 hp s=vwS hp vw0 s:=rfl
theorem e_vw2 (hp:List (Nat × HB)) (s:SV):vw2 hp s=vwS hp (vw1 hp) s:=rfl
theorem e_vw3 (hp:List (Nat × HB)) (s:SV):vw3 hp s=vwS hp (vw2 hp) s:=rfl
theorem e_vw4 (hp:List (Nat × HB)) (s:SV):vw4 hp s=vwS hp (vw3 hp) s:=rfl
theorem ZnO (fr:List (Nat × SV)) (hp:List (Nat × HB)) (n N:Nat):V1 ⟨fr,hp,n,N,[]⟩=⟨fr,hp,n,N,[]⟩:=rfl
theorem Zpe (fr:List (Nat × SV)) (hp:List (Nat × HB)) (n N j:Nat) (l:List Nat):V1 ⟨fr,hp,n,N,j :: l⟩=⟨YD fr,hp,n,N,[]⟩:=rfl
theorem ZAb (b:BinOp) (k j:IntKind) (x y:Int):ZxF b (.v (.int k x)) (.v (.int j y))=ZzM (Zdf k j) b k x y:=rfl
theorem ZkE (b:Bool):uni .not (.v (.bool b))=some (.v (.bool (!b))):=rfl
theorem Zmp (k:IntKind) (n:Int):uni .neg (.v (.int k n))=some (.v (.int k (k.wrap (0 - n)))):=rfl
theorem ZhQ (k:IntKind) (x y:Int):ZhE .add k x y=some (.v (.int k (k.wrap (x+y)))):=rfl
theorem Zhx (k:IntKind) (x y:Int):ZhE .sub k x y=some (.v (.int k (k.wrap (x - y)))):=rfl
theorem Zhn (k:IntKind) (x y:Int):ZhE .mul k x y=some (.v (.int k (k.wrap (x * y)))):=rfl
theorem Zhm (k:IntKind) (x y:Int):ZhE .eql k x y=some (.v (.bool (x == y))):=rfl
theorem Zh9 (k:IntKind) (x y:Int):ZhE .neq k x y=some (.v (.bool (x != y))):=rfl
theorem Zhd (k:IntKind) (x y:Int):ZhE .lss k x y=some (.v (.bool (decide (x < y)))):=rfl
theorem ZhI (k:IntKind) (x y:Int):ZhE .leq k x y=some (.v (.bool (decide (x<=y)))):=rfl
theorem Zh1 (k:IntKind) (x y:Int):ZhE .gtr k x y=some (.v (.bool (decide (x > y)))):=rfl
theorem ZhV (k:IntKind) (x y:Int):ZhE .geq k x y=some (.v (.bool (decide (x ≥ y)))):=rfl
theorem Zli  : Zdf .i8 .i8=true:=rfl
theorem ZhO  : Zdf .i16 .i16=true:=rfl
theorem Zhr  : Zdf .i32 .i32=true:=rfl
theorem ZhG  : Zdf .i64 .i64=true:=rfl
theorem Zi1  : Zdf .u8 .u8=true:=rfl
theorem Zg8  : Zdf .u16 .u16=true:=rfl
theorem Zho  : Zdf .u32 .u32=true:=rfl
theorem ZhX  : Zdf .u64 .u64=true:=rfl
theorem Zm6 (o:Nat) (k q:Nat):Ut o (.p k q)=some (.p k (q+o)):=rfl
theorem Zqj (k q:Nat):Zep (.p k q)=some (.p k q):=rfl
theorem Zlt (o:Nat) (k v m i q:Nat):Ut o (.pr k v m i q)=some (.pr k v m i (q+o)):=rfl
theorem Zl5 (k v m i q:Nat):Zep (.pr k v m i q)=some (.pr k v m i q):=rfl
theorem Zln (o:Nat) (row:List SV) (q:Nat):Ut o (.ps row q)=some (.ps row (q+o)):=rfl
theorem Zmu (row:List SV) (q:Nat):Zep (.ps row q)=some (.ps row q):=rfl
theorem Zrh (l:List SV) (o m:Nat):X9 l o m true=Zya (Nat.ble (o+m) l.length) l o m:=rfl
theorem Zqa (l:List SV) (o m:Nat):X9 l o m false=nth l o:=rfl
theorem ZzN (mx:Bool) (x:Int):mmf mx x []=some x:=rfl
theorem ZtW (k:IntKind) (x y:Int) (r:List SV):mmf true x (.v (.int k y) :: r)=mmf true (max x y) r:=rfl
theorem ZvP (k:IntKind) (x y:Int) (r:List SV):mmf false x (.v (.int k y) :: r)=mmf false (min x y) r:=rfl
theorem e_mm (mx:Bool) (k:IntKind) (x:Int) (r:List SV):mmS mx (.v (.int k x) :: r)=mmE k (mmf mx x r):=rfl
theorem e_bld (ρ : X->SV) (z:List SV) (ps:List (Nat × Nat × X)):bld ρ z ps=ZmD z (ZpS ρ ps):=rfl
theorem ZgS (ρ : X->SV) (z:List Value) (ps:List (Nat × Nat × X)):pv ρ (.build z ps)=Zyo (bld ρ (lit z) ps):=rfl
theorem Zzg (l:List SV) (m:Nat) (ls:List (List SV)):ZxO (some l) m (some ls)=chkB (chk l m) l ls:=rfl
theorem ZpH (s:SV) (l:List SV):YW (s :: l)=VZ (Za2 s) (YW l):=rfl
theorem Zjt  : YW []=true:=rfl
theorem ZrO (fr:List (Nat × SV)) (g:Option (Nat × Bool)) (t:Nat) (b:X):ZgT fr g (.t t) (.c (.bool true)) b=ZhR (rdG g fr (.t t)) (rdG (some (t,false)) fr b):=rfl
theorem ZpM (fr:List (Nat × SV)) (g:Option (Nat × Bool)) (t n:Nat):ZgT fr g (.t t) (.t n) (.c (.bool false))=ZfJ (rdG g fr (.t t)) (rdG (some (t,true)) fr (.t n)):=rfl
theorem Zop (fr:List (Nat × SV)) (g:Option (Nat × Bool)) (t:Nat):ZgT fr g (.t t) (.c (.bool false)) (.c (.bool false))=ZfJ (rdG g fr (.t t)) (rdG (some (t,true)) fr (.c (.bool false))):=rfl
theorem Zle:ZfJ (.v (.bool false)) (.v undef)=some (.v (.bool false)):=rfl
theorem Zji:ZhR (.v (.bool true)) (.v undef)=some (.v (.bool true)):=rfl
theorem e_rvR (rs:List RV) (σ : St):rvR rs σ = rvE (rvs σ rs):=rfl
theorem ZyI (σ : St):rvs σ []=some []:=rfl
theorem Zti (σ : St) (t:Nat):rv1 σ (.tmp t)=some (rdG none σ.fr (.t t)):=rfl
theorem Zvy (σ : St) (t m:Nat) (ag:Bool):rv1 σ (.cell t m ag)=rvX σ.hp m ag (rdG none σ.fr (.t t)):=rfl
theorem Zqf (P:Program) (Y:Hd) (d:Option Nat) (σ : St) (r:KT) (K:RK) (x:X):stp P Y d (.mv x) σ r K=Yt P none d (.mv x) σ r K:=rfl
theorem Zhq (P:Program) (Y:Hd) (d:Option Nat) (σ : St) (r:KT) (K:RK) (c a b:X):stp P Y d (.pick c a b) σ r K=Yt P none d (.pick c a b) σ r K:=rfl
theorem Zft (P:Program) (Y:Hd) (d:Option Nat) (σ : St) (r:KT) (K:RK) (z:List Value) (ps:List (Nat × Nat × X)):stp P Y d (.build z ps) σ r K=Yt P none d (.build z ps) σ r K:=rfl
theorem ZiE (P:Program) (Y:Hd) (d:Option Nat) (σ : St) (r:KT) (K:RK) (m:Nat) (T:TypeId) (ps:List X):stp P Y d (.bsl m T ps) σ r K=Yt P none d (.bsl m T ps) σ r K:=rfl
theorem Zo9 (P:Program) (Y:Hd) (d:Option Nat) (σ : St) (r:KT) (K:RK) (x:X) (m:Nat) (ag:Bool):stp P Y d (.ld x m ag) σ r K=Yt P none d (.ld x m ag) σ r K:=rfl
theorem Zh4 (P:Program) (Y:Hd) (d:Option Nat) (σ : St) (r:KT) (K:RK) (x:X):stp P Y d (.nilc x) σ r K=Yt P none d (.nilc x) σ r K:=rfl
theorem ZiK (P:Program) (Y:Hd) (d:Option Nat) (σ : St) (r:KT) (K:RK) (b:BinOp) (x y:X):stp P Y d (.bin b x y) σ r K=Yt P none d (.bin b x y) σ r K:=rfl
theorem Zlu (P:Program) (Y:Hd) (d:Option Nat) (σ : St) (r:KT) (K:RK) (b:BinOp) (x y:X):stp P Y d (.div b x y) σ r K=Yt P none d (.div b x y) σ r K:=rfl
theorem Zrd (P:Program) (Y:Hd) (d:Option Nat) (σ : St) (r:KT) (K:RK) (u:UnOp) (x:X):stp P Y d (.un u x) σ r K=Yt P none d (.un u x) σ r K:=rfl
theorem ZhK (P:Program) (Y:Hd) (d:Option Nat) (σ : St) (r:KT) (K:RK) (x:X) (o:Nat):stp P Y d (.addo x o) σ r K=Yt P none d (.addo x o) σ r K:=rfl
theorem Zmg (P:Program) (Y:Hd) (d:Option Nat) (σ : St) (r:KT) (K:RK) (x:X) (o m:Nat) (ag:Bool):stp P Y d (.fld x o m ag) σ r K=Yt P none d (.fld x o m ag) σ r K:=rfl
theorem Zkm (P:Program) (Y:Hd) (d:Option Nat) (σ : St) (r:KT) (K:RK) (x i:X) (len m:Nat) (ag:Bool):stp P Y d (.idx x i len m ag) σ r K=Yt P none d (.idx x i len m ag) σ r K:=rfl
theorem ZiY (P:Program) (Y:Hd) (d:Option Nat) (σ : St) (r:KT) (K:RK) (x i:X) (len m:Nat):stp P Y d (.ixa x i len m) σ r K=Yt P none d (.ixa x i len m) σ r K:=rfl
theorem Zkj (P:Program) (Y:Hd) (d:Option Nat) (σ : St) (r:KT) (K:RK) (x i:X) (m:Nat):stp P Y d (.ixs x i m) σ r K=Yt P none d (.ixs x i m) σ r K:=rfl
theorem Zjf (P:Program) (Y:Hd) (d:Option Nat) (σ : St) (r:KT) (K:RK) (x:X):stp P Y d (.len x) σ r K=Yt P none d (.len x) σ r K:=rfl
theorem ZrL (P:Program) (Y:Hd) (d:Option Nat) (σ : St) (r:KT) (K:RK) (mx:Bool) (xs:List X):stp P Y d (.mm mx xs) σ r K=Yt P none d (.mm mx xs) σ r K:=rfl
theorem Zia (P:Program) (Y:Hd) (d:Option Nat) (σ : St) (r:KT) (K:RK) (f:FuncId) (as:List X):stp P Y d (.call f as) σ r K=Yt P none d (.call f as) σ r K:=rfl
theorem Zie (P:Program) (Y:Hd) (d:Option Nat) (σ : St) (r:KT) (K:RK) (x:X) (as:List X):stp P Y d (.calv x as) σ r K=Yt P none d (.calv x as) σ r K:=rfl
theorem ZlZ (P:Program) (Y:Hd) (d:Option Nat) (σ : St) (r:KT) (K:RK) (f:FuncId) (cs:List X):stp P Y d (.mkf f cs) σ r K=Yt P none d (.mkf f cs) σ r K:=rfl
theorem Zg6 (P:Program) (Y:Hd) (d:Option Nat) (σ : St) (r:KT) (K:RK) (k:IntKind) (x:X):stp P Y d (.conv k x) σ r K=Yt P none d (.conv k x) σ r K:=rfl
theorem ZlD (P:Program) (Y:Hd) (d:Option Nat) (σ : St) (r:KT) (K:RK) (x:X) (i:Nat):stp P Y d (.ext x i) σ r K=Yt P none d (.ext x i) σ r K:=rfl
theorem e_rvs (σ : St) (r:RV) (rs:List RV):rvs σ (r :: rs)=rvC σ.hp (rv1 σ r) (rvs σ rs):=rfl
theorem ZrY (ρ : X->SV) (x:X) (o m:Nat) (ag:Bool):pv ρ (.fld x o m ag)=pvF o m ag (ρ x):=rfl
theorem Ziy (ρ : X->SV) (k:IntKind) (x:X):pv ρ (.conv k x)=pvC k (ρ x):=rfl
theorem Zpb (ρ : X->SV) (x:X) (i:Nat):pv ρ (.ext x i)=pvE i (ρ x):=rfl
theorem Zuy (fr:List (Nat × SV)):ZxH [] fr=True:=rfl
theorem ZyR (t:Nat) (s:SV) (r fr:List (Nat × SV)):ZxH ((t,s) :: r) fr=(lk t fr=s/\ZxH r fr):=rfl
theorem ZiN (P:Program) (Y:Hd) (d:Option Nat) (σ : St) (r:KT) (K:RK) (ng ag:Bool) (cls:List Nat) (x y:X):stp P Y d (.eqs ng ag cls x y) σ r K=Yt P none d (.eqs ng ag cls x y) σ r K:=rfl
theorem ZiT (P:Program) (Y:Hd) (d:Option Nat) (σ : St) (r:KT) (K:RK) (x h k:X):stp P Y d (.slc x h k) σ r K=Yt P none d (.slc x h k) σ r K:=rfl
theorem Zj9 (P:Program) (Y:Hd) (d:Option Nat) (σ : St) (r:KT) (K:RK) (m:Nat) (x:X) (lo hi:Option X):stp P Y d (.sub m x lo hi) σ r K=Yt P none d (.sub m x lo hi) σ r K:=rfl
theorem ZjK (P:Program) (Y:Hd) (d:Option Nat) (σ : St) (r:KT) (K:RK) (m b:Nat) (T:TypeId) (x y:X):stp P Y d (.app m b T x y) σ r K=Yt P none d (.app m b T x y) σ r K:=rfl
theorem ZqF (l):Zyo (some l)=some (SV.agg l):=rfl
theorem Zo2: Zyo none=none:=rfl
theorem Zv7 (k z):mmE k (some z)=some (SV.v (Value.int k z)):=rfl
theorem ZvQ (k):mmE k none=none:=rfl
theorem Zu2 (g o l T):vwP g o (HB.cells l T)=SV.ps (Zcz g l) o:=rfl
theorem Zus (m a):vwN true m a=SV.sl false m a:=rfl
theorem Ztc (m a):vwN false m a=SV.any:=rfl
theorem Zwh (v a m b T):vwM v (HB.row a m b T)=vwN (Nat.beq v a) m b:=rfl
theorem Zw0 (v a m b T o c d e):vwM v (HB.rws a m b T o c d e)=vwN (Nat.beq v a) m (Zfz o c d b):=rfl
theorem Zq4 (v a m b T):cvtM v (HB.row a m b T)=vwN (Nat.beq v a) m b:=rfl
theorem Zo1 (m v a b c T):Zit m v (HB.row a b c T)=Zg4 c (VZ (Nat.beq m b) (Nat.beq v a)):=rfl
theorem Zru (m v l T):Zit m v (HB.cells l T)=none:=rfl
theorem ZpB (m v φ):Zit m v (HB.ob φ)=none:=rfl
theorem Zpa (m v a b):Zit m v (HB.map a b)=none:=rfl
theorem Zqr (m v a b c d):Zit m v (HB.it a b c d)=none:=rfl
theorem Zpx (m v a b):Zit m v (HB.lp a b)=none:=rfl
theorem ZqS (m v a):Zit m v (HB.lb a)=none:=rfl
theorem ZmW (m v a b c T o d e f):Zit m v (HB.rws a b c T o d e f)=none:=rfl
theorem Zpt (m v):Zit m v HB.gone=none:=rfl
theorem Zpr (a):Zg4 a true=some a:=rfl
theorem Zrs (a):Zg4 a false=none:=rfl
theorem ZwO: rvE (some [])=some (SV.tup []):=rfl
theorem Zxj (s):rvE (some [s])=some s:=rfl
theorem ZwA (a b l):rvE (some (a :: b :: l))=some (SV.tup (a :: b :: l)):=rfl
theorem ZtV: rvE none=none:=rfl
theorem ZtM (s l):rvD s (some l)=some (s :: l):=rfl
theorem ZtF (s):rvD s none=none:=rfl
theorem Zur (hp x s):rvC hp (some s) x=rvD (cvt hp s) x:=rfl
theorem Ztj (hp x):rvC hp none x=none:=rfl
theorem Zwn (o m a l T):rvH o m a (HB.cells l T)=X9 l o m a:=rfl
theorem ZuZ (hp m a k o):rvX hp m a (SV.p k o)=rvH o m a (lkh k hp):=rfl
theorem ZuP (o m a l):pvF o m a (SV.agg l)=X9 l o m a:=rfl
theorem Zwy (k a n):pvC k (SV.v (Value.int a n))=some (SV.v (Value.int k (IntKind.wrap k n))):=rfl
theorem Zs5 (i l):pvE i (SV.tup l)=nth l i:=rfl
theorem ZpZ (x a b c d):ZyC false true false x a b c d=c { fr:=(x,a) :: St.fr b,hp:=St.hp b,n:=St.n b,N:=St.N b,gs:=St.gs b } d:=rfl
theorem Zqe (x a b c d e f):ZAA false true false x a b c d e f=e { fr:=(x,SV.gd a b c) :: St.fr d,hp:=St.hp d,n:=St.n d,N:=St.N d,gs:=a :: St.gs d } f:=rfl
theorem ZqH (s σ r K):YA none s none σ r K=r σ K:=rfl
theorem Zp3 (s σ r K a):YA none s (some a) σ r K=False:=rfl
theorem Zr4 (s σ r K t):YA (some t) s none σ r K=ZyC (Xv t (St.gs σ)) (Nat.blt t (St.N σ)) (gdS s) t s σ r K:=rfl
theorem ZmY (s σ r K t j w):YA (some t) s (some (j,w)) σ r K=ZAA (Xv t (St.gs σ)) (Nat.blt t (St.N σ)) (Nat.beq t j) t j w s σ r K:=rfl
theorem Zp0 (d g σ r K s):WD (some s) d g σ r K=YA d s g σ r K:=rfl
theorem Zpf (d g σ r K):WD none d g σ r K=False:=rfl
theorem ZkF (x):ZfG true x=x:=rfl
theorem Zmt (x):ZfG false x=SV.any:=rfl
theorem Zou (x a b c):ZxE true x a b c=true:=rfl
theorem ZpK (x a b c d s):ZxE false (SV.gd c d s) x a b=x c d a b:=rfl
theorem Zky (x a):Zhl true x a=bbq x a:=rfl
theorem ZlP (x a):Zhl false x a=false:=rfl
theorem ZwV: bbq true true=true:=rfl
theorem Zup: bbq false false=true:=rfl
theorem Zi5 (x y):ZhR (SV.v (Value.bool x)) (SV.v (Value.bool y))=some (SV.v (Value.bool (x || y))):=rfl
theorem ZjA (x a):ZhR (SV.v (Value.bool x)) (SV.v (Value.tuple a))=bif x then some (SV.v (Value.bool true)) else none:=rfl
theorem ZkP (x y):ZfJ (SV.v (Value.bool x)) (SV.v (Value.bool y))=some (SV.v (Value.bool (x && y))):=rfl
theorem Zlj (x a):ZfJ (SV.v (Value.bool x)) (SV.v (Value.tuple a))=bif x then none else some (SV.v (Value.bool false)):=rfl
theorem Zre (m r):ZxP m (some r)=some (SV.sl true m r):=rfl
theorem Zoz (m):ZxP m none=none:=rfl
theorem Ziv (P g d σ r K a f b):ZpT P g d σ r K (SV.cl f b) a=ZxY P g f (a ++ b) d σ r K:=rfl
theorem ZmN (g d σ r K k v m a j):ZyP g d σ r K true k v m a j=IXR g k v m a j d σ r K:=rfl
theorem Zr5 (g d σ r K k v m a j):ZyP g d σ r K false k v m a j=False:=rfl
theorem Zqh (g d σ r K k v m j a b c T):ZzG g d σ r K (HB.row a b c T) k v m j=ZyP g d σ r K (VZ (Nat.beq m b) (Nat.beq v a)) k v m (List.length c) j:=rfl
theorem ZrS (g d σ r K k v m j a b c T o e f l):ZzG g d σ r K (HB.rws a b c T o e f l) k v m j = ∃ i rows TT,v=a+i/\Xn k a b c T o e f l i=some (m,rows,TT)/\IXR g k v m (List.length rows) j d σ r K:=rfl
theorem ZpC (g d σ r K a j):Zyj g d σ r K true a j=IXS g a j d σ r K:=rfl
theorem ZqD (g d σ r K a j):Zyj g d σ r K false a j=False:=rfl
theorem ZnK (g d σ r K m k j c a b):Zx8 g d σ r K (SV.v (Value.int k j)) (SV.sl c a b) m=Zyj g d σ r K (Nat.beq m a) b j:=rfl
theorem Zob (g d σ r K m k j a v):Zx8 g d σ r K (SV.v (Value.int k j)) (SV.mr a v) m=ZzG g d σ r K (lkh a (St.hp σ)) a v m j:=rfl
theorem ZnS (g d σ r K x a m k n):ZAm g d σ r K (SV.v (Value.int k n)) x a m=IXA g a n (fun n=>Ut (n * m) x) d σ r K:=rfl
theorem Zrf (g d σ r K a m b k j l):ZAD g d σ r K (SV.v (Value.int k j)) (SV.agg l) a m b=IXA g a j (fun n=>X9 l (n * m) m b) d σ r K:=rfl
theorem Zuu (g d σ r K o m a l T):ldC g d σ r K (HB.cells l T) o m a=WD (X9 l o m a) d g σ r K:=rfl
theorem ZvG (g d σ r K a i o m b):ldB g d σ r K true a i o m b=LDR g a i o m b d σ r K:=rfl
theorem Zvd (g d σ r K a i o m b):ldB g d σ r K false a i o m b=False:=rfl
theorem ZvU (g d σ r K k v a i o m b c e f T):ldR g d σ r K k (HB.row c e f T) v a i o m b=ldB g d σ r K (VZ (Nat.beq a e) (Nat.beq v c)) f i o m b:=rfl
theorem Zvt (g d σ r K k v b i o m c e f j T l p q s):ldR g d σ r K k (HB.rws e f j T l p q s) v b i o m c = ∃ a rows TT,v=e+a/\Xn k e f j T l p q s a=some (b,rows,TT)/\LDR g rows i o m c d σ r K:=rfl
theorem Zwg (g d σ r K m a k o):ldK g d σ r K (SV.p k o) m a=ldC g d σ r K (lkh k (St.hp σ)) o m a:=rfl
theorem Zs3 (g d σ r K m a b o):ldK g d σ r K (SV.ps b o) m a=WD (X9 b o m a) d g σ r K:=rfl
theorem ZvR (g d σ r K m a k v b i o):ldK g d σ r K (SV.pr k v b i o) m a=ldR g d σ r K k (lkh k (St.hp σ)) v b i o m a:=rfl
theorem ZpA (g d σ r K b k u v):ZyV g d σ r K true b k u v=DIV g b k u v d σ r K:=rfl
theorem Znn (g d σ r K b k u v):ZyV g d σ r K false b k u v=False:=rfl
theorem Znc (g d σ r K b k a j c):ZAs g d σ r K b (SV.v (Value.int k a)) (SV.v (Value.int j c))=ZyV g d σ r K (Zdf k j) b k a c:=rfl
theorem ZmK (g d σ r K a):ZzO g d σ r K true a=YA d (SV.v (Value.int IntKind.i64 ↑(List.length a))) g σ r K:=rfl
theorem Zom (g d σ r K a):ZzO g d σ r K false a=False:=rfl
theorem ZnE (g d σ r K k v a m b T):ZyT g d σ r K k (HB.row a m b T) v=ZzO g d σ r K (Nat.beq v a) b:=rfl
theorem ZoC (g d σ r K k v b m c T o e f i):ZyT g d σ r K k (HB.rws b m c T o e f i) v = ∃ a mm rows TT,v=b+a/\Xn k b m c T o e f i a=some (mm,rows,TT)/\YA d (SV.v (Value.int IntKind.i64 ↑(List.length rows))) g σ r K:=rfl
theorem ZqM (g d σ r K k v):Zx0 g d σ r K (SV.mr k v)=ZyT g d σ r K k (lkh k (St.hp σ)) v:=rfl
theorem Zod (g d σ r K k v m i l):Zx0 g d σ r K (SV.ms k v m i l)=YA d (SV.v (Value.int IntKind.i64 ↑l)) g σ r K:=rfl
theorem ZrR (g d σ r K c m a):Zx0 g d σ r K (SV.sl c m a)=YA d (SV.v (Value.int IntKind.i64 ↑(List.length a))) g σ r K:=rfl
theorem Zrv (P g d σ r K f a):Yt P g d (SI.call f a) σ r K=ZxY P g f (UV (rdG g (St.fr σ)) a) d σ r K:=rfl
theorem Zr7 (P g d σ r K x a):Yt P g d (SI.calv x a) σ r K=ZpT P g d σ r K (rdG g (St.fr σ) x) (UV (rdG g (St.fr σ)) a):=rfl
theorem Zo6 (P g d σ r K f a):Yt P g d (SI.callm f a) σ r K=False:=rfl
theorem ZpF (P g d σ r K x a):Yt P g d (SI.calvm x a) σ r K=False:=rfl
theorem Zny (P g d σ r K c a b):Yt P g d (SI.pick c a b) σ r K=WD (ZgT (St.fr σ) g c a b) d g σ r K:=rfl
theorem ZoP (P g d σ r K m T a):Yt P g d (SI.bsl m T a) σ r K=WD (ZxP m (Ziq (rdG g (St.fr σ)) m a)) d g σ r K:=rfl
theorem Zpo (P g d σ r K x a m):Yt P g d (SI.ixs x a m) σ r K=Zx8 g d σ r K (rdG g (St.fr σ) a) (rdG g (St.fr σ) x) m:=rfl
theorem Zrj (P g d σ r K x a b m):Yt P g d (SI.ixa x a b m) σ r K=ZAm g d σ r K (rdG g (St.fr σ) a) (rdG g (St.fr σ) x) b m:=rfl
theorem ZrT (P g d σ r K x a b m c):Yt P g d (SI.idx x a b m c) σ r K=ZAD g d σ r K (rdG g (St.fr σ) a) (rdG g (St.fr σ) x) b m c:=rfl
theorem Zjc (P g d σ r K x m a):Yt P g d (SI.ld x m a) σ r K=ldK g d σ r K (rdG g (St.fr σ) x) m a:=rfl
theorem Zlv (P g d σ r K b x y):Yt P g d (SI.div b x y) σ r K=ZAs g d σ r K b (rdG g (St.fr σ) x) (rdG g (St.fr σ) y):=rfl
theorem ZiU (P g d σ r K x):Yt P g d (SI.len x) σ r K=Zx0 g d σ r K (rdG g (St.fr σ) x):=rfl
theorem ZlX (P g d σ r K x):Yt P g d (SI.mv x) σ r K=YA d (rdG g (St.fr σ) x) g σ r K:=rfl
theorem Zl6 (P g d σ r K z a):Yt P g d (SI.build z a) σ r K=WD (pv (rdG g (St.fr σ)) (SI.build z a)) d g σ r K:=rfl
theorem Zmv (P g d σ r K x):Yt P g d (SI.nilc x) σ r K=WD (Zep (rdG g (St.fr σ) x)) d g σ r K:=rfl
theorem Zlb (P g d σ r K b x y):Yt P g d (SI.bin b x y) σ r K=WD (ZxF b (rdG g (St.fr σ) x) (rdG g (St.fr σ) y)) d g σ r K:=rfl
theorem ZlL (P g d σ r K u x):Yt P g d (SI.un u x) σ r K=WD (uni u (rdG g (St.fr σ) x)) d g σ r K:=rfl
theorem Ziw (P g d σ r K x o):Yt P g d (SI.addo x o) σ r K=WD (Ut o (rdG g (St.fr σ) x)) d g σ r K:=rfl
theorem ZkU (P g d σ r K x o m a):Yt P g d (SI.fld x o m a) σ r K=WD (pv (rdG g (St.fr σ)) (SI.fld x o m a)) d g σ r K:=rfl
theorem Zl2 (P g d σ r K a b):Yt P g d (SI.mm a b) σ r K=WD (mmS a (UV (rdG g (St.fr σ)) b)) d g σ r K:=rfl
theorem Zlw (P g d σ r K f a):Yt P g d (SI.mkf f a) σ r K=YA d (SV.cl f (UV (rdG g (St.fr σ)) a)) g σ r K:=rfl
theorem ZiS (P g d σ r K k x):Yt P g d (SI.conv k x) σ r K=WD (pv (rdG g (St.fr σ)) (SI.conv k x)) d g σ r K:=rfl
theorem ZlU (P g d σ r K x a):Yt P g d (SI.ext x a) σ r K=WD (pv (rdG g (St.fr σ)) (SI.ext x a)) d g σ r K:=rfl
theorem Zjy (P g d σ r K x h k):Yt P g d (SI.slc x h k) σ r K=ZAo g (rdG g (St.fr σ) x) (rdG g (St.fr σ) h) (rdG g (St.fr σ) k) d σ r K:=rfl
theorem ZjF (P g d σ r K m x a b):Yt P g d (SI.sub m x a b) σ r K=ZzR g m (rdG g (St.fr σ)) a b (rdG g (St.fr σ) x) d σ r K:=rfl
theorem Zj6 (P g d σ r K m b T x y):Yt P g d (SI.cln m b T x y) σ r K=False:=rfl
theorem ZiD (P g d σ r K m b T x y):Yt P g d (SI.appm m b T x y) σ r K=False:=rfl
theorem Zkl (P g d σ r K m x y):Yt P g d (SI.cpy m x y) σ r K=False:=rfl
theorem ZiX (P g d σ r K m b z T x):Yt P g d (SI.mks m b z T x) σ r K=False:=rfl
theorem Zi6 (P g d σ r K x):Yt P g d (SI.isn x) σ r K=False:=rfl
theorem Zlq (P g d σ r K m b T x y):Yt P g d (SI.app m b T x y) σ r K=ZxC g m b (ZkK m (rdG g (St.fr σ) x)) (ZtD m (St.hp σ) (rdG g (St.fr σ) y)) d σ r K:=rfl
theorem Zjd (P g d σ r K x m T):Yt P g d (SI.box x m T) σ r K=False:=rfl
theorem Zjh (P g d σ r K z T):Yt P g d (SI.alloc z T) σ r K=False:=rfl
theorem ZlV (P g d σ r K x y m):Yt P g d (SI.st x y m) σ r K=False:=rfl
theorem ZiW (P g d σ r K a b c x y):Yt P g d (SI.eqs a b c x y) σ r K=WD (eqR a (ZrW c b (rdG g (St.fr σ) x) (rdG g (St.fr σ) y))) d g σ r K:=rfl
theorem Ziu (P g d σ r K a b):Yt P g d (SI.raw a b) σ r K=False:=rfl
theorem Zj3 (P g d σ r K a b):Yt P g d (SI.rv a b) σ r K=False:=rfl
theorem ZiM (P g d σ r K a x b):Yt P g d (SI.rb a x b) σ r K=False:=rfl
theorem Zr8 (x a b c d e):ZAj false true x a b c d e=d { fr:=(x,SV.p (St.n c) 0) :: St.fr c,hp:=(St.n c,HB.cells a b) :: St.hp c,n:=St.n c+1,N:=St.N c,gs:=St.gs c } e:=rfl
theorem ZqN (T σ r K t a):Zik (some t) (some a) T σ r K=ZAj (Xv t (St.gs σ)) (Nat.blt t (St.N σ)) t a T σ r K:=rfl
theorem Zk2 (x a b c d e f g i j):Zvm false true x a b c d e f g i j=i { fr:=(x,SV.v (Value.int IntKind.i64 ↑e)) :: St.fr g,hp:=(a,HB.row b c d f) :: St.hp g,n:=St.n g,N:=St.N g,gs:=St.gs g } j:=rfl
theorem Znh (k v m a N T σ r K b):ZyH (some b) k v m a N T σ r K=Zvm (Xv b (St.gs σ)) (Nat.blt b (St.N σ)) b k v m a N T σ r K:=rfl
theorem ZoF (k v m a N T σ r K):ZyH none k v m a N T σ r K=r { fr:=St.fr σ,hp:=(k,HB.row v m a T) :: St.hp σ,n:=St.n σ,N:=St.N σ,gs:=St.gs σ } K:=rfl
theorem Zoy (d k v m i L a T σ r K c b e):Zsz d k v m i L a T (SV.sl c b e) σ r K=ZeZ (Nat.beq m b) (CPY d k v m i L a e T σ r K):=rfl
theorem Zp4 (d k v m i L a T σ r K):Zsz d k v m i L a T (SV.v (Value.slice none 0 0)) σ r K=CPY d k v m i L a [] T σ r K:=rfl
theorem ZqO (d k v m i L a T σ r K b c):Zsz d k v m i L a T (SV.mr b c) σ r K=ZeZ (VZ (Nat.beq k b) (Nat.beq v c)) (CPY d k v m i L a a T σ r K):=rfl
theorem ZpJ (d k v m i L a T σ r K b c e f g):Zsz d k v m i L a T (SV.ms b c e f g) σ r K=ZeZ (VZ (VZ (Nat.beq k b) (Nat.beq v c)) (Nat.beq m e)) (f+g<=List.length a/\CPY d k v m i L a (List.take g (List.drop f a)) T σ r K):=rfl
theorem Zzl (n m):lO (some m) n=m:=rfl
theorem Zyt (n):lO none n=n:=rfl
theorem ZnA (d m k v i a s σ r K b c e T):Zxn d m k v i a (HB.row b c e T) s σ r K=ZeZ (VZ (Nat.beq m c) (Nat.beq v b)) (Zsz d k v m i (lO a (List.length e)) e T s σ r K):=rfl
theorem ZpL (d m a σ r K k v):ZxI d m (SV.mr k v) a σ r K=Zxn d m k v 0 none (lkh k (St.hp σ)) a σ r K:=rfl
theorem Zqz (d m a σ r K k v b i l):ZxI d m (SV.ms k v b i l) a σ r K=ZeZ (Nat.beq m b) (Zxn d m k v i (some l) (lkh k (St.hp σ)) a σ r K):=rfl
theorem Zr6 (g k v m a d σ r K i j):ZxG g k v m a (some i) (some j) d σ r K=SBM g i j k v m a d σ r K:=rfl
theorem ZqI (g k v m a d σ r K b):ZxG g k v m a (some b) none d σ r K=False:=rfl
theorem ZnD (g k v m a b d σ r K):ZxG g k v m a none b d σ r K=False:=rfl
theorem Zn5 (p):ZeZ true p=p:=rfl
theorem Zpq (p):ZeZ false p=False:=rfl
theorem Zr0 (g m ρ a b k v d σ r K c e f T):ZAz g m ρ a b k v (HB.row c e f T) d σ r K=ZeZ (VZ (Nat.beq m e) (Nat.beq v c)) (ZxG g k v m f (ZcW 0 ρ a) (ZcW (↑(List.length f)) ρ b) d σ r K):=rfl
theorem Zn0 (g m ρ a b d σ r K c e f):ZzR g m ρ a b (SV.sl c e f) d σ r K=bif Nat.beq m e then ZxV g m f (ZcW 0 ρ a) (ZcW (↑(List.length f)) ρ b) d σ r K else False:=rfl
theorem Zr3 (g m ρ a b d σ r K k v):ZzR g m ρ a b (SV.mr k v) d σ r K=ZAz g m ρ a b k v (lkh k (St.hp σ)) d σ r K:=rfl
theorem Zq3 (x a b c d e f g i):verB false true x a b c d e f g i=g { fr:=(x,SV.mr a b) :: St.fr f,hp:=(a,HB.row b c d e) :: St.hp f,n:=St.n f,N:=St.N f,gs:=St.gs f } i:=rfl
theorem ZpE (k v m a T σ r K b):Zzx (some b) k v m a T σ r K=verB (Xv b (St.gs σ)) (Nat.blt b (St.N σ)) b k v m a T σ r K:=rfl
theorem Znr (k v m a T σ r K):Zzx none k v m a T σ r K=False:=rfl
theorem Zos (b d k v m a c T σ r K):Zzu true b d k v m a c T σ r K=APM b d k v m a c T σ r K:=rfl
theorem Zn2 (b d k v m a c T σ r K):Zzu false b d k v m a c T σ r K=False:=rfl
theorem Zqv (b d k v m a T σ r K c e f g):ZAl b d k v m (HB.row c e f g) a T σ r K=Zzu (VZ (Nat.beq m e) (VZ (Nat.beq v c) (Nat.beq T g))) b d k v m f a T σ r K:=rfl
theorem Zpk (b d m a T σ r K k v):ZAC b d m (SV.mr k v) a T σ r K=ZAl b d k v m (lkh k (St.hp σ)) a T σ r K:=rfl
theorem Zo5 (b d m s T σ r K a):Zx4 b d m s (some a) T σ r K=ZAC b d m s a T σ r K:=rfl
theorem Zrr (b d m s T σ r K):Zx4 b d m s none T σ r K=False:=rfl
theorem ZpU (x a b c d e f g):Zx1 true x a b c d e f g=f { fr:=St.fr e,hp:=(x,HB.cells (Zy b a d) c) :: St.hp e,n:=St.n e,N:=St.N e,gs:=St.gs e } g:=rfl
theorem ZqB (x a b c d e f g):Zx1 false x a b c d e f g=False:=rfl
theorem Zs1 (k o m c σ r K l T):stC k o m (HB.cells l T) c σ r K=Zx1 (Nat.ble (o+m) (List.length l)) k o l T c σ r K:=rfl
theorem ZqQ (x a b c d e f g i j k):ZxK true x a b c d e f g i j k=STR x a b c d e f g i j k:=rfl
theorem ZrF (x a b c d e f g i j k):ZxK false x a b c d e f g i j k=False:=rfl
theorem ZwY (k v a j o c σ r K b m d T):stR k v a j o (HB.row b m d T) c σ r K=ZxK (VZ (Nat.beq a m) (Nat.beq v b)) b d j o k a c T σ r K:=rfl
theorem Zug (k v a j o c σ r K b m d T e f g i):stR k v a j o (HB.rws b m d T e f g i) c σ r K=STW b m d T e f g i v a j o k c σ r K:=rfl
theorem Zwa (m c σ r K k o):stX (SV.p k o) m c σ r K=stC k o m (lkh k (St.hp σ)) c σ r K:=rfl
theorem Ztd (m c σ r K k v a j o):stX (SV.pr k v a j o) m c σ r K=stR k v a j o (lkh k (St.hp σ)) c σ r K:=rfl
theorem ZgN (x a b c d e):Zeo true true x a b c d e=stX x a b c d e:=rfl
theorem Zh3 (m x σ r K a):ZeM none (some a) m x σ r K=Zeo (chk a m) (YW a) x m a σ r K:=rfl
theorem Zu9 (P Y d σ r K x y m):stp P Y d (SI.st x y m) σ r K=ZeM d (Yx (rdG none (St.fr σ) y)) m (rdG none (St.fr σ) x) σ r K:=rfl
theorem Zwt (P Y d σ r K x m T):stp P Y d (SI.box x m T) σ r K=Zik d (Yx (rdG none (St.fr σ) x)) T σ r K:=rfl
theorem Zv1 (P Y d σ r K z T):stp P Y d (SI.alloc z T) σ r K=Zik d (some (lit z)) T σ r K:=rfl
theorem Zwq (P Y d σ r K m b T x y):stp P Y d (SI.cln m b T x y) σ r K=ZsQ b d m (ZkK m (rdG none (St.fr σ) x)) (Zh5 m (rdG none (St.fr σ) y)) T σ r K:=rfl
theorem Zvs (P Y d σ r K m b z T x):stp P Y d (SI.mks m b z T x) σ r K=ZyD b d m z (rdG none (St.fr σ) x) T σ r K:=rfl
theorem Zun (P Y d σ r K m x y):stp P Y d (SI.cpy m x y) σ r K=ZxI d m (rdG none (St.fr σ) x) (rdG none (St.fr σ) y) σ r K:=rfl
theorem Zw4 (P Y d σ r K m b T x y):stp P Y d (SI.appm m b T x y) σ r K=Zx4 b d m (rdG none (St.fr σ) x) (Zh5 m (rdG none (St.fr σ) y)) T σ r K:=rfl
theorem Zt6 (P Y d σ r K f a):stp P Y d (SI.callm f a) σ r K=Zc0 P f (UV (rdG none (St.fr σ)) a) d σ r K:=rfl
theorem Zwb (P Y d σ r K x a):stp P Y d (SI.calvm x a) σ r K=Zig P Y (rdG none (St.fr σ) x) (UV (rdG none (St.fr σ)) a) d σ r K:=rfl
theorem Znl (P Y d σ r K x):stp P Y d (SI.isn x) σ r K=ZAk d (rdG none (St.fr σ) x) σ r K:=rfl
theorem Zp1 (P Y d σ r K a b):stp P Y d (SI.raw a b) σ r K=RAW P d a b σ r K:=rfl
theorem Zrk (P Y d σ r K a b):stp P Y d (SI.rv a b) σ r K = ∃ s,RBE P a b σ s/\YA d s none σ r K:=rfl
theorem ZnI (P Y d σ r K a x b):stp P Y d (SI.rb a x b) σ r K = ∃ k h1 s,rdG none (St.fr σ) x=SV.mp k/\WK (lkh k (St.hp σ)) h1/\RBB P a (x :: b) k (lkh k (St.hp σ)) h1 σ s/\YA d s none { fr:=St.fr σ,hp:=(k,h1) :: St.hp σ,n:=St.n σ,N:=St.N σ,gs:=St.gs σ } r K:=rfl
theorem ZlH (d σ r K):Zwz d σ r K=YA d (SV.v undef) none σ r K:=rfl
theorem Zyw (P Y j w d i σ r K b):gK P Y (SV.v (Value.bool b)) j w d i σ r K=GB P Y b j w d i σ r K:=rfl
theorem ZyZ (P Y j w d i σ r K a c b):gK P Y (SV.gd a c (SV.v (Value.bool b))) j w d i σ r K=Yt P (some (j,w)) d i σ r K:=rfl
theorem ZwN (P Y σ r K d i af):st1 P Y { d:=d,i:=i,g:=none,af:=af } σ r K=stp P Y d i σ r K:=rfl
theorem ZvL (P Y σ r K d i j w af):st1 P Y { d:=d,i:=i,g:=some (j,w),af:=af } σ r K=gK P Y (lk j (St.fr σ)) j w d i σ r K:=rfl
theorem Zpw (f g σ K b):ZAu (SV.v (Value.bool b)) f g σ K=BR b f g σ K:=rfl
theorem Zp8 (k x y):Zof BinOp.quo k x y=IntKind.wrap k (Int.tdiv x y):=rfl
theorem Zve (a N):st0 a N={ fr:=Wu 0 a,hp:=[],n:=0,N:=N,gs:=[] }:=rfl
theorem ZoU (ρ):UV ρ []=[]:=rfl
theorem ZrB (ρ a r):UV ρ (a :: r) = ρ a :: UV ρ r:=rfl
theorem ZrV (g):Zcz g []=[]:=rfl
theorem Zqp (g s l):Zcz g (s :: l)=g s :: Zcz g l:=rfl
theorem ZnU (ρ m):Ziq ρ m []=some []:=rfl
theorem Zot (ρ m a r):Ziq ρ m (a :: r)=ZxO (Yx (ρ a)) m (Ziq ρ m r):=rfl
theorem Zr9 (hp):Zla hp []=[]:=rfl
theorem ZpP (hp s l):Zla hp (s :: l)=cvt hp s :: Zla hp l:=rfl
theorem ZtS: lit []=[]:=rfl
theorem ZuE (a r):lit (a :: r)=SV.v a :: lit r:=rfl
theorem ZsS: chk [] 0=true:=rfl
theorem ZvJ (a l n):chk (a :: l) (Nat.succ n)=chk l n:=rfl
theorem ZwX (x):nth [] x=none:=rfl
theorem ZuQ (s a):nth (s :: a) 0=some s:=rfl
theorem Zt2 (a l n):nth (a :: l) (Nat.succ n)=nth l n:=rfl
theorem ZgX (a l c b):Zy (a :: l) 0 (c :: b)=c :: Zy l 0 b:=rfl
theorem Zif (x a l o):Zy (a :: l) (Nat.succ o) x=a :: Zy l o x:=rfl
theorem ZqV (o l t):Zx2 o l t true=some ((o,l) :: t):=rfl
theorem ZmM (o l t):Zx2 o l t false=none:=rfl
theorem ZqZ (o m l t):ZxD o m (some l) (some t)=Zx2 o l t (chk l m):=rfl
theorem ZoB (ρ):ZpS ρ []=some []:=rfl
theorem Zn1 (ρ o m a r):ZpS ρ ((o,m,a) :: r)=ZxD o m (Yx (ρ a)) (ZpS ρ r):=rfl
theorem ZwU (x):spl x []=x:=rfl
theorem ZsV (x o l r):spl x ((o,l) :: r)=spl (Zy x o l) r:=rfl
theorem Zqt (z t):ZmD z (some t)=some (spl z t):=rfl
theorem Zp5 (z):ZmD z none=none:=rfl
theorem ZrI (x):Wu x []=[]:=rfl
theorem Zpl (x s l):Wu x (s :: l)=(x,s) :: Wu (x+1) l:=rfl
theorem ZsW (j w s):gdS (SV.gd j w s)=true:=rfl
theorem Zxh (a):gdS (SV.v a)=false:=rfl
theorem Zxd (k o):gdS (SV.p k o)=false:=rfl
theorem ZtQ (l):gdS (SV.agg l)=false:=rfl
theorem Zvo (c m a):gdS (SV.sl c m a)=false:=rfl
theorem ZwK (k v):gdS (SV.mr k v)=false:=rfl
theorem Zw8 (k v m i o):gdS (SV.pr k v m i o)=false:=rfl
theorem ZwP (k v m i l):gdS (SV.ms k v m i l)=false:=rfl
theorem ZuH (a o):gdS (SV.ps a o)=false:=rfl
theorem Znx (f a):gdS (SV.cl f a)=false:=rfl
theorem Zqq (l):gdS (SV.tup l)=false:=rfl
theorem Zm2 (φ):gdS (SV.q φ)=false:=rfl
theorem ZnH (k):gdS (SV.mp k)=false:=rfl
theorem Zn9 (k):gdS (SV.yl k)=false:=rfl
theorem Zov (T s):gdS (SV.ifc T s)=false:=rfl
theorem Zn7: gdS SV.any=false:=rfl
theorem ZuC (ρ k o):rnS ρ (SV.p k o)=SV.p (ρ k) o:=rfl
theorem Zwc (ρ k v):rnS ρ (SV.mr k v)=SV.mr (ρ k) v:=rfl
theorem Zwd (ρ k v m i o):rnS ρ (SV.pr k v m i o)=SV.pr (ρ k) v m i o:=rfl
theorem ZtA (ρ k v m i o):rnS ρ (SV.ms k v m i o)=SV.ms (ρ k) v m i o:=rfl
theorem Zs9 (ρ k):rnS ρ (SV.mp k)=SV.mp (ρ k):=rfl
theorem Zwv (ρ k):rnS ρ (SV.yl k)=SV.yl (ρ k):=rfl
theorem Zwj (ρ l):rnS ρ (SV.agg l)=SV.agg (rnL ρ l):=rfl
theorem Zuc (ρ l):rnS ρ (SV.tup l)=SV.tup (rnL ρ l):=rfl
theorem Zvx (ρ f l):rnS ρ (SV.cl f l)=SV.cl f (rnL ρ l):=rfl
theorem ZpD (ρ T s):rnS ρ (SV.ifc T s)=SV.ifc T (rnS ρ s):=rfl
theorem ZpQ (ρ a):rnS ρ (SV.v a)=SV.v a:=rfl
theorem ZoA (ρ c m a):rnS ρ (SV.sl c m a)=SV.sl c m a:=rfl
theorem Zro (ρ l o):rnS ρ (SV.ps l o)=SV.ps l o:=rfl
theorem ZmJ (ρ φ):rnS ρ (SV.q φ)=SV.q φ:=rfl
theorem Zoi (ρ j w s):rnS ρ (SV.gd j w s)=SV.gd j w s:=rfl
theorem ZmQ (ρ):rnS ρ SV.any=SV.any:=rfl
theorem Zt4 (ρ):rnL ρ []=[]:=rfl
theorem Zw9 (ρ s l):rnL ρ (s :: l)=rnS ρ s :: rnL ρ l:=rfl
theorem ZwJ (ρ l T):rnH ρ (HB.cells l T)=HB.cells (rnL ρ l) T:=rfl
theorem ZuS (ρ v m a T):rnH ρ (HB.row v m a T)=HB.row v m a T:=rfl
theorem Zvq (ρ φ):rnH ρ (HB.ob φ)=HB.ob φ:=rfl
theorem ZsX (ρ a c):rnH ρ (HB.map a c)=HB.map a c:=rfl
theorem ZtL (ρ a b c d):rnH ρ (HB.it a b c d)=HB.it (ρ a) b c d:=rfl
theorem Ztg (ρ a b):rnH ρ (HB.lp a b)=HB.lp a b:=rfl
theorem ZtE (ρ a):rnH ρ (HB.lb a)=HB.lb a:=rfl
theorem ZuA (ρ v m a T o b c d):rnH ρ (HB.rws v m a T o b c d)=HB.rws v m a T o b c d:=rfl
theorem Zuq (ρ):rnH ρ HB.gone=HB.gone:=rfl
theorem ZvZ (ρ):rnP ρ []=[]:=rfl
theorem ZvY (ρ u s r):rnP ρ ((u,s) :: r)=(ρ u,rnH ρ s) :: rnP ρ r:=rfl
theorem Zjz (ρ):Zbo ρ 0=[]:=rfl
theorem Zja (ρ j):Zbo ρ (Nat.succ j)=(ρ j,HB.gone) :: Zbo ρ j:=rfl
theorem ZuR (b x y):exB b x y=bif b then x else y:=rfl
theorem Zwo (a hp n d σ r K):cmK false a hp n d σ r K=YA d a none { fr:=St.fr σ,hp:=hp,n:=n,N:=St.N σ,gs:=St.gs σ } r K:=rfl
theorem ZtR (a hp n d σ r K):cmK true a hp n d σ r K=K (Ex.pan a) { fr:=St.fr σ,hp:=hp,n:=n,N:=St.N σ,gs:=St.gs σ }:=rfl
theorem Zmf (P Y a d σ r K f b):Zig P Y (SV.cl f b) a d σ r K=Zc0 P f (a ++ b) d σ r K:=rfl
theorem Zl0 (P Y a d σ r K k):Zig P Y (SV.yl k) a d σ r K=YLD Y k a d σ r K:=rfl
theorem Ztb (p T a s):mtI p T (SV.ifc a s)=(a=T/\p s):=rfl
theorem ZuB (p l):mtO p (some l)=p l:=rfl
theorem Zxu (p):mtO p none=False:=rfl
theorem ZsY (σ K hp n a):itE σ K hp n (HB.lp a none)=K Ex.n { fr:=St.fr σ,hp:=(St.n σ,HB.gone) :: hp,n:=n,N:=St.N σ,gs:=[] }:=rfl
theorem ZuN (σ K hp n a i):itE σ K hp n (HB.lp a (some (Ex.ex i)))=K (Ex.ex i) { fr:=St.fr σ,hp:=(St.n σ,HB.gone) :: hp,n:=n,N:=St.N σ,gs:=[] }:=rfl
theorem Zt8 (σ K hp n a):itE σ K hp n (HB.lp a (some Ex.ret))=K Ex.ret { fr:=St.fr σ,hp:=(St.n σ,HB.gone) :: hp,n:=n,N:=St.N σ,gs:=[] }:=rfl
theorem Zub (σ K o):itP σ K o=match Ot.pn o with | false=>itE σ K (Ot.hp o) (Ot.n o) (lkh (St.n σ) (Ot.hp o)) | true=>K (Ex.pan (Ot.res o)) { fr:=St.fr σ,hp:=Ot.hp o,n:=Ot.n o,N:=St.N σ,gs:=[] }:=rfl
theorem Zoj (a r):Zsh a (HB.lp r none)=(r=a):=rfl
theorem Zq7 (a r):ZmB a (HB.lb r)=(r=a):=rfl
theorem Ztt (p a s l):pmS (p :: a) (s :: l)=(p,s) :: pmS a l:=rfl
theorem ZpI: ZmA [] []=true:=rfl
theorem Zn4 (a l b m):ZmA (a :: l) (b :: m)=ZmA l m:=rfl
theorem ZkN (N):U0 N []=true:=rfl
theorem Zml (N j r):U0 N (j :: r)=bif Nat.blt j N then U0 N r else false:=rfl
theorem Zwm (p):rfB true p=p:=rfl
theorem ZtJ (p):rfB false p=False:=rfl
theorem Zxy (P a b c σ K f d):rfK P a b (SV.cl f d) c σ K=gs0 (St.gs σ) (rfB (U0 (St.N σ) c) (RFUN P a b f d c σ K)):=rfl
theorem Zo7 (a hp n s):Zsk a hp n (some s)=a { pn:=false,res:=s,hp:=hp,n:=n }:=rfl
theorem Zm9 (a hp n):Zsk a hp n none=False:=rfl
theorem ZmZ (x s):ZxR (some s) x=rvD s x:=rfl
theorem ZrA (x):ZxR none x=none:=rfl
theorem Zpi (σ):ZeY σ []=some []:=rfl
theorem Znq (σ r a):ZeY σ (r :: a)=ZxR (rv1 σ r) (ZeY σ a):=rfl
theorem Znz (a b x):ZcF a b Ex.n x=Zsk b (St.hp x) (St.n x) (rvE (ZeY x a)):=rfl
theorem Zrw (a b x):ZcF a b Ex.ret x=Zsk b (St.hp x) (St.n x) (rvE (ZeY x a)):=rfl
theorem Zoe (a b x s):ZcF a b (Ex.pan s) x=b { pn:=true,res:=s,hp:=St.hp x,n:=St.n x }:=rfl
theorem Zrb (a b x c):ZcF a b (Ex.ex c) x=False:=rfl
theorem ZuD (a b Φ x):bdE a b Φ Ex.n x=(ZmB b (lkh a (St.hp x))/\Φ { pn:=false,res:=SV.v (Value.bool true),hp:=(a,HB.lp b none) :: St.hp x,n:=St.n x }):=rfl
theorem ZwW (a b Φ x i):bdE a b Φ (Ex.ex i) x=(ZmB b (lkh a (St.hp x))/\Φ { pn:=false,res:=SV.v (Value.bool false),hp:=(a,HB.lp b (some (Ex.ex i))) :: St.hp x,n:=St.n x }):=rfl
theorem Zvb (a b Φ x):bdE a b Φ Ex.ret x=(ZmB b (lkh a (St.hp x))/\Φ { pn:=false,res:=SV.v (Value.bool false),hp:=(a,HB.lp b (some Ex.ret)) :: St.hp x,n:=St.n x }):=rfl
theorem ZwZ (a b Φ x s):bdE a b Φ (Ex.pan s) x = Φ { pn:=true,res:=s,hp:=St.hp x,n:=St.n x }:=rfl
theorem Zxk (a b c K x):asE a b c K Ex.n x=(Zsh b (lkh a (St.hp x))/\c { fr:=St.fr x,hp:=(a,HB.lb b) :: St.hp x,n:=St.n x,N:=St.N x,gs:=St.gs x } K):=rfl
theorem Zvu (a b c K x i):asE a b c K (Ex.ex i) x=False:=rfl
theorem Zuo (a b c K x):asE a b c K Ex.ret x=False:=rfl
theorem Zxt (a b c K x s):asE a b c K (Ex.pan s) x=False:=rfl
theorem ZuV (x):rho [] x=0:=rfl
theorem Zua (a b):rho (a :: b) 0=a:=rfl
theorem ZuO (a l k):rho (a :: l) (Nat.succ k)=rho l k:=rfl
theorem Zw5 (ρ a x):mtS ρ a SV.any x=True:=rfl
theorem Zt1 (ρ a x k o):mtS ρ a (SV.p k o) x=(k < a/\x=SV.p (ρ k) o):=rfl
theorem Zu5 (ρ a x k v):mtS ρ a (SV.mr k v) x=(k < a/\x=SV.mr (ρ k) v):=rfl
theorem ZtX (ρ a x k v m i o):mtS ρ a (SV.pr k v m i o) x=(k < a/\x=SV.pr (ρ k) v m i o):=rfl
theorem Ztw (ρ a x k v m i o):mtS ρ a (SV.ms k v m i o) x=(k < a/\x=SV.ms (ρ k) v m i o):=rfl
theorem Zwe (ρ a x l):mtS ρ a (SV.agg l) x=mtO (mtL ρ a l) (ZxN x):=rfl
theorem Zxg (ρ a x l):mtS ρ a (SV.tup l) x=mtO (mtL ρ a l) (ZxS x):=rfl
theorem Zxl (ρ a x f l):mtS ρ a (SV.cl f l) x=mtO (mtL ρ a l) (clL f x):=rfl
theorem ZwF (ρ a x b):mtS ρ a (SV.v b) x=(x=SV.v b):=rfl
theorem Zrt (ρ a x c m b):mtS ρ a (SV.sl c m b) x=(x=SV.sl c m b/\KFR b):=rfl
theorem Zqw (ρ a x l o):mtS ρ a (SV.ps l o) x=(x=SV.ps l o/\KFL l):=rfl
theorem Znt (ρ a x k):mtS ρ a (SV.mp k) x=(k < a/\x=SV.mp (ρ k)):=rfl
theorem Zp7 (ρ a x k):mtS ρ a (SV.yl k) x=(k < a/\x=SV.yl (ρ k)):=rfl
theorem Zpy (ρ a x T t):mtS ρ a (SV.ifc T t) x=mtI (mtS ρ a t) T x:=rfl
theorem Zo4 (ρ a x φ):mtS ρ a (SV.q φ) x=(x=SV.q φ):=rfl
theorem Zps (ρ a x j w s):mtS ρ a (SV.gd j w s) x=False:=rfl
theorem Zwr (ρ a x):mtL ρ a [] x=(x=[]):=rfl
theorem ZvM (ρ a x s l):mtL ρ a (s :: l) x=mtB (mtS ρ a s) (mtL ρ a l) x:=rfl
theorem ZtZ (ρ a x):mtH ρ a HB.gone x=True:=rfl
theorem Zxr (ρ a l T b c):mtH ρ a (HB.cells l T) (HB.cells b c)=(c=T/\mtL ρ a l b):=rfl
theorem ZtO (ρ a x v m b T):mtH ρ a (HB.row v m b T) x=(x=HB.row v m b T/\KFR b):=rfl
theorem ZuF (ρ a x φ):mtH ρ a (HB.ob φ) x=(x=HB.ob φ):=rfl
theorem Zs7 (ρ a x b c):mtH ρ a (HB.map b c) x=(x=HB.map b c/\∀ (e:Nat × Value × SV),e ∈ b->KF (Prod.snd (Prod.snd e))):=rfl
theorem Zuz (ρ d x e a b c):mtH ρ d (HB.it e a b c) x=(e < d/\x=HB.it (ρ e) a b c):=rfl
theorem Zvc (ρ a x r b):mtH ρ a (HB.lp r b) x=(x=HB.lp r b):=rfl
theorem Ztm (ρ a x r):mtH ρ a (HB.lb r) x=(x=HB.lb r):=rfl
theorem Ztz (ρ a x v m b T o c d e):mtH ρ a (HB.rws v m b T o c d e) x=(x=HB.rws v m b T o c d e/\KFR b/\∀ (r:List (List SV)),r ∈ d->KFR r):=rfl
theorem ZmU (ρ a l T v m b c):mtH ρ a (HB.cells l T) (HB.row v m b c)=False:=rfl
theorem ZrJ (ρ a l T φ):mtH ρ a (HB.cells l T) (HB.ob φ)=False:=rfl
theorem ZnL (ρ a l T b c):mtH ρ a (HB.cells l T) (HB.map b c)=False:=rfl
theorem ZnW (ρ a l T b c d e):mtH ρ a (HB.cells l T) (HB.it b c d e)=False:=rfl
theorem ZrK (ρ a l T b c):mtH ρ a (HB.cells l T) (HB.lp b c)=False:=rfl
theorem Zq2 (ρ a l T b):mtH ρ a (HB.cells l T) (HB.lb b)=False:=rfl
theorem Znm (ρ a l T v m b c o d e f):mtH ρ a (HB.cells l T) (HB.rws v m b c o d e f)=False:=rfl
theorem ZmP (ρ a l T):mtH ρ a (HB.cells l T) HB.gone=False:=rfl
theorem Zum (p):mtM true p=True:=rfl
theorem ZvX (p):mtM false p=p:=rfl
theorem Zte (ρ a x b):mtF ρ a x [] b=True:=rfl
theorem ZsR (ρ a x b t s r):mtF ρ a x ((t,s) :: r) b=(mtM (Xv t x) (mtS ρ a s (lk t b))/\mtF ρ a (t :: x) r b):=rfl
theorem ZuI (ρ a hp b):mtP ρ a hp b 0=True:=rfl
theorem Zux (ρ a hp b j):mtP ρ a hp b (Nat.succ j)=(mtH ρ b (lkh j a) (lkh (ρ j) hp)/\mtP ρ a hp b j):=rfl
theorem Zuk (a):hpb a []=True:=rfl
theorem Zvp (a u s r):hpb a ((u,s) :: r)=(u < a/\hpb a r):=rfl
theorem Zs2 (a b):eqC 0 (SV.v (Value.bool a)) (SV.v (Value.bool b))=some (a == b):=rfl
theorem ZtB (k a j b):eqC 1 (SV.v (Value.int k a)) (SV.v (Value.int j b))=bif Zdf k j then some (a == b) else none:=rfl
theorem Zxf (a b):eqC 2 (SV.v (Value.string a)) (SV.v (Value.string b))=some (ByteArray.toList a == ByteArray.toList b):=rfl
theorem Zs4 (a b):eqA (some a) (some b)=some (a && b):=rfl
theorem ZoV: Zhb [] [] []=some true:=rfl
theorem Zqy (c a b d y e):Zhb (c :: a) (b :: d) (y :: e)=eqA (eqC c b y) (Zhb a d e):=rfl
theorem Zq1 (c a b):ZrW c true (SV.agg a) (SV.agg b)=Zhb c a b:=rfl
theorem Zne (c a b):ZrW c false (SV.v (Value.bool a)) (SV.v (Value.bool b))=some (a == b):=rfl
theorem Ztn (a b):eqR a (some b)=some (SV.v (Value.bool (ngB a b))):=rfl
theorem ZwC (a):eqR a none=none:=rfl
theorem Zu4 (x):ngB true x = !x:=rfl
theorem ZwR (x):ngB false x=x:=rfl
theorem Zpv (m hp c a b):ZtD m hp (SV.sl c a b)=Zg4 b (Nat.beq m a):=rfl
theorem Zqn (m hp):ZtD m hp (SV.v (Value.slice none 0 0))=some []:=rfl
theorem Zp9 (m hp k v):ZtD m hp (SV.mr k v)=Zit m v (lkh k hp):=rfl
theorem Zp2 (m a b):ZkK m (SV.sl true a b)=Zg4 b (Nat.beq m a):=rfl
theorem Zm4 (m):ZkK m (SV.v (Value.slice none 0 0))=some []:=rfl
theorem ZmO (g m b d σ r K a c):ZxC g m b (some a) (some c) d σ r K=APP g m b a c d σ r K:=rfl
theorem ZoK (g m b d σ r K a):ZxC g m b (some a) none d σ r K=False:=rfl
theorem Zns (g m b y d σ r K):ZxC g m b none y d σ r K=False:=rfl
theorem Zrm (l):ZxN (SV.agg l)=some l:=rfl
theorem Zrl (l):ZxS (SV.tup l)=some l:=rfl
theorem Zxw (f a b):clL f (SV.cl a b)=bif Nat.beq a f then some b else none:=rfl
theorem Zvl (p q):mtB p q []=False:=rfl
theorem Zs8 (p q s l):mtB p q (s :: l)=(p s/\q l):=rfl
theorem Zjr (x a b c d e f):Zna false true x a b c d e f=e { fr:=(x,SV.mr (St.n d) 0) :: St.fr d,hp:=(St.n d,HB.row 0 a b c) :: St.hp d,n:=St.n d+1,N:=St.N d,gs:=St.gs d } f:=rfl
theorem ZrG (m a T σ r K b):ZmI (some b) m a T σ r K=Zna (Xv b (St.gs σ)) (Nat.blt b (St.N σ)) b m a T σ r K:=rfl
theorem ZnG (m a T σ r K):ZmI none m a T σ r K=False:=rfl
theorem ZqA (b d m T σ r K a):ZsQ b d m (some []) (some a) T σ r K=CLN b d m a T σ r K:=rfl
theorem Zol (b d m y T σ r K a c):ZsQ b d m (some (a :: c)) y T σ r K=False:=rfl
theorem Zpg (b d m T σ r K):ZsQ b d m (some []) none T σ r K=False:=rfl
theorem Zo0 (b d m y T σ r K):ZsQ b d m none y T σ r K=False:=rfl
theorem Znp (b d m z T σ r K k n):ZyD b d m z (SV.v (Value.int k n)) T σ r K=MKS b d m (lit z) n T σ r K:=rfl
theorem ZoX (d σ r K c m a):ZAk d (SV.sl c m a) σ r K=ISN d a σ r K:=rfl
theorem Zpp (g d σ r K c m a b n e j):ZAo g (SV.sl c m a) (SV.v (Value.int b n)) (SV.v (Value.int e j)) d σ r K=SLC g n j m a d σ r K:=rfl
theorem ZoZ (g m a d σ r K i j):ZxV g m a (some i) (some j) d σ r K=SUB g i j m a d σ r K:=rfl
theorem ZqG (g m a d σ r K b):ZxV g m a (some b) none d σ r K=False:=rfl
theorem Zqg (g m a b d σ r K):ZxV g m a none b d σ r K=False:=rfl
theorem Zn3 (a ρ):ZcW a ρ none=some a:=rfl
theorem ZnM (a ρ b):ZcW a ρ (some b)=match ρ b with | SV.v (Value.int k n)=>some n | x=>none:=rfl
theorem Znv (m c a b):Zh5 m (SV.sl c a b)=Zg4 b (Nat.beq m a):=rfl
theorem Znf (m):Zh5 m (SV.v (Value.slice none 0 0))=some []:=rfl
theorem ZoS (x h j w):ZxE false (.v x) h j w=false:=rfl
theorem Zh7 (x l):Zy (x :: l) 0 []=x :: l:=rfl
theorem ZgQ:Zy [] 0 []=[]:=rfl
attribute [go_sem] ZoL ZnQ ZqK Zqs w64_0 w64_1 w64_2 w64_3 w64_4 w64_5 w64_6 e_stO ZzF ZsU ZpX Zxp Zx5 Zni ZmX Zxb Zqd Zpj ZrU ZyM ZtY Zzi Zuw Zs0 phx_1 phx_2 phK_n ZuX Zy3 ZvS Zzn ZrD ZtU ZtC ZwE Zrz sx_gh Zpd Zu1 Zz8 Ztv Zno Zzc Zq8 Zz5 Zqc ZyF ZwT Zpc lkB_t lkB_f ZyX Zzo ZwD Zwl Zz3 Zx9 ZnJ Zwu Ztx Zza ZyG Zyk e_lk e_lk0 e_lkh Zzr Zzy Zw1 e_blk Zj8 ZrE Ztp Ztl Zwp Zks ZoT ZlF ZoI Zuj ZuK Zv2 ZiP ZoE ZfD ZhA ZjW ZjV Zlm Zfg Zg7 Zib Zlp ZqX ZmV Zr2 Zhi ZjM ZvF Zhk ZjG Zry Zq6 Zm7 ZhH ZiG Zhe ZhN ZjR ZkD ZnP Zm1 ZqC ZrN ZrQ ZoG Zii ZhU ZlB ZlG ZhY ZlK Zrq ZoJ Zok Zhw ZkY ZgU Zmb ZoW ZmT ZnY Zhu ZkB ZfU ZhW ZkS ZjI Zlz Zht ZjS ZnT Zxs Zvk Zv5 Zk8 ZqL ZgK Zld ZnV ZpY ZqU ZhB Zje ZgZ ZkZ Zg1 Zke Ze1 Zhv ZkM ZlN Zmm ZfM Zid Zfc Zfe e_yld e_exR e_hpM ZlI Ze5 ZgM ZlQ Zmc ZkX ZhM Zi0 Ztq Zfp Zg0 Zfq Zih Zde Zcw Zd7 Zcr ZbS e_rdG Zzv ZzD Zzz e_alw ZzL e_vw1 e_vw2 e_vw3 e_vw4 ZnO Zpe ZAb ZkE Zmp ZhQ Zhx Zhn Zhm Zh9 Zhd ZhI Zh1 ZhV Zli ZhO Zhr ZhG Zi1 Zg8 Zho ZhX Zm6 Zqj Zlt Zl5 Zln Zmu Zrh Zqa ZzN ZtW ZvP e_mm e_bld ZgS Zzg ZpH Zjt ZrO ZpM Zop Zle Zji e_rvR ZyI Zti Zvy Zqf Zhq Zft ZiE Zo9 Zh4 ZiK Zlu Zrd ZhK Zmg Zkm ZiY Zkj Zjf ZrL Zia Zie ZlZ Zg6 ZlD e_rvs ZrY Ziy Zpb Zuy ZyR ZiN ZiT Zj9 ZjK ZqF Zo2 Zv7 ZvQ Zu2 Zus Ztc Zwh Zw0 Zq4 Zo1 Zru ZpB Zpa Zqr Zpx ZqS ZmW Zpt Zpr Zrs ZwO Zxj ZwA ZtV ZtM ZtF Zur Ztj Zwn ZuZ ZuP Zwy Zs5 ZpZ Zqe ZqH Zp3 Zr4 ZmY Zp0 Zpf ZkF Zmt Zou ZpK Zky ZlP ZwV Zup Zi5 ZjA ZkP Zlj Zre Zoz Ziv ZmN Zr5 Zqh ZrS ZpC ZqD ZnK Zob ZnS Zrf Zuu ZvG Zvd ZvU Zvt Zwg Zs3 ZvR ZpA Znn Znc ZmK Zom ZnE ZoC ZqM Zod ZrR Zrv Zr7 Zo6 ZpF Zny ZoP Zpo Zrj ZrT Zjc Zlv ZiU ZlX Zl6 Zmv Zlb ZlL Ziw ZkU Zl2 Zlw ZiS ZlU Zjy ZjF Zj6 ZiD Zkl ZiX Zi6 Zlq Zjd Zjh ZlV ZiW Ziu Zj3 ZiM Zr8 ZqN Zk2 Znh ZoF Zoy Zp4 ZqO ZpJ Zzl Zyt ZnA ZpL Zqz Zr6 ZqI ZnD Zn5 Zpq Zr0 Zn0 Zr3 Zq3 ZpE Znr Zos Zn2 Zqv Zpk Zo5 Zrr ZpU ZqB Zs1 ZqQ ZrF ZwY Zug Zwa Ztd ZgN Zh3 Zu9 Zwt Zv1 Zwq Zvs Zun Zw4 Zt6 Zwb Znl Zp1 Zrk ZnI ZlH Zyw ZyZ ZwN ZvL Zpw Zp8 Zve ZoU ZrB ZrV Zqp ZnU Zot Zr9 ZpP ZtS ZuE ZsS ZvJ ZwX ZuQ Zt2 ZgX Zif ZqV ZmM ZqZ ZoB Zn1 ZwU ZsV Zqt Zp5 ZrI Zpl ZsW Zxh Zxd ZtQ Zvo ZwK Zw8 ZwP ZuH Znx Zqq Zm2 ZnH Zn9 Zov Zn7 ZuC Zwc Zwd ZtA Zs9 Zwv Zwj Zuc Zvx ZpD ZpQ ZoA Zro ZmJ Zoi ZmQ Zt4 Zw9 ZwJ ZuS Zvq ZsX ZtL Ztg ZtE ZuA Zuq ZvZ ZvY Zjz Zja ZuR Zwo ZtR Zmf Zl0 Ztb ZuB Zxu ZsY ZuN Zt8 Zub Zoj Zq7 Ztt ZpI Zn4 ZkN Zml Zwm ZtJ Zxy Zo7 Zm9 ZmZ ZrA Zpi Znq Znz Zrw Zoe Zrb ZuD ZwW Zvb ZwZ Zxk Zvu Zuo Zxt ZuV Zua ZuO Zw5 Zt1 Zu5 ZtX Ztw Zwe Zxg Zxl ZwF Zrt Zqw Znt Zp7 Zpy Zo4 Zps Zwr ZvM ZtZ Zxr ZtO ZuF Zs7 Zuz Zvc Ztm Ztz ZmU ZrJ ZnL ZnW ZrK Zq2 Znm ZmP Zum ZvX Zte ZsR ZuI Zux Zuk Zvp Zs2 ZtB Zxf Zs4 ZoV Zqy Zq1 Zne Ztn ZwC Zu4 ZwR Zpv Zqn Zp9 Zp2 Zm4 ZmO ZoK Zns Zrm Zrl Zxw Zvl Zs8 Zjr ZrG ZnG ZqA Zol Zpg Zo0 Znp ZoX Zpp ZoZ ZqG Zqg Zn3 ZnM Znv Znf ZoS Zh7 ZgQ List.drop List.take List.length List.cons_append List.nil_append Nat.beq Nat.blt Nat.ble Nat.zero_add Nat.add_zero Nat.mul_one Nat.zero_mul Nat.one_mul cond_true cond_false List.set
end Go.Sx
