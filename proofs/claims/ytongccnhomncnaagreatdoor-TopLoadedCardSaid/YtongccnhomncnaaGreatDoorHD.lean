/- Walks and plain laws that lead to the given statement, part 4 of 20. -/
import Derived.Test.YtongccnhomncnaaGreatDoorHC
import Derived.MapKept
import Derived.WideKeyRuns
import Derived.Recover
set_option linter.all false
open Nat renaming beq_refl->nbr
namespace Go.Sx
open Go Go.RowKit
variable {Y:Hd}
section
variable (P:Program) (m:Nat) (σ : St) (K:Ex->St->Prop) (L:RK)
theorem ZB1:rx P Y [] σ L=L .n σ:=rfl
theorem Zxn (io:Ins) (r:List Ins):rx P Y (io :: r) σ L=st1 P Y io σ (rx P Y r) L:=rfl
theorem ZDC (ops:List Ins):sx P Y m (.reg ops) σ K=rx P Y ops σ (Zd3 K):=rfl
theorem ZvN (ord:List Nat) (p:Ph) (ps:List Ph):sx P Y m (.regs ord p ps) σ K=phx P Y p ps σ (Zd3 K):=rfl
theorem phx_1 (vs:List VI) (nA nB:Nat) (rest:List Ins):phx P Y ⟨vs,nA,nB,rest⟩ [] σ L=gs0 σ.gs (rxv P Y (ZdX σ.hp (rx P Y rest)) vs σ L):=rfl
theorem phx_2 (vs:List VI) (nA nB:Nat) (rest:List Ins) (q:Ph) (ps:List Ph):phx P Y ⟨vs,nA,nB,rest⟩ (q :: ps) σ L=gs0 σ.gs (rxv P Y (ZdX σ.hp (rx P Y rest)) vs σ (phK (phx P Y q ps) L)):=rfl
theorem phK_n (f:St->RK->Prop):phK f L .n σ = f σ L:=rfl
theorem ZxW (ord:List Nat) (vs:List VI) (nA nB:Nat) (rest:List Ins):sx P Y m (.regd ord vs nA nB rest) σ K=gs0 σ.gs (rxv P Y (ZdX σ.hp (rx P Y rest)) vs σ (Zd3 K)):=rfl
theorem ZwT (r:KT):rxv P Y r [] σ L=r σ L:=rfl
theorem ZDP (r:KT) (io:Ins) (l:List VI):rxv P Y r (.op io :: l) σ L=st1 P Y io σ (rxv P Y r l) L:=rfl
theorem ZsE (r:KT) (x:X) (l:List VI):rxv P Y r (.hide x :: l) σ L=Ze4 (rdG none σ.fr x) σ (rxv P Y r l) L:=rfl
theorem ZpI (hp:Lh) (r:KT):ZdX hp r σ L=r ⟨σ.fr,hp,σ.n,σ.N,σ.gs⟩ L:=rfl
theorem Zu9 (k o:Nat) (r:KT):Ze4 (.p k o) σ r L=r ⟨σ.fr,(k,.gone) :: σ.hp,σ.n,σ.N,σ.gs⟩ L:=rfl
theorem ZoO (k v:Nat) (r:KT):Ze4 (.mr k v) σ r L=r ⟨σ.fr,(k,.gone) :: σ.hp,σ.n,σ.N,σ.gs⟩ L:=rfl
theorem Ztx (k v m i o:Nat) (r:KT):Ze4 (.pr k v m i o) σ r L=r ⟨σ.fr,(k,.gone) :: σ.hp,σ.n,σ.N,σ.gs⟩ L:=rfl
theorem ZpN (k v m i o:Nat) (r:KT):Ze4 (.ms k v m i o) σ r L=r ⟨σ.fr,(k,.gone) :: σ.hp,σ.n,σ.N,σ.gs⟩ L:=rfl
theorem ZxS (p:Prop):gs0 [] p=p:=rfl
theorem ZBt (a b:SC):sx P Y m (.seq a b) σ K=sx P Y m a σ (Zxv (sx P Y m b) K):=rfl
theorem Zx1 (c:X) (a b:SC):sx P Y m (.cond c a b) σ K=ZDV (rdG none σ.fr c) (sx P Y m a) (sx P Y m b) σ K:=rfl
theorem ZsT (id:Nat) (c:SC):sx P Y m (.block id c) σ K=sx P Y m c σ (ZuK id K):=rfl
theorem Zyj (c:SC):sx P Y m (.loop c) σ K=Zvr m (sx P Y m c) σ K:=rfl
theorem Zz1 (id:Nat):sx P Y m (.exit id) σ K=K (.ex id) σ:=rfl
theorem ZCd:sx P Y m .ret σ K=K .ret σ:=rfl
theorem Zzy:sx P Y m .skip σ K=K .n σ:=rfl
theorem ZtZ (c:SC):sx P Y m (.scope c) σ K=sx P Y m c σ K:=rfl
theorem sx_gh (c:SC):sx P Y m (.gh c) σ K=GH m (sx P Y m c) σ K:=rfl
theorem ZtU (l:Nat):sx P Y m (.label l) σ K=K .n σ:=rfl
theorem ZyC (e:Ex):Zd3 K e σ = K e (V4 σ):=rfl
theorem ZCx (f:CT):Zxv f K .n σ = f σ K:=rfl
theorem Zvk (f:CT) (i:Nat):Zxv f K (.ex i) σ = K (.ex i) σ:=rfl
theorem Ztk (f:CT) (s:SV):Zxv f K (.pan s) σ = K (.pan s) σ:=rfl
theorem Ztp (f:CT):Zxv f K .ret σ = K .ret σ:=rfl
theorem ZCn (id:Nat):ZuK id K .n σ = K .n σ:=rfl
theorem Zug (id:Nat) (s:SV):ZuK id K (.pan s) σ = K (.pan s) σ:=rfl
theorem ZrW (id:Nat):ZuK id K .ret σ = K .ret σ:=rfl
theorem ZDN (rs:List RV) (res:SV):ZDY rs res .n σ = (rvR rs σ = some res):=rfl
theorem Zt8 (rs:List RV) (res:SV):ZDY rs res .ret σ = (rvR rs σ = some res):=rfl
theorem ZCp {S:Type} (st:S->St) (rel:S->Prop) (μ : S->Nat) (s:S):ZpU m st rel μ s K .n σ = ∃ s',rel s'/\μ s' < μ s/\Ent m σ (st s'):=rfl
theorem Zya {S:Type} (st:S->St) (rel:S->Prop) (μ : S->Nat) (s:S) (i:Nat):ZpU m st rel μ s K (.ex i) σ = K (.ex i) σ:=rfl
theorem Zqo {S:Type} (st:S->St) (rel:S->Prop) (μ : S->Nat) (s:S) (x:SV):ZpU m st rel μ s K (.pan x) σ = K (.pan x) σ:=rfl
theorem ZrN {S:Type} (st:S->St) (rel:S->Prop) (μ : S->Nat) (s:S):ZpU m st rel μ s K .ret σ = K .ret σ:=rfl
end
section
variable {P:Program} {m:Nat} {σ : St} {K:Ex->St->Prop} {L:RK} {r:KT} {d:Option Nat} {g:Option (Nat × Bool)}
theorem br {b:Bool} {f h:CT} (h1:b=true->f σ K) (h2:b=false->h σ K):BR b f h σ K:=⟨h1,h2⟩
theorem Zs {b:Bool} {f h:CT} (hb:b=true) (h1:f σ K):BR b f h σ K:=⟨λ_=>h1,λe=>by rw [hb] at e;cases e⟩
theorem Zo {b:Bool} {f h:CT} (hb:b=false) (h1:h σ K):BR b f h σ K:=⟨λe=>by (rw [hb] at e;cases e),λ_=>h1⟩
theorem gb {b w:Bool} {j:Nat} {i:SI} (h:Yw P (some (j,w)) d i σ r L):GB P Y b j w d i σ r L:=.inr (.inr h)
theorem ZI {b w:Bool} {j:Nat} {i:SI} (hb:b=w) (h:stp P Y d i σ r L):GB P Y b j w d i σ r L:=.inl ⟨hb,h⟩
theorem Xu {b w:Bool} {j:Nat} {i:SI} (hb:b≠w) (h:ZwU d σ r L):GB P Y b j w d i σ r L:=.inr (.inl ⟨hb,h⟩)
theorem call {f:FuncId} {args:Ls} {res:SV} (h:Ct P f args res) (hk:YE d res g σ r L):ZAB P g f args d σ r L:=⟨res,.inl (Z1.2 λ_=>h),hk⟩
theorem WM {f:FuncId} {args:Ls} {res:SV} (hf:FLT res) (h:Ct P f (ZcD (vw4 σ.hp) args) res) (hk:YE d res g σ r L):ZAB P g f args d σ r L:=⟨res,.inr ⟨hf,Z1.2 λ_=>h⟩,hk⟩
theorem Zjh {b:BinOp} {k:IntKind} {x y:Int} (h:y≠0) (hk:YE d (.v (.int k (ZvE b k x y))) g σ r L):DIV g b k x y d σ r L:=⟨Z1.2 λ_=>h,hk⟩
theorem ixs {xs:Rr} {i:Int} (n:Nat) (row:Ls) (hi:i=(n:Int)) (hr:xs[n]? = some row) (hk:YE d (.ps row 0) g σ r L):IXS g xs i d σ r L:=⟨row,Z1.2 λ_=>⟨n,hi,hr⟩,hk⟩
theorem Zn {α : Type} {l:List α} {f:α->Ls} {i:Int} (n:Nat) (hn:n < l.length) (hi:i=(n:Int)) (hk:YE d (.ps (f l[n]) 0) g σ r L):IXS g (l.map f) i d σ r L :=
 ixs n _ hi (by simp [hn]) hk
theorem ixa {len:Nat} {i:Int} {F:Nat->Option SV} (n:Nat) (hi:i=(n:Int)) (hn:n < len) (hk:WC (F n) d g σ r L):IXA g len i F d σ r L:=⟨n,Z1.2 λ_=>⟨hi,hn⟩,hk⟩
theorem loop {f:CT} {S:Type} (st:S->St) (rel:S->Prop) (μ : S->Nat) (s:S) (h0:rel s) (he:Ent m σ (st s)) (hb:∀ s,rel s->f (st s) (ZpU m st rel μ s K)):Zvr m f σ K :=
 .inr ⟨S,st,rel,μ,⟨s,h0,he⟩,hb⟩
theorem ZX {f:CT} (n:Nat) (h:ZAu f K n σ):Zvr m f σ K:=.inl ⟨n,h⟩
theorem Zb {f:CT} (n:Nat):ZAu f K (n+1) σ = f σ (ZAv (ZAu f K n) K):=rfl
theorem ZCO (p:St->Prop):ZAv p K .n σ = p σ:=rfl
theorem ZAd (p:St->Prop) (i:Nat):ZAv p K (.ex i) σ = K (.ex i) σ:=rfl
theorem Zt7 (p:St->Prop) (s:SV):ZAv p K (.pan s) σ = K (.pan s) σ:=rfl
theorem Zrj (p:St->Prop):ZAv p K .ret σ = K .ret σ:=rfl
def ZAR:Lf->Lf->Prop
 | [],_=>True
 | (t,s) :: r,fr=>lk t fr=s/\ZAR r fr
def ZAS:Lf->Bool
 | []=>true
 | (_,.gd _ _ _) :: _=>false
 | _ :: r=>ZAS r
theorem Zlc:∀ {r fr:Lf},ZAR r fr->∀ t,lk t r = .any\/lk t r=lk t fr
 | [],_,_,t=>.inl rfl
 | (u,s) :: r,fr,h,t=>by
  rw [ZN];by_cases ht:t=u
  . subst ht;rw [if_pos rfl];exact .inr h.1.symm
  . rw [if_neg ht];exact Zlc h.2 t
theorem ZfC:∀ {r:Lf},ZAS r=true->∀ t j b s,lk t r≠.gd j b s
 | [],_,t,j,b,s=>by simp [lk]
 | (u,s') :: r,h,t,j,b,s=>by
  rw [ZN];by_cases ht:t=u
  . rw [if_pos ht];rintro rfl;simp [ZAS] at h
  . rw [if_neg ht];exact ZfC (by cases s'<;>first | exact h | simp [ZAS] at h) t j b s
end
section
variable {w:World} {E:Env} {ok ok':Nat->Prop} {ρ : Nat->Nat} {n':Nat} {n:Nat->Prop}
theorem ent {σ σ':St} (ρ : Nat->Nat) (hf:mtF ρ σ'.n [] σ'.fr σ.fr) (hp:mtP ρ σ'.hp σ.hp σ'.n σ'.n) (hb:hpb σ'.n σ'.hp) (hρ : ∀ i,i < σ'.n->∀ j,j < σ'.n->ρ i = ρ j->i=j) (hN:Nat.beq σ'.N σ.N=true) {m0:Nat} (hm:Nat.ble m0 σ'.n=true) (hfix:∀ i,i < m0->ρ i=i):Ent m0 σ σ':=by
 intro C E a w hm0 h;have hN:=Nat.eq_of_beq_eq_true hN;have hgone:=ZdO hb;have hH:=ZkG hp;have hocc:∀ k b,occ (rnE E ρ) k (lkh k σ'.hp) b->k < σ'.n/\occ E (ρ k) (lkh (ρ k) σ.hp) b:=λk b ho=>by
  by_cases hk:k < σ'.n
  . refine ⟨hk,?_⟩;have:=hH k hk;cases h1:lkh k σ'.hp<;>rw [h1] at ho this
    . cases h2:lkh (ρ k) σ.hp<;>rw [h2] at this<;>simp only [mtH] at this
      exact ho
    . simp only [mtH] at this;rw [this.1];exact ho
    . simp only [mtH] at this;rw [this];exact ho
    . simp only [mtH] at this;rw [this.1];exact ho
    . simp only [mtH] at this;rw [this.2];exact ho
    . simp only [mtH] at this;rw [this];exact ho
    . simp only [mtH] at this;rw [this];exact ho
    . simp only [mtH] at this;rw [this];exact ho
    . exact ho.elim
  . rw [hgone k hk] at ho;exact ho.elim
 have hst:ZM w w (okS C E σ.hp) (okS C (rnE E ρ) σ'.hp):=λb hb _=>⟨⟨hb.1,λk ho=>hb.2 _ (hocc k b ho).2⟩,rfl⟩;refine ⟨rnE E ρ,λt=>?_,by rw [hN];exact h.sz,X5 hst h.df,λt j b s ht=>?_,⟨hgone,λk=>?_,λk k' b h1 h2=>?_,λk b h1=>?_,h.hs.kp,λk hk=>?_⟩⟩
 . rcases Zle hf t rfl with h1 | h1
   . rw [h1];exact trivial
   . have:=mtS_R hst h1 (h.fr t);have hng:=ZdP h1;cases hs:lk t σ'.fr<;>rw [hs] at this hng<;>first | exact this | exact absurd rfl (hng _ _ _)
 . rcases Zle hf t rfl with h1 | h1
   . rw [h1] at ht;cases ht
   . exact absurd ht (ZdP h1 j b s)
 . by_cases hk:k < σ'.n
   . have:=hH k hk;have hbk:=h.hs.bk (ρ k);cases h1:lkh k σ'.hp<;>rw [h1] at this
     . cases h2:lkh (ρ k) σ.hp<;>rw [h2] at this hbk<;>simp only [mtH] at this
       obtain ⟨rfl,this⟩:=this;simp only [Yr] at hbk ⊢;obtain ⟨cs,k1,k2⟩:=hbk;exact ⟨cs,k1,ZbZ hst _ _ _ this k2⟩
     . simp only [mtH] at this;rw [this.1] at hbk;simp only [Yr] at hbk ⊢;obtain ⟨hi0,hbk⟩:=hbk;refine ⟨hi0,?_⟩;rcases hbk with q | ⟨b,cap,cs,q1,q2,q3,q4,q5,q6,q7⟩
       . exact .inl q
       . exact .inr ⟨b,cap,cs,q1,q2,q3,q4,q5,q6,ZL hst (λ_ h=>Ele.rfl) (λ_ h=>h.elim) _ _ (Zcz (E':=rnE E ρ) (n':=λ_=>False) _ _ (Zbc this.2) q7)⟩
     . rename_i φ;simp only [mtH] at this;rw [this] at hbk;simp only [Yr] at hbk ⊢;obtain ⟨o,k1,k2⟩:=hbk;exact ⟨o,k1,φ.mono _ _ _ _ _ hst k2⟩
     . simp only [mtH] at this;obtain ⟨this,hkf⟩:=this;rw [this] at hbk;simp only [Yr] at hbk ⊢;obtain ⟨ys,k1,k2⟩:=hbk;exact ⟨ys,k1,ZsL hst _ _ hkf k2⟩
     . simp only [mtH] at this;rw [this.2] at hbk;simp only [Yr] at hbk ⊢;exact ⟨this.1,hbk.2⟩
     . simp only [mtH] at this;rw [this] at hbk;simp only [Yr] at hbk ⊢;exact hbk
     . simp only [mtH] at this;rw [this] at hbk;simp only [Yr] at hbk ⊢;exact hbk
     . simp only [mtH] at this;rw [this] at hbk;rename_i φ;exact φ.mono _ _ _ _ hst.c (λ_ _=>rfl) hbk
     . trivial
   . rw [hgone k hk];trivial
 . have e1:=hocc k b h1;have e2:=hocc k' b h2;exact hρ k e1.1 k' e2.1 (h.hs.dj _ _ b e1.2 e2.2)
 . obtain ⟨e1,e2⟩:=hocc k b h1;rcases h.hs.lo _ b e2 with q | q
   . exact .inl q
   . have q1:=Nat.lt_of_lt_of_le (hm0.2 _ _ q) hm0.1;have q2:ρ k=k:=hρ _ (Nat.lt_of_lt_of_le q1 (Nat.le_of_ble_eq_true hm)) k e1 (hfix _ q1);rw [q2] at q;exact .inr q
 . have hk':k < m0:=Nat.lt_of_lt_of_le hk hm0.1;obtain ⟨p1,p2,p3,p4⟩:=h.hs.pin k hk;exact ⟨Nat.lt_of_lt_of_le hk' (Nat.le_of_ble_eq_true hm),by simp only [rnE,hfix k hk'];exact p2,by simp only [rnE,hfix k hk'];exact p3,by simp only [rnE,hfix k hk'];exact p4⟩
end
theorem ZpS {ρ : Nat->Nat} {n':Nat}:∀ {s:SV},KF s->mtS ρ n' s s:=by
 intro s;exact SV.rec (motive_1:=λs=>KF s->mtS ρ n' s s) (motive_2:=λl=>KFL l->mtL ρ n' l l) (motive_3:=λ_=>True)
  (λx _=>by simp [mtS]) (λk o h=>by simp [KF] at h) (λl ih h=>by simp only [KF] at h;simp only [mtS,ZAN,mtO];exact ih h)
  (λc m xs _ h=>by simp only [KF] at h;simp [mtS,h]) (λk v h=>by simp [KF] at h) (λk v m i o h=>by simp [KF] at h) (λk v m i o h=>by simp [KF] at h)
  (λl o _ h=>by simp only [KF] at h;simp [mtS,h]) (λf l ih h=>by simp only [KF] at h;simp only [mtS,clL,nbr,cond_true,mtO];exact ih h)
  (λl ih h=>by simp only [KF] at h;simp only [mtS,ZAM,mtO];exact ih h) (λk h=>by simp [KF] at h) (λk h=>by simp [KF] at h) (λT s ih h=>by simp only [KF] at h;simp only [mtS,mtI];exact ⟨trivial,ih h⟩) (λφ _=>by simp [mtS]) (λj w s _ h=>by simp [KF] at h) (λ_=>by simp [mtS])
  (λ_=>by simp [mtL]) (λs l h1 h2 h=>by simp only [KFL] at h;simp only [mtL,mtB];exact ⟨h1 h.1,h2 h.2⟩)
  trivial (λ_ _ _ _=>trivial) s
theorem Zc {ρ : Nat->Nat} {n':Nat}:∀ {l:Ls},KFL l->mtL ρ n' l l
 | [],_=>by simp [mtL]
 | s :: l,h=>by simp only [mtL,mtB];exact ⟨ZpS h.1,Zc h.2⟩
abbrev I (n:Int):SV:=.v (.int .i64 n)
abbrev B (b:Bool):SV:=.v (.bool b)
theorem Zd:∀ {xs ys:Rr},KFR (xs ++ ys)↔KFR xs/\KFR ys
 | [],ys=>by simp [KFR]
 | x :: xs,ys=>by simp [KFR,Zd (xs:=xs) (ys:=ys),and_assoc]
theorem Za {α : Type} {f:α->Ls} {l:List α}:KFR (l.map f)↔∀ x ∈ l,KFL (f x):=by
 induction l with
 | nil=>simp [KFR]
 | cons x l ih=>simp [KFR,ih]
attribute [simp] Zd KFR KFL KF Zc mtO Nat.beq_refl
abbrev w64 (n:Int):Int:=IntKind.i64.wrap n
theorem Zf {n:Int} (h1:-9223372036854775808<=n) (h2:n<=9223372036854775807):IntKind.i64.wrap n=n:=IntWalk.i64_in n ⟨h1,h2⟩
def stO {S:Type} (σ : St) (ov:S->Lf) (hv:S->Lh) (s:S):St:=⟨ov s ++ σ.fr,hv s ++ σ.hp,σ.n,σ.N,[]⟩
theorem e_stO {S:Type} (fr:Lf) (hp:Lh) (n N:Nat) (gs:List Nat) (ov:S->Lf) (hv:S->Lh) (s:S):stO ⟨fr,hp,n,N,gs⟩ ov hv s=⟨ov s ++ fr,hv s ++ hp,n,N,[]⟩:=rfl
theorem Ym {m:Nat} {f:CT} {σ : St} {K:Ex->St->Prop} {S:Type} (ov:S->Lf) (hv:S->Lh) (rel:S->Prop) (μ : S->Nat) (s0:S) (h0:rel s0) (he:Ent m σ (stO σ ov hv s0))
 (hb:∀ s,rel s->f (stO σ ov hv s) (ZpU m (stO σ ov hv) rel μ s K)):Zvr m f σ K :=
 loop (stO σ ov hv) rel μ s0 h0 he hb
theorem ZdB {m:Nat} {f:CT} {σ σ1:St} {K:Ex->St->Prop} {S:Type} (hg:Ent m σ σ1) (ov:S->Lf) (hv:S->Lh) (rel:S->Prop) (μ : S->Nat) (s0:S) (h0:rel s0) (he:Ent m σ1 (stO σ1 ov hv s0))
 (hb:∀ s,rel s->f (stO σ1 ov hv s) (ZpU m (stO σ1 ov hv) rel μ s K)):Zvr m f σ K :=
 loop (stO σ1 ov hv) rel μ s0 h0 (Yi hg he) hb
theorem gh {m:Nat} {r:CT} {σ σ1:St} {K:Ex->St->Prop} (hg:Ent m σ σ1) (h:r σ1 K):GH m r σ K:=.inl ⟨σ1,hg,h⟩
theorem ZuP {C:Cx} {E:Env} {hp:Lh} {n:Nat->Prop} {w:World} {m k v m':Nat} {xs:Rr} {T:TypeId} (hmc:MC C m) (hm:m<=k) (h:HSim C E hp n w) (hk:lkh k hp = .row v m' xs T) :
 (xs=[]/\∃ a,E.hv k v = .slice a 0 0)\/∃ b cap,E.hv k v = .slice (some ⟨b,0,none⟩) xs.length cap/\xs.length<=cap/\cap≠0/\xs.length<=9223372036854775807/\RR w E n (okS C E ((k,.gone) :: hp)) b m' xs 0:=by
 have hb:=h.bk k;rw [hk] at hb;simp only [Yr] at hb;rcases hb with ⟨_,h1 | ⟨b,cap,cs,h1,h2,h3,⟨h4,h4'⟩,h5,h6,h7⟩⟩
 . exact .inl h1
 . have hoc:occ E k (lkh k hp) b:=by rw [hk];exact ⟨_,_,h1,h4'⟩
   have hok:okS C E ((k,.gone) :: hp) b:=by
    refine ⟨?_,λj ho=>?_⟩
    . rcases h.lo k b hoc with q | q
      . exact .inr q
      . have:=hmc.2 k b q;have:=hmc.1;omega
    . rw [Zu] at ho;split at ho
      . exact ho.elim
      . exact absurd (h.dj j k b ho hoc).symm (by omega)
   exact .inr ⟨b,cap,h1,h4,h4',h5,WG (cs:=cs) (ok:=okS C E hp) hok (λj c hj=>by rw [cell_of_row _ _ _ _ _ _ h2];simpa using hj) (Vo h k).2 xs 0 h6 (by simpa using h7)⟩
theorem ZgQ {m:Nat} {σ : St} (t k:Nat) (s:SV) (hg:σ.gs=[]) (hs:∀ j b u,s≠.gd j b u) (hR:∀ C E w y,MC C m->HSim C E σ.hp (ltn σ.n) w->R w E (ltn σ.n) (okS C E σ.hp) (lk t σ.fr) y->R w E (ltn σ.n) (okS C E ((k,.gone) :: σ.hp)) s y) :
 Ent m σ ⟨(t,s) :: σ.fr,(k,.gone) :: σ.hp,σ.n,σ.N,σ.gs⟩:=λC E a w hmc h=>by
 obtain ⟨g1,g2⟩:=Vo h.hs k;have hR0:∀ u,R w E (ltn σ.n) (okS C E σ.hp) (lk u σ.fr) (a.tmps.getD u undef):=λu=>Zvx (h.fr u) (λj b u' e=>by have:=h.gs u j b u' e;rw [hg] at this;simp at this);refine ⟨E,λu=>?_,h.sz,X5 g2 h.df,λu j b s' hu=>?_,g1⟩
 . rw [ZN];split
   . rename_i hu;subst hu;have:=hR C E w _ hmc h.hs (hR0 _);cases s<;>first | exact this | exact absurd rfl (hs _ _ _)
   . refine XD g2 (λ_ _=>Ele.rfl) (λk hk=>hk) (λj b s hs=>?_) (h.fr u);have:=h.gs u j b s hs;rw [hg] at this;simp at this
 . rw [ZN] at hu;split at hu
   . exact absurd hu (hs _ _ _)
   . exact h.gs u j b s' hu
theorem Zav {m:Nat} {σ : St} (t k v:Nat) {m':Nat} {xs:Rr} {T:TypeId} (hm:Nat.ble m k=true) (hg:σ.gs=[]) (hl:lk t σ.fr = .mr k v) (hk:lkh k σ.hp = .row v m' xs T) :
 Ent m σ ⟨(t,.sl false m' xs) :: σ.fr,(k,.gone) :: σ.hp,σ.n,σ.N,σ.gs⟩ :=
 ZgQ t k _ hg (λ_ _ _ e=>by cases e) λC E w y hmc hh hR=>by
  rw [hl] at hR;simp only [R] at hR ⊢;rcases ZuP hmc (Nat.le_of_ble_eq_true hm) hh hk with ⟨h1,a0,h2⟩ | ⟨b,cap,h1,h4,h4',h5,h7⟩
  . exact ⟨a0,0,0,by rw [hR.2.2.1,h2],by simp [h1],⟨Nat.le_refl _,λh=>by cases h⟩,by simp [h1],.inl h1⟩
  . exact ⟨_,_,_,hR.2.2.1.trans h1,rfl,⟨h4,λh=>by cases h⟩,h5,.inr ⟨b,0,rfl,h7⟩⟩
theorem Uq {m:Nat} {b:Bool} {s s':SV} {hp hp':Lh} {n n':Nat} (h:Ent m ⟨[(0,s)],hp,n,1,[]⟩ ⟨[(0,s')],hp',n',1,[]⟩) (hg:∀ j b u,s'≠.gd j b u):WI m ⟨b,s,hp,n⟩ ⟨b,s',hp',n'⟩:=by
 refine ⟨rfl,λC E w y hm hH hR=>?_⟩;have hng:=UN hR;have hS:Sim C E ⟨[(0,s)],hp,n,1,[]⟩ { tmps:=#[y],defers:=C.ds } w:=by
  refine ⟨λt=>?_,rfl,ZaC,λt j b u ht=>?_,hH⟩
  . simp only [ZN];split
    . rename_i ht;subst ht;show FR w E (ltn n) _ _ s y;cases s<;>first | exact hR | exact absurd rfl (hng _ _ _)
    . exact trivial
  . simp only [ZN] at ht;split at ht
    . exact absurd ht (hng _ _ _)
    . cases ht
 obtain ⟨E',h'⟩:=h C E _ w hm hS;refine ⟨E',h'.hs,?_⟩;have:=h'.fr 0;exact Zvx this (λj b u e=>hg j b u (by simpa [lk] using e))
theorem entO {m:Nat} {b:Bool} {s s':SV} {hp hp':Lh} {n n':Nat} (ρ : Nat->Nat) (hf:mtS ρ n' s' s) (hp0:mtP ρ hp' hp n' n') (hb:hpb n' hp') (hρ : ∀ i,i < n'->∀ j,j < n'->ρ i = ρ j->i=j) (hm:Nat.ble m n'=true) (hfix:∀ i,i < m->ρ i=i):WI m ⟨b,s,hp,n⟩ ⟨b,s',hp',n'⟩ :=
 Uq (ent ρ (show mtF ρ n' [] [(0,s')] [(0,s)] from ⟨hf,trivial⟩) hp0 hb hρ rfl hm hfix) (ZdP hf)
theorem Zw {m:Nat} {b:Bool} {s s':SV} {hp hp':Lh} {n n':Nat} (hf:mtS id n' s' s) (hp0:mtP id hp' hp n' n') (hb:hpb n' hp') (hm:Nat.ble m n'=true):WI m ⟨b,s,hp,n⟩ ⟨b,s',hp',n'⟩ :=
 entO id hf hp0 hb (λ_ _ _ _ h=>h) hm (λ_ _=>rfl)
theorem callm {P:Program} {f:FuncId} {args args0:Ls} {d:Option Nat} {σ : St} {r:KT} {K:RK} {hp0:Lh} {n0:Nat} {o:Ot} (ρ : Nat->Nat) (hc:CtM P f hp0 n0 args0 (· = o)) (h1:mtL ρ n0 args0 args) (h2:mtP ρ hp0 σ.hp n0 n0) (h3:ZEq ρ n0) (h4:∀ i,i < n0->ρ i < σ.n)
 (h5:cmK o.pn (rnS (exR ρ n0 σ.n) o.res) (hpM ρ n0 σ.n o σ.hp) (σ.n+(o.n - n0)) d σ r K):ZdW P f args d σ r K :=
 ⟨hp0,n0,args0,_,ρ,hc,h1,h2,h3,h4,λ_ e=>e ▸ h5⟩
def rho:List Nat->Nat->Nat
 | [],_=>0
 | a :: _,0=>a
 | _ :: l,k+1=>rho l k
theorem Uw:∀ (l:List Nat) (k:Nat) (h:k < l.length),rho l k=l[k]
 | a :: _,0,_=>rfl
 | _ :: l,k+1,h=>by simpa [rho] using Uw l k (by simpa using h)
theorem ZaI {P:Program} {f:FuncId} {args args0:Ls} {d:Option Nat} {σ : St} {r:KT} {K:RK} {hp0:Lh} {n0:Nat} {o:Ot} (l:List Nat) (hc:CtM P f hp0 n0 args0 (· = o)) (hn:Nat.beq l.length n0=true) (hi:Zdm l=true) (hl:ZaB σ.n l=true)
 (h1:mtL (rho l) n0 args0 args) (h2:mtP (rho l) hp0 σ.hp n0 n0) (h5:cmK o.pn (rnS (exR (rho l) n0 σ.n) o.res) (hpM (rho l) n0 σ.n o σ.hp) (σ.n+(o.n - n0)) d σ r K):ZdW P f args d σ r K:=by
 have hn:=Nat.eq_of_beq_eq_true hn;refine callm (rho l) hc h1 h2 (λi hi' j hj e=>?_) (λi hi'=>?_) h5
 . rw [Uw l i (by omega),Uw l j (by omega)] at e;have hp:=List.pairwise_iff_getElem.1 (Ws hi);rcases Nat.lt_trichotomy i j with h | h | h
   . exact absurd e (hp i j _ _ h)
   . exact h
   . exact absurd e.symm (hp j i _ _ h)
 . rw [Uw l i (by omega)];exact UF hl _ (List.getElem_mem _)
theorem Zj {m0:Nat} {σ σ':St} (hf:mtF id σ'.n [] σ'.fr σ.fr) (hp:mtP id σ'.hp σ.hp σ'.n σ'.n) (hb:hpb σ'.n σ'.hp) (hN:Nat.beq σ'.N σ.N=true) (hm:Nat.ble m0 σ'.n=true):Ent m0 σ σ':=ent id hf hp hb (λ_ _ _ _ h=>h) hN hm (λ_ _=>rfl)
theorem ZDE {fr:Lf} {j j':Nat} {w w' b:Bool} {p:Prop} (hl:lk j fr = .gd j' w' (.v (.bool b))) (h:b=w->p):Zf7 (some (j,w)) fr p:=λhg=>h (by have:=(Zi0 hg hl).2;simpa using this)
theorem imp_v {fr:Lf} {j:Nat} {w b:Bool} {p:Prop} (hl:lk j fr = .v (.bool b)) (h:b=w->p):Zf7 (some (j,w)) fr p:=λhg=>h (ZDr hg hl)
theorem ZuC {xs:Rr} {i:Int} {σ : St} {r:KT} {L:RK} {d:Option Nat} {j j':Nat} {w w' b:Bool} (n:Nat) (row:Ls) (hl:lk j σ.fr = .gd j' w' (.v (.bool b))) (h:b=w->i=(n:Int)/\xs[n]? = some row) (hk:YE d (.ps row 0) (some (j,w)) σ r L) :
 IXS (some (j,w)) xs i d σ r L:=⟨row,ZDE hl λe=>⟨n,(h e).1,(h e).2⟩,hk⟩
theorem ZEp {g:Option (Nat × Bool)} {m b:Nat} {xs ys:Rr} {d:Option Nat} {σ : St} {r:KT} {L:RK} (h:(xs.length+ys.length) * b<=140737488355328) (hk:YE d (.sl false m (xs ++ ys)) g σ r L):APP g m b xs ys d σ r L:=⟨Z1.2 λ_=>h,hk⟩
theorem UK {g:Option (Nat × Bool)} {k v m len:Nat} {i:Int} {d:Option Nat} {σ : St} {r:KT} {L:RK} (n:Nat) (hi:i=(n:Int)) (hn:n < len) (hk:YE d (.pr k v m n 0) g σ r L):IXR g k v m len i d σ r L:=⟨n,Z1.2 λ_=>⟨hi,hn⟩,hk⟩
theorem Zeb {α : Type} {l:List α} {f:α->Ls} {g:Option (Nat × Bool)} {i o m:Nat} {ag:Bool} {d:Option Nat} {σ : St} {r:KT} {L:RK} (hn:i < l.length) (hk:WC (Wg (f l[i]) o m ag) d g σ r L):LDR g (l.map f) i o m ag d σ r L:=⟨f l[i],Z1.2 λ_=>by simp [hn],hk⟩
theorem Ztj {α : Type} {l:List α} {f:α->Ls} {j o k v m:Nat} {c:Ls} {T:TypeId} {σ : St} {r:KT} {L:RK} (y:α) (hn:j < l.length) (ho:o+c.length<=(f l[j]).length) (he:ZJ (f l[j]) o c=f y)
 (h:r ⟨σ.fr,(k,.row v m ((l.set j y).map f) T) :: σ.hp,σ.n,σ.N,σ.gs⟩ L):STR v (l.map f) j o k m c T σ r L :=
 ⟨f l[j],by simp [hn],ho,by rw [he,<- List.map_set];exact h⟩
theorem ZuX {k v m len:Nat} {i:Int} {d:Option Nat} {σ : St} {r:KT} {L:RK} {j:Nat} {w b:Bool} (n:Nat) (hl:lk j σ.fr = .v (.bool b)) (h:b=w->i=(n:Int)/\n < len) (hk:YE d (.pr k v m n 0) (some (j,w)) σ r L):IXR (some (j,w)) k v m len i d σ r L:=⟨n,imp_v hl h,hk⟩
theorem XP {r:Ls} (h:KFL r):∀ n,KFR (List.replicate n r)
 | 0=>trivial
 | n+1=>⟨h,XP h n⟩
theorem ZA {P:Program} {f:FuncId} {args args0:Ls} {d:Option Nat} {σ : St} {r:KT} {K:RK} {hp0:Lh} {n0:Nat} {Zz:Ot->Prop} (l:List Nat) (hc:CtM P f hp0 n0 args0 Zz) (hn:Nat.beq l.length n0=true) (hi:Zdm l=true) (hl:ZaB σ.n l=true)
 (h1:mtL (rho l) n0 args0 args) (h2:mtP (rho l) hp0 σ.hp n0 n0) (h5:∀ o,Zz o->cmK o.pn (rnS (exR (rho l) n0 σ.n) o.res) (hpM (rho l) n0 σ.n o σ.hp) (σ.n+(o.n - n0)) d σ r K):ZdW P f args d σ r K:=by
 have hn:=Nat.eq_of_beq_eq_true hn;refine ⟨hp0,n0,args0,Zz,rho l,hc,h1,h2,λi hi' j hj e=>?_,λi hi'=>?_,h5⟩
 . rw [Uw l i (by omega),Uw l j (by omega)] at e;have hp:=List.pairwise_iff_getElem.1 (Ws hi);rcases Nat.lt_trichotomy i j with h | h | h
   . exact absurd e (hp i j _ _ h)
   . exact h
   . exact absurd e.symm (hp j i _ _ h)
 . rw [Uw l i (by omega)];exact UF hl _ (List.getElem_mem _)
theorem YZ {P:Program} {d:Option Nat} {op:BinOp} {t t' ty u:Nat} {c x v:Value} {σ : St} {r:KT} {K:RK} (hl:lk u σ.fr = .v x) (hop:op = .and\/op = .shr) (hr:∀ w:World,(binOp op t x c).run P w = .ok v w) (hv:v.oneCell'=true) (hk:YE d (.v v) none σ r K) :
 RAW P d (.binOp op t (.tmp u) (.const c) t') ty σ r K:=by
 intro o C E a w next Q h1 h2 h3 hs hn hq;have hx:a.eval (.tmp u)=x:=by
  have:=hs.fr u;rw [hl] at this;simp only [FR,R] at this;exact this
 have hrun:(execOp a.eval o).run P w = .ok (.value v) w:=by
  obtain ⟨dst,op',ty',pos,after,guard⟩:=o;simp only at h2;subst h2;have hc:a.eval (.const c)=c:=rfl;simp only [execOp,hx,hc];rcases hop with rfl | rfl<;>simp [Sem.run_bind,eqGuard,hr]
 refine ZC hrun (by simp) ?_;show next (a.put o.dst v) w;rcases Zaa hk with ⟨g1,g2⟩ | ⟨t,g1,g2,g3,g4,g5⟩
 . have hS:=hs;rw [h1,g1];exact hn _ E _ _ g2 hS
 . rw [h1,g1];exact hn _ E _ _ g5 (Xs hs (λb hb _=>⟨hb,rfl⟩) (λ_ _=>Ele.rfl) (Nat.le_refl _) hs.hs g2 g3 (λj b u e=>by rw [e] at g4;cases g4) (by simp only [R]))
theorem w64_0:IntKind.i64.wrap 0=0:=rfl
theorem w64_1:IntKind.i64.wrap 1=1:=rfl
theorem w64_2:IntKind.i64.wrap 2=2:=rfl
theorem w64_3:IntKind.i64.wrap 3=3:=rfl
theorem w64_4:IntKind.i64.wrap 4=4:=rfl
theorem w64_5:IntKind.i64.wrap 5=5:=rfl
theorem w64_6:IntKind.i64.wrap 6=6:=rfl
theorem U4 {a b A B:Int} (h1:0<=a) (h2:a<=A) (h3:0<=b) (h4:b<=B):0<=a * b/\a * b<=A * B:=⟨Int.mul_nonneg h1 h3,Int.mul_le_mul h2 h4 h3 (by omega)⟩
def lkB (b:Bool) (s:SV) (t:Nat) (r:Lf):SV:=bif b then s else lk t r
def lkhB (b:Bool) (s:HB) (t:Nat) (r:Lh):HB:=bif b then s else lkh t r
def ZwL (b:Bool) (t:Nat) (r:List Nat):Bool:=bif b then true else Xw t r
def blkE (b:Bool) (i:Nat) (K:Ex->St->Prop) (σ : St):Prop:=bif b then K .n σ else K (.ex i) σ
def Zu2 (b:Bool) (s:SV):Option Ls:=bif b then some [s] else none
def ZCs (c:Bool) (b:BinOp) (k:IntKind) (x y:Int):Option SV:=bif c then ZhZ b k x y else none
def ZDR (b:Bool) (l:Ls) (o m:Nat):Option SV:=bif b then some (.agg ((l.drop o).take m)) else none
theorem lkB_t (s:SV) (t:Nat) (r:Lf):lkB true s t r=s:=rfl
theorem lkB_f (s:SV) (t:Nat) (r:Lf):lkB false s t r=lk t r:=rfl
theorem ZDa (s:HB) (t:Nat) (r:Lh):lkhB true s t r=s:=rfl
theorem ZBj (s:HB) (t:Nat) (r:Lh):lkhB false s t r=lkh t r:=rfl
theorem Zys (t:Nat) (r:List Nat):ZwL true t r=true:=rfl
theorem ZxZ (t:Nat) (r:List Nat):ZwL false t r=Xw t r:=rfl
theorem ZBd (i:Nat) (K:Ex->St->Prop) (σ : St):blkE true i K σ = K .n σ:=rfl
theorem ZC0 (i:Nat) (K:Ex->St->Prop) (σ : St):blkE false i K σ = K (.ex i) σ:=rfl
theorem Ztz (s:SV):Zu2 true s=some [s]:=rfl
theorem Zx5 (b:BinOp) (k:IntKind) (x y:Int):ZCs true b k x y=ZhZ b k x y:=rfl
theorem Zye (l:Ls) (o m:Nat):ZDR true l o m=some (.agg ((l.drop o).take m)):=rfl
def mmE (k:IntKind):Option Int->Option SV
 | some z=>some (.v (.int k z))
 | none=>none
def chkB (b:Bool) (l:Ls) (ls:Rr):Option Rr:=bif b then some (l :: ls) else none
theorem ZBF (l:Ls) (ls:Rr):chkB true l ls=some (l :: ls):=rfl
theorem ZDd (b:Bool):We true b=b:=rfl
theorem ZB7 (b:Bool):We false b=false:=rfl
def vwP (g:SV->SV) (o:Nat):HB->SV
 | .cells l _=>.ps (ZcD g l) o
 | _=>.any
def vwM (v:Nat):HB->SV
 | .row v' m xs _=>vwN (Nat.beq v v') m xs
 | _=>.any
def cvtM (v:Nat):HB->SV
 | .row v' m xs _=>vwN (Nat.beq v v') m xs
 | _=>.any
def rvH (o m:Nat) (ag:Bool):HB->Option SV
 | .cells l _=>Wg l o m ag
 | _=>none
def rvX (hp:Lh) (m:Nat) (ag:Bool):SV->Option SV
 | .p k o=>rvH o m ag (lkh k hp)
 | _=>none
def pvF (o m:Nat) (ag:Bool):SV->Option SV
 | .agg l=>Wg l o m ag
 | _=>none
def pvC (k:IntKind):SV->Option SV
 | .v (.int _ n)=>some (.v (.int k (k.wrap n)))
 | _=>none
def pvE (i:Nat):SV->Option SV
 | .tup l=>nth l i
 | _=>none
theorem e_lk (t u:Nat) (s:SV) (r:Lf):lk t ((u,s) :: r)=lkB (Nat.beq t u) s t r:=rfl
theorem e_lk0 (t:Nat):lk t [] = .any:=rfl
theorem e_lkh (t u:Nat) (s:HB) (r:Lh):lkh t ((u,s) :: r)=lkhB (Nat.beq t u) s t r:=rfl
theorem ZBn (t:Nat):lkh t [] = .gone:=rfl
theorem ZDh (t u:Nat) (r:List Nat):Xw t (u :: r)=ZwL (Nat.beq t u) t r:=rfl
theorem Zxf (t:Nat):Xw t []=false:=rfl
theorem e_blk (id i:Nat) (K:Ex->St->Prop) (σ : St):ZuK id K (.ex i) σ = blkE (Nat.beq i id) i K σ:=rfl
theorem Zjt (g:Option (Nat × Bool)) (fr:Lf) (x:Value):Xl g fr (.v x)=(.v x):=rfl
theorem ZoI (t:Nat) (r:Lf) (x:Value):YH ((t,(.v x)) :: r)=(t,(.v x)) :: YH r:=rfl
theorem Zx6 (hp:Lh) (x:Value):cvt hp (.v x)=(.v x):=rfl
theorem Zvw (hp:Lh) (g:SV->SV) (x:Value):vwS hp g (.v x)=(.v x):=rfl
theorem Zvl (x:Value):vw0 (.v x)=(.v x):=rfl
theorem Zny (x:Value):YC (.v x)=Zu2 (ZmJ x) (.v x):=rfl
theorem Ztr (x:Value):Zbd (.v x)=ZmJ x:=rfl
theorem Zj1 (g:Option (Nat × Bool)) (fr:Lf) (k o:Nat):Xl g fr (.p k o)=(.p k o):=rfl
theorem ZqM (t:Nat) (r:Lf) (k o:Nat):YH ((t,(.p k o)) :: r)=(t,(.p k o)) :: YH r:=rfl
theorem Zwx (hp:Lh) (k o:Nat):cvt hp (.p k o)=(.p k o):=rfl
theorem Zwa (hp:Lh) (g:SV->SV) (k o:Nat):vwS hp g (.p k o)=vwP g o (lkh k hp):=rfl
theorem ZzN (k o:Nat):vw0 (.p k o) = .any:=rfl
theorem Zlv (k o:Nat):YC (.p k o)=some [(.p k o)]:=rfl
theorem Zsi (k o:Nat):Zbd (.p k o)=true:=rfl
theorem Zf9 (g:Option (Nat × Bool)) (fr:Lf) (l:Ls):Xl g fr (.agg l)=(.agg l):=rfl
theorem Zi1 (t:Nat) (r:Lf) (l:Ls):YH ((t,(.agg l)) :: r)=(t,(.agg l)) :: YH r:=rfl
theorem ZmH (hp:Lh) (l:Ls):cvt hp (.agg l) = .agg (Zn4 hp l):=rfl
theorem ZkM (hp:Lh) (g:SV->SV) (l:Ls):vwS hp g (.agg l) = .agg (ZcD g l):=rfl
theorem Zkc (l:Ls):vw0 (.agg l) = .any:=rfl
theorem Zga (l:Ls):YC (.agg l)=some l:=rfl
theorem ZhP (l:Ls):Zbd (.agg l)=false:=rfl
theorem Zhz (g:Option (Nat × Bool)) (fr:Lf) (c:Bool) (m:Nat) (xs:Rr):Xl g fr (.sl c m xs)=(.sl c m xs):=rfl
theorem ZnH (t:Nat) (r:Lf) (c:Bool) (m:Nat) (xs:Rr):YH ((t,(.sl c m xs)) :: r)=(t,(.sl c m xs)) :: YH r:=rfl
theorem Zr8 (hp:Lh) (c:Bool) (m:Nat) (xs:Rr):cvt hp (.sl c m xs)=(.sl c m xs):=rfl
theorem Zrb (hp:Lh) (g:SV->SV) (c:Bool) (m:Nat) (xs:Rr):vwS hp g (.sl c m xs)=(.sl c m xs):=rfl
theorem Ztd (c:Bool) (m:Nat) (xs:Rr):vw0 (.sl c m xs)=(.sl c m xs):=rfl
theorem ZhN (c:Bool) (m:Nat) (xs:Rr):YC (.sl c m xs)=some [(.sl c m xs)]:=rfl
theorem Zl1 (c:Bool) (m:Nat) (xs:Rr):Zbd (.sl c m xs)=true:=rfl
theorem Zvt (l:Ls):pmS [] l=[]:=rfl
theorem ZiE (g:Option (Nat × Bool)) (fr:Lf) (k v:Nat):Xl g fr (.mr k v)=(.mr k v):=rfl
theorem Zmk (t:Nat) (r:Lf) (k v:Nat):YH ((t,(.mr k v)) :: r)=(t,(.mr k v)) :: YH r:=rfl
theorem ZrR (hp:Lh) (k v:Nat):cvt hp (.mr k v)=cvtM v (lkh k hp):=rfl
theorem Zpd (hp:Lh) (g:SV->SV) (k v:Nat):vwS hp g (.mr k v)=vwM v (lkh k hp):=rfl
theorem Zpf (k v:Nat):vw0 (.mr k v) = .any:=rfl
theorem Zh1 (k v:Nat):YC (.mr k v)=some [(.mr k v)]:=rfl
theorem ZjD (k v:Nat):Zbd (.mr k v)=true:=rfl
theorem ZiU (g:Option (Nat × Bool)) (fr:Lf) (k v m i o:Nat):Xl g fr (.pr k v m i o)=(.pr k v m i o):=rfl
theorem ZiD (g:Option (Nat × Bool)) (fr:Lf) (k v m i o:Nat):Xl g fr (.ms k v m i o)=(.ms k v m i o):=rfl
theorem Zks (t:Nat) (r:Lf) (k v m i o:Nat):YH ((t,(.pr k v m i o)) :: r)=(t,(.pr k v m i o)) :: YH r:=rfl
theorem Zk2 (t:Nat) (r:Lf) (k v m i o:Nat):YH ((t,(.ms k v m i o)) :: r)=(t,(.ms k v m i o)) :: YH r:=rfl
theorem ZtK (hp:Lh) (k v m i o:Nat):cvt hp (.pr k v m i o)=(.pr k v m i o):=rfl
theorem Zr7 (hp:Lh) (k v m i o:Nat):cvt hp (.ms k v m i o)=(.ms k v m i o):=rfl
theorem Zpx (hp:Lh) (g:SV->SV) (k v m i o:Nat):vwS hp g (.pr k v m i o)=(.pr k v m i o):=rfl
theorem Zsc (hp:Lh) (g:SV->SV) (k v m i o:Nat):vwS hp g (.ms k v m i o)=(.ms k v m i o):=rfl
theorem Zo9 (k v m i o:Nat):vw0 (.pr k v m i o) = .any:=rfl
theorem Zpj (k v m i o:Nat):vw0 (.ms k v m i o) = .any:=rfl
theorem ZhM (k v m i o:Nat):YC (.pr k v m i o)=some [(.pr k v m i o)]:=rfl
theorem Zjb (k v m i o:Nat):YC (.ms k v m i o)=some [(.ms k v m i o)]:=rfl
theorem ZmC (k v m i o:Nat):Zbd (.pr k v m i o)=true:=rfl
theorem Zm9 (k v m i o:Nat):Zbd (.ms k v m i o)=true:=rfl
theorem ZiM (g:Option (Nat × Bool)) (fr:Lf) (row:Ls) (o:Nat):Xl g fr (.ps row o)=(.ps row o):=rfl
theorem ZkK (t:Nat) (r:Lf) (row:Ls) (o:Nat):YH ((t,(.ps row o)) :: r)=(t,(.ps row o)) :: YH r:=rfl
theorem Zsp (hp:Lh) (row:Ls) (o:Nat):cvt hp (.ps row o)=(.ps row o):=rfl
theorem ZtR (hp:Lh) (g:SV->SV) (l:Ls) (o:Nat):vwS hp g (.ps l o) = .ps (ZcD g l) o:=rfl
theorem Zqz (row:Ls) (o:Nat):vw0 (.ps row o) = .any:=rfl
theorem Zh9 (row:Ls) (o:Nat):YC (.ps row o)=some [(.ps row o)]:=rfl
theorem ZmD (row:Ls) (o:Nat):Zbd (.ps row o)=true:=rfl
theorem ZhO (g:Option (Nat × Bool)) (fr:Lf) (f:FuncId) (l:Ls):Xl g fr (.cl f l)=(.cl f l):=rfl
theorem Zk0 (t:Nat) (r:Lf) (f:FuncId) (l:Ls):YH ((t,(.cl f l)) :: r)=(t,(.cl f l)) :: YH r:=rfl
theorem Ztc (hp:Lh) (f:FuncId) (l:Ls):cvt hp (.cl f l)=(.cl f l):=rfl
theorem Zt5 (hp:Lh) (g:SV->SV) (f:FuncId) (l:Ls):vwS hp g (.cl f l) = .cl f (ZcD g l):=rfl
theorem Zt3 (f:FuncId) (l:Ls):vw0 (.cl f l) = .any:=rfl
theorem ZiI (f:FuncId) (l:Ls):YC (.cl f l)=some [(.cl f l)]:=rfl
theorem Zmg (f:FuncId) (l:Ls):Zbd (.cl f l)=true:=rfl
theorem ZfR (g:Option (Nat × Bool)) (fr:Lf) (l:Ls):Xl g fr (.tup l)=(.tup l):=rfl
theorem Zi2 (t:Nat) (r:Lf) (l:Ls):YH ((t,(.tup l)) :: r)=(t,(.tup l)) :: YH r:=rfl
theorem Znc (hp:Lh) (l:Ls):cvt hp (.tup l) = .tup (Zn4 hp l):=rfl
theorem Znp (hp:Lh) (g:SV->SV) (l:Ls):vwS hp g (.tup l) = .tup (ZcD g l):=rfl
theorem Zmx (l:Ls):vw0 (.tup l) = .any:=rfl
theorem ZhD (l:Ls):Zbd (.tup l)=false:=rfl
theorem Zn5 (g:Option (Nat × Bool)) (fr:Lf) (φ : VP):Xl g fr (.q φ)=(.q φ):=rfl
theorem Zrs (t:Nat) (r:Lf) (φ : VP):YH ((t,(.q φ)) :: r)=(t,(.q φ)) :: YH r:=rfl
theorem ZzF (hp:Lh) (φ : VP):cvt hp (.q φ)=(.q φ):=rfl
theorem ZyY (hp:Lh) (g:SV->SV) (φ : VP):vwS hp g (.q φ)=(.q φ):=rfl
theorem ZxE (φ : VP):vw0 (.q φ)=(.q φ):=rfl
theorem Zlh (φ : VP):YC (.q φ)=some [(.q φ)]:=rfl
theorem ZsG (φ : VP):Zbd (.q φ)=true:=rfl
theorem Zh6 (g:Option (Nat × Bool)) (fr:Lf) (k:Nat):Xl g fr (.mp k)=(.mp k):=rfl
theorem Zlj (t:Nat) (r:Lf) (k:Nat):YH ((t,(.mp k)) :: r)=(t,(.mp k)) :: YH r:=rfl
theorem Zrf (hp:Lh) (k:Nat):cvt hp (.mp k)=(.mp k):=rfl
theorem ZtV (hp:Lh) (g:SV->SV) (k:Nat):vwS hp g (.mp k) = .any:=rfl
theorem Zo3 (k:Nat):vw0 (.mp k) = .any:=rfl
theorem ZiA (k:Nat):YC (.mp k)=some [(.mp k)]:=rfl
theorem Znz (k:Nat):Zbd (.mp k)=true:=rfl
theorem Zit (g:Option (Nat × Bool)) (fr:Lf) (k:Nat):Xl g fr (.yl k)=(.yl k):=rfl
theorem ZjH (t:Nat) (r:Lf) (k:Nat):YH ((t,(.yl k)) :: r)=(t,(.yl k)) :: YH r:=rfl
theorem Zig (k:Nat):YC (.yl k)=some [(.yl k)]:=rfl
theorem ZlG (k:Nat):Zbd (.yl k)=true:=rfl
theorem ZfF (g:Option (Nat × Bool)) (fr:Lf) (T:TypeId) (s:SV):Xl g fr (.ifc T s)=(.ifc T s):=rfl
theorem Zi3 (t:Nat) (r:Lf) (T:TypeId) (s:SV):YH ((t,(.ifc T s)) :: r)=(t,(.ifc T s)) :: YH r:=rfl
theorem Zkz (hp:Lh) (T:TypeId) (s:SV):cvt hp (.ifc T s) = .ifc T (cvt hp s):=rfl
theorem ZlI (hp:Lh) (g:SV->SV) (T:TypeId) (s:SV):vwS hp g (.ifc T s) = .ifc T (g s):=rfl
theorem Zob (T:TypeId) (s:SV):vw0 (.ifc T s) = .any:=rfl
theorem ZfL (T:TypeId) (s:SV):YC (.ifc T s)=some [(.ifc T s)]:=rfl
theorem ZiL (T:TypeId) (s:SV):Zbd (.ifc T s)=true:=rfl
theorem Zfs (P:Program) (Y:Hd) (d:Option Nat) (σ : St) (r:KT) (K:RK) (f:FuncId) (as:List X):stp P Y d (.callm f as) σ r K=ZdW P f (U6 (rdG none σ.fr) as) d σ r K:=rfl
theorem Zfr (P:Program) (Y:Hd) (d:Option Nat) (σ : St) (r:KT) (K:RK) (x:X) (as:List X):stp P Y d (.calvm x as) σ r K=Zim P Y (rdG none σ.fr x) (U6 (rdG none σ.fr) as) d σ r K:=rfl
theorem e_yld (asg body:Nat->CT) (ps:List Nat) (kl:Nat) (rec:Loop) (fr:Lf) (N k:Nat) (args:Ls) (d:Option Nat) (σ : St) (r:KT) (K:RK):YLD (hdR asg body ps kl rec fr N) k args d σ r K =
 rfB (Nat.beq k kl) (Zuv rec (lkh kl σ.hp)/\rfB (Zoj args ps) (asg σ.n ⟨pmS ps args ++ fr,σ.hp,σ.n,N,[]⟩ (asE kl rec (body σ.n) (bdE kl rec λo=>cmK o.pn o.res o.hp o.n d σ r K)))):=rfl
theorem e_exR (ρ : Nat->Nat) (n0 n k:Nat):exR ρ n0 n k=exB (Nat.blt k n0) (ρ k) (n+(k - n0)):=rfl
theorem e_hpM (ρ : Nat->Nat) (n0 n:Nat) (o:Ot) (hp:Lh):hpM ρ n0 n o hp=rnP (exR ρ n0 n) o.hp ++ (ZcA ρ n0 ++ hp):=rfl
theorem ZkE (P:Program) (Y:Hd) (m:Nat) (g:X) (ps:List Nat) (asg body:SC) (σ : St) (K:Ex->St->Prop):sx P Y m (.rfun g ps asg body) σ K=rfK P (λn=>sx P Y0 n asg) (λn=>sx P Y n body) (rdG none σ.fr g) ps σ K:=rfl
theorem ZfX (g:Option (Nat × Bool)) (fr:Lf)  : Xl g fr (.any)=(.any):=rfl
theorem ZiT (t:Nat) (r:Lf)  : YH ((t,(.any)) :: r)=(t,(.any)) :: YH r:=rfl
theorem Zmh (hp:Lh)  : cvt hp (.any)=(.any):=rfl
theorem Zl0 (hp:Lh) (g:SV->SV)  : vwS hp g (.any)=(.any):=rfl
theorem ZmF  : vw0 (.any) = .any:=rfl
theorem Ziq  : Zbd (.any)=false:=rfl
theorem ZlU (t j:Nat) (w:Bool) (s:SV) (r:Lf):YH ((t,.gd j w s) :: r)=(t,.any) :: YH r:=rfl
theorem ZwA  : YH []=[]:=rfl
theorem Zfu (fr:Lf) (j:Nat) (w:Bool) (s:SV):Xl none fr (.gd j w s) = .any:=rfl
theorem ZiW (fr:Lf) (j j0:Nat) (w w0:Bool) (s:SV):Xl (some (j0,w0)) fr (.gd j w s)=ZfI (alw 8 fr j0 w0 j w) s:=rfl
theorem Zf3 (b:Bool):ZmJ (.bool b)=true:=rfl
theorem ZhT (k:IntKind) (n:Int):ZmJ (.int k n)=true:=rfl
theorem ZdA (s:ByteArray):ZmJ (.string s)=true:=rfl
theorem ZcN (p:Option Addr):ZmJ (.pointer p)=true:=rfl
theorem Zez (a:Option Addr) (l c:Nat):ZmJ (.slice a l c)=true:=rfl
theorem ZcG  : ZmJ .nilFunc=true:=rfl
theorem Zcb  : ZmJ .nilIface=true:=rfl
theorem e_rdG (g:Option (Nat × Bool)) (fr:Lf) (x:X):rdG g fr x=Xl g fr (rd fr x):=rfl
theorem ZDS (fr:Lf) (n:Nat):rd fr (.t n)=lk n fr:=rfl
theorem ZDg (fr:Lf) (x:Value):rd fr (.c x) = .v x:=rfl
theorem ZCz (fr:Lf) (i:Nat):rd fr (.f i) = .cl i []:=rfl
theorem ZBg (fr:Lf) (i:Nat):rd fr (.g i)=gtS (GT i):=rfl
theorem Zwd (l:Ls):gtS (some l) = .ps l 0:=rfl
theorem e_alw (f:Nat) (fr:Lf) (j0:Nat) (w0:Bool) (j:Nat) (w:Bool):alw (f+1) fr j0 w0 j w=ZAY (Zh0 (Nat.beq j0 j) w0 w) (lk j0 fr) (alw f fr) j w:=rfl
theorem ZA8 (fr:Lf) (j0:Nat) (w0:Bool) (j:Nat) (w:Bool):alw 0 fr j0 w0 j w=false:=rfl
theorem e_vw1 (hp:Lh) (s:SV):vw1 hp s=vwS hp vw0 s:=rfl
theorem e_vw2 (hp:Lh) (s:SV):vw2 hp s=vwS hp (vw1 hp) s:=rfl
theorem e_vw3 (hp:Lh) (s:SV):vw3 hp s=vwS hp (vw2 hp) s:=rfl
theorem e_vw4 (hp:Lh) (s:SV):vw4 hp s=vwS hp (vw3 hp) s:=rfl
theorem Zpw (fr:Lf) (hp:Lh) (n N:Nat):V4 ⟨fr,hp,n,N,[]⟩=⟨fr,hp,n,N,[]⟩:=rfl
theorem ZpX (fr:Lf) (hp:Lh) (n N j:Nat) (l:List Nat):V4 ⟨fr,hp,n,N,j :: l⟩=⟨YH fr,hp,n,N,[]⟩:=rfl
theorem ZBi (b:BinOp) (k j:IntKind) (x y:Int):ZAC b (.v (.int k x)) (.v (.int j y))=ZCs (Zd9 k j) b k x y:=rfl
theorem Zkf (b:Bool):uni .not (.v (.bool b))=some (.v (.bool (!b))):=rfl
theorem ZlX (k:IntKind) (n:Int):uni .neg (.v (.int k n))=some (.v (.int k (k.wrap (0 - n)))):=rfl
theorem Zif (k:IntKind) (x y:Int):ZhZ .add k x y=some (.v (.int k (k.wrap (x+y)))):=rfl
theorem ZiG (k:IntKind) (x y:Int):ZhZ .sub k x y=some (.v (.int k (k.wrap (x - y)))):=rfl
theorem ZhJ (k:IntKind) (x y:Int):ZhZ .mul k x y=some (.v (.int k (k.wrap (x * y)))):=rfl
theorem ZiB (k:IntKind) (x y:Int):ZhZ .eql k x y=some (.v (.bool (x == y))):=rfl
theorem ZhY (k:IntKind) (x y:Int):ZhZ .neq k x y=some (.v (.bool (x != y))):=rfl
theorem ZiF (k:IntKind) (x y:Int):ZhZ .lss k x y=some (.v (.bool (decide (x < y)))):=rfl
theorem Zir (k:IntKind) (x y:Int):ZhZ .leq k x y=some (.v (.bool (decide (x<=y)))):=rfl
theorem Zh7 (k:IntKind) (x y:Int):ZhZ .gtr k x y=some (.v (.bool (decide (x > y)))):=rfl
theorem ZhB (k:IntKind) (x y:Int):ZhZ .geq k x y=some (.v (.bool (decide (x ≥ y)))):=rfl
theorem Zmf  : Zd9 .i8 .i8=true:=rfl
theorem ZhS  : Zd9 .i16 .i16=true:=rfl
theorem Zih  : Zd9 .i32 .i32=true:=rfl
theorem ZhC  : Zd9 .i64 .i64=true:=rfl
theorem ZkF  : Zd9 .u8 .u8=true:=rfl
theorem ZhQ  : Zd9 .u16 .u16=true:=rfl
theorem ZiX  : Zd9 .u32 .u32=true:=rfl
theorem Zi4  : Zd9 .u64 .u64=true:=rfl
theorem ZsR (o:Nat) (k q:Nat):U2 o (.p k q)=some (.p k (q+o)):=rfl
theorem Zs1 (k q:Nat):Ze6 (.p k q)=some (.p k q):=rfl
theorem Zki (o:Nat) (k v m i q:Nat):U2 o (.pr k v m i q)=some (.pr k v m i (q+o)):=rfl
theorem ZlW (k v m i q:Nat):Ze6 (.pr k v m i q)=some (.pr k v m i q):=rfl
theorem ZlC (o:Nat) (row:Ls) (q:Nat):U2 o (.ps row q)=some (.ps row (q+o)):=rfl
theorem Zn7 (row:Ls) (q:Nat):Ze6 (.ps row q)=some (.ps row q):=rfl
theorem Ztb (l:Ls) (o m:Nat):Wg l o m true=ZDR (Nat.ble (o+m) l.length) l o m:=rfl
theorem Zpe (l:Ls) (o m:Nat):Wg l o m false=nth l o:=rfl
theorem ZC4 (mx:Bool) (x:Int):mmf mx x []=some x:=rfl
theorem Zzf (k:IntKind) (x y:Int) (r:Ls):mmf true x (.v (.int k y) :: r)=mmf true (max x y) r:=rfl
theorem Zw0 (k:IntKind) (x y:Int) (r:Ls):mmf false x (.v (.int k y) :: r)=mmf false (min x y) r:=rfl
theorem e_mm (mx:Bool) (k:IntKind) (x:Int) (r:Ls):mmS mx (.v (.int k x) :: r)=mmE k (mmf mx x r):=rfl
theorem e_bld (ρ : X->SV) (z:Ls) (ps:List (Nat × Nat × X)):bld ρ z ps=Zod z (ZtH ρ ps):=rfl
theorem Zin (ρ : X->SV) (z:LZ) (ps:List (Nat × Nat × X)):pv ρ (.build z ps)=ZDu (bld ρ (lit z) ps):=rfl
theorem ZBK (l:Ls) (m:Nat) (ls:Rr):ZAA (some l) m (some ls)=chkB (chk l m) l ls:=rfl
theorem Zp0 (s:SV) (l:Ls):Yu (s :: l)=We (Zbd s) (Yu l):=rfl
theorem ZjT  : Yu []=true:=rfl
theorem Zs0 (fr:Lf) (g:Option (Nat × Bool)) (t:Nat) (b:X):Zh4 fr g (.t t) (.c (.bool true)) b=Ziu (rdG g fr (.t t)) (rdG (some (t,false)) fr b):=rfl
theorem ZqF (fr:Lf) (g:Option (Nat × Bool)) (t n:Nat):Zh4 fr g (.t t) (.t n) (.c (.bool false))=ZfT (rdG g fr (.t t)) (rdG (some (t,true)) fr (.t n)):=rfl
theorem Zs2 (fr:Lf) (g:Option (Nat × Bool)) (t:Nat):Zh4 fr g (.t t) (.c (.bool false)) (.c (.bool false))=ZfT (rdG g fr (.t t)) (rdG (some (t,true)) fr (.c (.bool false))):=rfl
theorem Zkk:ZfT (.v (.bool false)) (.v undef)=some (.v (.bool false)):=rfl
theorem Zju:Ziu (.v (.bool true)) (.v undef)=some (.v (.bool true)):=rfl
theorem e_rvR (rs:List RV) (σ : St):rvR rs σ = rvE (rvs σ rs):=rfl
theorem ZDQ (σ : St):rvs σ []=some []:=rfl
theorem Zxp (σ : St) (t:Nat):rv1 σ (.tmp t)=some (rdG none σ.fr (.t t)):=rfl
theorem ZwR (σ : St) (t m:Nat) (ag:Bool):rv1 σ (.cell t m ag)=rvX σ.hp m ag (rdG none σ.fr (.t t)):=rfl
theorem Zua (P:Program) (Y:Hd) (d:Option Nat) (σ : St) (r:KT) (K:RK) (x:X):stp P Y d (.mv x) σ r K=Yw P none d (.mv x) σ r K:=rfl
theorem ZiR (P:Program) (Y:Hd) (d:Option Nat) (σ : St) (r:KT) (K:RK) (c a b:X):stp P Y d (.pick c a b) σ r K=Yw P none d (.pick c a b) σ r K:=rfl
theorem ZfA (P:Program) (Y:Hd) (d:Option Nat) (σ : St) (r:KT) (K:RK) (z:LZ) (ps:List (Nat × Nat × X)):stp P Y d (.build z ps) σ r K=Yw P none d (.build z ps) σ r K:=rfl
theorem Zjv (P:Program) (Y:Hd) (d:Option Nat) (σ : St) (r:KT) (K:RK) (m:Nat) (T:TypeId) (ps:List X):stp P Y d (.bsl m T ps) σ r K=Yw P none d (.bsl m T ps) σ r K:=rfl
theorem ZqN (P:Program) (Y:Hd) (d:Option Nat) (σ : St) (r:KT) (K:RK) (x:X) (m:Nat) (ag:Bool):stp P Y d (.ld x m ag) σ r K=Yw P none d (.ld x m ag) σ r K:=rfl
theorem ZiH (P:Program) (Y:Hd) (d:Option Nat) (σ : St) (r:KT) (K:RK) (x:X):stp P Y d (.nilc x) σ r K=Yw P none d (.nilc x) σ r K:=rfl
theorem Zk1 (P:Program) (Y:Hd) (d:Option Nat) (σ : St) (r:KT) (K:RK) (b:BinOp) (x y:X):stp P Y d (.bin b x y) σ r K=Yw P none d (.bin b x y) σ r K:=rfl
theorem ZlZ (P:Program) (Y:Hd) (d:Option Nat) (σ : St) (r:KT) (K:RK) (b:BinOp) (x y:X):stp P Y d (.div b x y) σ r K=Yw P none d (.div b x y) σ r K:=rfl
theorem ZrA (P:Program) (Y:Hd) (d:Option Nat) (σ : St) (r:KT) (K:RK) (u:UnOp) (x:X):stp P Y d (.un u x) σ r K=Yw P none d (.un u x) σ r K:=rfl
theorem ZhV (P:Program) (Y:Hd) (d:Option Nat) (σ : St) (r:KT) (K:RK) (x:X) (o:Nat):stp P Y d (.addo x o) σ r K=Yw P none d (.addo x o) σ r K:=rfl
theorem ZlD (P:Program) (Y:Hd) (d:Option Nat) (σ : St) (r:KT) (K:RK) (x:X) (o m:Nat) (ag:Bool):stp P Y d (.fld x o m ag) σ r K=Yw P none d (.fld x o m ag) σ r K:=rfl
theorem ZlH (P:Program) (Y:Hd) (d:Option Nat) (σ : St) (r:KT) (K:RK) (x i:X) (len m:Nat) (ag:Bool):stp P Y d (.idx x i len m ag) σ r K=Yw P none d (.idx x i len m ag) σ r K:=rfl
theorem Zma (P:Program) (Y:Hd) (d:Option Nat) (σ : St) (r:KT) (K:RK) (x i:X) (len m:Nat):stp P Y d (.ixa x i len m) σ r K=Yw P none d (.ixa x i len m) σ r K:=rfl
theorem ZjI (P:Program) (Y:Hd) (d:Option Nat) (σ : St) (r:KT) (K:RK) (x i:X) (m:Nat):stp P Y d (.ixs x i m) σ r K=Yw P none d (.ixs x i m) σ r K:=rfl
theorem Zkw (P:Program) (Y:Hd) (d:Option Nat) (σ : St) (r:KT) (K:RK) (x:X):stp P Y d (.len x) σ r K=Yw P none d (.len x) σ r K:=rfl
theorem Zrl (P:Program) (Y:Hd) (d:Option Nat) (σ : St) (r:KT) (K:RK) (mx:Bool) (xs:List X):stp P Y d (.mm mx xs) σ r K=Yw P none d (.mm mx xs) σ r K:=rfl
theorem Zh2 (P:Program) (Y:Hd) (d:Option Nat) (σ : St) (r:KT) (K:RK) (f:FuncId) (as:List X):stp P Y d (.call f as) σ r K=Yw P none d (.call f as) σ r K:=rfl
theorem Zis (P:Program) (Y:Hd) (d:Option Nat) (σ : St) (r:KT) (K:RK) (x:X) (as:List X):stp P Y d (.calv x as) σ r K=Yw P none d (.calv x as) σ r K:=rfl
theorem Znm (P:Program) (Y:Hd) (d:Option Nat) (σ : St) (r:KT) (K:RK) (f:FuncId) (cs:List X):stp P Y d (.mkf f cs) σ r K=Yw P none d (.mkf f cs) σ r K:=rfl
theorem Ziv (P:Program) (Y:Hd) (d:Option Nat) (σ : St) (r:KT) (K:RK) (k:IntKind) (x:X):stp P Y d (.conv k x) σ r K=Yw P none d (.conv k x) σ r K:=rfl
theorem Zm2 (P:Program) (Y:Hd) (d:Option Nat) (σ : St) (r:KT) (K:RK) (x:X) (i:Nat):stp P Y d (.ext x i) σ r K=Yw P none d (.ext x i) σ r K:=rfl
theorem e_rvs (σ : St) (r:RV) (rs:List RV):rvs σ (r :: rs)=rvC σ.hp (rv1 σ r) (rvs σ rs):=rfl
theorem ZpP (ρ : X->SV) (x:X) (o m:Nat) (ag:Bool):pv ρ (.fld x o m ag)=pvF o m ag (ρ x):=rfl
theorem Zk3 (ρ : X->SV) (k:IntKind) (x:X):pv ρ (.conv k x)=pvC k (ρ x):=rfl
theorem Zrh (ρ : X->SV) (x:X) (i:Nat):pv ρ (.ext x i)=pvE i (ρ x):=rfl
theorem Zvg (fr:Lf):ZAR [] fr=True:=rfl
theorem ZDH (t:Nat) (s:SV) (r fr:Lf):ZAR ((t,s) :: r) fr=(lk t fr=s/\ZAR r fr):=rfl
theorem Zni (P:Program) (Y:Hd) (d:Option Nat) (σ : St) (r:KT) (K:RK) (ng ag:Bool) (cls:List Nat) (x y:X):stp P Y d (.eqs ng ag cls x y) σ r K=Yw P none d (.eqs ng ag cls x y) σ r K:=rfl
theorem ZmO (P:Program) (Y:Hd) (d:Option Nat) (σ : St) (r:KT) (K:RK) (x h k:X):stp P Y d (.slc x h k) σ r K=Yw P none d (.slc x h k) σ r K:=rfl
theorem ZkO (P:Program) (Y:Hd) (d:Option Nat) (σ : St) (r:KT) (K:RK) (m:Nat) (x:X) (lo hi:Option X):stp P Y d (.sub m x lo hi) σ r K=Yw P none d (.sub m x lo hi) σ r K:=rfl
theorem Znd (P:Program) (Y:Hd) (d:Option Nat) (σ : St) (r:KT) (K:RK) (m b:Nat) (T:TypeId) (x y:X):stp P Y d (.app m b T x y) σ r K=Yw P none d (.app m b T x y) σ r K:=rfl
theorem Zty (l):ZDu (some l)=some (SV.agg l):=rfl
theorem ZrF: ZDu none=none:=rfl
theorem ZwW (k z):mmE k (some z)=some (SV.v (Value.int k z)):=rfl
theorem Zwe (k):mmE k none=none:=rfl
theorem ZAb (g o l T):vwP g o (HB.cells l T)=SV.ps (ZcD g l) o:=rfl
theorem ZxD (m a):vwN true m a=SV.sl false m a:=rfl
theorem Zww (m a):vwN false m a=SV.any:=rfl
theorem Zzq (v a m b T):vwM v (HB.row a m b T)=vwN (Nat.beq v a) m b:=rfl
theorem ZyR (c m a b q):vwR true c m a b q=SV.sl false m b:=rfl
theorem Zxe (m a b r):vwR false true m a b (some r)=SV.sl false a r:=rfl
theorem Zv1 (m a b):vwR false true m a b none=SV.any:=rfl
theorem Zvy (m a b q):vwR false false m a b q=SV.any:=rfl
theorem Zps (v a m b T):cvtM v (HB.row a m b T)=vwN (Nat.beq v a) m b:=rfl
theorem ZqU (m v a b c T):Zmr m v (HB.row a b c T)=Zie c (We (Nat.beq m b) (Nat.beq v a)):=rfl
theorem ZoU (m v l T):Zmr m v (HB.cells l T)=none:=rfl
theorem ZpR (m v φ):Zmr m v (HB.ob φ)=none:=rfl
theorem Ztt (m v a b):Zmr m v (HB.map a b)=none:=rfl
theorem Zs3 (m v a b c d):Zmr m v (HB.it a b c d)=none:=rfl
theorem ZrH (m v a b):Zmr m v (HB.lp a b)=none:=rfl
theorem ZpG (m v a):Zmr m v (HB.lb a)=none:=rfl
theorem Zqa (m v):Zmr m v HB.gone=none:=rfl
theorem Zrx (a):Zie a true=some a:=rfl
theorem Zsb (a):Zie a false=none:=rfl
theorem Zzt: rvE (some [])=some (SV.tup []):=rfl
theorem Zx3 (s):rvE (some [s])=some s:=rfl
theorem ZyP (a b l):rvE (some (a :: b :: l))=some (SV.tup (a :: b :: l)):=rfl
theorem Zw2: rvE none=none:=rfl
theorem Zyu (s l):rvD s (some l)=some (s :: l):=rfl
theorem Zw4 (s):rvD s none=none:=rfl
theorem ZzW (hp x s):rvC hp (some s) x=rvD (cvt hp s) x:=rfl
theorem ZwB (hp x):rvC hp none x=none:=rfl
theorem ZxX (o m a l T):rvH o m a (HB.cells l T)=Wg l o m a:=rfl
theorem Zyy (hp m a k o):rvX hp m a (SV.p k o)=rvH o m a (lkh k hp):=rfl
theorem Zws (o m a l):pvF o m a (SV.agg l)=Wg l o m a:=rfl
theorem ZxC (k a n):pvC k (SV.v (Value.int a n))=some (SV.v (Value.int k (IntKind.wrap k n))):=rfl
theorem Zxh (i l):pvE i (SV.tup l)=nth l i:=rfl
theorem ZrP (x a b c d):ZBb false true false x a b c d=c { fr:=(x,a) :: St.fr b,hp:=St.hp b,n:=St.n b,N:=St.N b,gs:=St.gs b } d:=rfl
theorem Zsj (x a b c d e f):ZD0 false true false x a b c d e f=e { fr:=(x,SV.gd a b c) :: St.fr d,hp:=St.hp d,n:=St.n d,N:=St.N d,gs:=a :: St.gs d } f:=rfl
theorem Zta (s σ r K):YE none s none σ r K=r σ K:=rfl
theorem Zqc (s σ r K a):YE none s (some a) σ r K=False:=rfl
theorem ZrC (s σ r K t):YE (some t) s none σ r K=ZBb (Xw t (St.gs σ)) (Nat.blt t (St.N σ)) (gdS s) t s σ r K:=rfl
theorem ZqZ (s σ r K t j w):YE (some t) s (some (j,w)) σ r K=ZD0 (Xw t (St.gs σ)) (Nat.blt t (St.N σ)) (Nat.beq t j) t j w s σ r K:=rfl
theorem ZsH (d g σ r K s):WC (some s) d g σ r K=YE d s g σ r K:=rfl
theorem Zr0 (d g σ r K):WC none d g σ r K=False:=rfl
theorem Zm8 (x):ZfI true x=x:=rfl
theorem Zmo (x):ZfI false x=SV.any:=rfl
theorem ZpH (x a b c):ZAY true x a b c=true:=rfl
theorem Zos (x a b c d s):ZAY false (SV.gd c d s) x a b=x c d a b:=rfl
theorem Zkt (x a):Zh0 true x a=bbq x a:=rfl
theorem Zkm (x a):Zh0 false x a=false:=rfl
theorem ZxI: bbq true true=true:=rfl
theorem ZzD: bbq false false=true:=rfl
theorem Zm3 (x y):Ziu (SV.v (Value.bool x)) (SV.v (Value.bool y))=some (SV.v (Value.bool (x || y))):=rfl
theorem ZkD (x a):Ziu (SV.v (Value.bool x)) (SV.v (Value.tuple a))=bif x then some (SV.v (Value.bool true)) else none:=rfl
theorem Zjp (x y):ZfT (SV.v (Value.bool x)) (SV.v (Value.bool y))=some (SV.v (Value.bool (x && y))):=rfl
theorem ZjC (x a):ZfT (SV.v (Value.bool x)) (SV.v (Value.tuple a))=bif x then none else some (SV.v (Value.bool false)):=rfl
theorem ZsM (m r):ZAX m (some r)=some (SV.sl true m r):=rfl
theorem ZpC (m):ZAX m none=none:=rfl
theorem Zkv (P g d σ r K a f b):Zoz P g d σ r K (SV.cl f b) a=ZAB P g f (a ++ b) d σ r K:=rfl
theorem Zrp (g d σ r K k v m a j):ZDw g d σ r K true k v m a j=IXR g k v m a j d σ r K:=rfl
theorem Zsm (g d σ r K k v m a j):ZDw g d σ r K false k v m a j=False:=rfl
theorem Zti (g d σ r K k v m j a b c T):ZDT g d σ r K (HB.row a b c T) k v m j=ZDw g d σ r K (We (Nat.beq m b) (Nat.beq v a)) k v m (List.length c) j:=rfl
theorem Zuf (g d σ r K a j):ZBG g d σ r K true a j=IXS g a j d σ r K:=rfl
theorem Zue (g d σ r K a j):ZBG g d σ r K false a j=False:=rfl
theorem Ztv (g d σ r K m k j c a b):ZCw g d σ r K (SV.v (Value.int k j)) (SV.sl c a b) m=ZBG g d σ r K (Nat.beq m a) b j:=rfl
theorem Zqn (g d σ r K m k j a v):ZCw g d σ r K (SV.v (Value.int k j)) (SV.mr a v) m=ZDT g d σ r K (lkh a (St.hp σ)) a v m j:=rfl
theorem ZsC (g d σ r K x a m k n):ZEg g d σ r K (SV.v (Value.int k n)) x a m=IXA g a n (λn=>U2 (n * m) x) d σ r K:=rfl
theorem ZoK (g d σ r K a m b k j l):ZEa g d σ r K (SV.v (Value.int k j)) (SV.agg l) a m b=IXA g a j (λn=>Wg l (n * m) m b) d σ r K:=rfl
theorem ZyM (g d σ r K o m a l T):ldC g d σ r K (HB.cells l T) o m a=WC (Wg l o m a) d g σ r K:=rfl
theorem Zvd (g d σ r K a i o m b):ldB g d σ r K true a i o m b=LDR g a i o m b d σ r K:=rfl
theorem Zwv (g d σ r K a i o m b):ldB g d σ r K false a i o m b=False:=rfl
theorem Zvm (g d σ r K k v a i o m b c e f T):ldR g d σ r K k (HB.row c e f T) v a i o m b=ldB g d σ r K (We (Nat.beq a e) (Nat.beq v c)) f i o m b:=rfl
theorem ZyJ (g d σ r K m a k o):ldK g d σ r K (SV.p k o) m a=ldC g d σ r K (lkh k (St.hp σ)) o m a:=rfl
theorem ZvK (g d σ r K m a b o):ldK g d σ r K (SV.ps b o) m a=WC (Wg b o m a) d g σ r K:=rfl
theorem ZwJ (g d σ r K m a k v b i o):ldK g d σ r K (SV.pr k v b i o) m a=ldR g d σ r K k (lkh k (St.hp σ)) v b i o m a:=rfl
theorem ZrL (g d σ r K b k u v):ZDb g d σ r K true b k u v=DIV g b k u v d σ r K:=rfl
theorem ZpK (g d σ r K b k u v):ZDb g d σ r K false b k u v=False:=rfl
theorem ZpT (g d σ r K b k a j c):ZDZ g d σ r K b (SV.v (Value.int k a)) (SV.v (Value.int j c))=ZDb g d σ r K (Zd9 k j) b k a c:=rfl
theorem Zsx (g d σ r K a):ZDl g d σ r K true a=YE d (SV.v (Value.int IntKind.i64 ↑(List.length a))) g σ r K:=rfl
theorem Zo7 (g d σ r K a):ZDl g d σ r K false a=False:=rfl
theorem Zre (g d σ r K k v a m b T):ZEi g d σ r K k (HB.row a m b T) v=ZDl g d σ r K (Nat.beq v a) b:=rfl
theorem Zsu (g d σ r K k v):ZAV g d σ r K (SV.mr k v)=ZEi g d σ r K k (lkh k (St.hp σ)) v:=rfl
theorem Zot (g d σ r K k v m i l):ZAV g d σ r K (SV.ms k v m i l)=YE d (SV.v (Value.int IntKind.i64 ↑l)) g σ r K:=rfl
theorem ZsD (g d σ r K c m a):ZAV g d σ r K (SV.sl c m a)=YE d (SV.v (Value.int IntKind.i64 ↑(List.length a))) g σ r K:=rfl
theorem Zpu (P g d σ r K f a):Yw P g d (SI.call f a) σ r K=ZAB P g f (U6 (rdG g (St.fr σ)) a) d σ r K:=rfl
theorem ZsZ (P g d σ r K x a):Yw P g d (SI.calv x a) σ r K=Zoz P g d σ r K (rdG g (St.fr σ) x) (U6 (rdG g (St.fr σ)) a):=rfl
theorem ZsA (P g d σ r K f a):Yw P g d (SI.callm f a) σ r K=False:=rfl
theorem Zq3 (P g d σ r K x a):Yw P g d (SI.calvm x a) σ r K=False:=rfl
theorem Zrc (P g d σ r K c a b):Yw P g d (SI.pick c a b) σ r K=WC (Zh4 (St.fr σ) g c a b) d g σ r K:=rfl
theorem ZrK (P g d σ r K m T a):Yw P g d (SI.bsl m T a) σ r K=WC (ZAX m (Zjd (rdG g (St.fr σ)) m a)) d g σ r K:=rfl
theorem ZsN (P g d σ r K x a m):Yw P g d (SI.ixs x a m) σ r K=ZCw g d σ r K (rdG g (St.fr σ) a) (rdG g (St.fr σ) x) m:=rfl
theorem ZtM (P g d σ r K x a b m):Yw P g d (SI.ixa x a b m) σ r K=ZEg g d σ r K (rdG g (St.fr σ) a) (rdG g (St.fr σ) x) b m:=rfl
theorem ZpL (P g d σ r K x a b m c):Yw P g d (SI.idx x a b m c) σ r K=ZEa g d σ r K (rdG g (St.fr σ) a) (rdG g (St.fr σ) x) b m c:=rfl
theorem Zlm (P g d σ r K x m a):Yw P g d (SI.ld x m a) σ r K=ldK g d σ r K (rdG g (St.fr σ) x) m a:=rfl
theorem ZjU (P g d σ r K b x y):Yw P g d (SI.div b x y) σ r K=ZDZ g d σ r K b (rdG g (St.fr σ) x) (rdG g (St.fr σ) y):=rfl
theorem ZmX (P g d σ r K x):Yw P g d (SI.len x) σ r K=ZAV g d σ r K (rdG g (St.fr σ) x):=rfl
theorem Zkj (P g d σ r K x):Yw P g d (SI.mv x) σ r K=YE d (rdG g (St.fr σ) x) g σ r K:=rfl
theorem Znb (P g d σ r K z a):Yw P g d (SI.build z a) σ r K=WC (pv (rdG g (St.fr σ)) (SI.build z a)) d g σ r K:=rfl
theorem Zoc (P g d σ r K x):Yw P g d (SI.nilc x) σ r K=WC (Ze6 (rdG g (St.fr σ) x)) d g σ r K:=rfl
theorem Zlw (P g d σ r K b x y):Yw P g d (SI.bin b x y) σ r K=WC (ZAC b (rdG g (St.fr σ) x) (rdG g (St.fr σ) y)) d g σ r K:=rfl
theorem Zln (P g d σ r K u x):Yw P g d (SI.un u x) σ r K=WC (uni u (rdG g (St.fr σ) x)) d g σ r K:=rfl
theorem Zjw (P g d σ r K x o):Yw P g d (SI.addo x o) σ r K=WC (U2 o (rdG g (St.fr σ) x)) d g σ r K:=rfl
theorem ZnQ (P g d σ r K x o m a):Yw P g d (SI.fld x o m a) σ r K=WC (pv (rdG g (St.fr σ)) (SI.fld x o m a)) d g σ r K:=rfl
theorem ZkR (P g d σ r K a b):Yw P g d (SI.mm a b) σ r K=WC (mmS a (U6 (rdG g (St.fr σ)) b)) d g σ r K:=rfl
theorem ZjO (P g d σ r K f a):Yw P g d (SI.mkf f a) σ r K=YE d (SV.cl f (U6 (rdG g (St.fr σ)) a)) g σ r K:=rfl
theorem ZkN (P g d σ r K k x):Yw P g d (SI.conv k x) σ r K=WC (pv (rdG g (St.fr σ)) (SI.conv k x)) d g σ r K:=rfl
theorem Zkx (P g d σ r K x a):Yw P g d (SI.ext x a) σ r K=WC (pv (rdG g (St.fr σ)) (SI.ext x a)) d g σ r K:=rfl
theorem Zlq (P g d σ r K x h k):Yw P g d (SI.slc x h k) σ r K=ZD5 g (rdG g (St.fr σ) x) (rdG g (St.fr σ) h) (rdG g (St.fr σ) k) d σ r K:=rfl
theorem ZjP (P g d σ r K m x a b):Yw P g d (SI.sub m x a b) σ r K=ZDn g m (rdG g (St.fr σ)) a b (rdG g (St.fr σ) x) d σ r K:=rfl
theorem ZjV (P g d σ r K m b T x y):Yw P g d (SI.cln m b T x y) σ r K=False:=rfl
theorem ZnD (P g d σ r K m b T x y):Yw P g d (SI.appm m b T x y) σ r K=False:=rfl
theorem ZmP (P g d σ r K m x y):Yw P g d (SI.cpy m x y) σ r K=False:=rfl
theorem ZnG (P g d σ r K m b z T x):Yw P g d (SI.mks m b z T x) σ r K=False:=rfl
theorem Zj3 (P g d σ r K x):Yw P g d (SI.isn x) σ r K=False:=rfl
theorem Zn2 (P g d σ r K m b T x y):Yw P g d (SI.app m b T x y) σ r K=ZAH g m b (Zm5 m (rdG g (St.fr σ) x)) (Zxz m (St.hp σ) (rdG g (St.fr σ) y)) d σ r K:=rfl
theorem Zjx (P g d σ r K x m T):Yw P g d (SI.box x m T) σ r K=False:=rfl
theorem Zmv (P g d σ r K z T):Yw P g d (SI.alloc z T) σ r K=False:=rfl
theorem Zka (P g d σ r K x y m):Yw P g d (SI.st x y m) σ r K=False:=rfl
theorem Zlr (P g d σ r K a b c x y):Yw P g d (SI.eqs a b c x y) σ r K=WC (eqR a (Zt0 c b (rdG g (St.fr σ) x) (rdG g (St.fr σ) y))) d g σ r K:=rfl
theorem Zk8 (P g d σ r K a b):Yw P g d (SI.raw a b) σ r K=False:=rfl
theorem ZnT (P g d σ r K a b):Yw P g d (SI.rv a b) σ r K=False:=rfl
theorem Zlb (P g d σ r K a x b):Yw P g d (SI.rb a x b) σ r K=False:=rfl
theorem ZpQ (x a b c d e):ZD7 false true x a b c d e=d { fr:=(x,SV.p (St.n c) 0) :: St.fr c,hp:=(St.n c,HB.cells a b) :: St.hp c,n:=St.n c+1,N:=St.N c,gs:=St.gs c } e:=rfl
theorem Zqr (T σ r K t a):Zjj (some t) (some a) T σ r K=ZD7 (Xw t (St.gs σ)) (Nat.blt t (St.N σ)) t a T σ r K:=rfl
theorem Zmp (x a b c d e f g i j):ZyO false true x a b c d e f g i j=i { fr:=(x,SV.v (Value.int IntKind.i64 ↑e)) :: St.fr g,hp:=(a,HB.row b c d f) :: St.hp g,n:=St.n g,N:=St.N g,gs:=St.gs g } j:=rfl
theorem ZtX (k v m a N T σ r K b):ZCB (some b) k v m a N T σ r K=ZyO (Xw b (St.gs σ)) (Nat.blt b (St.N σ)) b k v m a N T σ r K:=rfl
theorem Zst (k v m a N T σ r K):ZCB none k v m a N T σ r K=r { fr:=St.fr σ,hp:=(k,HB.row v m a T) :: St.hp σ,n:=St.n σ,N:=St.N σ,gs:=St.gs σ } K:=rfl
theorem ZsS (d k v m i L a T σ r K c b e):Zuw d k v m i L a T (SV.sl c b e) σ r K=Zfq (Nat.beq m b) (CPY d k v m i L a e T σ r K):=rfl
theorem Zrn (d k v m i L a T σ r K):Zuw d k v m i L a T (SV.v (Value.slice none 0 0)) σ r K=CPY d k v m i L a [] T σ r K:=rfl
theorem Zqy (d k v m i L a T σ r K b c):Zuw d k v m i L a T (SV.mr b c) σ r K=Zfq (We (Nat.beq k b) (Nat.beq v c)) (CPY d k v m i L a a T σ r K):=rfl
theorem Zqj (d k v m i L a T σ r K b c e f g):Zuw d k v m i L a T (SV.ms b c e f g) σ r K=Zfq (We (We (Nat.beq k b) (Nat.beq v c)) (Nat.beq m e)) (f+g<=List.length a/\CPY d k v m i L a (List.take g (List.drop f a)) T σ r K):=rfl
theorem ZBh (n m):lO (some m) n=m:=rfl
theorem ZBw (n):lO none n=n:=rfl
theorem Zt1 (d m k v i a s σ r K b c e T):Zwy d m k v i a (HB.row b c e T) s σ r K=Zfq (We (Nat.beq m c) (Nat.beq v b)) (Zuw d k v m i (lO a (List.length e)) e T s σ r K):=rfl
theorem Zp9 (d m a σ r K k v):ZAI d m (SV.mr k v) a σ r K=Zwy d m k v 0 none (lkh k (St.hp σ)) a σ r K:=rfl
theorem ZpW (d m a σ r K k v b i l):ZAI d m (SV.ms k v b i l) a σ r K=Zfq (Nat.beq m b) (Zwy d m k v i (some l) (lkh k (St.hp σ)) a σ r K):=rfl
theorem Zrd (g k v m a d σ r K i j):ZAU g k v m a (some i) (some j) d σ r K=SBM g i j k v m a d σ r K:=rfl
theorem Zts (g k v m a d σ r K b):ZAU g k v m a (some b) none d σ r K=False:=rfl
theorem Zse (g k v m a b d σ r K):ZAU g k v m a none b d σ r K=False:=rfl
theorem Zor (p):Zfq true p=p:=rfl
theorem ZqE (p):Zfq false p=False:=rfl
theorem Zo0 (g m ρ a b k v d σ r K c e f T):ZD8 g m ρ a b k v (HB.row c e f T) d σ r K=Zfq (We (Nat.beq m e) (Nat.beq v c)) (ZAU g k v m f (Zc3 0 ρ a) (Zc3 (↑(List.length f)) ρ b) d σ r K):=rfl
theorem Ztg (g m ρ a b d σ r K c e f):ZDn g m ρ a b (SV.sl c e f) d σ r K=bif Nat.beq m e then ZAz g m f (Zc3 0 ρ a) (Zc3 (↑(List.length f)) ρ b) d σ r K else False:=rfl
theorem Zq1 (g m ρ a b d σ r K k v):ZDn g m ρ a b (SV.mr k v) d σ r K=ZD8 g m ρ a b k v (lkh k (St.hp σ)) d σ r K:=rfl
theorem Zow (x a b c d e f g i):verB false true x a b c d e f g i=g { fr:=(x,SV.mr a b) :: St.fr f,hp:=(a,HB.row b c d e) :: St.hp f,n:=St.n f,N:=St.N f,gs:=St.gs f } i:=rfl
theorem ZqA (k v m a T σ r K b):ZAJ (some b) k v m a T σ r K=verB (Xw b (St.gs σ)) (Nat.blt b (St.N σ)) b k v m a T σ r K:=rfl
theorem Zrk (k v m a T σ r K):ZAJ none k v m a T σ r K=False:=rfl
theorem ZtP (b d k v m a c T σ r K):ZCW true b d k v m a c T σ r K=APM b d k v m a c T σ r K:=rfl
theorem ZrT (b d k v m a c T σ r K):ZCW false b d k v m a c T σ r K=False:=rfl
theorem ZoB (b d k v m a T σ r K c e f g):ZD9 b d k v m (HB.row c e f g) a T σ r K=ZCW (We (Nat.beq m e) (We (Nat.beq v c) (Nat.beq T g))) b d k v m f a T σ r K:=rfl
theorem ZqX (b d m a T σ r K k v):ZC2 b d m (SV.mr k v) a T σ r K=ZD9 b d k v m (lkh k (St.hp σ)) a T σ r K:=rfl
theorem ZtB (d k v m i a b T σ r K):ZCD true d k v m i a b T σ r K=APF d k v m i a b T σ r K:=rfl
theorem Zro (d k v m i a b T σ r K):ZCD false d k v m i a b T σ r K=False:=rfl
theorem ZrE (d k v m a j i b T σ r K c e f g):ZEf d k v m a j i (HB.row c e f g) b T σ r K=ZCD (We (We (Nat.beq m a) (Nat.beq j 0)) (We (Nat.beq m e) (We (Nat.beq v c) (Nat.beq T g)))) d k v m i f b T σ r K:=rfl
theorem ZtY (b d m a T σ r K k v c j i):ZC2 b d m (SV.ms k v c j i) a T σ r K=ZEf d k v m c j i (lkh k (St.hp σ)) a T σ r K:=rfl
theorem Zqm (b d m s T σ r K a):ZAQ b d m s (some a) T σ r K=ZC2 b d m s a T σ r K:=rfl
theorem Zom (b d m s T σ r K):ZAQ b d m s none T σ r K=False:=rfl
theorem ZoA (x a b c d e f g):ZAG true x a b c d e f g=f { fr:=St.fr e,hp:=(x,HB.cells (ZJ b a d) c) :: St.hp e,n:=St.n e,N:=St.N e,gs:=St.gs e } g:=rfl
theorem ZrB (x a b c d e f g):ZAG false x a b c d e f g=False:=rfl
theorem ZwD (k o m c σ r K l T):stC k o m (HB.cells l T) c σ r K=ZAG (Nat.ble (o+m) (List.length l)) k o l T c σ r K:=rfl
theorem Zrq (x a b c d e f g i j k):ZAW true x a b c d e f g i j k=STR x a b c d e f g i j k:=rfl
theorem Zpt (x a b c d e f g i j k):ZAW false x a b c d e f g i j k=False:=rfl
theorem ZwY (k v a j o c σ r K b m d T):stR k v a j o (HB.row b m d T) c σ r K=ZAW (We (Nat.beq a m) (Nat.beq v b)) b d j o k a c T σ r K:=rfl
theorem ZyI (m c σ r K k o):stX (SV.p k o) m c σ r K=stC k o m (lkh k (St.hp σ)) c σ r K:=rfl
theorem ZxT (m c σ r K k v a j o):stX (SV.pr k v a j o) m c σ r K=stR k v a j o (lkh k (St.hp σ)) c σ r K:=rfl
theorem Zil (x a b c d e):ZeP true true x a b c d e=stX x a b c d e:=rfl
theorem Zio (m x σ r K a):Zfe none (some a) m x σ r K=ZeP (chk a m) (Yu a) x m a σ r K:=rfl
theorem Zv6 (P Y d σ r K x y m):stp P Y d (SI.st x y m) σ r K=Zfe d (YC (rdG none (St.fr σ) y)) m (rdG none (St.fr σ) x) σ r K:=rfl
theorem ZvL (P Y d σ r K x m T):stp P Y d (SI.box x m T) σ r K=Zjj d (YC (rdG none (St.fr σ) x)) T σ r K:=rfl
theorem Zxy (P Y d σ r K z T):stp P Y d (SI.alloc z T) σ r K=Zjj d (some (lit z)) T σ r K:=rfl
theorem Zyd (P Y d σ r K m b T x y):stp P Y d (SI.cln m b T x y) σ r K=ZuN b d m (Zm5 m (rdG none (St.fr σ) x)) (ZfD m (rdG none (St.fr σ) y)) T σ r K:=rfl
theorem ZwI (P Y d σ r K m b z T x):stp P Y d (SI.mks m b z T x) σ r K=ZBf b d m z (rdG none (St.fr σ) x) T σ r K:=rfl
theorem ZvH (P Y d σ r K m x y):stp P Y d (SI.cpy m x y) σ r K=ZAI d m (rdG none (St.fr σ) x) (rdG none (St.fr σ) y) σ r K:=rfl
theorem Zz7 (P Y d σ r K m b T x y):stp P Y d (SI.appm m b T x y) σ r K=ZAQ b d m (rdG none (St.fr σ) x) (ZfD m (rdG none (St.fr σ) y)) T σ r K:=rfl
theorem ZwC (P Y d σ r K f a):stp P Y d (SI.callm f a) σ r K=ZdW P f (U6 (rdG none (St.fr σ)) a) d σ r K:=rfl
theorem Zy5 (P Y d σ r K x a):stp P Y d (SI.calvm x a) σ r K=Zim P Y (rdG none (St.fr σ) x) (U6 (rdG none (St.fr σ)) a) d σ r K:=rfl
theorem ZrQ (P Y d σ r K x):stp P Y d (SI.isn x) σ r K=ZEn d (rdG none (St.fr σ) x) σ r K:=rfl
theorem ZrX (P Y d σ r K a b):stp P Y d (SI.raw a b) σ r K=RAW P d a b σ r K:=rfl
theorem Zpq (P Y d σ r K a b):stp P Y d (SI.rv a b) σ r K = ∃ s,RBE P a b σ s/\YE d s none σ r K:=rfl
theorem ZtO (P Y d σ r K a x b):stp P Y d (SI.rb a x b) σ r K = ∃ k h1 s,rdG none (St.fr σ) x=SV.mp k/\WK (lkh k (St.hp σ)) h1/\RBB P a (x :: b) k (lkh k (St.hp σ)) h1 σ s/\YE d s none { fr:=St.fr σ,hp:=(k,h1) :: St.hp σ,n:=St.n σ,N:=St.N σ,gs:=St.gs σ } r K:=rfl
theorem Zj7 (d σ r K):ZwU d σ r K=YE d (SV.v undef) none σ r K:=rfl
theorem ZCP (P Y j w d i σ r K b):gK P Y (SV.v (Value.bool b)) j w d i σ r K=GB P Y b j w d i σ r K:=rfl
theorem ZA5 (P Y j w d i σ r K a c b):gK P Y (SV.gd a c (SV.v (Value.bool b))) j w d i σ r K=Yw P (some (j,w)) d i σ r K:=rfl
theorem Zz5 (P Y σ r K d i af):st1 P Y { d:=d,i:=i,g:=none,af:=af } σ r K=stp P Y d i σ r K:=rfl
theorem ZzH (P Y σ r K d i j w af):st1 P Y { d:=d,i:=i,g:=some (j,w),af:=af } σ r K=gK P Y (lk j (St.fr σ)) j w d i σ r K:=rfl
theorem Zso (f g σ K b):ZDV (SV.v (Value.bool b)) f g σ K=BR b f g σ K:=rfl
theorem Zqx (k x y):ZvE BinOp.quo k x y=IntKind.wrap k (Int.tdiv x y):=rfl
theorem Zv8 (a N):st0 a N={ fr:=YT 0 a,hp:=[],n:=0,N:=N,gs:=[] }:=rfl
theorem ZpD (ρ):U6 ρ []=[]:=rfl
theorem ZpE (ρ a r):U6 ρ (a :: r) = ρ a :: U6 ρ r:=rfl
theorem Zqq (g):ZcD g []=[]:=rfl
theorem Zri (g s l):ZcD g (s :: l)=g s :: ZcD g l:=rfl
theorem Zqt (ρ m):Zjd ρ m []=some []:=rfl
theorem ZoW (ρ m a r):Zjd ρ m (a :: r)=ZAA (YC (ρ a)) m (Zjd ρ m r):=rfl
theorem Zo8 (hp):Zn4 hp []=[]:=rfl
theorem Zpc (hp s l):Zn4 hp (s :: l)=cvt hp s :: Zn4 hp l:=rfl
theorem Zwz: lit []=[]:=rfl
theorem ZxG (a r):lit (a :: r)=SV.v a :: lit r:=rfl
theorem ZzI: chk [] 0=true:=rfl
theorem Zy3 (a l n):chk (a :: l) (Nat.succ n)=chk l n:=rfl
theorem Zxo (x):nth [] x=none:=rfl
theorem Zzr (s a):nth (s :: a) 0=some s:=rfl
theorem Zxs (a l n):nth (a :: l) (Nat.succ n)=nth l n:=rfl
theorem Zi5 (a l c b):ZJ (a :: l) 0 (c :: b)=c :: ZJ l 0 b:=rfl
theorem ZiJ (x a l o):ZJ (a :: l) (Nat.succ o) x=a :: ZJ l o x:=rfl
theorem Zqp (o l t):ZAZ o l t true=some ((o,l) :: t):=rfl
theorem Zqw (o l t):ZAZ o l t false=none:=rfl
theorem Zpb (o m l t):ZAT o m (some l) (some t)=ZAZ o l t (chk l m):=rfl
theorem Zr2 (ρ):ZtH ρ []=some []:=rfl
theorem Zrz (ρ o m a r):ZtH ρ ((o,m,a) :: r)=ZAT o m (YC (ρ a)) (ZtH ρ r):=rfl
theorem ZxO (x):spl x []=x:=rfl
theorem Zv5 (x o l r):spl x ((o,l) :: r)=spl (ZJ x o l) r:=rfl
theorem Zp3 (z t):Zod z (some t)=some (spl z t):=rfl
theorem Zpm (z):Zod z none=none:=rfl
theorem Zsf (x):YT x []=[]:=rfl
theorem Zpg (x s l):YT x (s :: l)=(x,s) :: YT (x+1) l:=rfl
theorem Zx7 (j w s):gdS (SV.gd j w s)=true:=rfl
theorem ZwK (a):gdS (SV.v a)=false:=rfl
theorem ZwM (k o):gdS (SV.p k o)=false:=rfl
theorem Zv7 (l):gdS (SV.agg l)=false:=rfl
theorem Zvv (c m a):gdS (SV.sl c m a)=false:=rfl
theorem Zx2 (k v):gdS (SV.mr k v)=false:=rfl
theorem ZAo (k v m i o):gdS (SV.pr k v m i o)=false:=rfl
theorem ZzM (k v m i l):gdS (SV.ms k v m i l)=false:=rfl
theorem Zw8 (a o):gdS (SV.ps a o)=false:=rfl
theorem Zte (f a):gdS (SV.cl f a)=false:=rfl
theorem ZsY (l):gdS (SV.tup l)=false:=rfl
theorem Zs9 (φ):gdS (SV.q φ)=false:=rfl
theorem ZqW (k):gdS (SV.mp k)=false:=rfl
theorem Zsq (k):gdS (SV.yl k)=false:=rfl
theorem ZpA (T s):gdS (SV.ifc T s)=false:=rfl
theorem ZqK: gdS SV.any=false:=rfl
theorem ZzQ (ρ k o):rnS ρ (SV.p k o)=SV.p (ρ k) o:=rfl
theorem Zz0 (ρ k v):rnS ρ (SV.mr k v)=SV.mr (ρ k) v:=rfl
theorem Zy8 (ρ k v m i o):rnS ρ (SV.pr k v m i o)=SV.pr (ρ k) v m i o:=rfl
theorem ZvZ (ρ k v m i o):rnS ρ (SV.ms k v m i o)=SV.ms (ρ k) v m i o:=rfl
theorem ZAm (ρ k):rnS ρ (SV.mp k)=SV.mp (ρ k):=rfl
theorem ZvA (ρ k):rnS ρ (SV.yl k)=SV.yl (ρ k):=rfl
theorem Zvh (ρ l):rnS ρ (SV.agg l)=SV.agg (rnL ρ l):=rfl
theorem Zu8 (ρ l):rnS ρ (SV.tup l)=SV.tup (rnL ρ l):=rfl
theorem ZxQ (ρ f l):rnS ρ (SV.cl f l)=SV.cl f (rnL ρ l):=rfl
theorem ZoE (ρ T s):rnS ρ (SV.ifc T s)=SV.ifc T (rnS ρ s):=rfl
theorem Zq8 (ρ a):rnS ρ (SV.v a)=SV.v a:=rfl
theorem ZpZ (ρ c m a):rnS ρ (SV.sl c m a)=SV.sl c m a:=rfl
theorem ZsV (ρ l o):rnS ρ (SV.ps l o)=SV.ps l o:=rfl
theorem ZtQ (ρ φ):rnS ρ (SV.q φ)=SV.q φ:=rfl
theorem Zpy (ρ j w s):rnS ρ (SV.gd j w s)=SV.gd j w s:=rfl
theorem ZsB (ρ):rnS ρ SV.any=SV.any:=rfl
theorem Zwg (ρ):rnL ρ []=[]:=rfl
theorem Zyb (ρ s l):rnL ρ (s :: l)=rnS ρ s :: rnL ρ l:=rfl
theorem ZvI (ρ l T):rnH ρ (HB.cells l T)=HB.cells (rnL ρ l) T:=rfl
theorem Zyz (ρ v m a T):rnH ρ (HB.row v m a T)=HB.row v m a T:=rfl
theorem Zy6 (ρ φ):rnH ρ (HB.ob φ)=HB.ob φ:=rfl
theorem Zxt (ρ a c):rnH ρ (HB.map a c)=HB.map a c:=rfl
theorem ZwE (ρ a b c d):rnH ρ (HB.it a b c d)=HB.it (ρ a) b c d:=rfl
theorem ZxJ (ρ a b):rnH ρ (HB.lp a b)=HB.lp a b:=rfl
theorem Zvz (ρ a):rnH ρ (HB.lb a)=HB.lb a:=rfl
theorem ZAj (ρ):rnH ρ HB.gone=HB.gone:=rfl
theorem Zv2 (ρ):rnP ρ []=[]:=rfl
theorem ZvD (ρ u s r):rnP ρ ((u,s) :: r)=(ρ u,rnH ρ s) :: rnP ρ r:=rfl
theorem ZjX (ρ):ZcA ρ 0=[]:=rfl
theorem ZmL (ρ j):ZcA ρ (Nat.succ j)=(ρ j,HB.gone) :: ZcA ρ j:=rfl
theorem ZyH (b x y):exB b x y=bif b then x else y:=rfl
theorem Zv4 (a hp n d σ r K):cmK false a hp n d σ r K=YE d a none { fr:=St.fr σ,hp:=hp,n:=n,N:=St.N σ,gs:=St.gs σ } r K:=rfl
theorem Zyl (a hp n d σ r K):cmK true a hp n d σ r K=K (Ex.pan a) { fr:=St.fr σ,hp:=hp,n:=n,N:=St.N σ,gs:=St.gs σ }:=rfl
theorem Zlu (P Y a d σ r K f b):Zim P Y (SV.cl f b) a d σ r K=ZdW P f (a ++ b) d σ r K:=rfl
theorem Zke (P Y a d σ r K k):Zim P Y (SV.yl k) a d σ r K=YLD Y k a d σ r K:=rfl
theorem Zxj (p T a s):mtI p T (SV.ifc a s)=(a=T/\p s):=rfl
theorem Zwu (p l):mtO p (some l)=p l:=rfl
theorem ZyZ (p):mtO p none=False:=rfl
theorem Zxw (σ K hp n a):itE σ K hp n (HB.lp a none)=K Ex.n { fr:=St.fr σ,hp:=(St.n σ,HB.gone) :: hp,n:=n,N:=St.N σ,gs:=[] }:=rfl
theorem Zzh (σ K hp n a i):itE σ K hp n (HB.lp a (some (Ex.ex i)))=K (Ex.ex i) { fr:=St.fr σ,hp:=(St.n σ,HB.gone) :: hp,n:=n,N:=St.N σ,gs:=[] }:=rfl
theorem ZvY (σ K hp n a):itE σ K hp n (HB.lp a (some Ex.ret))=K Ex.ret { fr:=St.fr σ,hp:=(St.n σ,HB.gone) :: hp,n:=n,N:=St.N σ,gs:=[] }:=rfl
theorem Zwt (σ K o):itP σ K o=match Ot.pn o with | false=>itE σ K (Ot.hp o) (Ot.n o) (lkh (St.n σ) (Ot.hp o)) | true=>K (Ex.pan (Ot.res o)) { fr:=St.fr σ,hp:=Ot.hp o,n:=Ot.n o,N:=St.N σ,gs:=[] }:=rfl
theorem ZqH (a r):Zuv a (HB.lp r none)=(r=a):=rfl
theorem ZpO (a r):Zof a (HB.lb r)=(r=a):=rfl
theorem ZyS (p a s l):pmS (p :: a) (s :: l)=(p,s) :: pmS a l:=rfl
theorem ZoR: Zoj [] []=true:=rfl
theorem Zoq (a l b m):Zoj (a :: l) (b :: m)=Zoj l m:=rfl
theorem ZkX (N):ZaB N []=true:=rfl
theorem Znl (N j r):ZaB N (j :: r)=bif Nat.blt j N then ZaB N r else false:=rfl
theorem ZyT (p):rfB true p=p:=rfl
theorem ZwP (p):rfB false p=False:=rfl
theorem ZAf (P a b c σ K f d):rfK P a b (SV.cl f d) c σ K=gs0 (St.gs σ) (rfB (ZaB (St.N σ) c) (RFUN P a b f d c σ K)):=rfl
theorem Zox (a hp n s):ZuV a hp n (some s)=a { pn:=false,res:=s,hp:=hp,n:=n }:=rfl
theorem Zop (a hp n):ZuV a hp n none=False:=rfl
theorem Ztf (x s):ZAx (some s) x=rvD s x:=rfl
theorem Zs8 (x):ZAx none x=none:=rfl
theorem ZtD (σ):Zfo σ []=some []:=rfl
theorem Zto (σ r a):Zfo σ (r :: a)=ZAx (rv1 σ r) (Zfo σ a):=rfl
theorem ZoG (a b x):X0 a b Ex.n x=ZuV b (St.hp x) (St.n x) (rvE (Zfo x a)):=rfl
theorem Zp4 (a b x):X0 a b Ex.ret x=ZuV b (St.hp x) (St.n x) (rvE (Zfo x a)):=rfl
theorem ZoY (a b x s):X0 a b (Ex.pan s) x=b { pn:=true,res:=s,hp:=St.hp x,n:=St.n x }:=rfl
theorem Zp7 (a b x c):X0 a b (Ex.ex c) x=False:=rfl
theorem ZzO (a b Φ x):bdE a b Φ Ex.n x=(Zof b (lkh a (St.hp x))/\Φ { pn:=false,res:=SV.v (Value.bool true),hp:=(a,HB.lp b none) :: St.hp x,n:=St.n x }):=rfl
theorem Zwf (a b Φ x i):bdE a b Φ (Ex.ex i) x=(Zof b (lkh a (St.hp x))/\Φ { pn:=false,res:=SV.v (Value.bool false),hp:=(a,HB.lp b (some (Ex.ex i))) :: St.hp x,n:=St.n x }):=rfl
theorem Zwc (a b Φ x):bdE a b Φ Ex.ret x=(Zof b (lkh a (St.hp x))/\Φ { pn:=false,res:=SV.v (Value.bool false),hp:=(a,HB.lp b (some Ex.ret)) :: St.hp x,n:=St.n x }):=rfl
theorem Zxi (a b Φ x s):bdE a b Φ (Ex.pan s) x = Φ { pn:=true,res:=s,hp:=St.hp x,n:=St.n x }:=rfl
theorem ZvR (a b c K x):asE a b c K Ex.n x=(Zuv b (lkh a (St.hp x))/\c { fr:=St.fr x,hp:=(a,HB.lb b) :: St.hp x,n:=St.n x,N:=St.N x,gs:=St.gs x } K):=rfl
theorem Zvu (a b c K x i):asE a b c K (Ex.ex i) x=False:=rfl
theorem Zzp (a b c K x):asE a b c K Ex.ret x=False:=rfl
theorem ZxL (a b c K x s):asE a b c K (Ex.pan s) x=False:=rfl
theorem ZxY (x):rho [] x=0:=rfl
theorem ZvX (a b):rho (a :: b) 0=a:=rfl
theorem Zvo (a l k):rho (a :: l) (Nat.succ k)=rho l k:=rfl
theorem Zwl (ρ a x):mtS ρ a SV.any x=True:=rfl
theorem Zx9 (ρ a x k o):mtS ρ a (SV.p k o) x=(k < a/\x=SV.p (ρ k) o):=rfl
theorem Zxd (ρ a x k v):mtS ρ a (SV.mr k v) x=(k < a/\x=SV.mr (ρ k) v):=rfl
theorem ZzX (ρ a x k v m i o):mtS ρ a (SV.pr k v m i o) x=(k < a/\x=SV.pr (ρ k) v m i o):=rfl
theorem Zzd (ρ a x k v m i o):mtS ρ a (SV.ms k v m i o) x=(k < a/\x=SV.ms (ρ k) v m i o):=rfl
theorem Zxb (ρ a x l):mtS ρ a (SV.agg l) x=mtO (mtL ρ a l) (ZAN x):=rfl
theorem Zyk (ρ a x l):mtS ρ a (SV.tup l) x=mtO (mtL ρ a l) (ZAM x):=rfl
theorem ZvO (ρ a x f l):mtS ρ a (SV.cl f l) x=mtO (mtL ρ a l) (clL f x):=rfl
theorem ZyN (ρ a x b):mtS ρ a (SV.v b) x=(x=SV.v b):=rfl
theorem Zru (ρ a x c m b):mtS ρ a (SV.sl c m b) x=(x=SV.sl c m b/\KFR b):=rfl
theorem Zph (ρ a x l o):mtS ρ a (SV.ps l o) x=(x=SV.ps l o/\KFL l):=rfl
theorem ZsF (ρ a x k):mtS ρ a (SV.mp k) x=(k < a/\x=SV.mp (ρ k)):=rfl
theorem Zqv (ρ a x k):mtS ρ a (SV.yl k) x=(k < a/\x=SV.yl (ρ k)):=rfl
theorem Zt9 (ρ a x T t):mtS ρ a (SV.ifc T t) x=mtI (mtS ρ a t) T x:=rfl
theorem ZoQ (ρ a x φ):mtS ρ a (SV.q φ) x=(x=SV.q φ):=rfl
theorem Zt2 (ρ a x j w s):mtS ρ a (SV.gd j w s) x=False:=rfl
theorem ZzS (ρ a x):mtL ρ a [] x=(x=[]):=rfl
theorem Zy7 (ρ a x s l):mtL ρ a (s :: l) x=mtB (mtS ρ a s) (mtL ρ a l) x:=rfl
theorem Zw3 (ρ a x):mtH ρ a HB.gone x=True:=rfl
theorem Zzn (ρ a l T b c):mtH ρ a (HB.cells l T) (HB.cells b c)=(c=T/\mtL ρ a l b):=rfl
theorem ZzG (ρ a x v m b T):mtH ρ a (HB.row v m b T) x=(x=HB.row v m b T/\KFR b):=rfl
theorem Zvn (ρ a x φ):mtH ρ a (HB.ob φ) x=(x=HB.ob φ):=rfl
theorem Zzb (ρ a x b c):mtH ρ a (HB.map b c) x=(x=HB.map b c/\∀ (e:Nat × Value × SV),e ∈ b->KF (Prod.snd (Prod.snd e))):=rfl
theorem Zz8 (ρ d x e a b c):mtH ρ d (HB.it e a b c) x=(e < d/\x=HB.it (ρ e) a b c):=rfl
theorem ZwQ (ρ a x r b):mtH ρ a (HB.lp r b) x=(x=HB.lp r b):=rfl
theorem ZwG (ρ a x r):mtH ρ a (HB.lb r) x=(x=HB.lb r):=rfl
theorem ZqI (ρ a l T v m b c):mtH ρ a (HB.cells l T) (HB.row v m b c)=False:=rfl
theorem Zq9 (ρ a l T φ):mtH ρ a (HB.cells l T) (HB.ob φ)=False:=rfl
theorem Zoy (ρ a l T b c):mtH ρ a (HB.cells l T) (HB.map b c)=False:=rfl
theorem ZrO (ρ a l T b c d e):mtH ρ a (HB.cells l T) (HB.it b c d e)=False:=rfl
theorem ZsK (ρ a l T b c):mtH ρ a (HB.cells l T) (HB.lp b c)=False:=rfl
theorem Zqu (ρ a l T b):mtH ρ a (HB.cells l T) (HB.lb b)=False:=rfl
theorem Zq4 (ρ a l T):mtH ρ a (HB.cells l T) HB.gone=False:=rfl
theorem ZwF (p):mtM true p=True:=rfl
theorem Zz4 (p):mtM false p=p:=rfl
theorem Zzx (ρ a x b):mtF ρ a x [] b=True:=rfl
theorem Zyc (ρ a x b t s r):mtF ρ a x ((t,s) :: r) b=(mtM (Xw t x) (mtS ρ a s (lk t b))/\mtF ρ a (t :: x) r b):=rfl
theorem Zyn (ρ a hp b):mtP ρ a hp b 0=True:=rfl
theorem Zwn (ρ a hp b j):mtP ρ a hp b (Nat.succ j)=(mtH ρ b (lkh j a) (lkh (ρ j) hp)/\mtP ρ a hp b j):=rfl
theorem ZxV (a):hpb a []=True:=rfl
theorem ZwO (a u s r):hpb a ((u,s) :: r)=(u < a/\hpb a r):=rfl
theorem ZzE (a b):eqC 0 (SV.v (Value.bool a)) (SV.v (Value.bool b))=some (a == b):=rfl
theorem Zy1 (k a j b):eqC 1 (SV.v (Value.int k a)) (SV.v (Value.int j b))=bif Zd9 k j then some (a == b) else none:=rfl
theorem ZAp (a b):eqC 2 (SV.v (Value.string a)) (SV.v (Value.string b))=some (ByteArray.toList a == ByteArray.toList b):=rfl
theorem Zzk (a b):eqA (some a) (some b)=some (a && b):=rfl
theorem Zsk: ZhR [] [] []=some true:=rfl
theorem Zsv (c a b d y e):ZhR (c :: a) (b :: d) (y :: e)=eqA (eqC c b y) (ZhR a d e):=rfl
theorem Zp8 (c a b):Zt0 c true (SV.agg a) (SV.agg b)=ZhR c a b:=rfl
theorem Zub (c a b):Zt0 c false (SV.v (Value.bool a)) (SV.v (Value.bool b))=some (a == b):=rfl
theorem Zyf (a b):eqR a (some b)=some (SV.v (Value.bool (ngB a b))):=rfl
theorem Zva (a):eqR a none=none:=rfl
theorem Zzv (x):ngB true x = !x:=rfl
theorem ZyA (x):ngB false x=x:=rfl
theorem Zpa (m hp c a b):Zxz m hp (SV.sl c a b)=Zie b (Nat.beq m a):=rfl
theorem Zq0 (m hp):Zxz m hp (SV.v (Value.slice none 0 0))=some []:=rfl
theorem ZqR (m hp k v):Zxz m hp (SV.mr k v)=Zmr m v (lkh k hp):=rfl
theorem Zud (m a b):Zm5 m (SV.sl true a b)=Zie b (Nat.beq m a):=rfl
theorem ZsU (m):Zm5 m (SV.v (Value.slice none 0 0))=some []:=rfl
theorem ZtJ (g m b d σ r K a c):ZAH g m b (some a) (some c) d σ r K=APP g m b a c d σ r K:=rfl
theorem ZsP (g m b d σ r K a):ZAH g m b (some a) none d σ r K=False:=rfl
theorem Zpn (g m b y d σ r K):ZAH g m b none y d σ r K=False:=rfl
theorem Zsd (l):ZAN (SV.agg l)=some l:=rfl
theorem Zp2 (l):ZAM (SV.tup l)=some l:=rfl
theorem ZAr (f a b):clL f (SV.cl a b)=bif Nat.beq a f then some b else none:=rfl
theorem Zzg (p q):mtB p q []=False:=rfl
theorem Zzo (p q s l):mtB p q (s :: l)=(p s/\q l):=rfl
theorem Zmc (x a b c d e f):Zsy false true x a b c d e f=e { fr:=(x,SV.mr (St.n d) 0) :: St.fr d,hp:=(St.n d,HB.row 0 a b c) :: St.hp d,n:=St.n d+1,N:=St.N d,gs:=St.gs d } f:=rfl
theorem Zt6 (m a T σ r K b):Zsg (some b) m a T σ r K=Zsy (Xw b (St.gs σ)) (Nat.blt b (St.N σ)) b m a T σ r K:=rfl
theorem ZtF (m a T σ r K):Zsg none m a T σ r K=False:=rfl
theorem ZpY (b d m T σ r K a):ZuN b d m (some []) (some a) T σ r K=CLN b d m a T σ r K:=rfl
theorem ZsO (b d m y T σ r K a c):ZuN b d m (some (a :: c)) y T σ r K=False:=rfl
theorem ZoH (b d m T σ r K):ZuN b d m (some []) none T σ r K=False:=rfl
theorem ZqO (b d m y T σ r K):ZuN b d m none y T σ r K=False:=rfl
theorem Zs4 (b d m z T σ r K k n):ZBf b d m z (SV.v (Value.int k n)) T σ r K=MKS b d m (lit z) n T σ r K:=rfl
theorem ZoS (d σ r K c m a):ZEn d (SV.sl c m a) σ r K=ISN d a σ r K:=rfl
theorem Zuc (g d σ r K c m a b n e j):ZD5 g (SV.sl c m a) (SV.v (Value.int b n)) (SV.v (Value.int e j)) d σ r K=SLC g n j m a d σ r K:=rfl
theorem Zsh (g m a d σ r K i j):ZAz g m a (some i) (some j) d σ r K=SUB g i j m a d σ r K:=rfl
theorem ZqG (g m a d σ r K b):ZAz g m a (some b) none d σ r K=False:=rfl
theorem Zq7 (g m a b d σ r K):ZAz g m a none b d σ r K=False:=rfl
theorem Zq5 (a ρ):Zc3 a ρ none=some a:=rfl
theorem ZrS (a ρ b):Zc3 a ρ (some b)=match ρ b with | SV.v (Value.int k n)=>some n | x=>none:=rfl
theorem ZrG (m c a b):ZfD m (SV.sl c a b)=Zie b (Nat.beq m a):=rfl
theorem Zp5 (m):ZfD m (SV.v (Value.slice none 0 0))=some []:=rfl
theorem ZsW (x h j w):ZAY false (.v x) h j w=false:=rfl
theorem ZhH (x l):ZJ (x :: l) 0 []=x :: l:=rfl
theorem Ziw:ZJ [] 0 []=[]:=rfl
attribute [go_sem] ZtB Zro ZrE ZtY
attribute [go_sem] Ztk Zug Zt7 Zqo w64_0 w64_1 w64_2 w64_3 w64_4 w64_5 w64_6 e_stO ZCO ZAd Zrj ZwT ZDP ZsE ZpI Zu9 Ztx ZoO ZpN ZB1 Zxn ZDC ZxW ZvN phx_1 phx_2 phK_n ZxS ZBt Zx1 ZCd ZsT Zyj Zz1 Zzy ZtZ sx_gh ZtU ZyC ZCx Zvk Ztp ZCn ZrW ZDN Zt8 ZCp Zya ZrN lkB_t lkB_f ZDa ZBj Zys ZxZ ZBd ZC0 Ztz Zx5 Zye ZBF ZDd ZB7 e_lk e_lk0 e_lkh ZBn ZDh Zxf e_blk Zjt ZoI Zx6 Zvw Zvl Zny Ztr Zj1 ZqM Zwx Zwa ZzN Zlv Zsi Zf9 Zi1 ZmH ZkM Zkc Zga ZhP Zhz ZnH Zr8 Zrb Ztd ZhN Zl1 Zvt ZiE Zmk ZrR Zpd Zpf Zh1 ZjD ZiU ZiD Zks Zk2 ZtK Zr7 Zpx Zsc Zo9 Zpj ZhM Zjb ZmC Zm9 ZiM ZkK Zsp ZtR Zqz Zh9 ZmD ZhO Zk0 Ztc Zt5 Zt3 ZiI Zmg ZfR Zi2 Znc Znp Zmx ZhD Zn5 Zrs ZzF ZyY ZxE Zlh ZsG Zh6 Zlj Zrf ZtV Zo3 ZiA Znz Zit ZjH Zig ZlG ZfF Zi3 Zkz ZlI Zob ZfL ZiL Zfs Zfr e_yld e_exR e_hpM ZkE ZfX ZiT Zmh Zl0 ZmF Ziq ZlU ZwA Zfu ZiW Zf3 ZhT ZdA ZcN Zez ZcG Zcb e_rdG ZDS ZDg ZCz e_alw ZA8 e_vw1 e_vw2 e_vw3 e_vw4 Zpw ZpX ZBi Zkf ZlX Zif ZiG ZhJ ZiB ZhY ZiF Zir Zh7 ZhB Zmf ZhS Zih ZhC ZkF ZhQ ZiX Zi4 ZsR Zs1 Zki ZlW ZlC Zn7 Ztb Zpe ZC4 Zzf Zw0 e_mm e_bld Zin ZBK Zp0 ZjT Zs0 ZqF Zs2 Zkk Zju e_rvR ZDQ Zxp ZwR Zua ZiR ZfA Zjv ZqN ZiH Zk1 ZlZ ZrA ZhV ZlD ZlH Zma ZjI Zkw Zrl Zh2 Zis Znm Ziv Zm2 e_rvs ZpP Zk3 Zrh Zvg ZDH Zni ZmO ZkO Znd Zty ZrF ZwW Zwe ZAb ZxD Zww ZyR Zxe Zv1 Zvy Zzq Zps ZqU ZoU ZpR Ztt Zs3 ZrH ZpG Zqa Zrx Zsb Zzt Zx3 ZyP Zw2 Zyu Zw4 ZzW ZwB ZxX Zyy Zws ZxC Zxh ZrP Zsj Zta Zqc ZrC ZqZ ZsH Zr0 Zm8 Zmo ZpH Zos Zkt Zkm ZxI ZzD Zm3 ZkD Zjp ZjC ZsM ZpC Zkv Zrp Zsm Zti Zuf Zue Ztv Zqn ZsC ZoK ZyM Zvd Zwv Zvm ZyJ ZvK ZwJ ZrL ZpK ZpT Zsx Zo7 Zre Zsu Zot ZsD Zpu ZsZ ZsA Zq3 Zrc ZrK ZsN ZtM ZpL Zlm ZjU ZmX Zkj Znb Zoc Zlw Zln Zjw ZnQ ZkR ZjO ZkN Zkx Zlq ZjP ZjV ZnD ZmP ZnG Zj3 Zn2 Zjx Zmv Zka Zlr Zk8 ZnT Zlb ZpQ Zqr Zmp ZtX Zst ZsS Zrn Zqy Zqj ZBh ZBw Zt1 Zp9 ZpW Zrd Zts Zse Zor ZqE Zo0 Ztg Zq1 Zow ZqA Zrk ZtP ZrT ZoB ZqX Zqm Zom ZoA ZrB ZwD Zrq Zpt ZwY ZyI ZxT Zil Zio Zv6 ZvL Zxy Zyd ZwI ZvH Zz7 ZwC Zy5 ZrQ ZrX Zpq ZtO Zj7 ZCP ZA5 Zz5 ZzH Zso Zqx Zv8 ZpD ZpE Zqq Zri Zqt ZoW Zo8 Zpc Zwz ZxG ZzI Zy3 Zxo Zzr Zxs Zi5 ZiJ Zqp Zqw Zpb Zr2 Zrz ZxO Zv5 Zp3 Zpm Zsf Zpg Zx7 ZwK ZwM Zv7 Zvv Zx2 ZAo ZzM Zw8 Zte ZsY Zs9 ZqW Zsq ZpA ZqK ZzQ Zz0 Zy8 ZvZ ZAm ZvA Zvh Zu8 ZxQ ZoE Zq8 ZpZ ZsV ZtQ Zpy ZsB Zwg Zyb ZvI Zyz Zy6 Zxt ZwE ZxJ Zvz ZAj Zv2 ZvD ZjX ZmL ZyH Zv4 Zyl Zlu Zke Zxj Zwu ZyZ Zxw Zzh ZvY Zwt ZqH ZpO ZyS ZoR Zoq ZkX Znl ZyT ZwP ZAf Zox Zop Ztf Zs8 ZtD Zto ZoG Zp4 ZoY Zp7 ZzO Zwf Zwc Zxi ZvR Zvu Zzp ZxL ZxY ZvX Zvo Zwl Zx9 Zxd ZzX Zzd Zxb Zyk ZvO ZyN Zru Zph ZsF Zqv Zt9 ZoQ Zt2 ZzS Zy7 Zw3 Zzn ZzG Zvn Zzb Zz8 ZwQ ZwG ZqI Zq9 Zoy ZrO ZsK Zqu Zq4 ZwF Zz4 Zzx Zyc Zyn Zwn ZxV ZwO ZzE Zy1 ZAp Zzk Zsk Zsv Zp8 Zub Zyf Zva Zzv ZyA Zpa Zq0 ZqR Zud ZsU ZtJ ZsP Zpn Zsd Zp2 ZAr Zzg Zzo Zmc Zt6 ZtF ZpY ZsO ZoH ZqO Zs4 ZoS Zuc Zsh ZqG Zq7 Zq5 ZrS ZrG Zp5 ZsW ZhH Ziw List.drop List.take List.length List.cons_append List.nil_append Nat.beq Nat.blt Nat.ble Nat.zero_add Nat.add_zero Nat.mul_one Nat.zero_mul Nat.one_mul cond_true cond_false List.set
attribute [go_sem] ZBg Zwd
theorem Zpv (ρ φ):rnH ρ (HB.own φ)=HB.own φ:=rfl
theorem Ztm (ρ a x φ):mtH ρ a (HB.own φ) x=(x=HB.own φ):=rfl
attribute [go_sem] Zpv Ztm
theorem ZBV:GT 0=some [.v (.int .i64 0),.v (.int .i64 0)]:=rfl
attribute [go_sem] ZBV
section typed
variable {K V:Type} [DecidableEq K]
def mpS (key:K->Value) (val:V->SV) (L:List (Nat × K × V)):List (Nat × Value × SV):=L.map λe=>(e.1,key e.2.1,val e.2.2)
def Xk (k:K):List (Nat × K × V)->Option V
 | []=>none
 | e :: l=>if e.2.1=k then some e.2.2 else Xk k l
def V7 (c:Nat) (k:K) (v:V):List (Nat × K × V)->List (Nat × K × V)
 | []=>[(c,k,v)]
 | e :: l=>if e.2.1=k then (e.1,k,v) :: l else e :: V7 c k v l
def U1 (k:K):List (Nat × K × V)->List (Nat × K × V)
 | []=>[]
 | e :: l=>if e.2.1=k then l else e :: U1 k l
def ZaS (c:Nat) (k:K) (L:List (Nat × K × V)):Nat:=bif (Xk k L).isSome then c else c+1
def fI (k:K):List K->List MapEntry->Nat->Option (Nat × Value)
 | q :: ks,e :: ys,i=>if q=k then some (i,e.val) else fI k ks ys (i+1)
 | _,_,_=>none
structure KeyT (P:Program) (kt:TypeId) (key:K->Value) (sv:K->SV):Prop where
 chk:∀ (em:Bool) (k:K) (w:World),(Instr.checkKey em 10000 kt (key k)).run P w = .ok () w
 fnd:∀ (k:K) (ks:List K) (ys:List MapEntry) (w:World),ys.map (·.key)=ks.map key->(Instr.findKey kt (key k) ys).run P w = .ok (fI k ks ys 0) w
 same:∀ k,Instr.sameBits 10000 (key k) (key k)=true
 svR:∀ {w:World} {E:Env} {n ok:Nat->Prop} (k:K) (y:Value),R w E n ok (sv k) y↔y=key k
theorem Zau {w:World} {E:Env} {n ok:Nat->Prop} {key:K->Value} {val:V->SV} (k:K):∀ (L:List (Nat × K × V)) (ys:List MapEntry) (i:Nat),RM w E n ok (mpS key val L) ys ->
 (Xk k L=none/\fI k (L.map (·.2.1)) ys i=none/\U1 k L=L/\∀ {w':World} {E':Env} {n' ok':Nat->Prop} c v' y',R w' E' n' ok' (val v') y'->RM w' E' n' ok' (mpS key val L) ys->RM w' E' n' ok' (mpS key val (V7 c k v' L)) (ys ++ [⟨key k,y',c⟩])) \/
 ∃ j v e,Xk k L=some v/\fI k (L.map (·.2.1)) ys i=some (i+j,e.val)/\ys[j]? = some e/\e.key=key k/\R w E n ok (val v) e.val /\
  (∀ {w':World} {E':Env} {n' ok':Nat->Prop},RM w' E' n' ok' (mpS key val L) ys->RM w' E' n' ok' (mpS key val (U1 k L)) (ys.eraseIdx j)/\∀ c v' y',R w' E' n' ok' (val v') y'->RM w' E' n' ok' (mpS key val (V7 c k v' L)) (ys.modify j λe=>{ e with key:=key k,val:=y' }))
 | [],ys,i,h=>by
  simp only [mpS,List.map_nil,RM] at h;subst h;exact .inl ⟨rfl,rfl,rfl,λc v' y' hR _=>by simp only [V7,mpS,List.map_cons,List.map_nil,List.nil_append,RM];exact ⟨y',[],rfl,hR,rfl⟩⟩
 | e :: l,ys,i,h=>by
  simp only [mpS,List.map_cons,RM] at h;obtain ⟨y,r,rfl,h1,h2⟩:=h;by_cases hk:e.2.1=k
  . refine .inr ⟨0,e.2.2,⟨key e.2.1,y,e.1⟩,by simp [Xk,hk],by simp [fI,hk],rfl,by simp [hk],h1,λ{w' E' n' ok'} h'=>?_⟩;simp only [mpS,List.map_cons,RM] at h';obtain ⟨y0,r0,e0,h3,h4⟩:=h';cases e0
    refine ⟨by simpa [U1,hk,mpS] using h4,λc v' y' hR=>?_⟩;simp only [V7,hk,if_true,mpS,List.map_cons,RM];exact ⟨y',r,by simp,hR,h4⟩
  . rcases Zau k l r (i+1) h2 with ⟨a1,a2,a3,a4⟩ | ⟨j,v,e',b1,b2,b3,b4,b5,b6⟩
    . refine .inl ⟨by simp [Xk,hk,a1],by simp [fI,hk,a2],by simp [U1,hk,a3],λ{w' E' n' ok'} c v' y' hR h'=>?_⟩;simp only [mpS,List.map_cons,RM] at h';obtain ⟨y0,r0,e0,h3,h4⟩:=h';cases e0
      simp only [V7,hk,if_false,mpS,List.map_cons,RM];exact ⟨y,_,rfl,h3,a4 c v' y' hR h4⟩
    . refine .inr ⟨j+1,v,e',by simp [Xk,hk,b1],by simp [fI,hk,b2];omega,by simpa using b3,b4,b5,λ{w' E' n' ok'} h'=>?_⟩;simp only [mpS,List.map_cons,RM] at h';obtain ⟨y0,r0,e0,h3,h4⟩:=h';cases e0
      obtain ⟨c1,c2⟩:=b6 h4;refine ⟨?_,λc v' y' hR=>?_⟩
      . simp only [U1,hk,if_false,mpS,List.map_cons,RM];exact ⟨y,_,by simp,h3,c1⟩
      . simp only [V7,hk,if_false,mpS,List.map_cons,RM];exact ⟨y,_,by simp,h3,c2 c v' y' hR⟩
omit [DecidableEq K] in
theorem Zaz {w:World} {E:Env} {n ok:Nat->Prop} {key:K->Value} {val:V->SV}:∀ {L:List (Nat × K × V)} {ys:List MapEntry},RM w E n ok (mpS key val L) ys->ys.map (·.key)=(L.map (·.2.1)).map key
 | [],ys,h=>by simp only [mpS,List.map_nil,RM] at h;subst h;rfl
 | e :: l,ys,h=>by
  simp only [mpS,List.map_cons,RM] at h;obtain ⟨y,r,rfl,h1,h2⟩:=h;simp only [List.map_cons,List.cons.injEq,true_and];exact Zaz h2
theorem ZuS {w:World} {E:Env} {n ok:Nat->Prop}:∀ {L:List (Nat × Value × SV)} {ys:List MapEntry},RM w E n ok L ys->ys.length=L.length
 | [],ys,h=>by simp only [RM] at h;subst h;rfl
 | e :: l,ys,h=>by simp only [RM] at h;obtain ⟨y,r,rfl,h1,h2⟩:=h;simp [ZuS h2]
theorem Zly {w:World} {E:Env} {n ok:Nat->Prop}:∀ {L:List (Nat × Value × SV)} {ys:List MapEntry},RM w E n ok L ys->∀ e ∈ ys,∃ x ∈ L,e.born=x.1/\e.key=x.2.1/\R w E n ok x.2.2 e.val
 | [],ys,h=>by simp only [RM] at h;subst h;simp
 | e :: l,ys,h=>by
  simp only [RM] at h;obtain ⟨y,r,rfl,h1,h2⟩:=h;intro e' he';rcases List.mem_cons.1 he' with rfl | he'
  . exact ⟨e,by simp,rfl,rfl,h1⟩
  . obtain ⟨x,hx,h⟩:=Zly h2 e' he';exact ⟨x,by simp [hx],h⟩
theorem Zm0 {w:World} {E:Env} {n ok:Nat->Prop}:∀ {L:List (Nat × Value × SV)} {ys:List MapEntry},RM w E n ok L ys->∀ x ∈ L,∃ e ∈ ys,e.born=x.1
 | [],ys,h=>by simp
 | e :: l,ys,h=>by
  simp only [RM] at h;obtain ⟨y,r,rfl,h1,h2⟩:=h;intro x hx;rcases List.mem_cons.1 hx with rfl | hx
  . exact ⟨_,List.mem_cons_self,rfl⟩
  . obtain ⟨e',he',h⟩:=Zm0 h2 x hx;exact ⟨e',by simp [he'],h⟩
theorem Zne {P:Program} {kt:TypeId} {kd:IntKind} (hu:P.underlying kt=some (.int kd)):KeyT P kt (λn:Int=>.int kd n) (λn=>.v (.int kd n)):=by
 refine ⟨λem k w=>MapKept.run_checkKey hu (by simp [MapKept.IsKey]) em _,λk ks ys w h=>?_,λk=>by simp [Instr.sameBits],λk y=>by simp only [R]⟩;have:∀ (ks:List Int) (ys:List MapEntry) (i:Nat),ys.map (·.key)=ks.map (λn:Int=>Value.int kd n)->Instr.findNow (.int kd) (.int kd k) ys i=some (fI k ks ys i):=by
  intro ks ys
  induction ys generalizing ks with
  | nil=>intro i h;cases ks with
   | nil=>rfl
   | cons a b=>simp at h
  | cons e ys ih=>intro i h;cases ks with
   | nil=>simp at h
   | cons a b =>
    simp only [List.map_cons,List.cons.injEq] at h;simp only [Instr.findNow,h.1,Instr.sameNow,if_true,fI];by_cases ha:a=k
    . subst ha;simp
    . have:(k == a)=false:=by simpa using λe=>ha e.symm
      simp [this,ha,ih b (i+1) h.2]
 exact MapKept.run_findKey hu (this ks ys 0 h)
end typed
section
variable {P:Program} {C:Cx} {E:Env} {σ : St} {a:Act} {w:World}
def VL (σ : St):Operand->SV
 | .tmp u=>lk u σ.fr
 | .const x=>.v x
 | _=>.any
theorem Xv (h:Sim C E σ a w) {o:Operand} {s:SV} (hs:VL σ o=s) (hg:∀ j b u,s≠.gd j b u):R w E (ltn σ.n) (okS C E σ.hp) s (a.eval o):=by
 cases o with
 | tmp u =>
  have:=Zvx (h.fr u) (λj b u' e=>hg j b u' (by rw [<- hs];exact e));simp only [VL] at hs;rw [hs] at this;exact this
 | const x=>simp only [VL] at hs;subst hs;simp only [R];rfl
 | _=>simp only [VL] at hs;subst hs;simp only [R]
theorem ZaE (h:Sim C E σ a w) {km c:Nat} {es:List (Nat × Value × SV)} (hk:lkh km σ.hp = .map es c) :
 ltn σ.n km/\∃ ys,w.heap[E.β km]? = some (.map ys c)/\RM w E (ltn σ.n) (okS C E σ.hp) es ys.toList:=by
 have hb:=h.hs.bk km;rw [hk] at hb;refine ⟨?_,hb⟩;rcases Classical.em (ltn σ.n km) with q | q
 . exact q
 . rw [h.hs.kn km q] at hk;cases hk
theorem Zut {d:Option Nat} {s:SV} {r:KT} {K:RK} {y:Value} {w':World} {E':Env} {hp':Lh} {n':Nat} {next:Act->World->Prop} (hk:YE d s none ⟨σ.fr,hp',n',σ.N,σ.gs⟩ r K) (h:Sim C E σ a w)
 (hst:ZM w w' (okS C E σ.hp) (okS C E' hp')) (hE:∀ k,k < σ.n->Ele E E' k k) (hn:σ.n<=n') (hh:HSim C E' hp' (ltn n') w') (hR:R w' E' (ltn n') (okS C E' hp') s y)
 (hnext:∀ σ' E' a' w',r σ' K->Sim C E' σ' a' w'->next a' w'):next (a.put d y) w':=by
 rcases Zaa hk with ⟨g1,g2⟩ | ⟨t,g1,g2,g3,g4,g5⟩
 . rw [g1];exact hnext _ E' _ _ g2 (YJ (σ:=σ) h hst hE hn hh)
 . rw [g1];exact hnext _ E' _ _ g5 (Xs (σ:=σ) h hst hE hn hh g2 g3 (λj b u e=>by rw [e] at g4;cases g4) hR)
theorem Xy {d:Option Nat} {s:SV} {r:KT} {K:RK} {y:Value} {next:Act->World->Prop} (hk:YE d s none σ r K) (h:Sim C E σ a w) (hR:R w E (ltn σ.n) (okS C E σ.hp) s y)
 (hnext:∀ σ' E' a' w',r σ' K->Sim C E' σ' a' w'->next a' w'):next (a.put d y) w :=
 Zut (hp':=σ.hp) (n':=σ.n) hk h (λb hb _=>⟨hb,rfl⟩) (λ_ _=>Ele.rfl) (Nat.le_refl _) h.hs hR hnext
theorem Zgw {K':Type} [DecidableEq K'] {kt:TypeId} {key:K'->Value} {sv:K'->SV} (hK:KeyT P kt key sv) (k:K'):∀ j b u,sv k≠.gd j b u:=λj b u e=>by
 have:=(hK.svR (w:=default) (E:=⟨λ_=>0,λ_ _=>undef,λ_=>0⟩) (n:=λ_=>True) (ok:=λ_=>True) k (key k)).2 rfl;rw [e] at this;simp only [R] at this
theorem Zet {hp:Lh} {n:Nat->Prop} {q:Nat} {hb:HB} {o:Obj} (h:HSim C E hp n w) (hq:¬ n q) (hocc:∀ (E:Env) b,occ E q hb b↔b=E.β q)
 (hok:∀ E',(∀ k,n k->Ele E E' k k)->E'.β q=w.heap.size->Yr (w.alloc o) E' (λk=>n k\/k=q) (okS C E' ((q,hb) :: hp)) q hb) :
 ∃ E',(∀ k,n k->Ele E E' k k)/\E'.β q=w.heap.size/\HSim C E' ((q,hb) :: hp) (λk=>n k\/k=q) (w.alloc o)/\ZM w (w.alloc o) (okS C E hp) (okS C E' ((q,hb) :: hp)):=by
 let E':Env:=⟨λk=>if k=q then w.heap.size else E.β k,E.hv,E.iss⟩
 have hE:∀ k,n k->Ele E E' k k:=λk hk=>⟨by simp [E',show k≠q from by rintro rfl;exact hq hk],Nat.le_refl _,λ_ _=>rfl⟩;have hEn:E'.β q=w.heap.size:=by simp [E']
 have hbel:Below w.heap.size w (w.alloc o):=(Below.refl _ _).alloc (Nat.le_refl _) _;have hoc:∀ j b,j≠q->(occ E' j (lkh j ((q,hb) :: hp)) b↔occ E j (lkh j hp) b):=λj b hj=>by
  rw [Zu,if_neg hj];cases hl:lkh j hp<;>simp only [occ,E',if_neg hj]
 have hocn:∀ b,occ E' q (lkh q ((q,hb) :: hp)) b↔b=w.heap.size:=λb=>by
  rw [Zu,if_pos rfl,hocc,hEn]
 have hlt:∀ b,b < w.heap.size->(okS C E' ((q,hb) :: hp) b↔okS C E hp b):=λb hb'=>by
  unfold okS;constructor
  . rintro ⟨h1,h2⟩;refine ⟨h1,λj hj=>?_⟩;by_cases hjn:j=q
    . subst hjn;rw [h.kn j hq] at hj;exact hj
    . exact h2 j ((hoc j b hjn).2 hj)
  . rintro ⟨h1,h2⟩;refine ⟨h1,λj hj=>?_⟩;by_cases hjn:j=q
    . subst hjn;rw [hocn] at hj;omega
    . exact h2 j ((hoc j b hjn).1 hj)
 have hst:ZM w (w.alloc o) (okS C E hp) (okS C E' ((q,hb) :: hp)):=λb hb' hs=>by
  have hlt':b < w.heap.size:=by
   obtain ⟨o,ho⟩:=Option.isSome_iff_exists.1 hs;exact (Array.getElem?_eq_some_iff.1 ho).1
  exact ⟨(hlt b hlt').2 hb',hbel.block b hlt'⟩
 refine ⟨E',hE,hEn,⟨λj hj=>?_,λj=>?_,λj j' b h1 h2=>?_,λj b h1=>?_,W6 h.kp hbel,λk hk=>(by obtain ⟨p1,p2⟩:=h.pin k hk;exact ⟨.inl p1,p2.trans (hE k p1)⟩)⟩,hst⟩
 . rw [Zu,if_neg (λe=>hj (.inr e))];exact h.kn j (λe=>hj (.inl e))
 . rw [Zu];by_cases hj:j=q
   . subst hj;rw [if_pos rfl];exact hok E' hE hEn
   . rw [if_neg hj];refine YU hst hE (λ_ h=>.inl h) ?_ (λb ho=>hbel.block b (YO h ho)) (by simp [E',hj]) (h.bk j);rcases Classical.em (n j) with h' | h'
     . exact .inr h'
     . exact .inl (h.kn j h')
 . by_cases hj:j=q<;>by_cases hj':j'=q
   . omega
   . subst hj;rw [hocn] at h1;rw [hoc j' b hj'] at h2;have:=YO h h2;omega
   . subst hj';rw [hocn] at h2;rw [hoc j b hj] at h1;have:=YO h h1;omega
   . exact h.dj j j' b ((hoc j b hj).1 h1) ((hoc j' b hj').1 h2)
 . by_cases hj:j=q
   . subst hj;rw [hocn] at h1;exact .inl (by rw [h1];exact h.kp.size)
   . exact h.lo j b ((hoc j b hj).1 h1)
end
section
variable {P:Program} {K' V:Type} [DecidableEq K'] {key:K'->Value} {sv:K'->SV} {val:V->SV} {L:List (Nat × K' × V)} {km c:Nat} {kt et t ty:TypeId} {mx ix vx:Operand} {σ : St} {r:KT} {K:RK} {d:Option Nat} {k:K'}
theorem Vp {u:Nat} {rs:Option Operand} (hr:rs=none) (h1:Xw u σ.gs=false) (h2:Nat.blt u σ.N=true) (h:r ⟨(u,.mp σ.n) :: σ.fr,(σ.n,.map [] 0) :: σ.hp,σ.n+1,σ.N,σ.gs⟩ K) :
 RAW P (some u) (.makeMap t rs) ty σ r K:=by
 subst hr;intro o C E a w next Q e1 e2 e3 hS hn hq
 obtain ⟨E',k1,k2,k3,k4⟩:=Zet (q:=σ.n) (hb:=.map [] 0) (o:=.map #[] 0) hS.hs (by simp [ltn]) (λE b=>by simp only [occ]) (λE' g1 g2=>by
  simp only [Yr,g2];exact ⟨#[],heap_alloc_new _ _,rfl⟩)
 have hV:(λk=>ltn σ.n k\/k = σ.n)=ltn (σ.n+1):=by funext k;simp only [ltn,eq_iff_iff];omega
 rw [hV] at k3;have hx:(execOp a.eval o).run P w = .ok (.value (.map (some w.heap.size))) (w.alloc (.map #[] 0)):=by
  obtain ⟨dst',op',ty',pos,after,guard⟩:=o;simp only at e2;subst e2;simp [execOp,Sem.run_bind,Instr.makeMap,Zd6,Sem.run_pure]
 refine ZC hx (by simp) ?_;show next (a.put o.dst _) _;rw [e1];refine hn _ E' _ _ h (Xs hS k4 k1 (by omega) k3 (λhh=>?_) (by simpa [Nat.blt_eq] using h2) (λ_ _ _ e=>by cases e) ?_)
 . rw [ZU.2 hh] at h1;cases h1
 . simp only [R,k2];exact ⟨by simp [ltn],trivial⟩
theorem ZfG {ok:Bool} {zs:SV} {z:Value} (hm:VL σ mx = .mp km) (hh:lkh km σ.hp = .map (mpS key val L) c) (ht:P.underlying t=some (.map kt et)) (hK:KeyT P kt key sv) (hi:VL σ ix=sv k)
 (hz:YN P et=some z) (hzR:∀ w E n ok,R w E n ok zs z)
 (h1:∀ v,Xk k L=some v->YE d (bif ok then .tup [val v,.v (.bool true)] else val v) none σ r K) (h0:Xk k L=none->YE d (bif ok then .tup [zs,.v (.bool false)] else zs) none σ r K) :
 RAW P d (.lookup t mx ix ok) ty σ r K:=by
 intro o C E a w next Q e1 e2 e3 hS hn hq;have hmv:=Xv hS hm (λ_ _ _=>by simp);have hiv:=(hK.svR k _).1 (Xv hS hi (Zgw hK k));simp only [R] at hmv;obtain ⟨g0,ys,g1,g2⟩:=ZaE hS hh;have hfn:=λw=>hK.fnd k _ _ w (Zaz g2);have hex:∀ y,(Instr.lookup t (a.eval mx) (a.eval ix) ok).run P w = .ok y w->(execOp a.eval o).run P w = .ok (.value y) w:=λy hy=>by
  obtain ⟨dst',op',ty',pos,after,guard⟩:=o;simp only at e2;subst e2;simp only [execOp,Sem.run_bind,hy,Result.andThen_ok,Sem.run_pure]
 rcases Zau (w:=w) (E:=E) (n:=ltn σ.n) (ok:=okS C E σ.hp) k L ys.toList 0 g2 with ⟨a1,a2,-,-⟩ | ⟨j,v,e,b1,b2,b3,b4,b5,-⟩
 . have hrun:(Instr.lookup t (a.eval mx) (a.eval ix) ok).run P w = .ok (if ok then .tuple #[z,.bool false] else z) w:=by
    rw [hmv.2,hiv];simp only [Instr.lookup,Sem.run_bind,run_underlying ht,Result.andThen_ok,Yn g1 rfl,Sem.run_pure,hK.chk,hfn,a2,WN hz]
   refine ZC (hex _ hrun) (by simp) ?_;show next (a.put o.dst _) _;rw [e1];refine Xy (h0 a1) hS ?_ hn;cases ok
   . exact hzR _ _ _ _
   . simp only [cond_true,if_true,R,RL];exact ⟨_,rfl,_,_,rfl,hzR _ _ _ _,_,_,rfl,rfl,rfl⟩
 . have hrun:(Instr.lookup t (a.eval mx) (a.eval ix) ok).run P w = .ok (if ok then .tuple #[e.val,.bool true] else e.val) w:=by
    rw [hmv.2,hiv];simp only [Instr.lookup,Sem.run_bind,run_underlying ht,Result.andThen_ok,Yn g1 rfl,Sem.run_pure,hK.chk,hfn,b2]
   refine ZC (hex _ hrun) (by simp) ?_;show next (a.put o.dst _) _;rw [e1];refine Xy (h1 v b1) hS ?_ hn;cases ok
   . exact b5
   . simp only [cond_true,if_true,R,RL];exact ⟨_,rfl,_,_,rfl,b5,_,_,rfl,rfl,rfl⟩
theorem Zrg {v:V} {s:SV} {ins:Bool} (hm:VL σ mx = .mp km) (hh:lkh km σ.hp = .map (mpS key val L) c) (ht:P.underlying t=some (.map kt et)) (hK:KeyT P kt key sv) (hi:VL σ ix=sv k)
 (hv:VL σ vx=s) (hvg:∀ j b u,s≠.gd j b u) (hsv:∀ w E n ok y,R w E n ok s y->R w E n ok (val v) y) (h:r ⟨σ.fr,(km,.map (mpS key val (V7 c k v L)) (ZaS c k L)) :: σ.hp,σ.n,σ.N,σ.gs⟩ K) :
 RAW P none (bif ins then .insert t mx ix vx else .mapUpdate t mx ix vx) ty σ r K:=by
 intro o C E a w next Q e1 e2 e3 hS hn hq;have hmv:=Xv hS hm (λ_ _ _=>by simp);have hiv:=(hK.svR k _).1 (Xv hS hi (Zgw hK k));have hvv:=hsv _ _ _ _ _ (Xv hS hv hvg);simp only [R] at hmv;obtain ⟨g0,ys,g1,g2⟩:=ZaE hS hh;have hfn:=λw=>hK.fnd k _ _ w (Zaz g2);have hex:∀ w',(Instr.mapUpdate t (a.eval mx) (a.eval ix) (a.eval vx)).run P w = .ok () w'->(execOp a.eval o).run P w = .ok .skip w':=λw' hy=>by
  obtain ⟨dst',op',ty',pos,after,guard⟩:=o;simp only at e2;subst e2;cases ins<;>simp only [cond_true,cond_false,execOp,Sem.run_bind,hy,Result.andThen_ok,Sem.run_pure]
 have hfin:∀ ys',((ys':Array MapEntry),ZaS c k L)=(ys',ZaS c k L)->(∀ {w':World} {ok':Nat->Prop},RM w' E (ltn σ.n) ok' (mpS key val L) ys.toList->R w' E (ltn σ.n) ok' (val v) (a.eval vx)->RM w' E (ltn σ.n) ok' (mpS key val (V7 c k v L)) ys'.toList) ->
  next (a.put o.dst undef) (Ul w (E.β km) (.map ys' (ZaS c k L))):=λys' _ hRM=>by
  obtain ⟨q1,q2⟩:=Vf (k:=km) (hb:=.map (mpS key val (V7 c k v L)) (ZaS c k L)) (o:=.map ys' (ZaS c k L)) hS.hs (λb=>by rw [hh];simp only [occ]) (λb=>by simp only [occ]) (λhlt hst=>by
   simp only [Yr]
   exact ⟨ys',Wd hlt,hRM (Uk hst.c (λ_ _=>Ele.rfl) (λ_ h=>h) _ _ g2) (ZV hst.c (λ_ _=>Ele.rfl) (λ_ h=>h) _ _ hvv)⟩)
  rw [e1];exact hn _ E _ _ h (YJ hS q2 (λ_ _=>Ele.rfl) (Nat.le_refl _) q1)
 rcases Zau (w:=w) (E:=E) (n:=ltn σ.n) (ok:=okS C E σ.hp) k L ys.toList 0 g2 with ⟨a1,a2,-,a4⟩ | ⟨j,v0,e,b1,b2,b3,b4,b5,b6⟩
 . have hc:ZaS c k L=c+1:=by simp [ZaS,a1]
   have hrun:(Instr.mapUpdate t (a.eval mx) (a.eval ix) (a.eval vx)).run P w = .ok () (Ul w (E.β km) (.map (ys.push ⟨key k,a.eval vx,c⟩) (c+1))):=by
    rw [hmv.2,hiv];simp only [Instr.mapUpdate,Sem.run_bind,run_underlying ht,Result.andThen_ok,Yn g1 rfl,Sem.run_pure,hK.chk,hfn,a2,Y6 _ g1 rfl]
   refine ZC (hex _ hrun) (by simp) ?_;show next (a.put o.dst undef) _;rw [<- hc];exact hfin _ rfl λh1 h2=>by rw [Array.toList_push];exact a4 c v _ h2 h1
 . have hc:ZaS c k L=c:=by simp [ZaS,b1]
   rw [Nat.zero_add] at b2;have hek:((ys[j]?).map (·.key)).getD (key k)=key k:=by
    have:ys[j]? = some e:=by simpa using b3
    simp [this,b4]
   have hrun:(Instr.mapUpdate t (a.eval mx) (a.eval ix) (a.eval vx)).run P w = .ok () (Ul w (E.β km) (.map (ys.modify j λe=>{ e with key:=key k,val:=a.eval vx }) c)):=by
    rw [hmv.2,hiv];simp only [Instr.mapUpdate,Sem.run_bind,run_underlying ht,Result.andThen_ok,Yn g1 rfl,Sem.run_pure,hK.chk,hfn,b2,hek,Instr.keyThatStays,hK.same,if_true,Y6 _ g1 rfl]
   refine ZC (hex _ hrun) (by simp) ?_;show next (a.put o.dst undef) _;have:=hfin (ys.modify j λe=>{ e with key:=key k,val:=a.eval vx }) rfl λ{w' ok'} h1 h2=>by
    rw [Array.toList_modify];exact (b6 h1).2 c v _ h2
   rw [hc] at this;exact this
theorem Wu {v:V} {ins:Bool} (hm:VL σ mx = .mp km) (hh:lkh km σ.hp = .map (mpS key val L) c) (ht:P.underlying t=some (.map kt et)) (hK:KeyT P kt key sv) (hi:VL σ ix=sv k)
 (hv:VL σ vx=val v) (hvg:∀ j b u,val v≠.gd j b u) (h:r ⟨σ.fr,(km,.map (mpS key val (V7 c k v L)) (ZaS c k L)) :: σ.hp,σ.n,σ.N,σ.gs⟩ K) :
 RAW P none (bif ins then .insert t mx ix vx else .mapUpdate t mx ix vx) ty σ r K:=Zrg hm hh ht hK hi hv hvg (λ_ _ _ _ _ h=>h) h
theorem Zvq (hm:VL σ mx = .mp km) (hh:lkh km σ.hp = .map (mpS key val L) c) (ht:P.underlying t=some (.map kt et)) (hK:KeyT P kt key sv) (hi:VL σ ix=sv k) {ats:Array TypeId} (ha:ats[0]? = some t)
 (h:r ⟨σ.fr,(km,.map (mpS key val (U1 k L)) c) :: σ.hp,σ.n,σ.N,σ.gs⟩ K) :
 RAW P none (.call { callee:=.builtin .delete,args:=#[mx,ix],argTypes:=ats }) ty σ r K:=by
 intro o C E a w next Q e1 e2 e3 hS hn hq;have hmv:=Xv hS hm (λ_ _ _=>by simp);have hiv:=(hK.svR k _).1 (Xv hS hi (Zgw hK k));simp only [R] at hmv;obtain ⟨g0,ys,g1,g2⟩:=ZaE hS hh;have hfn:=λw=>hK.fnd k _ _ w (Zaz g2);have hex:∀ w',(Builtin.delete_ ats ty #[a.eval mx,a.eval ix]).run P w = .ok (.tuple #[]) w'->(execOp a.eval o).run P w = .ok (.value (.tuple #[])) w':=λw' hy=>by
  obtain ⟨dst',op',ty',pos,after,guard⟩:=o;simp only at e2 e3;subst e2;subst e3;simp [execOp,resolve,invoke,builtin,hy]
 have hfin:∀ ys':Array MapEntry,(∀ {w':World} {ok':Nat->Prop},RM w' E (ltn σ.n) ok' (mpS key val L) ys.toList->RM w' E (ltn σ.n) ok' (mpS key val (U1 k L)) ys'.toList) ->
  next (a.put o.dst (.tuple #[])) (Ul w (E.β km) (.map ys' c)):=λys' hRM=>by
  obtain ⟨q1,q2⟩:=Vf (k:=km) (hb:=.map (mpS key val (U1 k L)) c) (o:=.map ys' c) hS.hs (λb=>by rw [hh];simp only [occ]) (λb=>by simp only [occ]) (λhlt hst=>by
   simp only [Yr]
   exact ⟨ys',Wd hlt,hRM (Uk hst.c (λ_ _=>Ele.rfl) (λ_ h=>h) _ _ g2)⟩)
  rw [e1];exact hn _ E _ _ h (YJ hS q2 (λ_ _=>Ele.rfl) (Nat.le_refl _) q1)
 rcases Zau (w:=w) (E:=E) (n:=ltn σ.n) (ok:=okS C E σ.hp) k L ys.toList 0 g2 with ⟨a1,a2,a3,-⟩ | ⟨j,v0,e,b1,b2,b3,b4,b5,b6⟩
 . have hrun:(Builtin.delete_ ats ty #[a.eval mx,a.eval ix]).run P w = .ok (.tuple #[]) (Ul w (E.β km) (.map ys c)):=by
    rw [hmv.2,hiv];simp [Builtin.delete_,Sem.run_bind,ha,run_underlying ht,Result.andThen_ok,Yn g1 rfl,Sem.run_pure,hK.chk,hfn,a2,Y6 _ g1 rfl]
   refine ZC (hex _ hrun) (by simp) ?_;show next (a.put o.dst _) _;exact hfin _ λh1=>by rw [a3];exact h1
 . rw [Nat.zero_add] at b2;have hlt:j < ys.size:=by
    have:ys[j]? = some e:=by simpa using b3
    exact (Array.getElem?_eq_some_iff.1 this).1
   have hrun:(Builtin.delete_ ats ty #[a.eval mx,a.eval ix]).run P w = .ok (.tuple #[]) (Ul w (E.β km) (.map (ys.eraseIdxIfInBounds j) c)):=by
    rw [hmv.2,hiv];simp [Builtin.delete_,Sem.run_bind,ha,run_underlying ht,Result.andThen_ok,Yn g1 rfl,Sem.run_pure,hK.chk,hfn,b2,Y6 _ g1 rfl]
   refine ZC (hex _ hrun) (by simp) ?_;show next (a.put o.dst _) _;exact hfin _ λ{w' ok'} h1=>by
    have:(ys.eraseIdxIfInBounds j).toList=ys.toList.eraseIdx j:=by simp [Array.eraseIdxIfInBounds,hlt]
    rw [this];exact (b6 h1).1
theorem Zhx {es:List (Nat × Value × SV)} (hm:VL σ mx = .mp km) (hh:lkh km σ.hp = .map es c) (ht:P.underlying t=some (.map kt et)) {ats:Array TypeId} (ha:ats[0]? = some t)
 (h:YE d (.v (.int .i64 es.length)) none σ r K):RAW P d (.call { callee:=.builtin .len,args:=#[mx],argTypes:=ats }) ty σ r K:=by
 intro o C E a w next Q e1 e2 e3 hS hn hq;have hmv:=Xv hS hm (λ_ _ _=>by simp);simp only [R] at hmv;obtain ⟨g0,ys,g1,g2⟩:=ZaE hS hh;have hl:=ZuS g2;have hrun:(Builtin.len_ ats ty #[a.eval mx]).run P w = .ok (.int .i64 es.length) w:=by
  rw [hmv.2];simp [Builtin.len_,Sem.run_bind,ha,run_underlying ht,Result.andThen_ok,Yn g1 rfl,Sem.run_pure,goInt,<- hl]
 have hx:(execOp a.eval o).run P w = .ok (.value (.int .i64 es.length)) w:=by
  obtain ⟨dst',op',ty',pos,after,guard⟩:=o;simp only at e2 e3;subst e2;subst e3;simp [execOp,resolve,invoke,builtin,hrun]
 refine ZC hx (by simp) ?_;show next (a.put o.dst _) _;rw [e1];exact Xy h hS (by simp only [R]) hn
theorem ZlM {u:Nat} {es:List (Nat × Value × SV)} (hm:VL σ mx = .mp km) (hh:lkh km σ.hp = .map es c) (ht:P.underlying t=some (.map kt et)) (h1:Xw u σ.gs=false) (h2:Nat.blt u σ.N=true)
 (h:r ⟨(u,.p σ.n 0) :: σ.fr,(σ.n,.it km c [] c) :: σ.hp,σ.n+1,σ.N,σ.gs⟩ K):RAW P (some u) (.range t mx) ty σ r K:=by
 intro o C E a w next Q e1 e2 e3 hS hn hq;have hmv:=Xv hS hm (λ_ _ _=>by simp);simp only [R] at hmv;obtain ⟨g0,ys,g1,g2⟩:=ZaE hS hh
 obtain ⟨E',k1,k2,k3,k4⟩:=Zet (q:=σ.n) (hb:=.it km c [] c) (o:=.mapIter (some (E.β km)) c #[] c) hS.hs (by simp [ltn]) (λE b=>by simp only [occ]) (λE' q1 q2=>by
  simp only [Yr,q2];exact ⟨.inl g0,by rw [(q1 km g0).1];exact heap_alloc_new _ _⟩)
 have hV:(λk=>ltn σ.n k\/k = σ.n)=ltn (σ.n+1):=by funext k;simp only [ltn,eq_iff_iff];omega
 rw [hV] at k3;have hx:(execOp a.eval o).run P w = .ok (.value (.pointer (some ⟨w.heap.size,0,none⟩))) (w.alloc (.mapIter (some (E.β km)) c #[] c)):=by
  obtain ⟨dst',op',ty',pos,after,guard⟩:=o;simp only at e2;subst e2;simp only [execOp,hmv.2];simp [Sem.run_bind,Instr.range,run_underlying ht,Yn g1 rfl,Zd6,Sem.run_pure]
 refine ZC hx (by simp) ?_;show next (a.put o.dst _) _;rw [e1];refine hn _ E' _ _ h (Xs hS k4 k1 (by omega) k3 (λhh=>?_) (by simpa [Nat.blt_eq] using h2) (λ_ _ _ e=>by cases e) ?_)
 . rw [ZU.2 hh] at h1;cases h1
 . simp only [R,k2];exact ⟨by simp [ltn],trivial⟩
theorem Znf (w:World) (ty:TypeId) (rr bm since last:Nat) (seen:Array Nat) (es:Array MapEntry) (clock:Nat)
 (hr:w.heap[rr]? = some (.mapIter (some bm) since seen last)) (hb:w.heap[bm]? = some (.map es clock)) (hold:∀ x ∈ es.toList,x.born < since) (hsc:since<=last) :
 ((∀ x ∈ es.toList,seen.contains x.born=true)/\(Instr.next (.pointer (some ⟨rr,0,none⟩)) false ty).run P w = .ok (.tuple #[.bool false]) w) \/
 ∃ e ∈ es.toList,seen.contains e.born=false/\∃ k,(Instr.next (.pointer (some ⟨rr,0,none⟩)) false ty).run P w = .ok (.tuple #[.bool true,e.key,e.val]) (Ul { w with drawn:=k } rr (.mapIter (some bm) since (seen.push e.born) clock)):=by
 have htest:(!seen.isEmpty && !es.isEmpty && es.all (λx=>decide (x.born ≥ last)))=false:=by
  rw [Bool.eq_false_iff];intro hh;simp only [Bool.and_eq_true,Bool.not_eq_true'] at hh;obtain ⟨⟨-,h2⟩,h3⟩:=hh;have h0:0 < es.size:=by
   rcases Nat.eq_zero_or_pos es.size with h0 | h0
   . simp [Array.isEmpty,h0] at h2
   . exact h0
  rw [Array.all_eq_true_iff_forall_mem] at h3;have h4:=h3 _ (Array.getElem_mem h0);have h5:=hold es[0] (by simp);simp at h4;omega
 have hL:(Array.filter (λe=>!seen.contains e.born) es).filter (λx=>decide (x.born < since))=Array.filter (λe=>!seen.contains e.born) es :=
  Array.filter_eq_self.2 λx hx=>by
   simp only [Array.mem_filter] at hx;simpa using hold x (by simpa using hx.1)
 have hL2:(Array.filter (λe=>!seen.contains e.born) es).filter (λx=>decide (x.born ≥ since)) = #[]:=by
  rw [Array.filter_eq_empty_iff];intro x hx;simp only [Array.mem_filter] at hx;have:=hold x (by simpa using hx.1);simp;omega
 simp only [Instr.next,Sem.run_bind,Yn hr rfl,Yn hb rfl,Result.andThen_ok,htest,Bool.false_eq_true,if_false,hL,hL2,Array.append_empty];have hmem:∀ x,x ∈ Array.filter (λe=>!seen.contains e.born) es↔x ∈ es.toList/\seen.contains x.born=false:=λx=>by
  simp [Array.mem_filter]
 generalize hF:Array.filter (λe=>!seen.contains e.born) es=F at hmem ⊢;by_cases h0:F.size=0
 . left;have hE:F = #[]:=Array.eq_empty_of_size_eq_zero h0;subst hE;refine ⟨λx hx=>?_,?_⟩
   . cases hc:seen.contains x.born with
     | true=>rfl
     | false=>have:=(hmem x).2 ⟨hx,hc⟩;simp at this
   . simp [choose,Sem.run,Question.forced]
 . right;have hne:F.isEmpty=false:=by simp [Array.isEmpty,h0]
   simp only [hne,Bool.false_eq_true,if_false,Array.empty_append,Array.size_map];have hch:∃ (j:Nat) (k:Nat),j < F.size/\(choose (Question.mapNext F.size)).run P w = .ok j { w with drawn:=k }:=by
    by_cases hf:F.size<=1
    . exact ⟨0,w.drawn,by omega,by simp [choose,Sem.run,Question.forced,hf]⟩
    . exact ⟨_,w.drawn+1,Nat.mod_lt _ (by omega),by
       simp only [choose,Sem.run,Question.forced,decide_eq_true_eq,hf,if_false,Question.cut]
       rfl⟩
   obtain ⟨j,k,hj,hrun⟩:=hch;have hm:=(hmem F[j]).1 (Array.getElem_mem hj);refine ⟨F[j],hm.1,hm.2,k,?_⟩;have hr1:({ w with drawn:=k }:World).heap[rr]? = some (.mapIter (some bm) since seen last):=hr;simp only [hrun,Array.getElem?_map,Array.getElem?_eq_getElem hj,Option.map_some,Sem.run_bind,Result.andThen_ok,Y6 _ hr1 rfl,Sem.run_pure]
theorem Zou {q since last:Nat} {seen:List Nat} (hm:VL σ mx = .p q 0) (hq:lkh q σ.hp = .it km since seen last) (hh:lkh km σ.hp = .map (mpS key val L) c) (hold:∀ e ∈ L,e.1 < since) (hsc:since<=last) (hK:KeyT P kt key sv)
 (h0:(∀ e ∈ L,e.1 ∈ seen)->YE d (.tup [.v (.bool false)]) none σ r K)
 (h1:∀ e ∈ L,e.1 ∉ seen->YE d (.tup [.v (.bool true),sv e.2.1,val e.2.2]) none ⟨σ.fr,(q,.it km since (seen ++ [e.1]) c) :: σ.hp,σ.n,σ.N,σ.gs⟩ r K) :
 RAW P d (.next mx false) ty σ r K:=by
 intro o C E a w next Q e1 e2 e3 hS hn _;have hmv:=Xv hS hm (λ_ _ _=>by simp);simp only [R] at hmv;obtain ⟨g0,ys,g1,g2⟩:=ZaE hS hh;have hb:=hS.hs.bk q;rw [hq] at hb;obtain ⟨-,hit⟩:=hb;have hex:∀ y w',(Instr.next (a.eval mx) false ty).run P w = .ok y w'->(execOp a.eval o).run P w = .ok (.value y) w':=λy w' hy=>by
  obtain ⟨dst',op',ty',pos,after,guard⟩:=o;simp only at e2 e3;subst e2;subst e3;simp only [execOp,Sem.run_bind,hy,Result.andThen_ok,Sem.run_pure]
 rw [hmv.2] at hex
 rcases Znf (P:=P) w ty (E.β q) (E.β km) since last seen.toArray ys c hit g1 (λx hx=>by
  obtain ⟨z,hz,z1,z2,z3⟩:=Zly g2 x hx;obtain ⟨e,he,rfl⟩:=List.mem_map.1 hz
  rw [z1];exact hold e he) hsc with ⟨k1,k2⟩ | ⟨e,k1,k2,k,k3⟩
 . refine ZC (hex _ _ k2) (by simp) ?_;show next (a.put o.dst _) _;rw [e1];refine Xy (h0 λe he=>?_) hS (by simp only [R,RL];exact ⟨_,rfl,_,_,rfl,rfl,rfl⟩) hn;obtain ⟨y,hy,hyb⟩:=Zm0 g2 (e.1,key e.2.1,val e.2.2) (List.mem_map.2 ⟨e,he,rfl⟩);have:=k1 y hy;rw [hyb] at this;simpa using this
 . refine ZC (hex _ _ k3) (by simp) ?_;show next (a.put o.dst _) _;obtain ⟨z,hz,z1,z2,z3⟩:=Zly g2 e k1;obtain ⟨x,hx,rfl⟩:=List.mem_map.1 hz;simp only at z1 z2 z3;have hS':=Zex hS k;have hqn:ltn σ.n q:=by
    rcases Classical.em (ltn σ.n q) with h | h
    . exact h
    . rw [hS.hs.kn q h] at hq;cases hq
   obtain ⟨q1,q2⟩:=Vf (k:=q) (hb:=.it km since (seen ++ [x.1]) c) (o:=.mapIter (some (E.β km)) since (seen.toArray.push e.born) c) hS'.hs (λb=>by rw [hq];simp only [occ]) (λb=>by simp only [occ]) (λhlt hst=>by
    simp only [Yr];refine ⟨g0,?_⟩;rw [z1];have:(seen ++ [x.1]).toArray=seen.toArray.push x.1:=by simp
    rw [this]
    exact Wd hlt)
   rw [e1];refine Zut (h1 x hx (by rw [z1] at k2;simpa using k2)) hS' q2 (λ_ _=>Ele.rfl) (Nat.le_refl _) q1 ?_ hn;simp only [R,RL];have e4:=(hK.svR (w:=Ul { w with drawn:=k } (E.β q) (.mapIter (some (E.β km)) since (seen.toArray.push e.born) c)) (E:=E) (n:=ltn σ.n) (ok:=okS C E ((q,.it km since (seen ++ [x.1]) c) :: σ.hp)) x.2.1 e.key).2 z2;have z4:R { w with drawn:=k } E (ltn σ.n) (okS C E σ.hp) (val x.2.2) e.val:=ZV (w:=w) (w':={ w with drawn:=k }) (ok:=okS C E σ.hp) (λb hb _=>⟨hb,rfl⟩) (λ_ _=>Ele.rfl) (λ_ h=>h) _ _ z3
   exact ⟨_,rfl,_,_,rfl,rfl,_,_,rfl,e4,_,_,rfl,ZV q2.c (λ_ _=>Ele.rfl) (λ_ h=>h) _ _ z4,rfl⟩
theorem ZjL {q since:Nat} {seen:List Nat} {e:Nat × K' × V} (hm:VL σ mx = .p q 0) (hq:lkh q σ.hp = .it km since (seen ++ [e.1]) c) (hh:lkh km σ.hp = .map (mpS key val L) c) (he:e ∈ L) (hn:(L.map (·.1)).Nodup) (hK:KeyT P kt key sv)
 (hk:YE d (.tup [sv e.2.1,val e.2.2]) none σ r K):RAW P d (.entry mx) ty σ r K:=by
 intro o C E a w next Q e1 e2 e3 hS hnx _;have hmv:=Xv hS hm (λ_ _ _=>by simp);simp only [R] at hmv;obtain ⟨g0,ys,g1,g2⟩:=ZaE hS hh;have hb:=hS.hs.bk q;rw [hq] at hb;obtain ⟨-,hit⟩:=hb;have hfind:∀ (L:List (Nat × K' × V)) (ys:List MapEntry),RM w E (ltn σ.n) (okS C E σ.hp) (mpS key val L) ys->e ∈ L->(L.map (·.1)).Nodup->∃ y,ys.find? (·.born == e.1)=some y/\y.key=key e.2.1/\R w E (ltn σ.n) (okS C E σ.hp) (val e.2.2) y.val:=by
  intro L
  induction L with
  | nil=>intro ys _ he;cases he
  | cons x l ih =>
   intro ys h he hn;simp only [mpS,List.map_cons,RM] at h;obtain ⟨y,r,rfl,h1,h2⟩:=h;simp only [List.map_cons,List.nodup_cons] at hn;rcases List.mem_cons.1 he with rfl | he
   . exact ⟨⟨key e.2.1,y,e.1⟩,by simp,rfl,h1⟩
   . obtain ⟨y',q1,q2⟩:=ih r h2 he hn.2;refine ⟨y',?_,q2⟩;have:x.1≠e.1:=λhx=>hn.1 (hx ▸ List.mem_map.2 ⟨e,he,rfl⟩);simp [this,q1]
 obtain ⟨y,f1,f2,f3⟩:=hfind L ys.toList g2 he hn;have f1':ys.find? (·.born == e.1)=some y:=by rw [<- Array.find?_toList];exact f1
 have hrun:(Instr.entry (.pointer (some ⟨E.β q,0,none⟩))).run P w = .ok (.tuple #[y.key,y.val]) w:=by
  have:(seen ++ [e.1]).toArray.back? = some e.1:=by simp
  simp only [Instr.entry,Sem.run_bind,Yn hit rfl,Yn g1 rfl,Result.andThen_ok,this,bne_self_eq_false,Bool.false_eq_true,if_false,f1',Sem.run_pure]
 have hx:(execOp a.eval o).run P w = .ok (.value (.tuple #[y.key,y.val])) w:=by
  obtain ⟨dst',op',ty',pos,after,guard⟩:=o;simp only at e2;subst e2;simp only [execOp,Sem.run_bind,hmv.2,hrun,Result.andThen_ok,Sem.run_pure]
 refine ZC hx (by simp) ?_;show next (a.put o.dst _) _;rw [e1];refine Xy hk hS ?_ hnx;simp only [R,RL];exact ⟨_,rfl,_,_,rfl,(hK.svR _ _).2 f2,_,_,rfl,f3,rfl⟩
end
section
variable {K V:Type} [DecidableEq K] {k k':K} {v:V} {c:Nat} {L:List (Nat × K × V)}
structure MW (L:List (Nat × K × V)) (c:Nat):Prop where
 bn:(L.map (·.1)).Nodup
 bl:∀ e ∈ L,e.1 < c
 kn:(L.map (·.2.1)).Nodup
omit [DecidableEq K] in
theorem MW.nil {c:Nat}:MW ([]:List (Nat × K × V)) c:=⟨List.nodup_nil,(λe h=>by cases h),List.nodup_nil⟩
theorem Zhc:∀ {L:List (Nat × K × V)},Xk k L=some v->∃ b,(b,k,v) ∈ L
 | [],h=>by cases h
 | e :: l,h=>by
  simp only [Xk] at h;split at h
  . rename_i hk;cases h;subst hk;exact ⟨e.1,by simp⟩
  . obtain ⟨b,hb⟩:=Zhc h;exact ⟨b,by simp [hb]⟩
theorem Y5:∀ {L:List (Nat × K × V)},Xk k L=none↔∀ e ∈ L,e.2.1≠k
 | []=>by simp [Xk]
 | e :: l=>by
  simp only [Xk];split
  . rename_i hk;simp [hk]
  . rename_i hk;rw [Y5];simp [hk]
theorem ZlE:∀ {L:List (Nat × K × V)} {e:Nat × K × V},(L.map (·.2.1)).Nodup->e ∈ L->Xk e.2.1 L=some e.2.2
 | x :: l,e,hn,he=>by
  simp only [List.map_cons,List.nodup_cons] at hn;simp only [Xk];rcases List.mem_cons.1 he with rfl | he
  . simp
  . rw [if_neg (λhx:x.2.1=e.2.1=>hn.1 (by rw [hx];exact List.mem_map.2 ⟨e,he,rfl⟩))];exact ZlE hn.2 he
theorem Zbe:∀ {L:List (Nat × K × V)},Xk k' (V7 c k v L)=if k'=k then some v else Xk k' L
 | []=>by simp only [V7,Xk];by_cases h:k=k'<;>simp [h,eq_comm]
 | e :: l=>by
  simp only [V7];by_cases he:e.2.1=k
  . rw [if_pos he];simp only [Xk];by_cases hk:k=k'
    . subst hk;simp
    . rw [if_neg hk,if_neg (λh=>hk h.symm),if_neg (λh=>hk (he.symm.trans h))]
  . rw [if_neg he];simp only [Xk];by_cases hk:e.2.1=k'
    . rw [if_pos hk,if_neg (λh=>he (hk.trans h)),if_pos hk]
    . rw [if_neg hk,if_neg hk,Zbe]
theorem UA:∀ {L:List (Nat × K × V)},Xk k L=none->V7 c k v L=L ++ [(c,k,v)]
 | [],_=>rfl
 | e :: l,h=>by
  simp only [Xk] at h;split at h
  . cases h
  . rename_i he;simp only [V7,if_neg he,UA h,List.cons_append]
theorem Zhb:∀ {L:List (Nat × K × V)},(Xk k L).isSome->(V7 c k v L).map (λe=>(e.1,e.2.1))=L.map λe=>(e.1,e.2.1)
 | [],h=>by simp [Xk] at h
 | e :: l,h=>by
  simp only [Xk] at h;simp only [V7];split
  . rename_i he;simp [he]
  . rename_i he;rw [if_neg he] at h;simp [Zhb h]
theorem MW.set (h:MW L c) (v:V):MW (V7 c k v L) (ZaS c k L):=by
 cases hg:Xk k L with
 | none =>
  have hc:ZaS c k L=c+1:=by simp [ZaS,hg]
  rw [UA hg,hc];have hk:=Y5.1 hg;refine ⟨?_,λe he=>?_,?_⟩
  . rw [List.map_append,List.nodup_append];refine ⟨h.bn,by simp,λa ha b hb=>?_⟩;obtain ⟨e,he,rfl⟩:=List.mem_map.1 ha;simp only [List.map_cons,List.map_nil,List.mem_singleton] at hb;have:=h.bl e he;omega
  . rcases List.mem_append.1 he with he | he
    . have:=h.bl e he;omega
    . simp only [List.mem_singleton] at he;subst he;simp
  . rw [List.map_append,List.nodup_append];refine ⟨h.kn,by simp,λa ha b hb=>?_⟩;obtain ⟨e,he,rfl⟩:=List.mem_map.1 ha;simp only [List.map_cons,List.map_nil,List.mem_singleton] at hb;rw [hb];exact hk e he
 | some v0 =>
  have hc:ZaS c k L=c:=by simp [ZaS,hg]
  have hm:=Zhb (c:=c) (v:=v) (k:=k) (L:=L) (by rw [hg];rfl);have e1:(V7 c k v L).map (·.1)=L.map (·.1):=by
   have:=congrArg (List.map Prod.fst) hm;simpa [List.map_map,Function.comp_def] using this
  have e2:(V7 c k v L).map (·.2.1)=L.map (·.2.1):=by
   have:=congrArg (List.map Prod.snd) hm;simpa [List.map_map,Function.comp_def] using this
  rw [hc];refine ⟨by rw [e1];exact h.bn,λe he=>?_,by rw [e2];exact h.kn⟩;have:e.1 ∈ L.map (·.1):=by rw [<- e1];exact List.mem_map.2 ⟨e,he,rfl⟩
  obtain ⟨x,hx,hxe⟩:=List.mem_map.1 this;rw [<- hxe];exact h.bl x hx
theorem U0:∀ {L:List (Nat × K × V)},(U1 k L).Sublist L
 | []=>.slnil
 | e :: l=>by
  simp only [U1];split
  . exact List.sublist_cons_self _ _
  . exact U0.cons_cons _
theorem MW.del (h:MW L c):MW (U1 k L) c:=⟨(U0.map _).nodup h.bn,λe he=>h.bl e (U0.subset he),(U0.map _).nodup h.kn⟩
theorem Zgq:∀ {L:List (Nat × K × V)},(L.map (·.2.1)).Nodup->Xk k' (U1 k L)=if k'=k then none else Xk k' L
 | [],_=>by simp [U1,Xk]
 | e :: l,hn=>by
  simp only [List.map_cons,List.nodup_cons] at hn;simp only [U1];by_cases he:e.2.1=k
  . rw [if_pos he];by_cases hk:k'=k
    . rw [if_pos hk,Y5];intro x hx hxe;exact hn.1 (by rw [he,<- hk,<- hxe];exact List.mem_map.2 ⟨x,hx,rfl⟩)
    . rw [if_neg hk];simp only [Xk];rw [if_neg (λh=>hk (h.symm.trans he))]
  . rw [if_neg he];simp only [Xk];by_cases hk:e.2.1=k'
    . rw [if_pos hk,if_pos hk,if_neg (λh=>he (hk.trans h))]
    . rw [if_neg hk,if_neg hk,Zgq hn.2]
theorem Zgp:∀ {L:List (Nat × K × V)},(Xk k L).isSome->(U1 k L).length+1=L.length
 | [],h=>by simp [Xk] at h
 | e :: l,h=>by
  simp only [Xk] at h;simp only [U1];split
  . simp
  . rename_i he;rw [if_neg he] at h;simp [Zgp h]
omit [DecidableEq K] in
theorem ZD {key:K->Value} {val:V->SV}:(∀ e ∈ mpS key val L,KF e.2.2)↔∀ v ∈ L.map (·.2.2),KF (val v):=by
 simp only [mpS,List.mem_map];exact ⟨λh v ⟨e,he,hv⟩=>hv ▸ h _ ⟨e,he,rfl⟩,λh _ ⟨e,he,hx⟩=>hx ▸ h _ ⟨e,he,rfl⟩⟩
omit [DecidableEq K] in
theorem Zt {key:K->Value} {val:V->SV}:(∀ (a:Nat) (b:Value) (c:SV),(a,b,c) ∈ mpS key val L->KF c)↔∀ v ∈ L.map (·.2.2),KF (val v):=by
 rw [<- ZD (key:=key)];exact ⟨λh e he=>h e.1 e.2.1 e.2.2 he,λh a b c he=>h _ he⟩
def Zrt (L:List (Nat × K × V)) (seen:List Nat):Nat:=(L.filter λe=>!seen.contains e.1).length
omit [DecidableEq K] in
theorem ZrJ {e:Nat × K × V} {seen:List Nat} (he:e ∈ L) (hs:e.1 ∉ seen):Zrt L (seen ++ [e.1]) < Zrt L seen:=by
 unfold Zrt;have hsub:(L.filter λx=>!(seen ++ [e.1]).contains x.1)=(L.filter λx=>!seen.contains x.1).filter λx=>!(x.1 == e.1):=by
  rw [List.filter_filter];congr 1;funext x;simp only [List.contains_append,Bool.not_or];rw [Bool.and_comm];congr 1;simp only [List.contains_cons,List.contains_nil,Bool.or_false]
 rw [hsub];refine Nat.lt_of_le_of_ne (List.length_filter_le _ _) λh=>?_;have:=List.length_filter_eq_length_iff.1 h e (by simp [he,hs]);simp at this
end
end Go.Sx
namespace Go.Sx
open Go Go.RowKit
def ZcZ (s s':SV):Prop:=∀ (w:World) (E:Env) (n ok:Nat->Prop) (y:Value),R w E n ok s y->R w E n ok s' y
theorem ZcZ.rfl {s:SV}:ZcZ s s:=λ_ _ _ _ _ h=>h
theorem YP {c:Bool} {m:Nat}:ZcZ (.v (.slice none 0 0)) (.sl c m []):=λw E n ok y h=>by
 simp only [R] at h ⊢;exact ⟨none,0,0,h,by simp,⟨Nat.le_refl _,λ_=>Eq.refl _⟩,by simp,by simp⟩
theorem Zho {c:Bool} {m:Nat} {xs:Rr}:ZcZ (.sl c m xs) (.sl false m xs):=λw E n ok y h=>by
 simp only [R] at h ⊢;obtain ⟨a,len,cap,h1,h2,h3,h4,h5⟩:=h;exact ⟨a,len,cap,h1,h2,⟨h3.1,λh=>by cases h⟩,h4,h5⟩
theorem VR {l l':Ls} (h:∀ (w:World) (E:Env) (n ok:Nat->Prop) (ys:LZ),RL w E n ok l ys->RL w E n ok l' ys):ZcZ (.tup l) (.tup l'):=λw E n ok y hy=>by
 simp only [R] at hy ⊢;obtain ⟨cs,h1,h2⟩:=hy;exact ⟨cs,h1,h _ _ _ _ _ h2⟩
theorem ZH {s s':SV} {l l':Ls} (h1:ZcZ s s') (h2:∀ (w:World) (E:Env) (n ok:Nat->Prop) (ys:LZ),RL w E n ok l ys->RL w E n ok l' ys):∀ (w:World) (E:Env) (n ok:Nat->Prop) (ys:LZ),RL w E n ok (s :: l) ys->RL w E n ok (s' :: l') ys:=λw E n ok ys h=>by
 simp only [RL] at h ⊢;obtain ⟨y,r,q1,q2,q3⟩:=h;exact ⟨y,r,q1,h1 _ _ _ _ _ q2,h2 _ _ _ _ _ q3⟩
def ZB9 (rs:List RV) (res:SV):Ex->St->Prop
 | .ex _,_=>False
 | .n,σ=>∃ s,rvR rs σ = some s/\ZcZ s res
 | .ret,σ=>∃ s,rvR rs σ = some s/\ZcZ s res
 | .pan _,_=>False
theorem ZCX (rs:List RV) (res:SV) (σ : St):ZB9 rs res .n σ = ∃ s,rvR rs σ = some s/\ZcZ s res:=rfl
theorem Zql (rs:List RV) (res:SV) (σ : St):ZB9 rs res .ret σ = ∃ s,rvR rs σ = some s/\ZcZ s res:=rfl
attribute [go_sem] ZCX Zql
section
variable {P:Program}
theorem ZeD {f:FuncId} {fn:Func} {code:Code} {ir:SC} {args:Ls} {res:SV} {rs:List RV} {N:Nat} (hf:P.funcs[f]? = some fn) (hb:fn.body=some code) (hnm:Z4 P f=true) (hc:YR P ir code=true)
 (hr:Y2 P rs fn.results.toList=true) (hN:fn.ntmps=N) (hA:args.length<=N) (ka:KFL args) (kr:KF res) (h:sx P Y0 0 ir (st0 args N) (ZB9 rs res)):Ct P f args res:=by
 refine ⟨hnm,ka,kr,λw ok vs hGS hR=>?_⟩
 let C:Cx:=⟨w,ok,λ_ _=>False,[],none,E0,0,hGS,λ_ _ _ _ h=>h⟩
 have hok:∀ b,ok b->okS C E0 [] b:=λb hb=>⟨.inl hb,λ_ h=>h⟩;refine Zaw (C:=C) (E:=E0) (hp0:=[]) (n0:=0) hf hb hc hN hA rfl rfl ⟨Nat.le_refl _,λ_ _ h=>h.elim⟩
  ⟨λk _=>rfl,λk=>trivial,λk k' b h=>h.elim,λk b h=>h.elim,⟨rfl,rfl,rfl,Nat.le_refl _,λ_ _ _=>rfl⟩,λk hk=>absurd hk (Nat.not_lt_zero k)⟩
  (ZL (λb hb _=>⟨hok b hb,rfl⟩) (λ_ h=>Ele.rfl) (λ_ h=>h.elim) _ _ hR) Zcd h λe σ hk C' E a w' c1 c2 c3 c4 c5 hs=>?_
 have hpass:∀ k b,¬ C'.pass k b:=λk b=>by rw [c3];exact λh=>h
 have hend:(∃ s,rvR rs σ = some s/\ZcZ s res)->∃ v,(results fn a.tmps).run P w' = .ok v w'/\∃ y,Ending.returned v = .returned y/\R w' E0 (λ_=>False) (λb=>ok b\/w.heap.size<=b) res y/\Below w.heap.size w w':=λ⟨s,hrr,hw⟩=>by
  obtain ⟨v,h1,h2⟩:=UL (P:=P) (fn:=fn) (a:=a) (w:=w') (E:=E) (n:=ltn σ.n) (ok:=okF C') hrr λl hl=>Zlz hs hpass rs _ l hr hl;have hkp:=hs.hs.kp;have e1:okF C'=λb=>ok b\/w.heap.size<=b:=by funext b;simp only [okF,c1,c2];rfl
  rw [e1] at h2;have e0:C'.w0=w:=c1;refine ⟨v,h1,v,rfl,Zje res v kr (hw _ _ _ _ _ h2),?_⟩;have q:=hkp;exact ⟨by rw [<- e0];exact q.os,by rw [<- e0];exact q.tape,by rw [<- e0];exact q.output,by rw [<- e0];exact q.size,λb hb=>by rw [<- e0];exact q.block b (by rw [e0];exact hb) (λk=>hpass k b)⟩
 cases e with
 | ex i=>exact hk.elim
 | pan s=>exact hk.elim
 | n=>exact hend hk
 | ret=>exact hend hk
end
theorem Ct.args {P:Program} {f:FuncId} {args args0:Ls} {res:SV} (h:Ct P f args res) (ka:KFL args0) (hw:∀ (w:World) (E:Env) (n ok:Nat->Prop) (ys:LZ),RL w E n ok args0 ys->RL w E n ok args ys):Ct P f args0 res :=
 ⟨h.1,ka,h.3,λw ok vs hG hR=>h.4 w ok vs hG (hw _ _ _ _ _ hR)⟩
inductive FB where
 | tail (c:SC)
 | seq (a:SC) (b:FB)
 | dfr (ops:List Ins) (mx kx:X) (t:TypeId) (b:FB)
 | rcv (ops:List Ins) (cx:X) (b:FB)
def ZBz (mx kx:X) (t:TypeId) (o:Oper):Bool :=
 match o.op,o.dst,o.guard with
 | .defer c,none,none=>(match c.callee with | .builtin .delete=>true | _=>false) && (match c.args.toList with | [m,k]=>Xb mx m && Xb kx k | _=>false) && (match c.argTypes[0]? with | some u=>u == t | none=>false)
 | _,_,_=>false
def Zup (cx:X) (o:Oper):Bool :=
 match o.op,o.dst,o.guard with
 | .defer c,none,none=>(match c.callee with | .value y=>Xb cx y | _=>false) && c.args.isEmpty
 | _,_,_=>false
def U9 (P:Program):FB->Code->Bool
 | .tail c,code=>YR P c code
 | .seq a b,code=>(match code with | .seq x y=>YR P a x && U9 P b y | _=>false)
 | .dfr ops mx kx t b,code=>(match code with
  | .seq (.region _ os false) y=>ZaQ P os ops (os.toList.take ops.length) && (match os.toList.drop ops.length with | [o]=>ZBz mx kx t o | _=>false) && U9 P b y
  | _=>false)
 | .rcv ops cx b,code=>(match code with
  | .seq (.region _ os false) y=>ZaQ P os ops (os.toList.take ops.length) && (match os.toList.drop ops.length with | [o]=>Zup cx o | _=>false) && U9 P b y
  | _=>false)
def Zw7 (P:Program) (t:TypeId) (kv:Value) (hb hb':HB):Prop :=
 ∃ (K V:Type) (_:DecidableEq K) (key:K->Value) (val:V->SV) (sv:K->SV) (L:List (Nat × K × V)) (k:K) (kt et:TypeId) (c:Nat),
  hb = .map (mpS key val L) c/\hb' = .map (mpS key val (U1 k L)) c/\kv=key k/\P.underlying t=some (.map kt et)/\KeyT P kt key sv
theorem delR {P:Program} {K V:Type} [DecidableEq K] {t:TypeId} {key:K->Value} {val:V->SV} {sv:K->SV} {L:List (Nat × K × V)} {k:K} {c:Nat} {kt et:TypeId} (ht:P.underlying t=some (.map kt et)) (hK:KeyT P kt key sv) :
 Zw7 P t (key k) (.map (mpS key val L) c) (.map (mpS key val (U1 k L)) c):=⟨K,V,inferInstance,key,val,sv,L,k,kt,et,c,rfl,rfl,rfl,ht,hK⟩
def dK (P:Program) (t:TypeId) (km:Nat) (kv:Value) (K:Ex->St->Prop):Ex->St->Prop
 | .n,σ=>∃ hb',Zw7 P t kv (lkh km σ.hp) hb'/\K .n ⟨σ.fr,(km,hb') :: σ.hp,σ.n,σ.N,σ.gs⟩
 | .ret,σ=>∃ hb',Zw7 P t kv (lkh km σ.hp) hb'/\K .ret ⟨σ.fr,(km,hb') :: σ.hp,σ.n,σ.N,σ.gs⟩
 | _,_=>False
def fxS (f:St->(Ex->St->Prop)->Prop) (K:Ex->St->Prop):Ex->St->Prop
 | .n,σ=>f σ K
 | .ex _,_=>False
 | .ret,σ=>K .ret σ
 | .pan s,σ=>K (.pan s) σ
def mpO:SV->Option Nat
 | .mp k=>some k
 | _=>none
def vO:SV->Option Value
 | .v x=>some x
 | _=>none
def ZDx (P:Program) (t:TypeId) (f:Nat->St->(Ex->St->Prop)->Prop) (km:Option Nat) (kv:Option Value) (σ : St) (K:Ex->St->Prop):Prop :=
 match km,kv with
 | some km,some kv=>Nat.blt km σ.n=true/\f σ.n σ (dK P t km kv K)
 | _,_=>False
def ZoP (t:Nat) (o:Oper):Bool :=
 match o.op,o.dst,o.guard with
 | .call c,some u,none=>u == t && (match c.callee with | .builtin .recover=>true | _=>false) && c.args.isEmpty
 | _,_,_=>false
structure RcF (P:Program) (g:FuncId) (t:Nat) (l:List Ins) (c:SC) (N:Nat):Prop where
 ex:∃ fn id os y0 o1,P.funcs[g]? = some fn/\fn.body=some (.seq (.region id os false) y0)/\os[0]? = some o1/\ZoP t o1=true/\ZaQ P os l (os.toList.drop 1)=true/\YR P c y0=true/\fn.ntmps=N/\t < N/\fn.results = #[]
 bd:Z4 P g=true
def rcK (σ : St) (k:St->Prop):Ex->St->Prop
 | .n,σ'=>k ⟨σ.fr,σ'.hp,σ'.n,σ.N,σ.gs⟩
 | .ret,σ'=>k ⟨σ.fr,σ'.hp,σ'.n,σ.N,σ.gs⟩
 | _,_=>False
def rcR (P:Program) (t:Nat) (l:List Ins) (c:SC) (N:Nat) (caps:Ls) (s:SV) (σ : St) (k:St->Prop):Prop :=
 Nat.ble caps.length N=true/\rx P Y0 l ⟨(t,s) :: YT 0 caps,σ.hp,σ.n,N,[]⟩ (Zd3 (fxS (λσ' K=>sx P Y0 σ.n c σ' K) (rcK σ k)))
def ZA6 (P:Program) (f:Nat->St->(Ex->St->Prop)->Prop) (rk:FuncId->Ls->Ex->St->Prop) (s:SV) (σ : St):Prop :=
 match s with
 | .cl g caps=>f σ.n σ (rk g caps)
 | _=>False
def rK (P:Program) (K:Ex->St->Prop) (g:FuncId) (caps:Ls):Ex->St->Prop
 | .n,σ=>∃ t l c N,RcF P g t l c N/\rcR P t l c N caps (.v .nilIface) σ (K .n)
 | .ret,σ=>∃ t l c N,RcF P g t l c N/\rcR P t l c N caps (.v .nilIface) σ (K .ret)
 | .pan s,σ=>∃ t l c N,RcF P g t l c N/\rcR P t l c N caps s σ (K .ret)
 | .ex _,_=>False
def fx (P:Program):Nat->FB->St->(Ex->St->Prop)->Prop
 | m,.tail c,σ,K=>sx P Y0 m c σ K
 | m,.seq a b,σ,K=>sx P Y0 m a σ (fxS (fx P m b) K)
 | _,.dfr ops mx kx t b,σ,K=>rx P Y0 ops σ (Zd3 (fxS (λσ K=>ZDx P t (λn=>fx P n b) (mpO (rdG none σ.fr mx)) (vO (rdG none σ.fr kx)) σ K) K))
 | _,.rcv ops cx b,σ,K=>rx P Y0 ops σ (Zd3 (fxS (λσ K=>ZA6 P (λn=>fx P n b) (rK P K) (rdG none σ.fr cx) σ) K))
theorem Zyr (P:Program) (m:Nat) (c:SC) (σ : St) (K:Ex->St->Prop):fx P m (.tail c) σ K=sx P Y0 m c σ K:=rfl
theorem ZDG (P:Program) (m:Nat) (a:SC) (b:FB) (σ : St) (K:Ex->St->Prop):fx P m (.seq a b) σ K=sx P Y0 m a σ (fxS (fx P m b) K):=rfl
theorem ZB3 (P:Program) (m:Nat) (ops:List Ins) (mx kx:X) (t:TypeId) (b:FB) (σ : St) (K:Ex->St->Prop):fx P m (.dfr ops mx kx t b) σ K=rx P Y0 ops σ (Zd3 (fxS (λσ K=>ZDx P t (λn=>fx P n b) (mpO (rdG none σ.fr mx)) (vO (rdG none σ.fr kx)) σ K) K)):=rfl
theorem ZDB (P:Program) (m:Nat) (ops:List Ins) (cx:X) (b:FB) (σ : St) (K:Ex->St->Prop):fx P m (.rcv ops cx b) σ K=rx P Y0 ops σ (Zd3 (fxS (λσ K=>ZA6 P (λn=>fx P n b) (rK P K) (rdG none σ.fr cx) σ) K)):=rfl
theorem ZyU (P:Program) (f:Nat->St->(Ex->St->Prop)->Prop) (rk:FuncId->Ls->Ex->St->Prop) (g:FuncId) (caps:Ls) (σ : St):ZA6 P f rk (.cl g caps) σ = f σ.n σ (rk g caps):=rfl
theorem rK_n (P:Program) (K:Ex->St->Prop) (g:FuncId) (caps:Ls) (σ : St):rK P K g caps .n σ = ∃ t l c N,RcF P g t l c N/\rcR P t l c N caps (.v .nilIface) σ (K .n):=rfl
theorem ZA2 (P:Program) (K:Ex->St->Prop) (g:FuncId) (caps:Ls) (σ : St):rK P K g caps .ret σ = ∃ t l c N,RcF P g t l c N/\rcR P t l c N caps (.v .nilIface) σ (K .ret):=rfl
theorem ZBM (P:Program) (K:Ex->St->Prop) (g:FuncId) (caps:Ls) (s:SV) (σ : St):rK P K g caps (.pan s) σ = ∃ t l c N,RcF P g t l c N/\rcR P t l c N caps s σ (K .ret):=rfl
theorem e_rcR (P:Program) (t:Nat) (l:List Ins) (c:SC) (N:Nat) (caps:Ls) (s:SV) (σ : St) (k:St->Prop):rcR P t l c N caps s σ k=(Nat.ble caps.length N=true/\rx P Y0 l ⟨(t,s) :: YT 0 caps,σ.hp,σ.n,N,[]⟩ (Zd3 (fxS (λσ' K=>sx P Y0 σ.n c σ' K) (rcK σ k)))):=rfl
theorem rcK_n (σ : St) (k:St->Prop) (σ':St):rcK σ k .n σ'=k ⟨σ.fr,σ'.hp,σ'.n,σ.N,σ.gs⟩:=rfl
theorem Zyt (σ : St) (k:St->Prop) (σ':St):rcK σ k .ret σ'=k ⟨σ.fr,σ'.hp,σ'.n,σ.N,σ.gs⟩:=rfl
attribute [go_sem] ZDB ZyU rK_n ZA2 ZBM e_rcR rcK_n Zyt
theorem fxS_n (f:St->(Ex->St->Prop)->Prop) (K:Ex->St->Prop) (σ : St):fxS f K .n σ = f σ K:=rfl
theorem ZvS (f:St->(Ex->St->Prop)->Prop) (K:Ex->St->Prop) (σ : St):fxS f K .ret σ = K .ret σ:=rfl
theorem ZCb (P:Program) (t:TypeId) (f:Nat->St->(Ex->St->Prop)->Prop) (km:Nat) (kv:Value) (σ : St) (K:Ex->St->Prop):ZDx P t f (some km) (some kv) σ K=(Nat.blt km σ.n=true/\f σ.n σ (dK P t km kv K)):=rfl
theorem ZA0 (k:Nat):mpO (.mp k)=some k:=rfl
theorem vO_v (x:Value):vO (.v x)=some x:=rfl
theorem dK_n (P:Program) (t:TypeId) (km:Nat) (kv:Value) (K:Ex->St->Prop) (σ : St):dK P t km kv K .n σ = ∃ hb',Zw7 P t kv (lkh km σ.hp) hb'/\K .n ⟨σ.fr,(km,hb') :: σ.hp,σ.n,σ.N,σ.gs⟩:=rfl
theorem ZA3 (P:Program) (t:TypeId) (km:Nat) (kv:Value) (K:Ex->St->Prop) (σ : St):dK P t km kv K .ret σ = ∃ hb',Zw7 P t kv (lkh km σ.hp) hb'/\K .ret ⟨σ.fr,(km,hb') :: σ.hp,σ.n,σ.N,σ.gs⟩:=rfl
attribute [go_sem] Zyr ZDG ZB3 fxS_n ZvS ZCb ZA0 vO_v dK_n ZA3
section
variable {P:Program}
theorem ZjJ {C:Cx} {Y:Hd} (hY:Zdg P C Y) {ops:Array Oper} {Q:Exit->Act->World->Prop} {K:RK} {os2:List Oper} (hn:∀ σ E a w,K .n σ->Sim C E σ a w->UG C.rd P ops Q os2 a w)
 (hp:∀ s σ' E a w y,K (.pan s) σ'->Sim C E σ' a w->R w E (ltn σ'.n) (okS C E σ'.hp) s y->Q (.panic [{ v:=y,recovered:=false }]) a w):∀ (l:List Ins) (os:List Oper),ZaQ P ops l os=true ->
 ∀ (σ : St) E a w,rx P Y l σ K->Sim C E σ a w->UG C.rd P ops Q (os ++ os2) a w
 | [],[],_,σ,E,a,w,hr,h=>hn σ E a w hr h
 | io :: l,o :: os,hc,σ,E,a,w,hr,h=>by
  simp only [ZaQ,Bool.and_eq_true] at hc;have ih:=ZjJ hY hn hp l os hc.2;exact Zcs (next:=UG C.rd P ops Q (os ++ os2)) hc.1 hr h (λσ' E' a' w' h1 h2=>ih σ' E' a' w' h1 h2) (λs σ' E' w' y h1 h2 h3=>hp s σ' E' a w' y h1 h2 h3) hY
 | [],_ :: _,h,_,_,_,_,_,_=>by simp [ZaQ] at h
 | _ :: _,[],h,_,_,_,_,_,_=>by simp [ZaQ] at h
theorem Zzc {C:Cx} {E:Env} {σ : St} {a:Act} {w:World} (h:Sim C E σ a w) {t:TypeId} {km:Nat} {kv:Value} {hb':HB} {ats:Array TypeId} {ty:TypeId} {cc:Array Bool} (ha:ats[0]? = some t) (hd:Zw7 P t kv (lkh km σ.hp) hb') :
 ∃ x w',(invoke (.builtin .delete ats ty cc) #[.map (some (E.β km)),kv]).run P w = .ok (.value x) w'/\Sim C E ⟨σ.fr,(km,hb') :: σ.hp,σ.n,σ.N,σ.gs⟩ a w'/\ZM w w' (okS C E σ.hp) (okS C E ((km,hb') :: σ.hp)):=by
 obtain ⟨K,V,_,key,val,sv,L,k,kt,et,c,hh,rfl,rfl,ht,hK⟩:=hd;obtain ⟨g0,ys,g1,g2⟩:=ZaE h hh;have hfn:=λw=>hK.fnd k _ _ w (Zaz g2);have hex:∀ w',(Builtin.delete_ ats ty #[.map (some (E.β km)),key k]).run P w = .ok (.tuple #[]) w'->(invoke (.builtin .delete ats ty cc) #[.map (some (E.β km)),key k]).run P w = .ok (.value (.tuple #[])) w':=λw' hy=>by
  simp [invoke,builtin,hy]
 have hfin:∀ ys':Array MapEntry,(∀ {w':World} {ok':Nat->Prop},RM w' E (ltn σ.n) ok' (mpS key val L) ys.toList->RM w' E (ltn σ.n) ok' (mpS key val (U1 k L)) ys'.toList) ->
  Sim C E ⟨σ.fr,(km,.map (mpS key val (U1 k L)) c) :: σ.hp,σ.n,σ.N,σ.gs⟩ a (Ul w (E.β km) (.map ys' c))/\ZM w (Ul w (E.β km) (.map ys' c)) (okS C E σ.hp) (okS C E ((km,.map (mpS key val (U1 k L)) c) :: σ.hp)):=λys' hRM=>by
  obtain ⟨q1,q2⟩:=Vf (k:=km) (hb:=.map (mpS key val (U1 k L)) c) (o:=.map ys' c) h.hs (λb=>by rw [hh];simp only [occ]) (λb=>by simp only [occ]) (λhlt hst=>by
   simp only [Yr]
   exact ⟨ys',Wd hlt,hRM (Uk hst.c (λ_ _=>Ele.rfl) (λ_ h=>h) _ _ g2)⟩)
  exact ⟨YJ h q2 (λ_ _=>Ele.rfl) (Nat.le_refl _) q1,q2⟩
 rcases Zau (w:=w) (E:=E) (n:=ltn σ.n) (ok:=okS C E σ.hp) k L ys.toList 0 g2 with ⟨a1,a2,a3,-⟩ | ⟨j,v0,e,b1,b2,b3,b4,b5,b6⟩
 . have hrun:(Builtin.delete_ ats ty #[.map (some (E.β km)),key k]).run P w = .ok (.tuple #[]) (Ul w (E.β km) (.map ys c)):=by
    simp [Builtin.delete_,Sem.run_bind,ha,run_underlying ht,Result.andThen_ok,Yn g1 rfl,Sem.run_pure,hK.chk,hfn,a2,Y6 _ g1 rfl]
   exact ⟨_,_,hex _ hrun,hfin _ λh1=>by rw [a3];exact h1⟩
 . rw [Nat.zero_add] at b2;have hlt:j < ys.size:=by
    have:ys[j]? = some e:=by simpa using b3
    exact (Array.getElem?_eq_some_iff.1 this).1
   have hrun:(Builtin.delete_ ats ty #[.map (some (E.β km)),key k]).run P w = .ok (.tuple #[]) (Ul w (E.β km) (.map (ys.eraseIdxIfInBounds j) c)):=by
    simp [Builtin.delete_,Sem.run_bind,ha,run_underlying ht,Result.andThen_ok,Yn g1 rfl,Sem.run_pure,hK.chk,hfn,b2,Y6 _ g1 rfl]
   exact ⟨_,_,hex _ hrun,hfin _ λ{w' ok'} h1=>by
    have:(ys.eraseIdxIfInBounds j).toList=ys.toList.eraseIdx j:=by simp [Array.eraseIdxIfInBounds,hlt]
    rw [this];exact (b6 h1).1⟩
theorem Zfw {C C':Cx} {E E':Env} {σ σ':St} {a a':Act} {w w':World} (h:Sim C E σ a w) (h':Sim C' E' σ' a' w') (c1:C'.w0=w) (c2:C'.okp=okS C E σ.hp) (c3:C'.pass=λk b=>occ E k (lkh k σ.hp) b) (c4:C'.e0=E) (c5:C'.m0 = σ.n) (hm:C.m0<=σ.n) :
 Sim { C with ds:=a'.defers } E' σ' a' w':=by
 have hok:∀ b,okS C' E' σ'.hp b->okS C E' σ'.hp b:=λb hb=>by
  obtain ⟨g1,g2⟩:=hb;refine ⟨?_,g2⟩;rw [c1,c2] at g1;rcases g1 with g1 | g1
  . exact g1.1
  . exact .inr (Nat.le_trans h.hs.kp.size g1)
 have hst:Xh w' w' (okS C' E' σ'.hp) (okS C E' σ'.hp):=λb hb _=>⟨hok b hb,rfl⟩;refine ⟨λt=>?_,h'.sz,ZaC,h'.gs,⟨h'.hs.kn,λk=>?_,h'.hs.dj,λk b ho=>?_,⟨?_,?_,?_,?_,λb h1 h2=>?_⟩,λk hk=>?_⟩⟩
 . have:=h'.fr t;cases hq:lk t σ'.fr<;>rw [hq] at this<;>try exact ZV hst (λ_ _=>Ele.rfl) (λ_ h=>h) _ _ this
   exact ⟨λhg=>ZV hst (λ_ _=>Ele.rfl) (λ_ h=>h) _ _ (this.1 hg),this.2⟩
 . refine XX hst (λ_ _=>Ele.rfl) (λ_ h=>h) ?_ (λb ho=>rfl) rfl (h'.hs.bk k);rcases Classical.em (ltn σ'.n k) with hk | hk
   . exact .inr hk
   . exact .inl (h'.hs.kn k hk)
 . rcases h'.hs.lo k b ho with g | g
   . rw [c1] at g;exact .inl (Nat.le_trans h.hs.kp.size g)
   . rw [c3] at g;exact h.hs.lo k b g
 . have:=h'.hs.kp.os;rw [c1] at this;exact this.trans h.hs.kp.os
 . have:=h'.hs.kp.tape;rw [c1] at this;exact this.trans h.hs.kp.tape
 . have:=h'.hs.kp.output;rw [c1] at this;exact this.trans h.hs.kp.output
 . have:=h'.hs.kp.size;rw [c1] at this;exact Nat.le_trans h.hs.kp.size this
 . have h1':b < C.w0.heap.size:=h1;have h2':∀ k,¬ C.pass k b:=h2
   have hb:=h'.hs.kp.block b (by rw [c1];exact Nat.lt_of_lt_of_le h1' h.hs.kp.size) (λk hk=>by
    rw [c3] at hk;rcases h.hs.lo k b hk with g | g
    . exact absurd h1' (Nat.not_lt.2 g)
    . exact h2' k g)
   rw [c1] at hb;exact hb.trans (h.hs.kp.block b h1' h2')
 . have hk':k < C.m0:=hk;have p1:=h.hs.pin k hk';have p2:=h'.hs.pin k (by rw [c5];exact Nat.lt_of_lt_of_le hk' hm);rw [c4] at p2;exact ⟨p2.1,p1.2.trans p2.2⟩
theorem Wp {fn:Func} {R':Ending->World->Prop} {C:Cx} {K:Ex->St->Prop}
 (hK:∀ e σ',K e σ'->∀ (C':Cx) E' a' w',C'.w0=C.w0->C'.okp=C.okp->C'.pass=C.pass->C'.e0=C.e0->C'.m0=C.m0->Sim C' E' σ' a' w'->match e with
  | .n | .ret=>Lv P fn a'.tmps R' C.ds .returning w'
  | .ex _=>False
  | .pan s=>∀ y,R w' E' (ltn σ'.n) (okS C' E' σ'.hp) s y->Lv P fn a'.tmps R' C.ds (.panicking [{ v:=y,recovered:=false }]) w')
 (e:Ex) (σ':St) (hk:K e σ') (E':Env) (a':Act) (w':World) (hs:Sim C E' σ' a' w'):ExQ C (YD P fn R') e σ' E' a' w':=by
 obtain ⟨ms,d1,d2,d3⟩:=hs.df;have key:=hK e σ' hk;cases e with
 | ex i=>exact (key C E' a' w' rfl rfl rfl rfl rfl hs).elim
 | n =>
  show Lv P fn a'.tmps R' a'.defers .returning w';rw [d1];refine XR ms _ _ (by simp) d2.1 (λm hm=>(d3 m hm).2.2) λw'' hu=>?_;exact key { C with ds:=a'.defers } E' a' w'' rfl rfl rfl rfl rfl (Ww hs d3 hu)
 | ret =>
  show Lv P fn a'.tmps R' a'.defers .returning w';rw [d1];refine XR ms _ _ (by simp) d2.1 (λm hm=>(d3 m hm).2.2) λw'' hu=>?_;exact key { C with ds:=a'.defers } E' a' w'' rfl rfl rfl rfl rfl (Ww hs d3 hu)
 | pan s =>
  intro y hy;show Lv P fn a'.tmps R' a'.defers (.panicking _) w';rw [d1];refine XR ms _ _ (by simp) d2.1 (λm hm=>(d3 m hm).2.2) λw'' hu=>?_;have hst:Xh w' w'' (okS C E' σ'.hp) (okS C E' σ'.hp):=λb hb q=>⟨hb,hu.other b λhm'=>by rcases q with ⟨cs,T,fz,e⟩ | ⟨es,c,e⟩<;>(rw [(d3 b hm').2.2] at e;cases e)⟩;exact key { C with ds:=a'.defers } E' a' w'' rfl rfl rfl rfl rfl (Ww hs d3 hu) y (ZV hst (λ_ _=>Ele.rfl) (λ_ h=>h) _ _ hy)
theorem Zj6 {C:Cx} {E:Env} {σ : St} {a:Act} {w:World} (h:Sim C E σ a w) (ds:List Deferred):Sim ⟨w,okS C E σ.hp,λk b=>occ E k (lkh k σ.hp) b,ds,none,E,σ.n,Zy h.hs,λ_ _ hg k=>Vn h.hs hg k⟩ E σ { a with defers:=ds } w:=by
 have hst:Xh w w (okS C E σ.hp) (okS ⟨w,okS C E σ.hp,λk b=>occ E k (lkh k σ.hp) b,ds,none,E,σ.n,Zy h.hs,λ_ _ hg k=>Vn h.hs hg k⟩ E σ.hp):=λb hb _=>⟨⟨.inl hb,hb.2⟩,rfl⟩;refine ⟨λt=>?_,h.sz,ZaC,h.gs,⟨h.hs.kn,λk=>?_,h.hs.dj,λk b ho=>.inr ho,⟨rfl,rfl,rfl,Nat.le_refl _,λ_ _ _=>rfl⟩,λk hk=>⟨hk,Ele.rfl⟩⟩⟩
 . have:=h.fr t;show FR w E (ltn σ.n) _ σ.fr (lk t σ.fr) (a.tmps.getD t undef);cases hq:lk t σ.fr<;>rw [hq] at this<;>try exact ZV hst (λ_ _=>Ele.rfl) (λ_ h=>h) _ _ this
   exact ⟨λhg=>ZV hst (λ_ _=>Ele.rfl) (λ_ h=>h) _ _ (this.1 hg),this.2⟩
 . refine XX hst (λ_ _=>Ele.rfl) (λ_ h=>h) ?_ (λb ho=>rfl) rfl (h.hs.bk k);rcases Classical.em (ltn σ.n k) with hk | hk
   . exact .inr hk
   . exact .inl (h.hs.kn k hk)
def ZD4 (v:Value) (u u':FrameMode):Prop:=(u = .returning/\v = .nilIface/\u' = .returning)\/(u = .panicking [{ v:=v,recovered:=false }]/\u' = .panicking [{ v:=v,recovered:=true }])
theorem ZrZ {b c₀:Frame} {a:Act} {k:List Item} {cs:List Frame} {w:World} {os:Array Oper} {o:Oper} {rest:List Nat} {t:Nat} {v:Value} {u u':FrameMode} (hb:b.kind = .deferred) (h0:os[0]? = some o) (hr:ZoP t o=true)
 (hc:c₀.mode=u) (hu:ZD4 v u u'):step P (lone (b.at a (.inRegion os (0 :: rest) :: k)) (c₀ :: cs) w) = .next (lone (b.at (a.put (some t) v) (.inRegion os rest :: k)) ({ c₀ with mode:=u' } :: cs) w):=by
 obtain ⟨dst,op,ty,pos,after,guard⟩:=o;unfold ZoP at hr;split at hr
 case h_2=>cases hr
 rename_i c x e1 e2 e3;simp only at e1 e2 e3;subst e1;subst e2;subst e3;simp only [Bool.and_eq_true,beq_iff_eq] at hr;obtain ⟨⟨rfl,hr1⟩,hr2⟩:=hr;split at hr1
 case h_2=>cases hr1
 rename_i hcal;have hw:Region.wanted (⟨some x,.call c,ty,pos,after,none⟩:Oper) (yielded os a.tmps)=true:=rfl;have hg:=stepG_op (P:=P) (b:=b) (k:=k) (cs:=c₀ :: cs) (w:=w) (rest:=rest) h0 hw;have hfin:∀ v,(b.at a (.inRegion os (0 :: rest) :: k)).finish v=b.at (a.put (some x) v) (.inRegion os rest :: k):=by
  intro v;rw [Frame.finish_at,h0];rfl
 have hrun:(execOp a.eval (⟨some x,.call c,ty,pos,after,none⟩:Oper)).run P w = .ok .recover w:=by
  simp [execOp,resolve,hcal,invoke,builtin,Sem.run_bind,Sem.run_pure]
 have hk:(b.at a (.inRegion os (0 :: rest) :: k)).kind = .deferred:=hb;have htr:=tryRecover_deferred hk (c₀ :: cs);refine step_lone_go ?_;rw [hg,<- hfin];rcases hu with ⟨rfl,rfl,rfl⟩ | ⟨rfl,rfl⟩
 . have hrd:recoverD (c₀ :: cs)=none:=by simp [recoverD,hc]
   have hcc:({ c₀ with mode:=.returning }:Frame)=c₀:=by rw [<- hc]
   simp only [Frame.at] at htr ⊢;simp [stepG.apply,hrun,htr,hrd,hcc]
 . have hrd:recoverD (c₀ :: cs)=some (v,{ c₀ with mode:=.panicking [{ v:=v,recovered:=true }] } :: cs):=by simp [recoverD,hc]
   simp only [Frame.at] at htr ⊢;simp [stepG.apply,hrun,htr,hrd]
theorem Zuj {fr:Frame} {cs:List Frame}:∀ (ms:List Nat) (w:World),fr.mode≠.run->fr.defers=ms.map ZdY->ms.Nodup->(∀ m ∈ ms,w.heap[m]? = some (.deferred (some []))) ->
 ∃ w',Unm ms w w'/\Steps P (lone fr cs w) (lone { fr with defers:=[] } cs w')
 | [],w,_,hd,_,_=>⟨w,Unm.refl w,by rw [show ({ fr with defers:=[] }:Frame)=fr by rw [<- show fr.defers=[] from hd]];exact Steps.refl P _⟩
 | m :: ms,w,hm,hd,hnd,hh=>by
  rw [List.nodup_cons] at hnd;have hm0:=hh m (by simp);have hlt:=(Array.getElem?_eq_some_iff.1 hm0).1;have h1:step P (lone fr cs w) = .next (lone { fr with defers:=ms.map ZdY } cs (Ul w m (.deferred none))) :=
   Uc hm hd rfl (by simp only [Instr.takeDeferred,Sem.run_bind,Yn hm0 rfl,Result.andThen_ok,Y6 _ hm0 rfl,Sem.run_pure])
  obtain ⟨w',g1,g2⟩:=Zuj (fr:={ fr with defers:=ms.map ZdY }) (cs:=cs) ms (Ul w m (.deferred none)) hm rfl hnd.2 (λk hk=>by
   rw [WX (by rintro rfl;exact hnd.1 hk)];exact hh k (by simp [hk]))
  refine ⟨w',⟨g1.os,g1.tape,g1.output,by rw [g1.size,Zcr],λb hb=>?_⟩,.head h1 g2⟩;rw [List.mem_cons,not_or] at hb;rw [g1.other b hb.2];exact WX hb.1
theorem ZnE {g:FuncId} {fn:Func} {id:Nat} {os:Array Oper} {y0:Code} {o1:Oper} {t:Nat} {args:Array Value} {w:World} {u u':FrameMode} {v:Value} {R:Ending->FrameMode->World->Prop} {Q:Exit->Act->World->Prop}
 (hf:P.funcs[g]? = some fn) (hb:fn.body=some (.seq (.region id os false) y0)) (h0:os[0]? = some o1) (hrec:ZoP t o1=true) (hu:ZD4 v u u')
 (h:UG none P os (Exit.then (wpX none P y0 Q) Q) (os.toList.drop 1) (({ tmps:=args ++ Array.replicate (fn.ntmps - args.size) undef,defers:=[] }:Act).put (some t) v) w)
 (hQ:∀ e a w,Q e a w->(e = .normal\/e = .ret)/\∃ ms:List Nat,a.defers=ms.map ZdY/\ms.Nodup/\(∀ m ∈ ms,w.heap[m]? = some (.deferred (some [])))/\∀ w',Unm ms w w'->∃ val,(results fn a.tmps).run P w' = .ok val w'/\R (.returned val) u' w') :
 CallsD P g args u w R:=by
 intro c₀ cs hc
 let b:Frame:={ (default:Frame) with fn:=g,kind:=.deferred }
 let a0:Act:={ tmps:=args ++ Array.replicate (fn.ntmps - args.size) undef,defers:=[] }
 have henter:Frame.enter P g args .deferred=b.at a0 [.code (.seq (.region id os false) y0)]:=by
  simp [Frame.enter,Frame.at,hf,hb,b,a0]
 have hsz:0 < os.size:=(Array.getElem?_eq_some_iff.1 h0).1;have hrange:List.range os.size=0 :: List.range' 1 (os.size - 1):=by
  rw [List.range_eq_range',show os.size=(os.size - 1)+1 from by omega,List.range'_succ];simp
 have h1:=Zb3 (r:=none) (P:=P) (ops:=os) (os.toList.drop 1) 1 (λj hj=>by simp [List.getElem?_drop,Nat.add_comm]) _ w h;rw [List.length_drop,Array.length_toList] at h1;obtain ⟨e,a1,w1,q,s⟩:=Zbg _ _ w h1 b [.code y0] ({ c₀ with mode:=u' } :: cs) rfl (by simp [b,hf]);have s:=(arrivesIn_iff (b:=b) (λ_ _=>steps_iff.symm) rfl).1 s;rw [Frame.atR_of_none (b:=b) rfl] at s;have hpre:Steps P (lone (Frame.enter P g args .deferred) (c₀ :: cs) w) (lone (b.at (a0.put (some t) v) (.inRegion os (List.range' 1 (os.size - 1)) :: [.code y0])) ({ c₀ with mode:=u' } :: cs) w):=by
  rw [henter];refine .head step_seq (.head step_region ?_);rw [hrange];exact .one (ZrZ rfl h0 hrec hc hu)
 have fin:∀ (e:Exit) (a:Act) (w2:World) (todo:List Item),Q e a w2->Steps P (lone (Frame.enter P g args .deferred) (c₀ :: cs) w) (lone ({ b.at a todo with mode:=.returning }:Frame) ({ c₀ with mode:=u' } :: cs) w2) ->
  ∃ e u'' w' fr,R e u'' w'/\Comes P (lone (Frame.enter P g args .deferred) (c₀ :: cs) w) (lone fr ({ c₀ with mode:=u'' } :: cs) w') e/\fr.kind = .deferred/\fr.going P w' e:=λe a w2 todo hq hs=>by
  obtain ⟨_,ms,d1,d2,d3,d4⟩:=hQ e a w2 hq;obtain ⟨w3,g1,g2⟩:=Zuj (P:=P) (fr:={ b.at a todo with mode:=.returning }) (cs:={ c₀ with mode:=u' } :: cs) ms w2 (by simp) d1 d2 d3;obtain ⟨val,hr,hR⟩:=d4 w3 g1;exact ⟨.returned val,u',w3,_,hR,Steps.trans hs g2,rfl,rfl,rfl,fn,hf,hr⟩
 have tl:∀ (a:Act) (w2:World),wpX none P y0 Q a w2->Steps P (lone (Frame.enter P g args .deferred) (c₀ :: cs) w) (lone (b.at a [.code y0]) ({ c₀ with mode:=u' } :: cs) w2) ->
  ∃ e u'' w' fr,R e u'' w'/\Comes P (lone (Frame.enter P g args .deferred) (c₀ :: cs) w) (lone fr ({ c₀ with mode:=u'' } :: cs) w') e/\fr.kind = .deferred/\fr.going P w' e:=λa w2 hy hs=>by
  obtain ⟨e2,a2,w3,q2,s2⟩:=hy b [] ({ c₀ with mode:=u' } :: cs) rfl (by simp [b,hf]);have s2:=(arrivesIn_iff (b:=b) (λ_ _=>steps_iff.symm) rfl).1 s2;rw [Frame.atR_of_none (b:=b) rfl] at s2;rcases (hQ e2 a2 w3 q2).1 with rfl | rfl
  . exact fin _ a2 w3 [] q2 (Steps.trans hs (Steps.trans s2 (.one step_end)))
  . obtain ⟨todo,s3⟩:=s2;exact fin _ a2 w3 todo q2 (Steps.trans hs s3)
 cases e with
 | normal=>exact tl a1 w1 q (Steps.trans hpre s)
 | ret =>
  obtain ⟨todo,s3⟩:=s;exact fin _ a1 w1 todo q (Steps.trans hpre s3)
 | panic chain=>rcases (hQ _ a1 w1 q).1 with h | h<;>cases h
 | exit id=>rcases (hQ _ a1 w1 q).1 with h | h<;>cases h
 | goto l=>rcases (hQ _ a1 w1 q).1 with h | h<;>cases h
 | outgrown=>rcases (hQ _ a1 w1 q).1 with h | h<;>cases h
theorem ZnI {C:Cx} {E:Env} {hp0:Lh} {n0 N:Nat} {args:Ls} {vs:LZ} {w:World} (hN:args.length<=N) (hds:C.ds=[]) (hH:HSim C E hp0 (ltn n0) w) (hR:RL w E (ltn n0) (okS C E hp0) args vs) :
 Sim C E ⟨YT 0 args,hp0,n0,N,[]⟩ { tmps:=vs.toArray ++ Array.replicate (N - vs.toArray.size) undef,defers:=[] } w:=by
 have hlen:=ZO hR;have hng:∀ t j b s,lk t (YT 0 args)≠.gd j b s:=by
  intro t j b s ht;simp only [Ui,Nat.zero_le,if_true,Nat.sub_zero] at ht;by_cases htl:t < args.length
  . have e1:args.getD t .any=args[t]:=by simp [htl]
    obtain ⟨y,h1,h2⟩:=Vz hR (List.getElem?_eq_getElem htl);rw [e1] at ht;rw [ht] at h2;simp only [R] at h2
  . have e1:args.getD t .any = .any:=by simp [List.getElem?_eq_none (Nat.le_of_not_lt htl)]
    rw [e1] at ht;cases ht
 refine ⟨λt=>?_,by simp;omega,by rw [<- hds];exact ZaC,λt j b s ht=>absurd ht (hng t j b s),hH⟩;have hng:=hng t;have hFR:R w E (ltn n0) (okS C E hp0) (lk t (YT 0 args)) ((vs.toArray ++ Array.replicate (N - vs.toArray.size) undef).getD t undef):=by
  simp only [Ui,Nat.zero_le,if_true,Nat.sub_zero];by_cases ht:t < args.length
  . have e1:args.getD t .any=args[t]:=by simp [ht]
    obtain ⟨y,h1,h2⟩:=Vz hR (List.getElem?_eq_getElem ht);have e2:(vs.toArray ++ Array.replicate (N - vs.toArray.size) undef).getD t undef=y:=by
     have:t < vs.length:=by omega
     have h1':=(List.getElem?_eq_some_iff.1 h1).2;simp [Array.getElem?_append,this,h1']
    rw [e1,e2];exact h2
  . have e1:args.getD t .any = .any:=by simp [List.getElem?_eq_none (Nat.le_of_not_lt ht)]
    rw [e1];simp only [R]
 simp only;cases hq:lk t (YT 0 args)<;>rw [hq] at hFR hng<;>first | exact hFR | exact absurd rfl (hng _ _ _)
theorem ZCf {g:FuncId} {t N:Nat} {l:List Ins} {c:SC} (hF:RcF P g t l c N) {C:Cx} {E:Env} {σ : St} {a:Act} {w:World} (hS:Sim C E σ a w) (hm:C.m0<=σ.n) {caps:Ls} {vs:LZ} (hR:RL w E (ltn σ.n) (okS C E σ.hp) caps vs)
 {s:SV} {v:Value} (hv:R w E (ltn σ.n) (okS C E σ.hp) s v) {k:St->Prop} (hrun:rcR P t l c N caps s σ k) {u u':FrameMode} (hu:ZD4 v u u') {R':Ending->FrameMode->World->Prop}
 (hk:∀ hp' n' E' w',k ⟨σ.fr,hp',n',σ.N,σ.gs⟩->Sim C E' ⟨σ.fr,hp',n',σ.N,σ.gs⟩ a w'->R' (.returned (.tuple #[])) u' w'):CallsD P g vs.toArray u w R':=by
 obtain ⟨fn,id,os,y0,o1,f1,f2,f3,f4,f5,f6,f7,f8,f9⟩:=hF.ex;obtain ⟨hcl,hrun⟩:=hrun;have hcl:=Nat.le_of_ble_eq_true hcl
 let C2:Cx:=⟨w,okS C E σ.hp,λk b=>occ E k (lkh k σ.hp) b,[],none,E,σ.n,Zy hS.hs,λ_ _ hg k=>Vn hS.hs hg k⟩
 have hst:Xh w w (okS C E σ.hp) (okS C2 E σ.hp):=λb hb _=>⟨⟨.inl hb,hb.2⟩,rfl⟩;have hin:=Zj6 hS [];have hR2:RL w E (ltn σ.n) (okS C2 E σ.hp) caps vs:=ZL hst (λ_ _=>Ele.rfl) (λ_ h=>h) _ _ hR;have hv2:R w E (ltn σ.n) (okS C2 E σ.hp) s v:=ZV hst (λ_ _=>Ele.rfl) (λ_ h=>h) _ _ hv;have h0:Sim C2 E ⟨YT 0 caps,σ.hp,σ.n,N,[]⟩ { tmps:=vs.toArray ++ Array.replicate (N - vs.toArray.size) undef,defers:=[] } w:=ZnI hcl rfl hin.hs hR2
 have h1:Sim C2 E ⟨(t,s) :: YT 0 caps,σ.hp,σ.n,N,[]⟩ (Act.put { tmps:=vs.toArray ++ Array.replicate (N - vs.toArray.size) undef,defers:=[] } (some t) v) w :=
  Xs h0 (λb hb _=>⟨hb,rfl⟩) (λ_ _=>Ele.rfl) (Nat.le_refl _) hin.hs (by simp) f8 (UN hv) hv2
 let Q:Exit->Act->World->Prop:=λe a2 w2=>(e = .normal\/e = .ret)/\∃ σ' E',k ⟨σ.fr,σ'.hp,σ'.n,σ.N,σ.gs⟩/\Sim C2 E' σ' a2 w2
 have hKQ:LkQ C2 (rcK σ k) Q:=λe σ' hk' E' a' w' hs=>by
  cases e with
  | n=>exact ⟨.inl rfl,σ',E',hk',hs⟩
  | ret=>exact ⟨.inr rfl,σ',E',hk',hs⟩
  | ex i=>exact hk'.elim
  | pan s=>exact hk'.elim
 have hmc:MC C2 σ.n:=⟨Nat.le_refl _,λj b ho=>by
  rcases Classical.em (ltn σ.n j) with hj | hj
  . exact hj
  . have ho':occ E j (lkh j σ.hp) b:=ho
    rw [hS.hs.kn j hj] at ho';exact ho'.elim⟩
 have hlist:=ZdS (P:=P) (C:=C2) (Y:=Y0) Zcd (ops:=os) (Q:=Exit.then (wpX none P y0 Q) Q) (K:=Zd3 (fxS (λσ' K=>sx P Y0 σ.n c σ' K) (rcK σ k))) (λe σ' hk' E' a' w' hs0=>by
  have hs:=XK hs0;cases e with
  | n =>
   have hwp:=Yv c C2 Y0 σ.n y0 (V4 σ') (rcK σ k) Q E' a' w' hmc Zcd (.inl rfl) f6 hk' hKQ hs;exact hwp
  | ret=>exact hKQ .ret _ hk' E' a' w' hs
  | ex i=>exact hk'.elim
  | pan s=>exact hk'.elim) l _ f5 _ E _ w hrun h1
 refine ZnE (u':=u') (v:=v) f1 f2 f3 f4 hu (Q:=Q) (by rw [f7];exact hlist) (λe a2 w2 hq=>⟨hq.1,?_⟩);obtain ⟨_,σ',E',hk',hs'⟩:=hq;obtain ⟨ms,d1,d2,d3⟩:=hs'.df;refine ⟨ms,by rw [d1];simp [C2],d2.1,λm hm'=>(d3 m hm').2.2,λw3 hu3=>?_⟩;refine ⟨.tuple #[],by simp [results,f9],?_⟩;have hs3:=Ww hs' d3 hu3;have hout:=Zfw hS hs3 rfl rfl rfl rfl rfl hm;obtain ⟨g1,g2⟩:=ZfQ (C:=C) hout.hs rfl rfl rfl rfl rfl
 have hpin:∀ j,j < σ.n->j < σ'.n/\Ele E E' j j:=λj hj=>hs3.hs.pin j hj;refine hk σ'.hp σ'.n E' w3 hk' (YJ hS (λb hb hsome=>?_) (λj hj=>(hpin j hj).2) ?_ g1)
 . obtain ⟨b1,b2⟩:=hb;have hlt:b < w.heap.size:=by
    rcases Nat.lt_or_ge b w.heap.size with q | q
    . exact q
    . rw [Array.getElem?_eq_none q] at hsome;cases hsome
   refine ⟨⟨b1,λj ho=>?_⟩,?_⟩
   . rcases hs3.hs.lo j b ho with q | q
     . exact absurd hlt (Nat.not_lt.2 q)
     . exact b2 j q
   . exact hs3.hs.kp.block b hlt (λj q=>b2 j q)
 . rcases Nat.lt_or_ge σ'.n σ.n with q | q
   . exact absurd (hpin σ'.n q).1 (Nat.lt_irrefl _)
   . exact q
theorem Za9 {fn:Func} {R':Ending->World->Prop}:∀ (b:FB) (C:Cx) (m:Nat) (code:Code) (σ : St) (K:Ex->St->Prop) (E:Env) (a:Act) (w:World),MC C m->C.rd=none->U9 P b code=true->fx P m b σ K->Sim C E σ a w ->
 (∀ e σ',K e σ'->∀ (C':Cx) E' a' w',C'.w0=C.w0->C'.okp=C.okp->C'.pass=C.pass->C'.e0=C.e0->C'.m0=C.m0->Sim C' E' σ' a' w'->match e with
  | .n | .ret=>Lv P fn a'.tmps R' C.ds .returning w'
  | .ex _=>False
  | .pan s=>∀ y,R w' E' (ltn σ'.n) (okS C' E' σ'.hp) s y->Lv P fn a'.tmps R' C.ds (.panicking [{ v:=y,recovered:=false }]) w') ->
 wpX none P code (YD P fn R') a w
 | .tail c,C,m,code,σ,K,E,a,w,hm,hrd,hc,h,hS,hK=>by
  have hwp:=Yv c C Y0 m code σ K (YD P fn R') E a w hm Zcd (.inl hrd) hc h (λe σ' hk E' a' w' hs=>Wp hK e σ' hk E' a' w' hs) hS;rw [hrd] at hwp;exact hwp
 | .seq x b,C,m,code,σ,K,E,a,w,hm,hrd,hc,h,hS,hK=>by
  cases code<;>simp [U9] at hc
  rename_i cx cy;refine ZdK ?_;have hwp:=Yv x C Y0 m cx σ (fxS (fx P m b) K) (Exit.then (wpX none P cy (YD P fn R')) (YD P fn R')) E a w hm Zcd (.inl hrd) hc.1 h (λe σ' hk E' a' w' hs=>?_) hS
  . rw [hrd] at hwp;exact hwp
  cases e with
  | n=>exact Za9 b C m cy σ' K E' a' w' hm hrd hc.2 hk hs hK
  | ex i=>exact hk.elim
  | ret=>exact Wp hK .ret σ' hk E' a' w' hs
  | pan s=>exact Wp hK (.pan s) σ' hk E' a' w' hs
 | .dfr ops mx kx t b,C,m,code,σ,K,E,a,w,hm,hrd,hc,h,hS,hK=>by
  unfold U9 at hc;split at hc
  case h_2=>cases hc
  rename_i id os cy;simp only [Bool.and_eq_true] at hc;obtain ⟨⟨hc1,hc2⟩,hc3⟩:=hc;split at hc2
  case h_2=>cases hc2
  rename_i o ho;have hos:os.toList=os.toList.take ops.length ++ [o]:=by rw [<- ho,List.take_append_drop]
  refine ZdK (X7 ?_);rw [hos,<- hrd];refine ZjJ (C:=C) (Q:=Exit.then (wpX C.rd P cy (YD P fn R')) (YD P fn R')) (os2:=[o]) Zcd (K:=Zd3 (fxS (λσ K=>ZDx P t (λn=>fx P n b) (mpO (rdG none σ.fr mx)) (vO (rdG none σ.fr kx)) σ K) K)) (λσ0 E1 a1 w1 hk0 hs0=>?_)
   (λs σ' E' a' w' y hk hs hy=>Wp hK (.pan s) (V4 σ') hk E' a' w' (XK hs) y (by rw [Zf0,Zd5];exact hy)) ops _ hc1 σ E a w h hS
  have hs:=XK hs0;simp only [Zd3,fxS] at hk0;generalize V4 σ0 = σ1 at hs hk0;obtain ⟨ms,d1,d2,d3⟩:=hs.df;unfold ZDx at hk0;split at hk0
  case h_2=>exact hk0.elim
  rename_i km kv hkm hkv;obtain ⟨hlt,hfx⟩:=hk0;have hlt:=Nat.le_of_ble_eq_true hlt;have hmv:a1.tmps=a1.tmps/\evX a1 mx = .map (some (E1.β km)):=by
   have hR:=YQ (Zy hs.hs) hs.fr (g:=none) trivial mx;cases hq:rdG none σ1.fr mx<;>rw [hq] at hkm<;>simp only [mpO,Option.some.injEq,reduceCtorEq] at hkm
   subst hkm;rw [hq] at hR;simp only [R] at hR;exact ⟨rfl,hR.2⟩
  have hkv':evX a1 kx=kv:=by
   have hR:=YQ (Zy hs.hs) hs.fr (g:=none) trivial kx;cases hq:rdG none σ1.fr kx<;>rw [hq] at hkv<;>simp only [vO,Option.some.injEq,reduceCtorEq] at hkv
   subst hkv;rw [hq] at hR;simp only [R] at hR;exact hR
  have hmn:C.m0<=σ1.n:=by
   rcases Nat.lt_or_ge σ1.n C.m0 with q | q
   . exact absurd (hs.hs.pin σ1.n q).1 (Nat.lt_irrefl _)
   . exact q
  unfold ZBz at hc2;split at hc2
  case h_2=>cases hc2
  rename_i c hop hdst hgd;simp only [Bool.and_eq_true] at hc2;obtain ⟨⟨e1,e2⟩,e3⟩:=hc2;split at e1
  case h_2=>cases e1
  rename_i hcal;split at e2
  case h_2=>cases e2
  rename_i om ok hargs;simp only [Bool.and_eq_true] at e2;split at e3
  case h_2=>cases e3
  rename_i u hu;have hut:u=t:=by simpa using e3
  subst hut;have hca:c.args = #[om,ok]:=by apply Array.toList_inj.1;rw [hargs]
  rw [hrd];simp only [UG,Region.wanted,hgd];simp only [if_true];have hrun:(o.semAt none a1.eval).run P w1 = .ok (.defer { target:=.builtin .delete c.argTypes o.type (c.args.map λ| .const _=>true | _=>false),args:=#[.map (some (E1.β km)),kv] }) w1:=by
   rw [Oper.semAt_none];obtain ⟨dst',op',ty',pos,after,guard⟩:=o;simp only at hop;subst hop;simp only [execOp,Sem.run_bind,resolve,hcal,Sem.run_pure,Result.andThen_ok,hca];simp only [List.map_toArray,List.map_cons,List.map_nil,Zh e2.1 a1,Zh e2.2 a1,hmv.2,hkv'];cases om<;>cases ok<;>rfl
  show o.wpq none P a1 w1 _ _;unfold Oper.wpq;rw [hrun];simp only [Oper.uponX,hdst];show Exit.then _ _ .normal _ w1;simp only [Exit.then];show wpX none P cy (YD P fn R') { a1 with defers:=_ :: a1.defers } w1;refine Za9 b _ σ1.n cy σ1 (dK P u km kv K) E1 _ w1 ⟨Nat.le_refl _,λk b ho=>?_⟩ rfl hc3 hfx (Zj6 hs _) (λe σ' hk C2 E' a' w' c1 c2 c3 c4 c5 hs'=>?_)
  . rcases Classical.em (ltn σ1.n k) with hk | hk
    . exact hk
    . have ho':occ E1 k (lkh k σ1.hp) b:=ho;rw [hs.hs.kn k hk] at ho';exact ho'.elim
  have main:∀ (hb':HB),Zw7 P u kv (lkh km σ'.hp) hb'->(∀ (C':Cx) E' a' w',C'.w0=C.w0->C'.okp=C.okp->C'.pass=C.pass->C'.e0=C.e0->C'.m0=C.m0->Sim C' E' ⟨σ'.fr,(km,hb') :: σ'.hp,σ'.n,σ'.N,σ'.gs⟩ a' w'->Lv P fn a'.tmps R' C.ds .returning w') ->
   Lv P fn a'.tmps R' ({ target:=.builtin .delete c.argTypes o.type (c.args.map λ| .const _=>true | _=>false),args:=#[.map (some (E1.β km)),kv] } :: a1.defers) .returning w':=λhb' hdel hKK=>by
   obtain ⟨x,w2,hrun2,hs2,_⟩:=Zzc hs' (ty:=o.type) (cc:=c.args.map λ| .const _=>true | _=>false) hu hdel;have hβ : E'.β km=E1.β km:=by
    have:=(hs'.hs.pin km (by rw [c5];exact hlt)).2.1;rw [c4] at this;exact this
   rw [hβ] at hrun2;refine ⟨by simp,.inr (.inl ⟨.delete,c.argTypes,o.type,_,w2,x,rfl,hrun2,?_⟩)⟩;rw [d1];have hsim:=Zfw hs hs2 c1 c2 c3 c4 c5 hmn;have hmark:∀ m ∈ ms,C.w0.heap.size<=m/\okS C E' ((km,hb') :: σ'.hp) m/\w2.heap[m]? = some (.deferred (some [])):=λm hm=>by
    obtain ⟨p1,p2,p3⟩:=d3 m hm;have hlt':m < w1.heap.size:=(Array.getElem?_eq_some_iff.1 p3).1;have hnp:∀ k,¬ C2.pass k m:=λk hk=>by rw [c3] at hk;exact p2.2 k hk
    refine ⟨p1,⟨p2.1,λk ho=>?_⟩,?_⟩
    . rcases hs2.hs.lo k m ho with g | g
      . rw [c1] at g;exact absurd hlt' (Nat.not_lt.2 g)
      . exact hnp k g
    . have:=hs2.hs.kp.block m (by rw [c1];exact hlt') hnp;rw [c1] at this;rw [this];exact p3
   refine XR ms _ _ (by simp) d2.1 (λm hm=>(hmark m hm).2.2) λw3 hu3=>?_;exact hKK { C with ds:=a'.defers } E' a' w3 rfl rfl rfl rfl rfl (Ww (C:={ C with ds:=a'.defers }) hsim hmark hu3)
  cases e with
  | ex i=>exact hk.elim
  | pan s=>exact hk.elim
  | n =>
   obtain ⟨hb',h1,h2⟩:=hk;exact main hb' h1 (λC' E' a' w' q1 q2 q3 q4 q5 q6=>hK .n _ h2 C' E' a' w' q1 q2 q3 q4 q5 q6)
  | ret =>
   obtain ⟨hb',h1,h2⟩:=hk;exact main hb' h1 (λC' E' a' w' q1 q2 q3 q4 q5 q6=>hK .ret _ h2 C' E' a' w' q1 q2 q3 q4 q5 q6)
 | .rcv ops cx b,C,m,code,σ,K,E,a,w,hm,hrd,hc,h,hS,hK=>by
  unfold U9 at hc;split at hc
  case h_2=>cases hc
  rename_i id os cy;simp only [Bool.and_eq_true] at hc;obtain ⟨⟨hc1,hc2⟩,hc3⟩:=hc;split at hc2
  case h_2=>cases hc2
  rename_i o ho;have hos:os.toList=os.toList.take ops.length ++ [o]:=by rw [<- ho,List.take_append_drop]
  refine ZdK (X7 ?_);rw [hos,<- hrd];refine ZjJ (C:=C) (Q:=Exit.then (wpX C.rd P cy (YD P fn R')) (YD P fn R')) (os2:=[o]) Zcd (K:=Zd3 (fxS (λσ K=>ZA6 P (λn=>fx P n b) (rK P K) (rdG none σ.fr cx) σ) K)) (λσ0 E1 a1 w1 hk0 hs0=>?_)
   (λs σ' E' a' w' y hk hs hy=>Wp hK (.pan s) (V4 σ') hk E' a' w' (XK hs) y (by rw [Zf0,Zd5];exact hy)) ops _ hc1 σ E a w h hS
  have hs:=XK hs0;simp only [Zd3,fxS] at hk0;generalize V4 σ0 = σ1 at hs hk0;obtain ⟨ms,d1,d2,d3⟩:=hs.df;unfold ZA6 at hk0;split at hk0
  case h_2=>exact hk0.elim
  rename_i g caps hcl;have hRx:=YQ (Zy hs.hs) hs.fr (g:=none) trivial cx;rw [hcl] at hRx;simp only [R] at hRx;obtain ⟨cs,k1,k2⟩:=hRx;have hmn:C.m0<=σ1.n:=by
   rcases Nat.lt_or_ge σ1.n C.m0 with q | q
   . exact absurd (hs.hs.pin σ1.n q).1 (Nat.lt_irrefl _)
   . exact q
  unfold Zup at hc2;split at hc2
  case h_2=>cases hc2
  rename_i cc hop hdst hgd;simp only [Bool.and_eq_true] at hc2;obtain ⟨e1,e2⟩:=hc2;split at e1
  case h_2=>cases e1
  rename_i y hcal;have hca:cc.args = #[]:=by simpa using e2
  rw [hrd];simp only [UG,Region.wanted,hgd];simp only [if_true];have hrun:(o.semAt none a1.eval).run P w1 = .ok (.defer { target:=.fn (.func g) cs,args:=#[] }) w1:=by
   rw [Oper.semAt_none];obtain ⟨dst',op',ty',pos,after,guard⟩:=o;simp only at hop;subst hop;simp [execOp,resolve,hcal,hca,Zh e1 a1,k1,Deferred.ofValue,Sem.run_bind,Sem.run_pure]
  show o.wpq none P a1 w1 _ _;unfold Oper.wpq;rw [hrun];simp only [Oper.uponX,hdst];show Exit.then _ _ .normal _ w1;simp only [Exit.then];show wpX none P cy (YD P fn R') { a1 with defers:=_ :: a1.defers } w1;refine Za9 b _ σ1.n cy σ1 (rK P K g caps) E1 _ w1 ⟨Nat.le_refl _,λk b ho=>?_⟩ rfl hc3 hk0 (Zj6 hs _) (λe σ' hk C2 E' a' w' c1 c2 c3 c4 c5 hs'=>?_)
  . rcases Classical.em (ltn σ1.n k) with hk | hk
    . exact hk
    . have ho':occ E1 k (lkh k σ1.hp) b:=ho;rw [hs.hs.kn k hk] at ho';exact ho'.elim
  have hpin:∀ j,j < σ1.n->j < σ'.n/\Ele E1 E' j j:=λj hj=>by
   have:=hs'.hs.pin j (by rw [c5];exact hj);rw [c4] at this;exact this
  have hstC:Xh w1 w' (okS C E1 σ1.hp) (okS C2 E' σ'.hp):=λb hb q=>by
   have hlt:b < w1.heap.size:=by rcases q with ⟨cells,T,fz,hcell⟩ | ⟨es,c,hcell⟩<;>exact (Array.getElem?_eq_some_iff.1 hcell).1
   refine ⟨⟨.inl (by rw [c2];exact hb),λj ho=>?_⟩,?_⟩
   . rcases hs'.hs.lo j b ho with q | q
     . rw [c1] at q;exact absurd hlt (Nat.not_lt.2 q)
     . rw [c3] at q;exact hb.2 j q
   . have:=hs'.hs.kp.block b (by rw [c1];exact hlt) (λj q=>by rw [c3] at q;exact hb.2 j q);rw [c1] at this;exact this
  have hcaps:RL w' E' (ltn σ'.n) (okS C2 E' σ'.hp) caps cs.toList:=ZL hstC (λj hj=>(hpin j hj).2) (λj hj=>(hpin j hj).1) _ _ k2;have fin:∀ (kk:St->Prop) (eK:Ex) (heK:eK = .n\/eK = .ret),(∀ σ,kk σ->K eK σ)->∀ hp' n' E3 w3,kk ⟨σ'.fr,hp',n',σ'.N,σ'.gs⟩->Sim C2 E3 ⟨σ'.fr,hp',n',σ'.N,σ'.gs⟩ a' w3->Lv P fn a'.tmps R' a1.defers .returning w3:=λkk eK heK hkk hp' n' E3 w3 hq hs2=>by
   rw [d1];have hsim:=Zfw hs hs2 c1 c2 c3 c4 c5 hmn;have hmark:∀ m ∈ ms,C.w0.heap.size<=m/\okS C E3 hp' m/\w3.heap[m]? = some (.deferred (some [])):=λm hm=>by
    obtain ⟨p1,p2,p3⟩:=d3 m hm;have hlt':m < w1.heap.size:=(Array.getElem?_eq_some_iff.1 p3).1;have hnp:∀ k,¬ C2.pass k m:=λk hk=>by rw [c3] at hk;exact p2.2 k hk
    refine ⟨p1,⟨p2.1,λk ho=>?_⟩,?_⟩
    . rcases hs2.hs.lo k m ho with g | g
      . rw [c1] at g;exact absurd hlt' (Nat.not_lt.2 g)
      . exact hnp k g
    . have:=hs2.hs.kp.block m (by rw [c1];exact hlt') hnp;rw [c1] at this;rw [this];exact p3
   refine XR ms _ _ (by simp) d2.1 (λm hm=>(hmark m hm).2.2) λw4 hu4=>?_;rcases heK with rfl | rfl
   . exact hK .n _ (hkk _ hq) { C with ds:=a'.defers } E3 a' w4 rfl rfl rfl rfl rfl (Ww (C:={ C with ds:=a'.defers }) hsim hmark hu4)
   . exact hK .ret _ (hkk _ hq) { C with ds:=a'.defers } E3 a' w4 rfl rfl rfl rfl rfl (Ww (C:={ C with ds:=a'.defers }) hsim hmark hu4)
  have hm2:C2.m0<=σ'.n:=by
   rw [c5];rcases Nat.lt_or_ge σ'.n σ1.n with q | q
   . exact absurd (hpin σ'.n q).1 (Nat.lt_irrefl _)
   . exact q
  have main:∀ (s:SV) (v:Value) (u u':FrameMode) (eK:Ex),(eK = .n\/eK = .ret)->R w' E' (ltn σ'.n) (okS C2 E' σ'.hp) s v->ZD4 v u u'->(∃ t l c N,RcF P g t l c N/\rcR P t l c N caps s σ' (K eK)) ->
   Lv P fn a'.tmps R' ({ target:=.fn (.func g) cs,args:=#[] } :: a1.defers) u w':=λs v u u' eK heK hv hu hex=>by
   obtain ⟨t,l,c,N,hF,hrun⟩:=hex;have hset:u≠.run/\settle u' = .returning:=by
    rcases hu with ⟨rfl,rfl,rfl⟩ | ⟨rfl,rfl⟩
    . exact ⟨by simp,rfl⟩
    . exact ⟨by simp,rfl⟩
   refine ⟨hset.1,.inr (.inr ⟨.func g,cs,g,cs,rfl,by simp [invoke,Xe hF.bd],?_⟩)⟩
   have hcalls:=ZCf hF hs' hm2 hcaps hv hrun hu (R':=λe u'' w''=>match e with
    | .returned _=>Lv P fn a'.tmps R' a1.defers (settle u'') w''
    | .panicked chain=>Lv P fn a'.tmps R' a1.defers (raised u'' chain) w''
    | .outgrown=>R' .outgrown w'') (λhp' n' E3 w3 hq hs3=>by
    show Lv P fn a'.tmps R' a1.defers (settle u') w3;rw [hset.2]
    exact fin (K eK) eK heK (λ_ h=>h) hp' n' E3 w3 hq hs3)
   rw [show cs.toList.toArray=cs from rfl] at hcalls;intro c₀ cs0 hc0;obtain ⟨e2,u2,w2,fr2,q1,q2,q3,q4⟩:=hcalls c₀ cs0 hc0;refine ⟨e2,u2,w2,fr2,?_,q2,q3,q4⟩;cases e2<;>exact q1
  cases e with
  | ex i=>exact hk.elim
  | n=>exact main _ _ _ _ .n (.inl rfl) (by simp only [R]) (.inl ⟨rfl,rfl,rfl⟩) hk
  | ret=>exact main _ _ _ _ .ret (.inr rfl) (by simp only [R]) (.inl ⟨rfl,rfl,rfl⟩) hk
  | pan s=>intro y hy;exact main s y _ _ .ret (.inr rfl) hy (.inr ⟨rfl,rfl⟩) hk
theorem Zfx {f:FuncId} {fn:Func} {code:Code} {fb:FB} {args:Ls} {N n0 m:Nat} {hp0:Lh} {C:Cx} {E:Env} {w:World} {vs:LZ} {K:Ex->St->Prop} {R':Ending->World->Prop}
 (hf:P.funcs[f]? = some fn) (hb:fn.body=some code) (hc:U9 P fb code=true) (hN:fn.ntmps=N) (hA:args.length<=N) (hds:C.ds=[]) (hrd:C.rd=none) (hm:MC C m)
 (hH:HSim C E hp0 (ltn n0) w) (hR:RL w E (ltn n0) (okS C E hp0) args vs) (h:fx P m fb ⟨YT 0 args,hp0,n0,N,[]⟩ K)
 (hK:∀ e σ,K e σ->∀ C' E a w',C'.w0=C.w0->C'.okp=C.okp->C'.pass=C.pass->C'.e0=C.e0->C'.m0=C.m0->Sim C' E σ a w'->match e with
  | .n | .ret=>∃ v,(results fn a.tmps).run P w' = .ok v w'/\R' (.returned v) w'
  | .ex _=>False
  | .pan s=>∀ y,R w' E (ltn σ.n) (okS C' E σ.hp) s y->R' (.panicked [{ v:=y,recovered:=false }]) w'):Calls P f vs.toArray w R':=by
 have hlen:=ZO hR;have hng:∀ t j b s,lk t (YT 0 args)≠.gd j b s:=by
  intro t j b s ht;simp only [Ui,Nat.zero_le,if_true,Nat.sub_zero] at ht;by_cases htl:t < args.length
  . have e1:args.getD t .any=args[t]:=by simp [htl]
    obtain ⟨y,h1,h2⟩:=Vz hR (List.getElem?_eq_getElem htl);rw [e1] at ht;rw [ht] at h2;simp only [R] at h2
  . have e1:args.getD t .any = .any:=by simp [List.getElem?_eq_none (Nat.le_of_not_lt htl)]
    rw [e1] at ht;cases ht
 have hS:Sim C E ⟨YT 0 args,hp0,n0,N,[]⟩ { tmps:=vs.toArray ++ Array.replicate (fn.ntmps - vs.toArray.size) undef,defers:=[] } w:=by
  refine ⟨λt=>?_,by simp [hN];omega,by rw [<- hds];exact ZaC,λt j b s ht=>absurd ht (hng t j b s),hH⟩;have hng:=hng t;have hFR:R w E (ltn n0) (okS C E hp0) (lk t (YT 0 args)) ((vs.toArray ++ Array.replicate (fn.ntmps - vs.toArray.size) undef).getD t undef):=by
   simp only [Ui,Nat.zero_le,if_true,Nat.sub_zero];by_cases ht:t < args.length
   . have e1:args.getD t .any=args[t]:=by simp [ht]
     obtain ⟨y,h1,h2⟩:=Vz hR (List.getElem?_eq_getElem ht);have e2:(vs.toArray ++ Array.replicate (fn.ntmps - vs.toArray.size) undef).getD t undef=y:=by
      have:t < vs.length:=by omega
      have h1':=(List.getElem?_eq_some_iff.1 h1).2;simp [Array.getElem?_append,this,h1']
     rw [e1,e2];exact h2
   . have e1:args.getD t .any = .any:=by simp [List.getElem?_eq_none (Nat.le_of_not_lt ht)]
     rw [e1];simp only [R]
  simp only;cases hq:lk t (YT 0 args)<;>rw [hq] at hFR hng<;>first | exact hFR | exact absurd rfl (hng _ _ _)
 refine V9 hf hb ?_;refine Za9 fb C m code _ K E _ w hm hrd hc h hS (λe σ hk C' E a w' c1 c2 c3 c4 c5 hs=>?_);have key:=hK e σ hk C' E a w' c1 c2 c3 c4 c5 hs;rw [hds];cases e with
 | ex i=>exact key
 | n=>exact key
 | ret=>exact key
 | pan s=>exact key
theorem Zi6 {f:FuncId} {fn:Func} {code:Code} {fb:FB} {args:Ls} {rs:List RV} {N n0:Nat} {hp0:Lh} {Zz:Ot->Prop} (hf:P.funcs[f]? = some fn) (hb:fn.body=some code) (hc:U9 P fb code=true)
 (hr:Y2 P rs fn.results.toList=true) (hN:fn.ntmps=N) (hA:args.length<=N) (h:fx P n0 fb ⟨YT 0 args,hp0,n0,N,[]⟩ (X0 rs Zz)):CtY P Y0 f hp0 n0 args Zz:=by
 intro C E w vs d1 d2 d3 d4 d5 d6 hY hH hR;refine Zfx hf hb hc hN hA d3 d2 ⟨Nat.le_of_eq d5,d6⟩ hH hR h λe σ hk C' E' a w' c1 c2 c3 c4 c5 hs=>?_;obtain ⟨g1,g2⟩:=ZfQ hs.hs c1 c2 c3 c4 c5;have hend:ZuV Zz σ.hp σ.n (rvE (Zfo σ rs))->∃ v,(results fn a.tmps).run P w' = .ok v w'/\∃ o E' y,Zz o/\HSim C E' o.hp (ltn o.n) w'/\R w' E' (ltn o.n) (okS C E' o.hp) o.res y/\Ending.returned v=Zwo o.pn y:=λhrr=>by
  cases hq:rvE (Zfo σ rs) with
  | none=>rw [hq] at hrr;exact hrr.elim
  | some s =>
   rw [hq] at hrr;obtain ⟨v,h1,h2⟩:=UL (P:=P) (fn:=fn) (a:=a) (w:=w') (E:=E') (n:=ltn σ.n) (ok:=okS C' E' σ.hp) hq λl hl=>ZfY hs rs _ l hr hl;rw [g2] at h2;exact ⟨v,h1,_,E',v,hrr,g1,h2,rfl⟩
 cases e with
 | ex i=>exact hk.elim
 | n=>exact hend hk
 | ret=>exact hend hk
 | pan s=>intro y hy;rw [g2] at hy;exact ⟨_,E',y,hk,g1,hy,rfl⟩
theorem U7 {f:FuncId} {fn:Func} {code:Code} {fb:FB} {args:Ls} {rs:List RV} {N n0:Nat} {hp0:Lh} {Zz:Ot->Prop} (hf:P.funcs[f]? = some fn) (hb:fn.body=some code) (hnm:Z4 P f=true) (hc:U9 P fb code=true)
 (hr:Y2 P rs fn.results.toList=true) (hN:fn.ntmps=N) (hA:args.length<=N) (hh:hpb n0 hp0) (hx:∀ o,Zz o->KX o.res/\KXP o.hp) (h:fx P n0 fb ⟨YT 0 args,hp0,n0,N,[]⟩ (X0 rs λo=>∃ o',Zz o'/\WI n0 o o')):CtM P f hp0 n0 args Zz :=
 ⟨hnm,hh,hx,(Zi6 hf hb hc hr hN hA h).mono λ_ h=>h⟩
end
theorem Zcv {m:Nat} {σ : St} (t:Nat) {s':SV} (hg:σ.gs=[]) (hw:ZcZ (lk t σ.fr) s') (h2:∀ j b u,s'≠.gd j b u):Ent m σ ⟨(t,s') :: σ.fr,σ.hp,σ.n,σ.N,σ.gs⟩:=λC E a w hmc h=>by
 have hR0:∀ u,R w E (ltn σ.n) (okS C E σ.hp) (lk u σ.fr) (a.tmps.getD u undef):=λu=>Zvx (h.fr u) (λj b u' e=>by have:=h.gs u j b u' e;rw [hg] at this;simp at this);have g2:ZM w w (okS C E σ.hp) (okS C E σ.hp):=λb hb _=>⟨hb,rfl⟩;refine ⟨E,λu=>?_,h.sz,h.df,λu j b s hu=>?_,h.hs⟩
 . rw [ZN];split
   . rename_i hu;subst hu;have:=hw _ _ _ _ _ (hR0 u);cases s'<;>first | exact this | exact absurd rfl (h2 _ _ _)
   . refine XD g2 (λ_ _=>Ele.rfl) (λk hk=>hk) (λj b s hs=>?_) (h.fr u);have:=h.gs u j b s hs;rw [hg] at this;simp at this
 . rw [ZN] at hu;split at hu
   . exact absurd hu (h2 _ _ _)
   . exact h.gs u j b s hu
end Go.Sx
