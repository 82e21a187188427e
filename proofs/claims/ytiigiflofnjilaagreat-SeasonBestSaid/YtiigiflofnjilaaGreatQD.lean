/- Walks and plain laws that lead to the given statement, part 4 of 11. -/
import Derived.Test.YtiigiflofnjilaaGreatQC
import Derived.MapKept
import Derived.WideKeyRuns
import Derived.Recover
set_option linter.all false
open Nat renaming beq_refl->nbr
namespace Go.Sx
open Go Go.RowKit
variable {Y:Hd}
section
variable (P:Program) (m:Nat) (σ : St) (K:Ex->St->Prop) (L:RK)
theorem ZzN:rx P Y [] σ L=L .n σ:=rfl
theorem ZvU (io:Ins) (r:List Ins):rx P Y (io :: r) σ L=st1 P Y io σ (rx P Y r) L:=rfl
theorem ZAZ (ops:List Ins):sx P Y m (.reg ops) σ K=rx P Y ops σ (Zc6 K):=rfl
theorem Zut (ord:List Nat) (p:Ph) (ps:List Ph):sx P Y m (.regs ord p ps) σ K=phx P Y p ps σ (Zc6 K):=rfl
theorem phx_1 (vs:List VI) (nA nB:Nat) (rest:List Ins):phx P Y ⟨vs,nA,nB,rest⟩ [] σ L=gs0 σ.gs (rxv P Y (ZdH σ.hp (rx P Y rest)) vs σ L):=rfl
theorem phx_2 (vs:List VI) (nA nB:Nat) (rest:List Ins) (q:Ph) (ps:List Ph):phx P Y ⟨vs,nA,nB,rest⟩ (q :: ps) σ L=gs0 σ.gs (rxv P Y (ZdH σ.hp (rx P Y rest)) vs σ (phK (phx P Y q ps) L)):=rfl
theorem phK_n (f:St->RK->Prop):phK f L .n σ = f σ L:=rfl
theorem Zwo (ord:List Nat) (vs:List VI) (nA nB:Nat) (rest:List Ins):sx P Y m (.regd ord vs nA nB rest) σ K=gs0 σ.gs (rxv P Y (ZdH σ.hp (rx P Y rest)) vs σ (Zc6 K)):=rfl
theorem Zvy (r:KT):rxv P Y r [] σ L=r σ L:=rfl
theorem ZBd (r:KT) (io:Ins) (l:List VI):rxv P Y r (.op io :: l) σ L=st1 P Y io σ (rxv P Y r l) L:=rfl
theorem Zrv (r:KT) (x:X) (l:List VI):rxv P Y r (.hide x :: l) σ L=ZeG (rdG none σ.fr x) σ (rxv P Y r l) L:=rfl
theorem ZoD (hp:List (Nat × HB)) (r:KT):ZdH hp r σ L=r ⟨σ.fr,hp,σ.n,σ.N,σ.gs⟩ L:=rfl
theorem ZtQ (k o:Nat) (r:KT):ZeG (.p k o) σ r L=r ⟨σ.fr,(k,.gone) :: σ.hp,σ.n,σ.N,σ.gs⟩ L:=rfl
theorem ZnN (k v:Nat) (r:KT):ZeG (.mr k v) σ r L=r ⟨σ.fr,(k,.gone) :: σ.hp,σ.n,σ.N,σ.gs⟩ L:=rfl
theorem Zsm (k v m i o:Nat) (r:KT):ZeG (.pr k v m i o) σ r L=r ⟨σ.fr,(k,.gone) :: σ.hp,σ.n,σ.N,σ.gs⟩ L:=rfl
theorem ZoI (k v m i o:Nat) (r:KT):ZeG (.ms k v m i o) σ r L=r ⟨σ.fr,(k,.gone) :: σ.hp,σ.n,σ.N,σ.gs⟩ L:=rfl
theorem Zwk (p:Prop):gs0 [] p=p:=rfl
theorem Zzs (a b:SC):sx P Y m (.seq a b) σ K=sx P Y m a σ (Zv2 (sx P Y m b) K):=rfl
theorem Zws (c:X) (a b:SC):sx P Y m (.cond c a b) σ K=ZBj (rdG none σ.fr c) (sx P Y m a) (sx P Y m b) σ K:=rfl
theorem ZrN (id:Nat) (c:SC):sx P Y m (.block id c) σ K=sx P Y m c σ (Ztt id K):=rfl
theorem ZwL (c:SC):sx P Y m (.loop c) σ K=Zt9 m (sx P Y m c) σ K:=rfl
theorem Zyb (id:Nat):sx P Y m (.exit id) σ K=K (.ex id) σ:=rfl
theorem ZzX:sx P Y m .ret σ K=K .ret σ:=rfl
theorem ZxN:sx P Y m .skip σ K=K .n σ:=rfl
theorem ZsI (c:SC):sx P Y m (.scope c) σ K=sx P Y m c σ K:=rfl
theorem sx_gh (c:SC):sx P Y m (.gh c) σ K=GH m (sx P Y m c) σ K:=rfl
theorem ZsF (l:Nat):sx P Y m (.label l) σ K=K .n σ:=rfl
theorem Zw2 (e:Ex):Zc6 K e σ = K e (Uc σ):=rfl
theorem ZAd (f:CT):Zv2 f K .n σ = f σ K:=rfl
theorem ZtY (f:CT) (i:Nat):Zv2 f K (.ex i) σ = K (.ex i) σ:=rfl
theorem Zsc (f:CT) (s:SV):Zv2 f K (.pan s) σ = K (.pan s) σ:=rfl
theorem Zsf (f:CT):Zv2 f K .ret σ = K .ret σ:=rfl
theorem Zz2 (id:Nat):Ztt id K .n σ = K .n σ:=rfl
theorem Zs2 (id:Nat) (s:SV):Ztt id K (.pan s) σ = K (.pan s) σ:=rfl
theorem ZqM (id:Nat):Ztt id K .ret σ = K .ret σ:=rfl
theorem ZA8 (rs:List RV) (res:SV):ZBl rs res .n σ = (rvR rs σ = some res):=rfl
theorem ZsQ (rs:List RV) (res:SV):ZBl rs res .ret σ = (rvR rs σ = some res):=rfl
theorem Zz5 {S:Type} (st:S->St) (rel:S->Prop) (μ : S->Nat) (s:S):ZoR m st rel μ s K .n σ = ∃ s',rel s'/\μ s' < μ s/\Ent m σ (st s'):=rfl
theorem ZwD {S:Type} (st:S->St) (rel:S->Prop) (μ : S->Nat) (s:S) (i:Nat):ZoR m st rel μ s K (.ex i) σ = K (.ex i) σ:=rfl
theorem Zpk {S:Type} (st:S->St) (rel:S->Prop) (μ : S->Nat) (s:S) (x:SV):ZoR m st rel μ s K (.pan x) σ = K (.pan x) σ:=rfl
theorem ZqF {S:Type} (st:S->St) (rel:S->Prop) (μ : S->Nat) (s:S):ZoR m st rel μ s K .ret σ = K .ret σ:=rfl
end
section
variable {P:Program} {m:Nat} {σ : St} {K:Ex->St->Prop} {L:RK} {r:KT} {d:Option Nat} {g:Option (Nat × Bool)}
theorem br {b:Bool} {f h:CT} (h1:b=true->f σ K) (h2:b=false->h σ K):BR b f h σ K:=⟨h1,h2⟩
theorem Zq {b:Bool} {f h:CT} (hb:b=true) (h1:f σ K):BR b f h σ K:=⟨λ_=>h1,λe=>by rw [hb] at e;cases e⟩
theorem Zr {b:Bool} {f h:CT} (hb:b=false) (h1:h σ K):BR b f h σ K:=⟨λe=>by (rw [hb] at e;cases e),λ_=>h1⟩
theorem gb {b w:Bool} {j:Nat} {i:SI} (h:Yv P (some (j,w)) d i σ r L):GB P Y b j w d i σ r L:=.inr (.inr h)
theorem YT {b w:Bool} {j:Nat} {i:SI} (hb:b=w) (h:stp P Y d i σ r L):GB P Y b j w d i σ r L:=.inl ⟨hb,h⟩
theorem UG {b w:Bool} {j:Nat} {i:SI} (hb:b≠w) (h:Zvz d σ r L):GB P Y b j w d i σ r L:=.inr (.inl ⟨hb,h⟩)
theorem call {f:FuncId} {args:List SV} {res:SV} (h:Ct P f args res) (hk:YD d res g σ r L):ZyF P g f args d σ r L:=⟨res,.inl (ZQ.2 λ_=>h),hk⟩
theorem Zaz {f:FuncId} {args:List SV} {res:SV} (hf:FLT res) (h:Ct P f (ZcE (vw4 σ.hp) args) res) (hk:YD d res g σ r L):ZyF P g f args d σ r L:=⟨res,.inr ⟨hf,ZQ.2 λ_=>h⟩,hk⟩
theorem ZcV {b:BinOp} {k:IntKind} {x y:Int} (h:y≠0) (hk:YD d (.v (.int k (Zzq b k x y))) g σ r L):DIV g b k x y d σ r L:=⟨ZQ.2 λ_=>h,hk⟩
theorem ixs {xs:List (List SV)} {i:Int} (n:Nat) (row:List SV) (hi:i=(n:Int)) (hr:xs[n]? = some row) (hk:YD d (.ps row 0) g σ r L):IXS g xs i d σ r L:=⟨row,ZQ.2 λ_=>⟨n,hi,hr⟩,hk⟩
theorem Zo {α : Type} {l:List α} {f:α->List SV} {i:Int} (n:Nat) (hn:n < l.length) (hi:i=(n:Int)) (hk:YD d (.ps (f l[n]) 0) g σ r L):IXS g (l.map f) i d σ r L :=
 ixs n _ hi (by simp [hn]) hk
theorem ixa {len:Nat} {i:Int} {F:Nat->Option SV} (n:Nat) (hi:i=(n:Int)) (hn:n < len) (hk:WN (F n) d g σ r L):IXA g len i F d σ r L:=⟨n,ZQ.2 λ_=>⟨hi,hn⟩,hk⟩
theorem loop {f:CT} {S:Type} (st:S->St) (rel:S->Prop) (μ : S->Nat) (s:S) (h0:rel s) (he:Ent m σ (st s)) (hb:∀ s,rel s->f (st s) (ZoR m st rel μ s K)):Zt9 m f σ K :=
 .inr ⟨S,st,rel,μ,⟨s,h0,he⟩,hb⟩
theorem Xt {f:CT} (n:Nat) (h:ZyA f K n σ):Zt9 m f σ K:=.inl ⟨n,h⟩
theorem Zd {f:CT} (n:Nat):ZyA f K (n+1) σ = f σ (ZyB (ZyA f K n) K):=rfl
theorem ZAn (p:St->Prop):ZyB p K .n σ = p σ:=rfl
theorem Zyo (p:St->Prop) (i:Nat):ZyB p K (.ex i) σ = K (.ex i) σ:=rfl
theorem ZsP (p:St->Prop) (s:SV):ZyB p K (.pan s) σ = K (.pan s) σ:=rfl
theorem Zqg (p:St->Prop):ZyB p K .ret σ = K .ret σ:=rfl
def ZyV:List (Nat × SV)->List (Nat × SV)->Prop
 | [],_=>True
 | (t,s) :: r,fr=>lk t fr=s/\ZyV r fr
def ZyW:List (Nat × SV)->Bool
 | []=>true
 | (_,.gd _ _ _) :: _=>false
 | _ :: r=>ZyW r
theorem Zkt:∀ {r fr:List (Nat × SV)},ZyV r fr->∀ t,lk t r = .any\/lk t r=lk t fr
 | [],_,_,t=>.inl rfl
 | (u,s) :: r,fr,h,t=>by
  rw [ZH];by_cases ht:t=u
  . subst ht;rw [if_pos rfl];exact .inr h.1.symm
  . rw [if_neg ht];exact Zkt h.2 t
theorem Zfn:∀ {r:List (Nat × SV)},ZyW r=true->∀ t j b s,lk t r≠.gd j b s
 | [],_,t,j,b,s=>by simp [lk]
 | (u,s') :: r,h,t,j,b,s=>by
  rw [ZH];by_cases ht:t=u
  . rw [if_pos ht];rintro rfl;simp [ZyW] at h
  . rw [if_neg ht];exact Zfn (by cases s'<;>first | exact h | simp [ZyW] at h) t j b s
end
section
variable {w:World} {E:Env} {ok ok':Nat->Prop} {ρ : Nat->Nat} {n':Nat} {n:Nat->Prop}
theorem ent {σ σ':St} (ρ : Nat->Nat) (hf:mtF ρ σ'.n [] σ'.fr σ.fr) (hp:mtP ρ σ'.hp σ.hp σ'.n σ'.n) (hb:hpb σ'.n σ'.hp) (hρ : ∀ i,i < σ'.n->∀ j,j < σ'.n->ρ i = ρ j->i=j) (hN:Nat.beq σ'.N σ.N=true) {m0:Nat} (hm:Nat.ble m0 σ'.n=true) (hfix:∀ i,i < m0->ρ i=i):Ent m0 σ σ':=by
 intro C E a w hm0 h;have hN:=Nat.eq_of_beq_eq_true hN;have hgone:=Zdy hb;have hH:=Zj6 hp;have hocc:∀ k b,occ (rnE E ρ) k (lkh k σ'.hp) b->k < σ'.n/\occ E (ρ k) (lkh (ρ k) σ.hp) b:=λk b ho=>by
  by_cases hk:k < σ'.n
  . refine ⟨hk,?_⟩;have:=hH k hk;cases h1:lkh k σ'.hp<;>rw [h1] at ho this
    . cases h2:lkh (ρ k) σ.hp<;>rw [h2] at this<;>simp only [mtH] at this
      exact ho
    . simp only [mtH] at this;rw [this.1];exact ho
    . simp only [mtH] at this;rw [this];exact ho
    . simp only [mtH] at this;rw [this.1];exact ho
    . simp only [mtH] at this;rw [this.2];exact ho
    . simp only [mtH] at this;rw [this];exact ho
    . simp only [mtH] at this;rw [this];exact ho
    . simp only [mtH] at this;rw [this.1];exact ho
    . exact ho.elim
  . rw [hgone k hk] at ho;exact ho.elim
 have hst:ZD w w (okS C E σ.hp) (okS C (rnE E ρ) σ'.hp):=λb hb _=>⟨⟨hb.1,λk ho=>hb.2 _ (hocc k b ho).2⟩,rfl⟩;refine ⟨rnE E ρ,λt=>?_,by rw [hN];exact h.sz,XU hst h.df,λt j b s ht=>?_,⟨hgone,λk=>?_,λk k' b h1 h2=>?_,λk b h1=>?_,h.hs.kp,λk hk=>?_⟩⟩
 . rcases Zku hf t rfl with h1 | h1
   . rw [h1];exact trivial
   . have:=mtS_R hst h1 (h.fr t);have hng:=Zdz h1;cases hs:lk t σ'.fr<;>rw [hs] at this hng<;>first | exact this | exact absurd rfl (hng _ _ _)
 . rcases Zku hf t rfl with h1 | h1
   . rw [h1] at ht;cases ht
   . exact absurd ht (Zdz h1 j b s)
 . by_cases hk:k < σ'.n
   . have:=hH k hk;have hbk:=h.hs.bk (ρ k);cases h1:lkh k σ'.hp<;>rw [h1] at this
     . cases h2:lkh (ρ k) σ.hp<;>rw [h2] at this hbk<;>simp only [mtH] at this
       obtain ⟨rfl,this⟩:=this;simp only [Z9] at hbk ⊢;obtain ⟨cs,k1,k2⟩:=hbk;exact ⟨cs,k1,ZbZ hst _ _ _ this k2⟩
     . simp only [mtH] at this;rw [this.1] at hbk;simp only [Z9] at hbk ⊢;obtain ⟨hi0,hbk⟩:=hbk;refine ⟨hi0,?_⟩;rcases hbk with q | ⟨b,cap,cs,q1,q2,q3,q4,q5,q6,q7⟩
       . exact .inl q
       . exact .inr ⟨b,cap,cs,q1,q2,q3,q4,q5,q6,ZJ hst (λ_ h=>Ele.rfl) (λ_ h=>h.elim) _ _ (Zcu (E':=rnE E ρ) (n':=λ_=>False) _ _ (V3 this.2) q7)⟩
     . rename_i φ;simp only [mtH] at this;rw [this] at hbk;simp only [Z9] at hbk ⊢;obtain ⟨o,k1,k2⟩:=hbk;exact ⟨o,k1,φ.mono _ _ _ _ _ hst k2⟩
     . simp only [mtH] at this;obtain ⟨this,hkf⟩:=this;rw [this] at hbk;simp only [Z9] at hbk ⊢;obtain ⟨ys,k1,k2⟩:=hbk;exact ⟨ys,k1,ZrC hst _ _ hkf k2⟩
     . simp only [mtH] at this;rw [this.2] at hbk;simp only [Z9] at hbk ⊢;exact ⟨this.1,hbk.2⟩
     . simp only [mtH] at this;rw [this] at hbk;simp only [Z9] at hbk ⊢;exact hbk
     . simp only [mtH] at this;rw [this] at hbk;simp only [Z9] at hbk ⊢;exact hbk
     . simp only [mtH] at this;obtain ⟨this,k1,k2⟩:=this;rw [this] at hbk;exact Ux (E:=E) (k:=ρ k) (E':=rnE E ρ) hst.c (λ_ _=>rfl) rfl hk k1 k2 hbk
     . trivial
   . rw [hgone k hk];trivial
 . have e1:=hocc k b h1;have e2:=hocc k' b h2;exact hρ k e1.1 k' e2.1 (h.hs.dj _ _ b e1.2 e2.2)
 . obtain ⟨e1,e2⟩:=hocc k b h1;rcases h.hs.lo _ b e2 with q | q
   . exact .inl q
   . have q1:=Nat.lt_of_lt_of_le (hm0.2 _ _ q) hm0.1;have q2:ρ k=k:=hρ _ (Nat.lt_of_lt_of_le q1 (Nat.le_of_ble_eq_true hm)) k e1 (hfix _ q1);rw [q2] at q;exact .inr q
 . have hk':k < m0:=Nat.lt_of_lt_of_le hk hm0.1;obtain ⟨p1,p2,p3,p4⟩:=h.hs.pin k hk;exact ⟨Nat.lt_of_lt_of_le hk' (Nat.le_of_ble_eq_true hm),by simp only [rnE,hfix k hk'];exact p2,by simp only [rnE,hfix k hk'];exact p3,by simp only [rnE,hfix k hk'];exact p4⟩
end
theorem ZoP {ρ : Nat->Nat} {n':Nat}:∀ {s:SV},KF s->mtS ρ n' s s:=by
 intro s;exact SV.rec (motive_1:=λs=>KF s->mtS ρ n' s s) (motive_2:=λl=>KFL l->mtL ρ n' l l) (motive_3:=λ_=>True)
  (λx _=>by simp [mtS]) (λk o h=>by simp [KF] at h) (λl ih h=>by simp only [KF] at h;simp only [mtS,Za6,mtO];exact ih h)
  (λc m xs _ h=>by simp only [KF] at h;simp [mtS,h]) (λk v h=>by simp [KF] at h) (λk v m i o h=>by simp [KF] at h) (λk v m i o h=>by simp [KF] at h)
  (λl o _ h=>by simp only [KF] at h;simp [mtS,h]) (λf l ih h=>by simp only [KF] at h;simp only [mtS,clL,nbr,cond_true,mtO];exact ih h)
  (λl ih h=>by simp only [KF] at h;simp only [mtS,ZyR,mtO];exact ih h) (λk h=>by simp [KF] at h) (λk h=>by simp [KF] at h) (λT s ih h=>by simp only [KF] at h;simp only [mtS,mtI];exact ⟨trivial,ih h⟩) (λφ _=>by simp [mtS]) (λj w s _ h=>by simp [KF] at h) (λ_=>by simp [mtS])
  (λ_=>by simp [mtL]) (λs l h1 h2 h=>by simp only [KFL] at h;simp only [mtL,mtB];exact ⟨h1 h.1,h2 h.2⟩)
  trivial (λ_ _ _ _=>trivial) s
theorem Zb {ρ : Nat->Nat} {n':Nat}:∀ {l:List SV},KFL l->mtL ρ n' l l
 | [],_=>by simp [mtL]
 | s :: l,h=>by simp only [mtL,mtB];exact ⟨ZoP h.1,Zb h.2⟩
abbrev I (n:Int):SV:=.v (.int .i64 n)
abbrev B (b:Bool):SV:=.v (.bool b)
theorem Ze:∀ {xs ys:List (List SV)},KFR (xs ++ ys)↔KFR xs/\KFR ys
 | [],ys=>by simp [KFR]
 | x :: xs,ys=>by simp [KFR,Ze (xs:=xs) (ys:=ys),and_assoc]
theorem Za {α : Type} {f:α->List SV} {l:List α}:KFR (l.map f)↔∀ x ∈ l,KFL (f x):=by
 induction l with
 | nil=>simp [KFR]
 | cons x l ih=>simp [KFR,ih]
attribute [simp] Ze KFR KFL KF Zb mtO Nat.beq_refl
theorem Zh {n:Int} (h1:-9223372036854775808<=n) (h2:n<=9223372036854775807):IntKind.i64.wrap n=n:=IntWalk.i64_in n ⟨h1,h2⟩
def stO {S:Type} (σ : St) (ov:S->List (Nat × SV)) (hv:S->List (Nat × HB)) (s:S):St:=⟨ov s ++ σ.fr,hv s ++ σ.hp,σ.n,σ.N,[]⟩
theorem e_stO {S:Type} (fr:List (Nat × SV)) (hp:List (Nat × HB)) (n N:Nat) (gs:List Nat) (ov:S->List (Nat × SV)) (hv:S->List (Nat × HB)) (s:S):stO ⟨fr,hp,n,N,gs⟩ ov hv s=⟨ov s ++ fr,hv s ++ hp,n,N,[]⟩:=rfl
theorem Yy {m:Nat} {f:CT} {σ : St} {K:Ex->St->Prop} {S:Type} (ov:S->List (Nat × SV)) (hv:S->List (Nat × HB)) (rel:S->Prop) (μ : S->Nat) (s0:S) (h0:rel s0) (he:Ent m σ (stO σ ov hv s0))
 (hb:∀ s,rel s->f (stO σ ov hv s) (ZoR m (stO σ ov hv) rel μ s K)):Zt9 m f σ K :=
 loop (stO σ ov hv) rel μ s0 h0 he hb
theorem Zau {m:Nat} {f:CT} {σ σ1:St} {K:Ex->St->Prop} {S:Type} (hg:Ent m σ σ1) (ov:S->List (Nat × SV)) (hv:S->List (Nat × HB)) (rel:S->Prop) (μ : S->Nat) (s0:S) (h0:rel s0) (he:Ent m σ1 (stO σ1 ov hv s0))
 (hb:∀ s,rel s->f (stO σ1 ov hv s) (ZoR m (stO σ1 ov hv) rel μ s K)):Zt9 m f σ K :=
 loop (stO σ1 ov hv) rel μ s0 h0 (ZG hg he) hb
theorem gh {m:Nat} {r:CT} {σ σ1:St} {K:Ex->St->Prop} (hg:Ent m σ σ1) (h:r σ1 K):GH m r σ K:=⟨σ1,hg,h⟩
theorem ZAz {C:Cx} {E:Env} {hp:List (Nat × HB)} {n:Nat->Prop} {w:World} {m k v m':Nat} {xs:List (List SV)} {T:TypeId} (hmc:MC C m) (hm:m<=k) (h:HSim C E hp n w) (hk:lkh k hp = .row v m' xs T) :
 (xs=[]/\∃ a,E.hv k v = .slice a 0 0)\/∃ b cap,E.hv k v = .slice (some ⟨b,0,none⟩) xs.length cap/\xs.length<=cap/\cap≠0/\xs.length<=9223372036854775807/\RR w E n (okS C E ((k,.gone) :: hp)) b m' xs 0:=by
 have hb:=h.bk k;rw [hk] at hb;simp only [Z9] at hb;rcases hb with ⟨_,h1 | ⟨b,cap,cs,h1,h2,h3,⟨h4,h4'⟩,h5,h6,h7⟩⟩
 . exact .inl h1
 . have hoc:occ E k (lkh k hp) b:=by rw [hk];exact ⟨_,_,h1,h4'⟩
   have hok:okS C E ((k,.gone) :: hp) b:=by
    refine ⟨?_,λj ho=>?_⟩
    . rcases h.lo k b hoc with q | q
      . exact .inr q
      . have:=hmc.2 k b q;have:=hmc.1;omega
    . rw [Zp] at ho;split at ho
      . exact ho.elim
      . exact absurd (h.dj j k b ho hoc).symm (by omega)
   exact .inr ⟨b,cap,h1,h4,h4',h5,WQ (cs:=cs) (ok:=okS C E hp) hok (λj c hj=>by rw [cell_of_row _ _ _ _ _ _ h2];simpa using hj) (UJ h k).2 xs 0 h6 (by simpa using h7)⟩
theorem ZgE {m:Nat} {σ : St} (t k:Nat) (s:SV) (hg:σ.gs=[]) (hs:∀ j b u,s≠.gd j b u) (hR:∀ C E w y,MC C m->HSim C E σ.hp (ltn σ.n) w->R w E (ltn σ.n) (okS C E σ.hp) (lk t σ.fr) y->R w E (ltn σ.n) (okS C E ((k,.gone) :: σ.hp)) s y) :
 Ent m σ ⟨(t,s) :: σ.fr,(k,.gone) :: σ.hp,σ.n,σ.N,σ.gs⟩:=λC E a w hmc h=>by
 obtain ⟨g1,g2⟩:=UJ h.hs k;have hR0:∀ u,R w E (ltn σ.n) (okS C E σ.hp) (lk u σ.fr) (a.tmps.getD u undef):=λu=>Zue (h.fr u) (λj b u' e=>by have:=h.gs u j b u' e;rw [hg] at this;simp at this);refine ⟨E,λu=>?_,h.sz,XU g2 h.df,λu j b s' hu=>?_,g1⟩
 . rw [ZH];split
   . rename_i hu;subst hu;have:=hR C E w _ hmc h.hs (hR0 _);cases s<;>first | exact this | exact absurd rfl (hs _ _ _)
   . refine Xy g2 (λ_ _=>Ele.rfl) (λk hk=>hk) (λj b s hs=>?_) (h.fr u);have:=h.gs u j b s hs;rw [hg] at this;simp at this
 . rw [ZH] at hu;split at hu
   . exact absurd hu (hs _ _ _)
   . exact h.gs u j b s' hu
theorem UB {m:Nat} {σ : St} (t k v:Nat) {m':Nat} {xs:List (List SV)} {T:TypeId} (hm:Nat.ble m k=true) (hg:σ.gs=[]) (hl:lk t σ.fr = .mr k v) (hk:lkh k σ.hp = .row v m' xs T) :
 Ent m σ ⟨(t,.sl false m' xs) :: σ.fr,(k,.gone) :: σ.hp,σ.n,σ.N,σ.gs⟩ :=
 ZgE t k _ hg (λ_ _ _ e=>by cases e) λC E w y hmc hh hR=>by
  rw [hl] at hR;simp only [R] at hR ⊢;rcases ZAz hmc (Nat.le_of_ble_eq_true hm) hh hk with ⟨h1,a0,h2⟩ | ⟨b,cap,h1,h4,h4',h5,h7⟩
  . exact ⟨a0,0,0,by rw [hR.2.2.1,h2],by simp [h1],⟨Nat.le_refl _,λh=>by cases h⟩,by simp [h1],.inl h1⟩
  . exact ⟨_,_,_,hR.2.2.1.trans h1,rfl,⟨h4,λh=>by cases h⟩,h5,.inr ⟨b,0,rfl,h7⟩⟩
theorem Zmx {m:Nat} {σ : St} (k v:Nat) {mm:Nat} {xs:List (List SV)} {T:TypeId} (o m':Nat) (T':TypeId) (hg:σ.gs=[]) (hk:lkh k σ.hp = .row v mm xs T) :
 Ent m σ ⟨σ.fr,(k,.rws v mm xs T o m' [] T') :: σ.hp,σ.n,σ.N,σ.gs⟩:=λC E a w hmc h=>by
 have hocc:∀ b,occ E k (.rws v mm xs T o m' [] T') b↔occ E k (lkh k σ.hp) b:=λb=>by
  rw [hk];simp only [occ,Zcy,List.length_nil,Nat.le_zero];exact ⟨λ⟨i,hi,h⟩=>by subst hi;exact h,λh=>⟨0,rfl,h⟩⟩
 have hst:ZD w w (okS C E σ.hp) (okS C E ((k,.rws v mm xs T o m' [] T') :: σ.hp)):=λb hb _=>⟨(ZgA hocc b).2 hb,rfl⟩;have hH:HSim C E ((k,.rws v mm xs T o m' [] T') :: σ.hp) (ltn σ.n) w:=by
  have hkn:k < σ.n:=by
   rcases Classical.em (k < σ.n) with h' | h'
   . exact h'
   . have:=h.hs.kn k h';rw [hk] at this;cases this
  refine ⟨λj hj=>?_,λj=>?_,λj j' b h1 h2=>h.hs.dj j j' b ((Vj hocc j b).1 h1) ((Vj hocc j' b).1 h2),λj b h1=>h.hs.lo j b ((Vj hocc j b).1 h1),h.hs.kp,h.hs.pin⟩
  . rw [Zp,if_neg (by rintro rfl;exact hj hkn)];exact h.hs.kn j hj
  . rw [Zp];by_cases hj:j=k
    . subst hj;rw [if_pos rfl];have hb:=Yh (n:=ltn σ.n) (n':=ltn σ.n) hst (λ_ _=>Ele.rfl) (λ_ h=>h) (.inr (show ltn σ.n j from hkn)) (λ_ _=>rfl) rfl (h.hs.bk j);rw [hk] at hb;simp only [Z9] at hb ⊢;refine ⟨hb.1,Nat.zero_le _,λi m1 rows TT hr=>?_,λi j b hi hj _ _=>by simp at hi hj;omega⟩;cases i with
      | zero =>
       simp only [YF,WG,List.length_nil,Option.some.injEq,Prod.mk.injEq] at hr;obtain ⟨rfl,rfl,rfl⟩:=hr;exact hb.2
      | succ i=>simp [YF] at hr
    . rw [if_neg hj];refine Yh hst (λ_ _=>Ele.rfl) (λ_ h=>h) ?_ (λ_ _=>rfl) rfl (h.hs.bk j);rcases Classical.em (j < σ.n) with h' | h'
      . exact .inr h'
      . exact .inl (h.hs.kn j h')
 exact ⟨E,Yu h hst (λ_ _=>Ele.rfl) (Nat.le_refl _) hH⟩
theorem Zgj {p:SV->SV->Prop} (hp:∀ s,p s s) {k o:Nat} {x:SV} {row:List SV} (hcell:row[o]? = some x):∀ {N u:Nat} {xs:List (List SV)},xs[N]? = some row->p x (.mr k (u+N)) ->
 F2 p (WG k o u N xs).flatten (WG k o u (N+1) (xs.set N (row.set o .any))).flatten
 | 0,u,[],h,_=>by simp at h
 | 0,u,r :: xs,h,hx=>by
  simp at h;subst h;simp only [WG,List.set_cons_zero,List.flatten_cons,List.set_set];exact ZbI (Zft hp hx hcell) (UL hp _)
 | N+1,u,[],h,_=>by simp at h
 | N+1,u,r :: xs,h,hx=>by
  simp only [WG,List.set_cons_succ,List.flatten_cons];exact ZbI (UL hp _) (Zgj hp hcell (by simpa using h) (by rw [show u+1+N=u+(N+1) from by omega];exact hx))
theorem Zd8 {m:Nat} {σ : St} (k q:Nat) {v mm vq o m':Nat} {xs:List (List SV)} {T T':TypeId} {inn:List (List (List SV))} {ys:List (List SV)} (row:List SV) (hm:Nat.ble m q=true) (hk:lkh k σ.hp = .rws v mm xs T o m' inn T') (hq:lkh q σ.hp = .row vq m' ys T')
 (hrow:xs[inn.length]? = some row) (hcell:row[o]? = some (.mr q vq)) :
 Ent m σ ⟨σ.fr,(k,.rws v mm (xs.set inn.length (row.set o .any)) T o m' (inn ++ [ys]) T') :: (q,.gone) :: σ.hp,σ.n,σ.N,σ.gs⟩:=λC E a w hmc h=>by
 have hne:k≠q:=by rintro rfl;rw [hk] at hq;cases hq
 have hnk:∀ j,lkh j σ.hp≠.gone->j < σ.n:=λj hj=>by
  rcases Classical.em (j < σ.n) with h' | h'
  . exact h'
  . exact absurd (h.hs.kn j h') hj
 have hkn:k < σ.n:=hnk k (by rw [hk];simp);have hqn:q < σ.n:=hnk q (by rw [hq];simp);have hbk:=h.hs.bk k;have hbq:=h.hs.bk q;rw [hk] at hbk;rw [hq] at hbq;simp only [Z9] at hbk hbq;obtain ⟨a1,a2,a3,a4⟩:=hbk;obtain ⟨b1,b2⟩:=hbq;have hNl:inn.length < xs.length:=(List.getElem?_eq_some_iff.1 hrow).1
 let E':Env:=⟨E.β,λj u=>if j=k/\u=E.iss k then E.hv q vq else E.hv j u,λj=>if j=k then E.iss k+1 else E.iss j⟩
 have hv0:∀ j u,u < E.iss j->E'.hv j u=E.hv j u:=λj u hu=>by
  simp only [E'];rw [if_neg];rintro ⟨rfl,rfl⟩;omega
 have hvj:∀ j u,j≠k->E'.hv j u=E.hv j u:=λj u hj=>by simp only [E'];rw [if_neg (λe=>hj e.1)]
 have hvn:E'.hv k (v+(inn.length+1))=E.hv q vq:=if_pos ⟨rfl,by omega⟩;have hik:E'.iss k=E.iss k+1:=if_pos rfl;have hE:∀ j,Ele E E' j j:=λj=>⟨rfl,by simp only [E'];split<;>(try subst j)<;>omega,λu hu=>hv0 j u hu⟩
 let hp':List (Nat × HB):=(k,.rws v mm (xs.set inn.length (row.set o .any)) T o m' (inn ++ [ys]) T') :: (q,.gone) :: σ.hp
 have lk':lkh k hp' = .rws v mm (xs.set inn.length (row.set o .any)) T o m' (inn ++ [ys]) T':=by simp only [hp'];rw [Zp,if_pos rfl]
 have lq':lkh q hp' = .gone:=by simp only [hp'];rw [Zp,if_neg hne.symm,Zp,if_pos rfl]
 have lj':∀ j,j≠k->j≠q->lkh j hp'=lkh j σ.hp:=λj h1 h2=>by simp only [hp'];rw [Zp,if_neg h1,Zp,if_neg h2]
 have hoq:∀ b,Zcy (E.hv q vq) b->occ E q (lkh q σ.hp) b:=λb hb=>by rw [hq];exact hb
 have hok:∀ i b,i<=inn.length->Zcy (E.hv k (v+i)) b->occ E k (lkh k σ.hp) b:=λi b hi hb=>by rw [hk];exact ⟨i,hi,hb⟩
 have hoc:∀ j b,occ E' j (lkh j hp') b->(j≠q/\occ E j (lkh j σ.hp) b)\/(j=k/\occ E q (lkh q σ.hp) b):=λj b ho=>by
  by_cases h1:j=k
  . subst h1;rw [lk'] at ho;obtain ⟨i,hi,hb⟩:=ho;simp only [List.length_append,List.length_cons,List.length_nil] at hi;by_cases hi2:i=inn.length+1
    . subst hi2;rw [hvn] at hb;exact .inr ⟨rfl,hoq b hb⟩
    . rw [hv0 _ _ (by omega)] at hb;exact .inl ⟨hne,hok i b (by omega) hb⟩
  . by_cases h2:j=q
    . subst h2;rw [lq'] at ho;exact ho.elim
    . rw [lj' j h1 h2] at ho;refine .inl ⟨h2,?_⟩;cases hl:lkh j σ.hp<;>rw [hl] at ho<;>simp only [occ] at ho ⊢<;>first | exact ho | (simp only [hvj j _ h1] at ho;exact ho)
 have hoc2:∀ j b,occ E j (lkh j σ.hp) b->∃ j',occ E' j' (lkh j' hp') b:=λj b ho=>by
  by_cases h1:j=k
  . subst h1;rw [hk] at ho;obtain ⟨i,hi,hb⟩:=ho;exact ⟨j,by rw [lk'];exact ⟨i,by simp;omega,by rw [hv0 _ _ (by omega)];exact hb⟩⟩
  . by_cases h2:j=q
    . subst h2;rw [hq] at ho;exact ⟨k,by rw [lk'];exact ⟨inn.length+1,by simp,by rw [hvn];exact ho⟩⟩
    . refine ⟨j,?_⟩;rw [lj' j h1 h2];cases hl:lkh j σ.hp<;>rw [hl] at ho<;>simp only [occ] at ho ⊢<;>first | exact ho | (simp only [hvj j _ h1];exact ho)
 have hst:ZD w w (okS C E σ.hp) (okS C E' hp'):=λb hb _=>⟨⟨hb.1,λj ho=>by
  rcases hoc j b ho with ⟨_,q⟩ | ⟨_,q⟩
  . exact hb.2 _ q
  . exact hb.2 _ q⟩,rfl⟩
 have mono:∀ j,Z9 w E' (ltn σ.n) (okS C E' hp') j (lkh j σ.hp)\/j=k:=λj=>by
  by_cases h1:j=k
  . exact .inr h1
  . refine .inl (Yh hst (λj _=>hE j) (λ_ h=>h) ?_ (λ_ _=>rfl) (by simp only [E'];rw [if_neg h1]) (h.hs.bk j));rcases Classical.em (j < σ.n) with h' | h'
    . exact .inr h'
    . exact .inl (h.hs.kn j h')
 have hH:HSim C E' hp' (ltn σ.n) w:=by
  refine ⟨λj hj=>?_,λj=>?_,λj j' b h1 h2=>?_,λj b h1=>?_,h.hs.kp,λj hj=>⟨(h.hs.pin j hj).1,(h.hs.pin j hj).2.trans (hE j)⟩⟩
  . have e1:j≠k:=by rintro rfl;exact hj hkn
    have e2:j≠q:=by rintro rfl;exact hj hqn
    rw [lj' j e1 e2];exact h.hs.kn j hj
  . by_cases e1:j=k
    . subst e1;rw [lk'];simp only [Z9,List.length_append,List.length_cons,List.length_nil,List.length_set];refine ⟨by rw [hik];omega,by omega,λi m1 rows TT hr=>?_,λx y b hx hy e1 e2=>?_⟩
      . cases i with
        | zero =>
         simp only [YF,Option.some.injEq,Prod.mk.injEq,List.length_append,List.length_cons,List.length_nil] at hr;obtain ⟨rfl,rfl,rfl⟩:=hr;have h0:=a3 0 _ _ _ rfl;rw [hv0 _ _ (by omega)];have hl1:=YV j o (v+1) inn.length xs;have hl2:(WG j o (v+1) (inn.length+(0+1)) (xs.set inn.length (row.set o .any))).length=xs.length:=by rw [YV];simp
         rcases h0 with ⟨q1,q2⟩ | ⟨b,cap,cs,q1,q2,q3,q4,q5,q6,q7⟩
         . have h9:=congrArg List.length q1;rw [hl1,List.length_nil] at h9;omega
         . rw [hl1] at q1 q4 q5 q7;refine .inr ⟨b,cap,cs,by rw [hl2];exact q1,q2,q3,by rw [hl2];exact q4,by rw [hl2];exact q5,?_,?_⟩
           . refine XO.2 λr hr=>?_;rcases List.mem_or_eq_of_mem_set hr with hr | rfl
             . exact XO.1 q6 r hr
             . rw [List.length_set];exact XO.1 q6 row (List.mem_of_getElem? hrow)
           . rw [hl2];refine UD (Zgj (p:=λs s'=>∀ y,R w E (ltn σ.n) (okS C E σ.hp) s y->R w E' (ltn σ.n) (okS C E' hp') s' y) (λs y hy=>ZU hst.c (λj _=>hE j) (λ_ h=>h) _ _ hy) hcell hrow λy hy=>?_) q7;simp only [R] at hy ⊢;refine ⟨hkn,by rw [hik];omega,?_,hy.2.2.2⟩;rw [show v+1+inn.length=v+(inn.length+1) from by omega,hvn];exact hy.2.2.1
        | succ i =>
         simp only [YF] at hr;split at hr
         case h_2=>cases hr
         rename_i r hr1;simp only [Option.some.injEq,Prod.mk.injEq] at hr;obtain ⟨rfl,rfl,rfl⟩:=hr;by_cases hi:i < inn.length
         . rw [List.getElem?_append_left hi] at hr1;rw [hv0 _ _ (by omega)];exact (a3 (i+1) m' r T' (by simp only [YF,hr1])).mono hst.c (λj _=>hE j) (λ_ h=>h) (λ_ _=>rfl)
         . have hi2:i=inn.length:=by have:=(List.getElem?_eq_some_iff.1 hr1).1;simp at this;omega
           subst hi2;simp at hr1;subst hr1;rw [hvn];exact ZsU.mono hst.c (λj _=>hE j) (λ_ h=>h) (λ_ _=>rfl) b2
      . have key:∀ z,z<=inn.length+(0+1)->∀ b,Zcy (E'.hv j (v+z)) b->(z<=inn.length/\Zcy (E.hv j (v+z)) b)\/(z=inn.length+1/\Zcy (E.hv q vq) b):=λz hz b hb=>by
         by_cases h1:z=inn.length+1
         . subst h1;rw [hvn] at hb;exact .inr ⟨rfl,hb⟩
         . rw [hv0 _ _ (by omega)] at hb;exact .inl ⟨by omega,hb⟩
        rcases key x hx b e1 with ⟨x1,x2⟩ | ⟨x1,x2⟩<;>rcases key y hy b e2 with ⟨y1,y2⟩ | ⟨y1,y2⟩
        . exact a4 x y b x1 y1 x2 y2
        . exact absurd (h.hs.dj j q b (hok x b x1 x2) (hoq b y2)) hne
        . exact absurd (h.hs.dj j q b (hok y b y1 y2) (hoq b x2)) hne
        . omega
    . by_cases e2:j=q
      . subst e2;rw [lq'];trivial
      . rw [lj' j e1 e2];rcases mono j with h' | h'
        . exact h'
        . exact absurd h' e1
  . rcases hoc j b h1 with ⟨x1,x2⟩ | ⟨x1,x2⟩<;>rcases hoc j' b h2 with ⟨y1,y2⟩ | ⟨y1,y2⟩
    . exact h.hs.dj j j' b x2 y2
    . exact absurd (h.hs.dj j q b x2 y2) x1
    . exact absurd (h.hs.dj j' q b y2 x2) y1
    . rw [x1,y1]
  . rcases hoc j b h1 with ⟨x1,x2⟩ | ⟨x1,x2⟩
    . exact h.hs.lo j b x2
    . rcases h.hs.lo q b x2 with h' | h'
      . exact .inl h'
      . have h3:=hmc.2 q b h';have h4:=hmc.1;have h5:=Nat.le_of_ble_eq_true hm;omega
 exact ⟨E',Yu h hst (λj _=>hE j) (Nat.le_refl _) hH⟩
theorem Vb {m:Nat} {b:Bool} {s s':SV} {hp hp':List (Nat × HB)} {n n':Nat} (h:Ent m ⟨[(0,s)],hp,n,1,[]⟩ ⟨[(0,s')],hp',n',1,[]⟩) (hg:∀ j b u,s'≠.gd j b u):ZcU m ⟨b,s,hp,n⟩ ⟨b,s',hp',n'⟩:=by
 refine ⟨rfl,λC E w y hm hH hR=>?_⟩;have hng:=U0 hR;have hS:Sim C E ⟨[(0,s)],hp,n,1,[]⟩ { tmps:=#[y],defers:=C.ds } w:=by
  refine ⟨λt=>?_,rfl,ZaN,λt j b u ht=>?_,hH⟩
  . simp only [ZH];split
    . rename_i ht;subst ht;show FR w E (ltn n) _ _ s y;cases s<;>first | exact hR | exact absurd rfl (hng _ _ _)
    . exact trivial
  . simp only [ZH] at ht;split at ht
    . exact absurd ht (hng _ _ _)
    . cases ht
 obtain ⟨E',h'⟩:=h C E _ w hm hS;refine ⟨E',h'.hs,?_⟩;have:=h'.fr 0;exact Zue this (λj b u e=>hg j b u (by simpa [lk] using e))
theorem ZBI {m:Nat} {b:Bool} {s s':SV} {hp hp':List (Nat × HB)} {n n':Nat} (ρ : Nat->Nat) (hf:mtS ρ n' s' s) (hp0:mtP ρ hp' hp n' n') (hb:hpb n' hp') (hρ : ∀ i,i < n'->∀ j,j < n'->ρ i = ρ j->i=j) (hm:Nat.ble m n'=true) (hfix:∀ i,i < m->ρ i=i):ZcU m ⟨b,s,hp,n⟩ ⟨b,s',hp',n'⟩ :=
 Vb (ent ρ (show mtF ρ n' [] [(0,s')] [(0,s)] from ⟨hf,trivial⟩) hp0 hb hρ rfl hm hfix) (Zdz hf)
theorem Yb {m:Nat} {b:Bool} {s s':SV} {hp hp':List (Nat × HB)} {n n':Nat} (hf:mtS id n' s' s) (hp0:mtP id hp' hp n' n') (hb:hpb n' hp') (hm:Nat.ble m n'=true):ZcU m ⟨b,s,hp,n⟩ ⟨b,s',hp',n'⟩ :=
 ZBI id hf hp0 hb (λ_ _ _ _ h=>h) hm (λ_ _=>rfl)
theorem callm {P:Program} {f:FuncId} {args args0:List SV} {d:Option Nat} {σ : St} {r:KT} {K:RK} {hp0:List (Nat × HB)} {n0:Nat} {o:Ot} (ρ : Nat->Nat) (hc:CtM P f hp0 n0 args0 (· = o)) (h1:mtL ρ n0 args0 args) (h2:mtP ρ hp0 σ.hp n0 n0) (h3:ZBG ρ n0) (h4:∀ i,i < n0->ρ i < σ.n)
 (h5:cmK o.pn (rnS (exR ρ n0 σ.n) o.res) (hpM ρ n0 σ.n o σ.hp) (σ.n+(o.n - n0)) d σ r K):ZdG P f args d σ r K :=
 ⟨hp0,n0,args0,_,ρ,hc,h1,h2,h3,h4,λ_ e=>e ▸ h5⟩
def rho:List Nat->Nat->Nat
 | [],_=>0
 | a :: _,0=>a
 | _ :: l,k+1=>rho l k
theorem Vp:∀ (l:List Nat) (k:Nat) (h:k < l.length),rho l k=l[k]
 | a :: _,0,_=>rfl
 | _ :: l,k+1,h=>by simpa [rho] using Vp l k (by simpa using h)
theorem UV {P:Program} {f:FuncId} {args args0:List SV} {d:Option Nat} {σ : St} {r:KT} {K:RK} {hp0:List (Nat × HB)} {n0:Nat} {o:Ot} (l:List Nat) (hc:CtM P f hp0 n0 args0 (· = o)) (hn:Nat.beq l.length n0=true) (hi:Za3 l=true) (hl:ZaM σ.n l=true)
 (h1:mtL (rho l) n0 args0 args) (h2:mtP (rho l) hp0 σ.hp n0 n0) (h5:cmK o.pn (rnS (exR (rho l) n0 σ.n) o.res) (hpM (rho l) n0 σ.n o σ.hp) (σ.n+(o.n - n0)) d σ r K):ZdG P f args d σ r K:=by
 have hn:=Nat.eq_of_beq_eq_true hn;refine callm (rho l) hc h1 h2 (λi hi' j hj e=>?_) (λi hi'=>?_) h5
 . rw [Vp l i (by omega),Vp l j (by omega)] at e;have hp:=List.pairwise_iff_getElem.1 (XS hi);rcases Nat.lt_trichotomy i j with h | h | h
   . exact absurd e (hp i j _ _ h)
   . exact h
   . exact absurd e.symm (hp j i _ _ h)
 . rw [Vp l i (by omega)];exact UQ hl _ (List.getElem_mem _)
theorem Zj {m0:Nat} {σ σ':St} (hf:mtF id σ'.n [] σ'.fr σ.fr) (hp:mtP id σ'.hp σ.hp σ'.n σ'.n) (hb:hpb σ'.n σ'.hp) (hN:Nat.beq σ'.N σ.N=true) (hm:Nat.ble m0 σ'.n=true):Ent m0 σ σ':=ent id hf hp hb (λ_ _ _ _ h=>h) hN hm (λ_ _=>rfl)
theorem ZA0 {fr:List (Nat × SV)} {j j':Nat} {w w' b:Bool} {p:Prop} (hl:lk j fr = .gd j' w' (.v (.bool b))) (h:b=w->p):ZfV (some (j,w)) fr p:=λhg=>h (by have:=(Ziv hg hl).2;simpa using this)
theorem ZBa {fr:List (Nat × SV)} {j:Nat} {w b:Bool} {p:Prop} (hl:lk j fr = .v (.bool b)) (h:b=w->p):ZfV (some (j,w)) fr p:=λhg=>h (ZAO hg hl)
theorem ZgB {xs:List (List SV)} {i:Int} {σ : St} {r:KT} {L:RK} {d:Option Nat} {j j':Nat} {w w' b:Bool} (n:Nat) (row:List SV) (hl:lk j σ.fr = .gd j' w' (.v (.bool b))) (h:b=w->i=(n:Int)/\xs[n]? = some row) (hk:YD d (.ps row 0) (some (j,w)) σ r L) :
 IXS (some (j,w)) xs i d σ r L:=⟨row,ZA0 hl λe=>⟨n,(h e).1,(h e).2⟩,hk⟩
theorem ixs_v {xs:List (List SV)} {i:Int} {σ : St} {r:KT} {L:RK} {d:Option Nat} {j:Nat} {w b:Bool} (n:Nat) (row:List SV) (hl:lk j σ.fr = .v (.bool b)) (h:b=w->i=(n:Int)/\xs[n]? = some row) (hk:YD d (.ps row 0) (some (j,w)) σ r L) :
 IXS (some (j,w)) xs i d σ r L:=⟨row,ZBa hl λe=>⟨n,(h e).1,(h e).2⟩,hk⟩
theorem Zsj {g:Option (Nat × Bool)} {m b:Nat} {xs ys:List (List SV)} {d:Option Nat} {σ : St} {r:KT} {L:RK} (h:(xs.length+ys.length) * b<=140737488355328) (hk:YD d (.sl false m (xs ++ ys)) g σ r L):APP g m b xs ys d σ r L:=⟨ZQ.2 λ_=>h,hk⟩
theorem Wi {g:Option (Nat × Bool)} {k v m len:Nat} {i:Int} {d:Option Nat} {σ : St} {r:KT} {L:RK} (n:Nat) (hi:i=(n:Int)) (hn:n < len) (hk:YD d (.pr k v m n 0) g σ r L):IXR g k v m len i d σ r L:=⟨n,ZQ.2 λ_=>⟨hi,hn⟩,hk⟩
theorem Zan {α : Type} {l:List α} {f:α->List SV} {g:Option (Nat × Bool)} {i o m:Nat} {ag:Bool} {d:Option Nat} {σ : St} {r:KT} {L:RK} (hn:i < l.length) (hk:WN (Wk (f l[i]) o m ag) d g σ r L):LDR g (l.map f) i o m ag d σ r L:=⟨f l[i],ZQ.2 λ_=>by simp [hn],hk⟩
theorem ZdM {α : Type} {l:List α} {f:α->List SV} {j o k v m:Nat} {c:List SV} {T:TypeId} {σ : St} {r:KT} {L:RK} (y:α) (hn:j < l.length) (ho:o+c.length<=(f l[j]).length) (he:Zu (f l[j]) o c=f y)
 (h:r ⟨σ.fr,(k,.row v m ((l.set j y).map f) T) :: σ.hp,σ.n,σ.N,σ.gs⟩ L):STR v (l.map f) j o k m c T σ r L :=
 ⟨f l[j],by simp [hn],ho,by rw [he,<- List.map_set];exact h⟩
theorem ZtG {k v m len:Nat} {i:Int} {d:Option Nat} {σ : St} {r:KT} {L:RK} {j:Nat} {w b:Bool} (n:Nat) (hl:lk j σ.fr = .v (.bool b)) (h:b=w->i=(n:Int)/\n < len) (hk:YD d (.pr k v m n 0) (some (j,w)) σ r L):IXR (some (j,w)) k v m len i d σ r L:=⟨n,ZBa hl h,hk⟩
theorem Vn {r:List SV} (h:KFL r):∀ n,KFR (List.replicate n r)
 | 0=>trivial
 | n+1=>⟨h,Vn h n⟩
theorem Y7 {P:Program} {f:FuncId} {args args0:List SV} {d:Option Nat} {σ : St} {r:KT} {K:RK} {hp0:List (Nat × HB)} {n0:Nat} {Z8:Ot->Prop} (l:List Nat) (hc:CtM P f hp0 n0 args0 Z8) (hn:Nat.beq l.length n0=true) (hi:Za3 l=true) (hl:ZaM σ.n l=true)
 (h1:mtL (rho l) n0 args0 args) (h2:mtP (rho l) hp0 σ.hp n0 n0) (h5:∀ o,Z8 o->cmK o.pn (rnS (exR (rho l) n0 σ.n) o.res) (hpM (rho l) n0 σ.n o σ.hp) (σ.n+(o.n - n0)) d σ r K):ZdG P f args d σ r K:=by
 have hn:=Nat.eq_of_beq_eq_true hn;refine ⟨hp0,n0,args0,Z8,rho l,hc,h1,h2,λi hi' j hj e=>?_,λi hi'=>?_,h5⟩
 . rw [Vp l i (by omega),Vp l j (by omega)] at e;have hp:=List.pairwise_iff_getElem.1 (XS hi);rcases Nat.lt_trichotomy i j with h | h | h
   . exact absurd e (hp i j _ _ h)
   . exact h
   . exact absurd e.symm (hp j i _ _ h)
 . rw [Vp l i (by omega)];exact UQ hl _ (List.getElem_mem _)
theorem VO {P:Program} {d:Option Nat} {op:BinOp} {t t' ty u:Nat} {c x v:Value} {σ : St} {r:KT} {K:RK} (hl:lk u σ.fr = .v x) (hop:op = .and\/op = .shr) (hr:∀ w:World,(binOp op t x c).run P w = .ok v w) (hv:v.oneCell'=true) (hk:YD d (.v v) none σ r K) :
 RAW P d (.binOp op t (.tmp u) (.const c) t') ty σ r K:=by
 intro o C E a w next Q h1 h2 h3 hs hn hq;have hx:a.eval (.tmp u)=x:=by
  have:=hs.fr u;rw [hl] at this;simp only [FR,R] at this;exact this
 have hrun:(execOp a.eval o).run P w = .ok (.value v) w:=by
  obtain ⟨dst,op',ty',pos,after,guard⟩:=o;simp only at h2;subst h2;have hc:a.eval (.const c)=c:=rfl;simp only [execOp,hx,hc];rcases hop with rfl | rfl<;>simp [Sem.run_bind,eqGuard,hr]
 refine ZM hrun (by simp) ?_;show next (a.put o.dst v) w;rcases Zaq hk with ⟨g1,g2⟩ | ⟨t,g1,g2,g3,g4,g5⟩
 . have hS:=hs;rw [h1,g1];exact hn _ E _ _ g2 hS
 . rw [h1,g1];exact hn _ E _ _ g5 (XV hs (λb hb _=>⟨hb,rfl⟩) (λ_ _=>Ele.rfl) (Nat.le_refl _) hs.hs g2 g3 (λj b u e=>by rw [e] at g4;cases g4) (by simp only [R]))
theorem w64_0:IntKind.i64.wrap 0=0:=rfl
theorem w64_1:IntKind.i64.wrap 1=1:=rfl
theorem w64_2:IntKind.i64.wrap 2=2:=rfl
theorem w64_3:IntKind.i64.wrap 3=3:=rfl
theorem w64_4:IntKind.i64.wrap 4=4:=rfl
theorem w64_5:IntKind.i64.wrap 5=5:=rfl
theorem w64_6:IntKind.i64.wrap 6=6:=rfl
theorem Wv {a b A B:Int} (h1:0<=a) (h2:a<=A) (h3:0<=b) (h4:b<=B):0<=a * b/\a * b<=A * B:=⟨Int.mul_nonneg h1 h3,Int.mul_le_mul h2 h4 h3 (by omega)⟩
def lkB (b:Bool) (s:SV) (t:Nat) (r:List (Nat × SV)):SV:=bif b then s else lk t r
def lkhB (b:Bool) (s:HB) (t:Nat) (r:List (Nat × HB)):HB:=bif b then s else lkh t r
def Zvr (b:Bool) (t:Nat) (r:List Nat):Bool:=bif b then true else XA t r
def blkE (b:Bool) (i:Nat) (K:Ex->St->Prop) (σ : St):Prop:=bif b then K .n σ else K (.ex i) σ
def ZtI (b:Bool) (s:SV):Option (List SV):=bif b then some [s] else none
def Zz9 (c:Bool) (b:BinOp) (k:IntKind) (x y:Int):Option SV:=bif c then ZhC b k x y else none
def ZBf (b:Bool) (l:List SV) (o m:Nat):Option SV:=bif b then some (.agg ((l.drop o).take m)) else none
theorem lkB_t (s:SV) (t:Nat) (r:List (Nat × SV)):lkB true s t r=s:=rfl
theorem lkB_f (s:SV) (t:Nat) (r:List (Nat × SV)):lkB false s t r=lk t r:=rfl
theorem ZAC (s:HB) (t:Nat) (r:List (Nat × HB)):lkhB true s t r=s:=rfl
theorem Zzm (s:HB) (t:Nat) (r:List (Nat × HB)):lkhB false s t r=lkh t r:=rfl
theorem ZwU (t:Nat) (r:List Nat):Zvr true t r=true:=rfl
theorem Zwr (t:Nat) (r:List Nat):Zvr false t r=XA t r:=rfl
theorem Zzh (i:Nat) (K:Ex->St->Prop) (σ : St):blkE true i K σ = K .n σ:=rfl
theorem ZAx (i:Nat) (K:Ex->St->Prop) (σ : St):blkE false i K σ = K (.ex i) σ:=rfl
theorem Zso (s:SV):ZtI true s=some [s]:=rfl
theorem Zww (b:BinOp) (k:IntKind) (x y:Int):Zz9 true b k x y=ZhC b k x y:=rfl
theorem ZwH (l:List SV) (o m:Nat):ZBf true l o m=some (.agg ((l.drop o).take m)):=rfl
def mmE (k:IntKind):Option Int->Option SV
 | some z=>some (.v (.int k z))
 | none=>none
def chkB (b:Bool) (l:List SV) (ls:List (List SV)):Option (List (List SV)):=bif b then some (l :: ls) else none
theorem ZzA (l:List SV) (ls:List (List SV)):chkB true l ls=some (l :: ls):=rfl
theorem ZAG (b:Bool):Ub true b=b:=rfl
theorem ZzR (b:Bool):Ub false b=false:=rfl
def vwP (g:SV->SV) (o:Nat):HB->SV
 | .cells l _=>.ps (ZcE g l) o
 | _=>.any
def vwM (v:Nat):HB->SV
 | .row v' m xs _=>vwN (Nat.beq v v') m xs
 | .rws v' m xs _ o m' inn _=>vwR (Nat.beq v v') (Nat.ble (v'+1) v) m m' (ZdL o m' inn xs) (inn[v - (v'+1)]?)
 | _=>.any
def cvtM (v:Nat):HB->SV
 | .row v' m xs _=>vwN (Nat.beq v v') m xs
 | _=>.any
def rvH (o m:Nat) (ag:Bool):HB->Option SV
 | .cells l _=>Wk l o m ag
 | _=>none
def rvX (hp:List (Nat × HB)) (m:Nat) (ag:Bool):SV->Option SV
 | .p k o=>rvH o m ag (lkh k hp)
 | _=>none
def pvF (o m:Nat) (ag:Bool):SV->Option SV
 | .agg l=>Wk l o m ag
 | _=>none
def pvC (k:IntKind):SV->Option SV
 | .v (.int _ n)=>some (.v (.int k (k.wrap n)))
 | _=>none
def pvE (i:Nat):SV->Option SV
 | .tup l=>nth l i
 | _=>none
theorem e_lk (t u:Nat) (s:SV) (r:List (Nat × SV)):lk t ((u,s) :: r)=lkB (Nat.beq t u) s t r:=rfl
theorem e_lk0 (t:Nat):lk t [] = .any:=rfl
theorem e_lkh (t u:Nat) (s:HB) (r:List (Nat × HB)):lkh t ((u,s) :: r)=lkhB (Nat.beq t u) s t r:=rfl
theorem Zzp (t:Nat):lkh t [] = .gone:=rfl
theorem ZAI (t u:Nat) (r:List Nat):XA t (u :: r)=Zvr (Nat.beq t u) t r:=rfl
theorem ZvN (t:Nat):XA t []=false:=rfl
theorem e_blk (id i:Nat) (K:Ex->St->Prop) (σ : St):Ztt id K (.ex i) σ = blkE (Nat.beq i id) i K σ:=rfl
theorem ZiT (g:Option (Nat × Bool)) (fr:List (Nat × SV)) (x:Value):XC g fr (.v x)=(.v x):=rfl
theorem ZnK (t:Nat) (r:List (Nat × SV)) (x:Value):YJ ((t,(.v x)) :: r)=(t,(.v x)) :: YJ r:=rfl
theorem Zwx (hp:List (Nat × HB)) (x:Value):cvt hp (.v x)=(.v x):=rfl
theorem Zud (hp:List (Nat × HB)) (g:SV->SV) (x:Value):vwS hp g (.v x)=(.v x):=rfl
theorem ZtZ (x:Value):vw0 (.v x)=(.v x):=rfl
theorem ZmA (x:Value):YA (.v x)=ZtI (ZiN x) (.v x):=rfl
theorem Zsg (x:Value):Za7 (.v x)=ZiN x:=rfl
theorem Zjs (g:Option (Nat × Bool)) (fr:List (Nat × SV)) (k o:Nat):XC g fr (.p k o)=(.p k o):=rfl
theorem ZpI (t:Nat) (r:List (Nat × SV)) (k o:Nat):YJ ((t,(.p k o)) :: r)=(t,(.p k o)) :: YJ r:=rfl
theorem Zve (hp:List (Nat × HB)) (k o:Nat):cvt hp (.p k o)=(.p k o):=rfl
theorem ZuT (hp:List (Nat × HB)) (g:SV->SV) (k o:Nat):vwS hp g (.p k o)=vwP g o (lkh k hp):=rfl
theorem Zx0 (k o:Nat):vw0 (.p k o) = .any:=rfl
theorem ZkI (k o:Nat):YA (.p k o)=some [(.p k o)]:=rfl
theorem Zq9 (k o:Nat):Za7 (.p k o)=true:=rfl
theorem ZfX (g:Option (Nat × Bool)) (fr:List (Nat × SV)) (l:List SV):XC g fr (.agg l)=(.agg l):=rfl
theorem Ziw (t:Nat) (r:List (Nat × SV)) (l:List SV):YJ ((t,(.agg l)) :: r)=(t,(.agg l)) :: YJ r:=rfl
theorem ZlN (hp:List (Nat × HB)) (l:List SV):cvt hp (.agg l) = .agg (Zm9 hp l):=rfl
theorem Zkb (hp:List (Nat × HB)) (g:SV->SV) (l:List SV):vwS hp g (.agg l) = .agg (ZcE g l):=rfl
theorem ZjB (l:List SV):vw0 (.agg l) = .any:=rfl
theorem ZfY (l:List SV):YA (.agg l)=some l:=rfl
theorem Zhr (l:List SV):Za7 (.agg l)=false:=rfl
theorem Zhe (g:Option (Nat × Bool)) (fr:List (Nat × SV)) (c:Bool) (m:Nat) (xs:List (List SV)):XC g fr (.sl c m xs)=(.sl c m xs):=rfl
theorem ZmJ (t:Nat) (r:List (Nat × SV)) (c:Bool) (m:Nat) (xs:List (List SV)):YJ ((t,(.sl c m xs)) :: r)=(t,(.sl c m xs)) :: YJ r:=rfl
theorem ZqZ (hp:List (Nat × HB)) (c:Bool) (m:Nat) (xs:List (List SV)):cvt hp (.sl c m xs)=(.sl c m xs):=rfl
theorem Zp8 (hp:List (Nat × HB)) (g:SV->SV) (c:Bool) (m:Nat) (xs:List (List SV)):vwS hp g (.sl c m xs)=(.sl c m xs):=rfl
theorem Zr7 (c:Bool) (m:Nat) (xs:List (List SV)):vw0 (.sl c m xs)=(.sl c m xs):=rfl
theorem Zhp (c:Bool) (m:Nat) (xs:List (List SV)):YA (.sl c m xs)=some [(.sl c m xs)]:=rfl
theorem Zli (c:Bool) (m:Nat) (xs:List (List SV)):Za7 (.sl c m xs)=true:=rfl
theorem Zua (l:List SV):pmS [] l=[]:=rfl
theorem Zid (g:Option (Nat × Bool)) (fr:List (Nat × SV)) (k v:Nat):XC g fr (.mr k v)=(.mr k v):=rfl
theorem Zlx (t:Nat) (r:List (Nat × SV)) (k v:Nat):YJ ((t,(.mr k v)) :: r)=(t,(.mr k v)) :: YJ r:=rfl
theorem ZqJ (hp:List (Nat × HB)) (k v:Nat):cvt hp (.mr k v)=cvtM v (lkh k hp):=rfl
theorem Zn9 (hp:List (Nat × HB)) (g:SV->SV) (k v:Nat):vwS hp g (.mr k v)=vwM v (lkh k hp):=rfl
theorem Zob (k v:Nat):vw0 (.mr k v) = .any:=rfl
theorem ZhE (k v:Nat):YA (.mr k v)=some [(.mr k v)]:=rfl
theorem Zi3 (k v:Nat):Za7 (.mr k v)=true:=rfl
theorem Zir (g:Option (Nat × Bool)) (fr:List (Nat × SV)) (k v m i o:Nat):XC g fr (.pr k v m i o)=(.pr k v m i o):=rfl
theorem Zic (g:Option (Nat × Bool)) (fr:List (Nat × SV)) (k v m i o:Nat):XC g fr (.ms k v m i o)=(.ms k v m i o):=rfl
theorem ZjS (t:Nat) (r:List (Nat × SV)) (k v m i o:Nat):YJ ((t,(.pr k v m i o)) :: r)=(t,(.pr k v m i o)) :: YJ r:=rfl
theorem Zkk (t:Nat) (r:List (Nat × SV)) (k v m i o:Nat):YJ ((t,(.ms k v m i o)) :: r)=(t,(.ms k v m i o)) :: YJ r:=rfl
theorem Zsw (hp:List (Nat × HB)) (k v m i o:Nat):cvt hp (.pr k v m i o)=(.pr k v m i o):=rfl
theorem ZqY (hp:List (Nat × HB)) (k v m i o:Nat):cvt hp (.ms k v m i o)=(.ms k v m i o):=rfl
theorem Zor (hp:List (Nat × HB)) (g:SV->SV) (k v m i o:Nat):vwS hp g (.pr k v m i o)=(.pr k v m i o):=rfl
theorem Zq3 (hp:List (Nat × HB)) (g:SV->SV) (k v m i o:Nat):vwS hp g (.ms k v m i o)=(.ms k v m i o):=rfl
theorem Zn4 (k v m i o:Nat):vw0 (.pr k v m i o) = .any:=rfl
theorem Zog (k v m i o:Nat):vw0 (.ms k v m i o) = .any:=rfl
theorem Zho (k v m i o:Nat):YA (.pr k v m i o)=some [(.pr k v m i o)]:=rfl
theorem ZiE (k v m i o:Nat):YA (.ms k v m i o)=some [(.ms k v m i o)]:=rfl
theorem ZlI (k v m i o:Nat):Za7 (.pr k v m i o)=true:=rfl
theorem Zme (k v m i o:Nat):Za7 (.ms k v m i o)=true:=rfl
theorem Zil (g:Option (Nat × Bool)) (fr:List (Nat × SV)) (row:List SV) (o:Nat):XC g fr (.ps row o)=(.ps row o):=rfl
theorem Zka (t:Nat) (r:List (Nat × SV)) (row:List SV) (o:Nat):YJ ((t,(.ps row o)) :: r)=(t,(.ps row o)) :: YJ r:=rfl
theorem Zrh (hp:List (Nat × HB)) (row:List SV) (o:Nat):cvt hp (.ps row o)=(.ps row o):=rfl
theorem ZsD (hp:List (Nat × HB)) (g:SV->SV) (l:List SV) (o:Nat):vwS hp g (.ps l o) = .ps (ZcE g l) o:=rfl
theorem Zpw (row:List SV) (o:Nat):vw0 (.ps row o) = .any:=rfl
theorem ZhM (row:List SV) (o:Nat):YA (.ps row o)=some [(.ps row o)]:=rfl
theorem ZlK (row:List SV) (o:Nat):Za7 (.ps row o)=true:=rfl
theorem Zhq (g:Option (Nat × Bool)) (fr:List (Nat × SV)) (f:FuncId) (l:List SV):XC g fr (.cl f l)=(.cl f l):=rfl
theorem Zki (t:Nat) (r:List (Nat × SV)) (f:FuncId) (l:List SV):YJ ((t,(.cl f l)) :: r)=(t,(.cl f l)) :: YJ r:=rfl
theorem Zr6 (hp:List (Nat × HB)) (f:FuncId) (l:List SV):cvt hp (.cl f l)=(.cl f l):=rfl
theorem ZsN (hp:List (Nat × HB)) (g:SV->SV) (f:FuncId) (l:List SV):vwS hp g (.cl f l) = .cl f (ZcE g l):=rfl
theorem ZsM (f:FuncId) (l:List SV):vw0 (.cl f l) = .any:=rfl
theorem Zih (f:FuncId) (l:List SV):YA (.cl f l)=some [(.cl f l)]:=rfl
theorem Zlt (f:FuncId) (l:List SV):Za7 (.cl f l)=true:=rfl
theorem ZfG (g:Option (Nat × Bool)) (fr:List (Nat × SV)) (l:List SV):XC g fr (.tup l)=(.tup l):=rfl
theorem Zix (t:Nat) (r:List (Nat × SV)) (l:List SV):YJ ((t,(.tup l)) :: r)=(t,(.tup l)) :: YJ r:=rfl
theorem Zmh (hp:List (Nat × HB)) (l:List SV):cvt hp (.tup l) = .tup (Zm9 hp l):=rfl
theorem Zmt (hp:List (Nat × HB)) (g:SV->SV) (l:List SV):vwS hp g (.tup l) = .tup (ZcE g l):=rfl
theorem ZlF (l:List SV):vw0 (.tup l) = .any:=rfl
theorem Zhi (l:List SV):Za7 (.tup l)=false:=rfl
theorem Zna (g:Option (Nat × Bool)) (fr:List (Nat × SV)) (φ : VP):XC g fr (.q φ)=(.q φ):=rfl
theorem Zqo (t:Nat) (r:List (Nat × SV)) (φ : VP):YJ ((t,(.q φ)) :: r)=(t,(.q φ)) :: YJ r:=rfl
theorem ZxQ (hp:List (Nat × HB)) (φ : VP):cvt hp (.q φ)=(.q φ):=rfl
theorem Zxg (hp:List (Nat × HB)) (g:SV->SV) (φ : VP):vwS hp g (.q φ)=(.q φ):=rfl
theorem Zwb (φ : VP):vw0 (.q φ)=(.q φ):=rfl
theorem Zkx (φ : VP):YA (.q φ)=some [(.q φ)]:=rfl
theorem Zrx (φ : VP):Za7 (.q φ)=true:=rfl
theorem ZhJ (g:Option (Nat × Bool)) (fr:List (Nat × SV)) (k:Nat):XC g fr (.mp k)=(.mp k):=rfl
theorem Zky (t:Nat) (r:List (Nat × SV)) (k:Nat):YJ ((t,(.mp k)) :: r)=(t,(.mp k)) :: YJ r:=rfl
theorem Zqc (hp:List (Nat × HB)) (k:Nat):cvt hp (.mp k)=(.mp k):=rfl
theorem ZsG (hp:List (Nat × HB)) (g:SV->SV) (k:Nat):vwS hp g (.mp k) = .any:=rfl
theorem Zn0 (k:Nat):vw0 (.mp k) = .any:=rfl
theorem Zh9 (k:Nat):YA (.mp k)=some [(.mp k)]:=rfl
theorem ZmB (k:Nat):Za7 (.mp k)=true:=rfl
theorem Zh4 (g:Option (Nat × Bool)) (fr:List (Nat × SV)) (k:Nat):XC g fr (.yl k)=(.yl k):=rfl
theorem Zi8 (t:Nat) (r:List (Nat × SV)) (k:Nat):YJ ((t,(.yl k)) :: r)=(t,(.yl k)) :: YJ r:=rfl
theorem ZhT (k:Nat):YA (.yl k)=some [(.yl k)]:=rfl
theorem ZkT (k:Nat):Za7 (.yl k)=true:=rfl
theorem Zfs (g:Option (Nat × Bool)) (fr:List (Nat × SV)) (T:TypeId) (s:SV):XC g fr (.ifc T s)=(.ifc T s):=rfl
theorem Ziy (t:Nat) (r:List (Nat × SV)) (T:TypeId) (s:SV):YJ ((t,(.ifc T s)) :: r)=(t,(.ifc T s)) :: YJ r:=rfl
theorem ZjZ (hp:List (Nat × HB)) (T:TypeId) (s:SV):cvt hp (.ifc T s) = .ifc T (cvt hp s):=rfl
theorem ZkX (hp:List (Nat × HB)) (g:SV->SV) (T:TypeId) (s:SV):vwS hp g (.ifc T s) = .ifc T (g s):=rfl
theorem Zne (T:TypeId) (s:SV):vw0 (.ifc T s) = .any:=rfl
theorem ZfB (T:TypeId) (s:SV):YA (.ifc T s)=some [(.ifc T s)]:=rfl
theorem Zik (T:TypeId) (s:SV):Za7 (.ifc T s)=true:=rfl
theorem Zfa (P:Program) (Y:Hd) (d:Option Nat) (σ : St) (r:KT) (K:RK) (f:FuncId) (as:List X):stp P Y d (.callm f as) σ r K=ZdG P f (Zao (rdG none σ.fr) as) d σ r K:=rfl
theorem Ze9 (P:Program) (Y:Hd) (d:Option Nat) (σ : St) (r:KT) (K:RK) (x:X) (as:List X):stp P Y d (.calvm x as) σ r K=ZhY P Y (rdG none σ.fr x) (Zao (rdG none σ.fr) as) d σ r K:=rfl
theorem e_yld (asg body:Nat->CT) (ps:List Nat) (kl:Nat) (rec:Loop) (fr:List (Nat × SV)) (N k:Nat) (args:List SV) (d:Option Nat) (σ : St) (r:KT) (K:RK):YLD (hdR asg body ps kl rec fr N) k args d σ r K =
 rfB (Nat.beq k kl) (Ztg rec (lkh kl σ.hp)/\rfB (Znn args ps) (asg σ.n ⟨pmS ps args ++ fr,σ.hp,σ.n,N,[]⟩ (asE kl rec (body σ.n) (bdE kl rec λo=>cmK o.pn o.res o.hp o.n d σ r K)))):=rfl
theorem e_exR (ρ : Nat->Nat) (n0 n k:Nat):exR ρ n0 n k=exB (Nat.blt k n0) (ρ k) (n+(k - n0)):=rfl
theorem e_hpM (ρ : Nat->Nat) (n0 n:Nat) (o:Ot) (hp:List (Nat × HB)):hpM ρ n0 n o hp=rnP (exR ρ n0 n) o.hp ++ (Zcw ρ n0 ++ hp):=rfl
theorem Zj3 (P:Program) (Y:Hd) (m:Nat) (g:X) (ps:List Nat) (asg body:SC) (σ : St) (K:Ex->St->Prop):sx P Y m (.rfun g ps asg body) σ K=rfK P (λn=>sx P Y0 n asg) (λn=>sx P Y0 n body) (rdG none σ.fr g) ps σ K:=rfl
theorem ZfL (g:Option (Nat × Bool)) (fr:List (Nat × SV))  : XC g fr (.any)=(.any):=rfl
theorem Ziq (t:Nat) (r:List (Nat × SV))  : YJ ((t,(.any)) :: r)=(t,(.any)) :: YJ r:=rfl
theorem Zlu (hp:List (Nat × HB))  : cvt hp (.any)=(.any):=rfl
theorem Zlh (hp:List (Nat × HB)) (g:SV->SV)  : vwS hp g (.any)=(.any):=rfl
theorem ZlM  : vw0 (.any) = .any:=rfl
theorem Zh1  : Za7 (.any)=false:=rfl
theorem Zlb (t j:Nat) (w:Bool) (s:SV) (r:List (Nat × SV)):YJ ((t,.gd j w s) :: r)=(t,.any) :: YJ r:=rfl
theorem Zvh  : YJ []=[]:=rfl
theorem Zfb (fr:List (Nat × SV)) (j:Nat) (w:Bool) (s:SV):XC none fr (.gd j w s) = .any:=rfl
theorem Zit (fr:List (Nat × SV)) (j j0:Nat) (w w0:Bool) (s:SV):XC (some (j0,w0)) fr (.gd j w s)=Zfx (alw 8 fr j0 w0 j w) s:=rfl
theorem ZfR (b:Bool):ZiN (.bool b)=true:=rfl
theorem Zhw (k:IntKind) (n:Int):ZiN (.int k n)=true:=rfl
theorem Zdn (s:ByteArray):ZiN (.string s)=true:=rfl
theorem ZcG (p:Option Addr):ZiN (.pointer p)=true:=rfl
theorem Zee (a:Option Addr) (l c:Nat):ZiN (.slice a l c)=true:=rfl
theorem ZcB  : ZiN .nilFunc=true:=rfl
theorem Zb9  : ZiN .nilIface=true:=rfl
theorem e_rdG (g:Option (Nat × Bool)) (fr:List (Nat × SV)) (x:X):rdG g fr x=XC g fr (rd fr x):=rfl
theorem ZBh (fr:List (Nat × SV)) (n:Nat):rd fr (.t n)=lk n fr:=rfl
theorem ZAH (fr:List (Nat × SV)) (x:Value):rd fr (.c x) = .v x:=rfl
theorem ZAe (fr:List (Nat × SV)) (i:Nat):rd fr (.f i) = .cl i []:=rfl
theorem e_alw (f:Nat) (fr:List (Nat × SV)) (j0:Nat) (w0:Bool) (j:Nat) (w:Bool):alw (f+1) fr j0 w0 j w=Zy2 (ZhD (Nat.beq j0 j) w0 w) (lk j0 fr) (alw f fr) j w:=rfl
theorem Zzc (fr:List (Nat × SV)) (j0:Nat) (w0:Bool) (j:Nat) (w:Bool):alw 0 fr j0 w0 j w=false:=rfl
theorem e_vw1 (hp:List (Nat × HB)) (s:SV):vw1 hp s=vwS hp vw0 s:=rfl
theorem e_vw2 (hp:List (Nat × HB)) (s:SV):vw2 hp s=vwS hp (vw1 hp) s:=rfl
theorem e_vw3 (hp:List (Nat × HB)) (s:SV):vw3 hp s=vwS hp (vw2 hp) s:=rfl
theorem e_vw4 (hp:List (Nat × HB)) (s:SV):vw4 hp s=vwS hp (vw3 hp) s:=rfl
theorem Zoq (fr:List (Nat × SV)) (hp:List (Nat × HB)) (n N:Nat):Uc ⟨fr,hp,n,N,[]⟩=⟨fr,hp,n,N,[]⟩:=rfl
theorem ZoV (fr:List (Nat × SV)) (hp:List (Nat × HB)) (n N j:Nat) (l:List Nat):Uc ⟨fr,hp,n,N,j :: l⟩=⟨YJ fr,hp,n,N,[]⟩:=rfl
theorem Zzl (b:BinOp) (k j:IntKind) (x y:Int):ZyG b (.v (.int k x)) (.v (.int j y))=Zz9 (ZdS k j) b k x y:=rfl
theorem ZjF (b:Bool):uni .not (.v (.bool b))=some (.v (.bool (!b))):=rfl
theorem Zle (k:IntKind) (n:Int):uni .neg (.v (.int k n))=some (.v (.int k (k.wrap (0 - n)))):=rfl
theorem ZhS (k:IntKind) (x y:Int):ZhC .add k x y=some (.v (.int k (k.wrap (x+y)))):=rfl
theorem Zif (k:IntKind) (x y:Int):ZhC .sub k x y=some (.v (.int k (k.wrap (x - y)))):=rfl
theorem Zhm (k:IntKind) (x y:Int):ZhC .mul k x y=some (.v (.int k (k.wrap (x * y)))):=rfl
theorem Zia (k:IntKind) (x y:Int):ZhC .eql k x y=some (.v (.bool (x == y))):=rfl
theorem ZhB (k:IntKind) (x y:Int):ZhC .neq k x y=some (.v (.bool (x != y))):=rfl
theorem Zie (k:IntKind) (x y:Int):ZhC .lss k x y=some (.v (.bool (decide (x < y)))):=rfl
theorem Zh2 (k:IntKind) (x y:Int):ZhC .leq k x y=some (.v (.bool (decide (x<=y)))):=rfl
theorem ZhK (k:IntKind) (x y:Int):ZhC .gtr k x y=some (.v (.bool (decide (x > y)))):=rfl
theorem Zhg (k:IntKind) (x y:Int):ZhC .geq k x y=some (.v (.bool (decide (x ≥ y)))):=rfl
theorem Zls  : ZdS .i8 .i8=true:=rfl
theorem Zhu  : ZdS .i16 .i16=true:=rfl
theorem ZhU  : ZdS .i32 .i32=true:=rfl
theorem Zhh  : ZdS .i64 .i64=true:=rfl
theorem Zj4  : ZdS .u8 .u8=true:=rfl
theorem Zhs  : ZdS .u16 .u16=true:=rfl
theorem Ziu  : ZdS .u32 .u32=true:=rfl
theorem Ziz  : ZdS .u64 .u64=true:=rfl
theorem ZrL (o:Nat) (k q:Nat):Zaf o (.p k q)=some (.p k (q+o)):=rfl
theorem ZrV (k q:Nat):ZeH (.p k q)=some (.p k q):=rfl
theorem ZjH (o:Nat) (k v m i q:Nat):Zaf o (.pr k v m i q)=some (.pr k v m i (q+o)):=rfl
theorem Zld (k v m i q:Nat):ZeH (.pr k v m i q)=some (.pr k v m i q):=rfl
theorem ZkP (o:Nat) (row:List SV) (q:Nat):Zaf o (.ps row q)=some (.ps row (q+o)):=rfl
theorem Znc (row:List SV) (q:Nat):ZeH (.ps row q)=some (.ps row q):=rfl
theorem Zr5 (l:List SV) (o m:Nat):Wk l o m true=ZBf (Nat.ble (o+m) l.length) l o m:=rfl
theorem Zoa (l:List SV) (o m:Nat):Wk l o m false=nth l o:=rfl
theorem ZAy (mx:Bool) (x:Int):mmf mx x []=some x:=rfl
theorem Zxt (k:IntKind) (x y:Int) (r:List SV):mmf true x (.v (.int k y) :: r)=mmf true (max x y) r:=rfl
theorem ZvD (k:IntKind) (x y:Int) (r:List SV):mmf false x (.v (.int k y) :: r)=mmf false (min x y) r:=rfl
theorem e_mm (mx:Bool) (k:IntKind) (x:Int) (r:List SV):mmS mx (.v (.int k x) :: r)=mmE k (mmf mx x r):=rfl
theorem e_bld (ρ : X->SV) (z:List SV) (ps:List (Nat × Nat × X)):bld ρ z ps=Zng z (Zsu ρ ps):=rfl
theorem ZhZ (ρ : X->SV) (z:List Value) (ps:List (Nat × Nat × X)):pv ρ (.build z ps)=ZAR (bld ρ (lit z) ps):=rfl
theorem ZzD (l:List SV) (m:Nat) (ls:List (List SV)):ZyE (some l) m (some ls)=chkB (chk l m) l ls:=rfl
theorem ZoY (s:SV) (l:List SV):YH (s :: l)=Ub (Za7 s) (YH l):=rfl
theorem Zjj  : YH []=true:=rfl
theorem ZrU (fr:List (Nat × SV)) (g:Option (Nat × Bool)) (t:Nat) (b:X):ZhH fr g (.t t) (.c (.bool true)) b=Zh5 (rdG g fr (.t t)) (rdG (some (t,false)) fr b):=rfl
theorem ZpB (fr:List (Nat × SV)) (g:Option (Nat × Bool)) (t n:Nat):ZhH fr g (.t t) (.t n) (.c (.bool false))=ZfH (rdG g fr (.t t)) (rdG (some (t,true)) fr (.t n)):=rfl
theorem ZrW (fr:List (Nat × SV)) (g:Option (Nat × Bool)) (t:Nat):ZhH fr g (.t t) (.c (.bool false)) (.c (.bool false))=ZfH (rdG g fr (.t t)) (rdG (some (t,true)) fr (.c (.bool false))):=rfl
theorem ZjL:ZfH (.v (.bool false)) (.v undef)=some (.v (.bool false)):=rfl
theorem ZiU:Zh5 (.v (.bool true)) (.v undef)=some (.v (.bool true)):=rfl
theorem e_rvR (rs:List RV) (σ : St):rvR rs σ = rvE (rvs σ rs):=rfl
theorem ZBe (σ : St):rvs σ []=some []:=rfl
theorem ZvW (σ : St) (t:Nat):rv1 σ (.tmp t)=some (rdG none σ.fr (.t t)):=rfl
theorem Zvw (σ : St) (t m:Nat) (ag:Bool):rv1 σ (.cell t m ag)=rvX σ.hp m ag (rdG none σ.fr (.t t)):=rfl
theorem ZsT (P:Program) (Y:Hd) (d:Option Nat) (σ : St) (r:KT) (K:RK) (x:X):stp P Y d (.mv x) σ r K=Yv P none d (.mv x) σ r K:=rfl
theorem Zio (P:Program) (Y:Hd) (d:Option Nat) (σ : St) (r:KT) (K:RK) (c a b:X):stp P Y d (.pick c a b) σ r K=Yv P none d (.pick c a b) σ r K:=rfl
theorem Zfj (P:Program) (Y:Hd) (d:Option Nat) (σ : St) (r:KT) (K:RK) (z:List Value) (ps:List (Nat × Nat × X)):stp P Y d (.build z ps) σ r K=Yv P none d (.build z ps) σ r K:=rfl
theorem ZiW (P:Program) (Y:Hd) (d:Option Nat) (σ : St) (r:KT) (K:RK) (m:Nat) (T:TypeId) (ps:List X):stp P Y d (.bsl m T ps) σ r K=Yv P none d (.bsl m T ps) σ r K:=rfl
theorem ZpK (P:Program) (Y:Hd) (d:Option Nat) (σ : St) (r:KT) (K:RK) (x:X) (m:Nat) (ag:Bool):stp P Y d (.ld x m ag) σ r K=Yv P none d (.ld x m ag) σ r K:=rfl
theorem Zig (P:Program) (Y:Hd) (d:Option Nat) (σ : St) (r:KT) (K:RK) (x:X):stp P Y d (.nilc x) σ r K=Yv P none d (.nilc x) σ r K:=rfl
theorem Zkj (P:Program) (Y:Hd) (d:Option Nat) (σ : St) (r:KT) (K:RK) (b:BinOp) (x y:X):stp P Y d (.bin b x y) σ r K=Yv P none d (.bin b x y) σ r K:=rfl
theorem Zlg (P:Program) (Y:Hd) (d:Option Nat) (σ : St) (r:KT) (K:RK) (b:BinOp) (x y:X):stp P Y d (.div b x y) σ r K=Yv P none d (.div b x y) σ r K:=rfl
theorem Zqv (P:Program) (Y:Hd) (d:Option Nat) (σ : St) (r:KT) (K:RK) (u:UnOp) (x:X):stp P Y d (.un u x) σ r K=Yv P none d (.un u x) σ r K:=rfl
theorem Zhz (P:Program) (Y:Hd) (d:Option Nat) (σ : St) (r:KT) (K:RK) (x:X) (o:Nat):stp P Y d (.addo x o) σ r K=Yv P none d (.addo x o) σ r K:=rfl
theorem ZkQ (P:Program) (Y:Hd) (d:Option Nat) (σ : St) (r:KT) (K:RK) (x:X) (o m:Nat) (ag:Bool):stp P Y d (.fld x o m ag) σ r K=Yv P none d (.fld x o m ag) σ r K:=rfl
theorem ZkU (P:Program) (Y:Hd) (d:Option Nat) (σ : St) (r:KT) (K:RK) (x i:X) (len m:Nat) (ag:Bool):stp P Y d (.idx x i len m ag) σ r K=Yv P none d (.idx x i len m ag) σ r K:=rfl
theorem Zlq (P:Program) (Y:Hd) (d:Option Nat) (σ : St) (r:KT) (K:RK) (x i:X) (len m:Nat):stp P Y d (.ixa x i len m) σ r K=Yv P none d (.ixa x i len m) σ r K:=rfl
theorem Zi9 (P:Program) (Y:Hd) (d:Option Nat) (σ : St) (r:KT) (K:RK) (x i:X) (m:Nat):stp P Y d (.ixs x i m) σ r K=Yv P none d (.ixs x i m) σ r K:=rfl
theorem ZjX (P:Program) (Y:Hd) (d:Option Nat) (σ : St) (r:KT) (K:RK) (x:X):stp P Y d (.len x) σ r K=Yv P none d (.len x) σ r K:=rfl
theorem Zqj (P:Program) (Y:Hd) (d:Option Nat) (σ : St) (r:KT) (K:RK) (mx:Bool) (xs:List X):stp P Y d (.mm mx xs) σ r K=Yv P none d (.mm mx xs) σ r K:=rfl
theorem ZhF (P:Program) (Y:Hd) (d:Option Nat) (σ : St) (r:KT) (K:RK) (f:FuncId) (as:List X):stp P Y d (.call f as) σ r K=Yv P none d (.call f as) σ r K:=rfl
theorem Zh3 (P:Program) (Y:Hd) (d:Option Nat) (σ : St) (r:KT) (K:RK) (x:X) (as:List X):stp P Y d (.calv x as) σ r K=Yv P none d (.calv x as) σ r K:=rfl
theorem Zmp (P:Program) (Y:Hd) (d:Option Nat) (σ : St) (r:KT) (K:RK) (f:FuncId) (cs:List X):stp P Y d (.mkf f cs) σ r K=Yv P none d (.mkf f cs) σ r K:=rfl
theorem Zh6 (P:Program) (Y:Hd) (d:Option Nat) (σ : St) (r:KT) (K:RK) (k:IntKind) (x:X):stp P Y d (.conv k x) σ r K=Yv P none d (.conv k x) σ r K:=rfl
theorem Zl7 (P:Program) (Y:Hd) (d:Option Nat) (σ : St) (r:KT) (K:RK) (x:X) (i:Nat):stp P Y d (.ext x i) σ r K=Yv P none d (.ext x i) σ r K:=rfl
theorem e_rvs (σ : St) (r:RV) (rs:List RV):rvs σ (r :: rs)=rvC σ.hp (rv1 σ r) (rvs σ rs):=rfl
theorem ZoK (ρ : X->SV) (x:X) (o m:Nat) (ag:Bool):pv ρ (.fld x o m ag)=pvF o m ag (ρ x):=rfl
theorem Zkl (ρ : X->SV) (k:IntKind) (x:X):pv ρ (.conv k x)=pvC k (ρ x):=rfl
theorem Zqe (ρ : X->SV) (x:X) (i:Nat):pv ρ (.ext x i)=pvE i (ρ x):=rfl
theorem ZtV (fr:List (Nat × SV)):ZyV [] fr=True:=rfl
theorem ZA3 (t:Nat) (s:SV) (r fr:List (Nat × SV)):ZyV ((t,s) :: r) fr=(lk t fr=s/\ZyV r fr):=rfl
theorem Zml (P:Program) (Y:Hd) (d:Option Nat) (σ : St) (r:KT) (K:RK) (ng ag:Bool) (cls:List Nat) (x y:X):stp P Y d (.eqs ng ag cls x y) σ r K=Yv P none d (.eqs ng ag cls x y) σ r K:=rfl
theorem ZlU (P:Program) (Y:Hd) (d:Option Nat) (σ : St) (r:KT) (K:RK) (x h k:X):stp P Y d (.slc x h k) σ r K=Yv P none d (.slc x h k) σ r K:=rfl
theorem Zkd (P:Program) (Y:Hd) (d:Option Nat) (σ : St) (r:KT) (K:RK) (m:Nat) (x:X) (lo hi:Option X):stp P Y d (.sub m x lo hi) σ r K=Yv P none d (.sub m x lo hi) σ r K:=rfl
theorem Zmi (P:Program) (Y:Hd) (d:Option Nat) (σ : St) (r:KT) (K:RK) (m b:Nat) (T:TypeId) (x y:X):stp P Y d (.app m b T x y) σ r K=Yv P none d (.app m b T x y) σ r K:=rfl
theorem Zsn (l):ZAR (some l)=some (SV.agg l):=rfl
theorem Zqy: ZAR none=none:=rfl
theorem ZvA (k z):mmE k (some z)=some (SV.v (Value.int k z)):=rfl
theorem ZuX (k):mmE k none=none:=rfl
theorem Zym (g o l T):vwP g o (HB.cells l T)=SV.ps (ZcE g l) o:=rfl
theorem Zwa (m a):vwN true m a=SV.sl false m a:=rfl
theorem Zvd (m a):vwN false m a=SV.any:=rfl
theorem ZxG (v a m b T):vwM v (HB.row a m b T)=vwN (Nat.beq v a) m b:=rfl
theorem Zxc (c m a b q):vwR true c m a b q=SV.sl false m b:=rfl
theorem ZvM (m a b r):vwR false true m a b (some r)=SV.sl false a r:=rfl
theorem ZuJ (m a b):vwR false true m a b none=SV.any:=rfl
theorem Zuf (m a b q):vwR false false m a b q=SV.any:=rfl
theorem ZvO (v a m b T o c d e):vwM v (HB.rws a m b T o c d e)=vwR (Nat.beq v a) (Nat.ble (a+1) v) m c (ZdL o c d b) d[v - (a+1)]?:=rfl
theorem Zon (v a m b T):cvtM v (HB.row a m b T)=vwN (Nat.beq v a) m b:=rfl
theorem ZpS (m v a b c T):ZiL m v (HB.row a b c T)=ZhR c (Ub (Nat.beq m b) (Nat.beq v a)):=rfl
theorem ZnS (m v l T):ZiL m v (HB.cells l T)=none:=rfl
theorem ZoM (m v φ):ZiL m v (HB.ob φ)=none:=rfl
theorem Zsi (m v a b):ZiL m v (HB.map a b)=none:=rfl
theorem ZrX (m v a b c d):ZiL m v (HB.it a b c d)=none:=rfl
theorem ZqA (m v a b):ZiL m v (HB.lp a b)=none:=rfl
theorem ZoB (m v a):ZiL m v (HB.lb a)=none:=rfl
theorem ZsY (m v a b c T o d e f):ZiL m v (HB.rws a b c T o d e f)=none:=rfl
theorem Zo7 (m v):ZiL m v HB.gone=none:=rfl
theorem Zqt (a):ZhR a true=some a:=rfl
theorem Zq2 (a):ZhR a false=none:=rfl
theorem ZxI: rvE (some [])=some (SV.tup []):=rfl
theorem Zwu (s):rvE (some [s])=some s:=rfl
theorem Zxb (a b l):rvE (some (a :: b :: l))=some (SV.tup (a :: b :: l)):=rfl
theorem ZvE: rvE none=none:=rfl
theorem ZwW (s l):rvD s (some l)=some (s :: l):=rfl
theorem ZvG (s):rvD s none=none:=rfl
theorem Zx6 (hp x s):rvC hp (some s) x=rvD (cvt hp s) x:=rfl
theorem Zvi (hp x):rvC hp none x=none:=rfl
theorem Zwp (o m a l T):rvH o m a (HB.cells l T)=Wk l o m a:=rfl
theorem ZwY (hp m a k o):rvX hp m a (SV.p k o)=rvH o m a (lkh k hp):=rfl
theorem Zu7 (o m a l):pvF o m a (SV.agg l)=Wk l o m a:=rfl
theorem Zv9 (k a n):pvC k (SV.v (Value.int a n))=some (SV.v (Value.int k (IntKind.wrap k n))):=rfl
theorem ZvQ (i l):pvE i (SV.tup l)=nth l i:=rfl
theorem ZqH (x a b c d):Zzf false true false x a b c d=c { fr:=(x,a) :: St.fr b,hp:=St.hp b,n:=St.n b,N:=St.N b,gs:=St.gs b } d:=rfl
theorem Zra (x a b c d e f):ZBo false true false x a b c d e f=e { fr:=(x,SV.gd a b c) :: St.fr d,hp:=St.hp d,n:=St.n d,N:=St.N d,gs:=a :: St.gs d } f:=rfl
theorem Zr4 (s σ r K):YD none s none σ r K=r σ K:=rfl
theorem Zo9 (s σ r K a):YD none s (some a) σ r K=False:=rfl
theorem Zqx (s σ r K t):YD (some t) s none σ r K=Zzf (XA t (St.gs σ)) (Nat.blt t (St.N σ)) (gdS s) t s σ r K:=rfl
theorem ZpX (s σ r K t j w):YD (some t) s (some (j,w)) σ r K=ZBo (XA t (St.gs σ)) (Nat.blt t (St.N σ)) (Nat.beq t j) t j w s σ r K:=rfl
theorem Zry (d g σ r K s):WN (some s) d g σ r K=YD d s g σ r K:=rfl
theorem ZqR (d g σ r K):WN none d g σ r K=False:=rfl
theorem Zmd (x):Zfx true x=x:=rfl
theorem Zlz (x):Zfx false x=SV.any:=rfl
theorem ZoC (x a b c):Zy2 true x a b c=true:=rfl
theorem Znv (x a b c d s):Zy2 false (SV.gd c d s) x a b=x c d a b:=rfl
theorem ZjT (x a):ZhD true x a=bbq x a:=rfl
theorem ZjN (x a):ZhD false x a=false:=rfl
theorem Zwe: bbq true true=true:=rfl
theorem ZxO: bbq false false=true:=rfl
theorem Zl8 (x y):Zh5 (SV.v (Value.bool x)) (SV.v (Value.bool y))=some (SV.v (Value.bool (x || y))):=rfl
theorem Zj2 (x a):Zh5 (SV.v (Value.bool x)) (SV.v (Value.tuple a))=bif x then some (SV.v (Value.bool true)) else none:=rfl
theorem ZiP (x y):ZfH (SV.v (Value.bool x)) (SV.v (Value.bool y))=some (SV.v (Value.bool (x && y))):=rfl
theorem Zi2 (x a):ZfH (SV.v (Value.bool x)) (SV.v (Value.tuple a))=bif x then none else some (SV.v (Value.bool false)):=rfl
theorem ZrD (m r):Zy1 m (some r)=some (SV.sl true m r):=rfl
theorem Zow (m):Zy1 m none=none:=rfl
theorem ZjV (P g d σ r K a f b):ZnD P g d σ r K (SV.cl f b) a=ZyF P g f (a ++ b) d σ r K:=rfl
theorem Zql (g d σ r K k v m a j):ZAT g d σ r K true k v m a j=IXR g k v m a j d σ r K:=rfl
theorem Zre (g d σ r K k v m a j):ZAT g d σ r K false k v m a j=False:=rfl
theorem Zsb (g d σ r K k v m j a b c T):Zy4 g d σ r K (HB.row a b c T) k v m j=ZAT g d σ r K (Ub (Nat.beq m b) (Nat.beq v a)) k v m (List.length c) j:=rfl
theorem Zpy (g d σ r K k v m j a b c T o e f l):Zy4 g d σ r K (HB.rws a b c T o e f l) k v m j = ∃ i rows TT,v=a+i/\YF k a b c T o e f l i=some (m,rows,TT)/\IXR g k v m (List.length rows) j d σ r K:=rfl
theorem Zs1 (g d σ r K a j):ZzB g d σ r K true a j=IXS g a j d σ r K:=rfl
theorem Zs0 (g d σ r K a j):ZzB g d σ r K false a j=False:=rfl
theorem Zsk (g d σ r K m k j c a b):ZAc g d σ r K (SV.v (Value.int k j)) (SV.sl c a b) m=ZzB g d σ r K (Nat.beq m a) b j:=rfl
theorem Zph (g d σ r K m k j a v):ZAc g d σ r K (SV.v (Value.int k j)) (SV.mr a v) m=Zy4 g d σ r K (lkh a (St.hp σ)) a v m j:=rfl
theorem Zrt (g d σ r K x a m k n):ZBz g d σ r K (SV.v (Value.int k n)) x a m=IXA g a n (λn=>Zaf (n * m) x) d σ r K:=rfl
theorem ZnL (g d σ r K a m b k j l):ZBw g d σ r K (SV.v (Value.int k j)) (SV.agg l) a m b=IXA g a j (λn=>Wk l (n * m) m b) d σ r K:=rfl
theorem Zw7 (g d σ r K o m a l T):ldC g d σ r K (HB.cells l T) o m a=WN (Wk l o m a) d g σ r K:=rfl
theorem ZtS (g d σ r K a i o m b):ldB g d σ r K true a i o m b=LDR g a i o m b d σ r K:=rfl
theorem Zvc (g d σ r K a i o m b):ldB g d σ r K false a i o m b=False:=rfl
theorem Zt0 (g d σ r K k v a i o m b c e f T):ldR g d σ r K k (HB.row c e f T) v a i o m b=ldB g d σ r K (Ub (Nat.beq a e) (Nat.beq v c)) f i o m b:=rfl
theorem Zus (g d σ r K k v b i o m c e f j T l p q s):ldR g d σ r K k (HB.rws e f j T l p q s) v b i o m c = ∃ a rows TT,v=e+a/\YF k e f j T l p q s a=some (b,rows,TT)/\LDR g rows i o m c d σ r K:=rfl
theorem Zw6 (g d σ r K m a k o):ldK g d σ r K (SV.p k o) m a=ldC g d σ r K (lkh k (St.hp σ)) o m a:=rfl
theorem Zup (g d σ r K m a b o):ldK g d σ r K (SV.ps b o) m a=WN (Wk b o m a) d g σ r K:=rfl
theorem Zvp (g d σ r K m a k v b i o):ldK g d σ r K (SV.pr k v b i o) m a=ldR g d σ r K k (lkh k (St.hp σ)) v b i o m a:=rfl
theorem ZqD (g d σ r K b k u v):ZAD g d σ r K true b k u v=DIV g b k u v d σ r K:=rfl
theorem ZoF (g d σ r K b k u v):ZAD g d σ r K false b k u v=False:=rfl
theorem ZoQ (g d σ r K b k a j c):ZBn g d σ r K b (SV.v (Value.int k a)) (SV.v (Value.int j c))=ZAD g d σ r K (ZdS k j) b k a c:=rfl
theorem Zrp (g d σ r K a):ZAK g d σ r K true a=YD d (SV.v (Value.int IntKind.i64 ↑(List.length a))) g σ r K:=rfl
theorem Zn2 (g d σ r K a):ZAK g d σ r K false a=False:=rfl
theorem Zqb (g d σ r K k v a m b T):ZAr g d σ r K k (HB.row a m b T) v=ZAK g d σ r K (Nat.beq v a) b:=rfl
theorem ZsC (g d σ r K k v b m c T o e f i):ZAr g d σ r K k (HB.rws b m c T o e f i) v = ∃ a mm rows TT,v=b+a/\YF k b m c T o e f i a=some (mm,rows,TT)/\YD d (SV.v (Value.int IntKind.i64 ↑(List.length rows))) g σ r K:=rfl
theorem Zrn (g d σ r K k v):ZyZ g d σ r K (SV.mr k v)=ZAr g d σ r K k (lkh k (St.hp σ)) v:=rfl
theorem Znw (g d σ r K k v m i l):ZyZ g d σ r K (SV.ms k v m i l)=YD d (SV.v (Value.int IntKind.i64 ↑l)) g σ r K:=rfl
theorem Zru (g d σ r K c m a):ZyZ g d σ r K (SV.sl c m a)=YD d (SV.v (Value.int IntKind.i64 ↑(List.length a))) g σ r K:=rfl
theorem Zop (P g d σ r K f a):Yv P g d (SI.call f a) σ r K=ZyF P g f (Zao (rdG g (St.fr σ)) a) d σ r K:=rfl
theorem ZrT (P g d σ r K x a):Yv P g d (SI.calv x a) σ r K=ZnD P g d σ r K (rdG g (St.fr σ) x) (Zao (rdG g (St.fr σ)) a):=rfl
theorem Zrr (P g d σ r K f a):Yv P g d (SI.callm f a) σ r K=False:=rfl
theorem Zp0 (P g d σ r K x a):Yv P g d (SI.calvm x a) σ r K=False:=rfl
theorem Zp9 (P g d σ r K c a b):Yv P g d (SI.pick c a b) σ r K=WN (ZhH (St.fr σ) g c a b) d g σ r K:=rfl
theorem ZqC (P g d σ r K m T a):Yv P g d (SI.bsl m T a) σ r K=WN (Zy1 m (ZiF (rdG g (St.fr σ)) m a)) d g σ r K:=rfl
theorem ZrE (P g d σ r K x a m):Yv P g d (SI.ixs x a m) σ r K=ZAc g d σ r K (rdG g (St.fr σ) a) (rdG g (St.fr σ) x) m:=rfl
theorem Zsx (P g d σ r K x a b m):Yv P g d (SI.ixa x a b m) σ r K=ZBz g d σ r K (rdG g (St.fr σ) a) (rdG g (St.fr σ) x) b m:=rfl
theorem ZoG (P g d σ r K x a b m c):Yv P g d (SI.idx x a b m c) σ r K=ZBw g d σ r K (rdG g (St.fr σ) a) (rdG g (St.fr σ) x) b m c:=rfl
theorem ZkA (P g d σ r K x m a):Yv P g d (SI.ld x m a) σ r K=ldK g d σ r K (rdG g (St.fr σ) x) m a:=rfl
theorem Zjl (P g d σ r K b x y):Yv P g d (SI.div b x y) σ r K=ZBn g d σ r K b (rdG g (St.fr σ) x) (rdG g (St.fr σ) y):=rfl
theorem Zl3 (P g d σ r K x):Yv P g d (SI.len x) σ r K=ZyZ g d σ r K (rdG g (St.fr σ) x):=rfl
theorem ZjI (P g d σ r K x):Yv P g d (SI.mv x) σ r K=YD d (rdG g (St.fr σ) x) g σ r K:=rfl
theorem Zmg (P g d σ r K z a):Yv P g d (SI.build z a) σ r K=WN (pv (rdG g (St.fr σ)) (SI.build z a)) d g σ r K:=rfl
theorem Znf (P g d σ r K x):Yv P g d (SI.nilc x) σ r K=WN (ZeH (rdG g (St.fr σ) x)) d g σ r K:=rfl
theorem ZkJ (P g d σ r K b x y):Yv P g d (SI.bin b x y) σ r K=WN (ZyG b (rdG g (St.fr σ) x) (rdG g (St.fr σ) y)) d g σ r K:=rfl
theorem ZkC (P g d σ r K u x):Yv P g d (SI.un u x) σ r K=WN (uni u (rdG g (St.fr σ) x)) d g σ r K:=rfl
theorem ZiX (P g d σ r K x o):Yv P g d (SI.addo x o) σ r K=WN (Zaf o (rdG g (St.fr σ) x)) d g σ r K:=rfl
theorem ZmS (P g d σ r K x o m a):Yv P g d (SI.fld x o m a) σ r K=WN (pv (rdG g (St.fr σ)) (SI.fld x o m a)) d g σ r K:=rfl
theorem Zke (P g d σ r K a b):Yv P g d (SI.mm a b) σ r K=WN (mmS a (Zao (rdG g (St.fr σ)) b)) d g σ r K:=rfl
theorem Zjd (P g d σ r K f a):Yv P g d (SI.mkf f a) σ r K=YD d (SV.cl f (Zao (rdG g (St.fr σ)) a)) g σ r K:=rfl
theorem Zkc (P g d σ r K k x):Yv P g d (SI.conv k x) σ r K=WN (pv (rdG g (St.fr σ)) (SI.conv k x)) d g σ r K:=rfl
theorem ZjY (P g d σ r K x a):Yv P g d (SI.ext x a) σ r K=WN (pv (rdG g (St.fr σ)) (SI.ext x a)) d g σ r K:=rfl
theorem ZkF (P g d σ r K x h k):Yv P g d (SI.slc x h k) σ r K=ZBs g (rdG g (St.fr σ) x) (rdG g (St.fr σ) h) (rdG g (St.fr σ) k) d σ r K:=rfl
theorem Zje (P g d σ r K m x a b):Yv P g d (SI.sub m x a b) σ r K=ZAN g m (rdG g (St.fr σ)) a b (rdG g (St.fr σ) x) d σ r K:=rfl
theorem Zjn (P g d σ r K m b T x y):Yv P g d (SI.cln m b T x y) σ r K=False:=rfl
theorem ZmF (P g d σ r K m b T x y):Yv P g d (SI.appm m b T x y) σ r K=False:=rfl
theorem ZlV (P g d σ r K m x y):Yv P g d (SI.cpy m x y) σ r K=False:=rfl
theorem ZmI (P g d σ r K m b z T x):Yv P g d (SI.mks m b z T x) σ r K=False:=rfl
theorem Zjt (P g d σ r K x):Yv P g d (SI.isn x) σ r K=False:=rfl
theorem Zm7 (P g d σ r K m b T x y):Yv P g d (SI.app m b T x y) σ r K=ZyL g m b (Zma m (rdG g (St.fr σ) x)) (Zv8 m (St.hp σ) (rdG g (St.fr σ) y)) d σ r K:=rfl
theorem ZiY (P g d σ r K x m T):Yv P g d (SI.box x m T) σ r K=False:=rfl
theorem ZlD (P g d σ r K z T):Yv P g d (SI.alloc z T) σ r K=False:=rfl
theorem Zjz (P g d σ r K x y m):Yv P g d (SI.st x y m) σ r K=False:=rfl
theorem ZkG (P g d σ r K a b c x y):Yv P g d (SI.eqs a b c x y) σ r K=WN (eqR a (ZsJ c b (rdG g (St.fr σ) x) (rdG g (St.fr σ) y))) d g σ r K:=rfl
theorem Zkq (P g d σ r K a b):Yv P g d (SI.raw a b) σ r K=False:=rfl
theorem ZmV (P g d σ r K a b):Yv P g d (SI.rv a b) σ r K=False:=rfl
theorem Zkr (P g d σ r K a x b):Yv P g d (SI.rb a x b) σ r K=False:=rfl
theorem ZoL (x a b c d e):ZBt false true x a b c d e=d { fr:=(x,SV.p (St.n c) 0) :: St.fr c,hp:=(St.n c,HB.cells a b) :: St.hp c,n:=St.n c+1,N:=St.N c,gs:=St.gs c } e:=rfl
theorem Zpo (T σ r K t a):ZiI (some t) (some a) T σ r K=ZBt (XA t (St.gs σ)) (Nat.blt t (St.N σ)) t a T σ r K:=rfl
theorem ZlA (x a b c d e f g i j):Zxa false true x a b c d e f g i j=i { fr:=(x,SV.v (Value.int IntKind.i64 ↑e)) :: St.fr g,hp:=(a,HB.row b c d f) :: St.hp g,n:=St.n g,N:=St.N g,gs:=St.gs g } j:=rfl
theorem ZsH (k v m a N T σ r K b):ZAf (some b) k v m a N T σ r K=Zxa (XA b (St.gs σ)) (Nat.blt b (St.N σ)) b k v m a N T σ r K:=rfl
theorem Zrl (k v m a N T σ r K):ZAf none k v m a N T σ r K=r { fr:=St.fr σ,hp:=(k,HB.row v m a T) :: St.hp σ,n:=St.n σ,N:=St.N σ,gs:=St.gs σ } K:=rfl
theorem ZrM (d k v m i L a T σ r K c b e):Zti d k v m i L a T (SV.sl c b e) σ r K=Ze7 (Nat.beq m b) (CPY d k v m i L a e T σ r K):=rfl
theorem Zqk (d k v m i L a T σ r K):Zti d k v m i L a T (SV.v (Value.slice none 0 0)) σ r K=CPY d k v m i L a [] T σ r K:=rfl
theorem Zpv (d k v m i L a T σ r K b c):Zti d k v m i L a T (SV.mr b c) σ r K=Ze7 (Ub (Nat.beq k b) (Nat.beq v c)) (CPY d k v m i L a a T σ r K):=rfl
theorem Zpe (d k v m i L a T σ r K b c e f g):Zti d k v m i L a T (SV.ms b c e f g) σ r K=Ze7 (Ub (Ub (Nat.beq k b) (Nat.beq v c)) (Nat.beq m e)) (f+g<=List.length a/\CPY d k v m i L a (List.take g (List.drop f a)) T σ r K):=rfl
theorem Zzk (n m):lO (some m) n=m:=rfl
theorem Zzu (n):lO none n=n:=rfl
theorem ZsK (d m k v i a s σ r K b c e T):Zvf d m k v i a (HB.row b c e T) s σ r K=Ze7 (Ub (Nat.beq m c) (Nat.beq v b)) (Zti d k v m i (lO a (List.length e)) e T s σ r K):=rfl
theorem Zo6 (d m a σ r K k v):ZyM d m (SV.mr k v) a σ r K=Zvf d m k v 0 none (lkh k (St.hp σ)) a σ r K:=rfl
theorem ZoU (d m a σ r K k v b i l):ZyM d m (SV.ms k v b i l) a σ r K=Ze7 (Nat.beq m b) (Zvf d m k v i (some l) (lkh k (St.hp σ)) a σ r K):=rfl
theorem Zqa (g k v m a d σ r K i j):ZyY g k v m a (some i) (some j) d σ r K=SBM g i j k v m a d σ r K:=rfl
theorem Zsh (g k v m a d σ r K b):ZyY g k v m a (some b) none d σ r K=False:=rfl
theorem Zq5 (g k v m a b d σ r K):ZyY g k v m a none b d σ r K=False:=rfl
theorem Znu (p):Ze7 true p=p:=rfl
theorem ZpA (p):Ze7 false p=False:=rfl
theorem ZnX (g m ρ a b k v d σ r K c e f T):ZBu g m ρ a b k v (HB.row c e f T) d σ r K=Ze7 (Ub (Nat.beq m e) (Nat.beq v c)) (ZyY g k v m f (ZcZ 0 ρ a) (ZcZ (↑(List.length f)) ρ b) d σ r K):=rfl
theorem Zsa (g m ρ a b d σ r K c e f):ZAN g m ρ a b (SV.sl c e f) d σ r K=bif Nat.beq m e then ZyD g m f (ZcZ 0 ρ a) (ZcZ (↑(List.length f)) ρ b) d σ r K else False:=rfl
theorem ZpZ (g m ρ a b d σ r K k v):ZAN g m ρ a b (SV.mr k v) d σ r K=ZBu g m ρ a b k v (lkh k (St.hp σ)) d σ r K:=rfl
theorem ZnA (x a b c d e f g i):verB false true x a b c d e f g i=g { fr:=(x,SV.mr a b) :: St.fr f,hp:=(a,HB.row b c d e) :: St.hp f,n:=St.n f,N:=St.N f,gs:=St.gs f } i:=rfl
theorem Zpx (k v m a T σ r K b):Zz0 (some b) k v m a T σ r K=verB (XA b (St.gs σ)) (Nat.blt b (St.N σ)) b k v m a T σ r K:=rfl
theorem Zqh (k v m a T σ r K):Zz0 none k v m a T σ r K=False:=rfl
theorem ZsA (b d k v m a c T σ r K):ZAs true b d k v m a c T σ r K=APM b d k v m a c T σ r K:=rfl
theorem ZqL (b d k v m a c T σ r K):ZAs false b d k v m a c T σ r K=False:=rfl
theorem ZnF (b d k v m a T σ r K c e f g):ZBv b d k v m (HB.row c e f g) a T σ r K=ZAs (Ub (Nat.beq m e) (Ub (Nat.beq v c) (Nat.beq T g))) b d k v m f a T σ r K:=rfl
theorem ZpW (b d m a T σ r K k v):ZBB b d m (SV.mr k v) a T σ r K=ZBv b d k v m (lkh k (St.hp σ)) a T σ r K:=rfl
theorem Zpg (b d m s T σ r K a):ZyU b d m s (some a) T σ r K=ZBB b d m s a T σ r K:=rfl
theorem Znr (b d m s T σ r K):ZyU b d m s none T σ r K=False:=rfl
theorem ZnE (x a b c d e f g):ZyK true x a b c d e f g=f { fr:=St.fr e,hp:=(x,HB.cells (Zu b a d) c) :: St.hp e,n:=St.n e,N:=St.N e,gs:=St.gs e } g:=rfl
theorem Zqw (x a b c d e f g):ZyK false x a b c d e f g=False:=rfl
theorem Zvk (k o m c σ r K l T):stC k o m (HB.cells l T) c σ r K=ZyK (Nat.ble (o+m) (List.length l)) k o l T c σ r K:=rfl
theorem Zqm (x a b c d e f g i j k):Zy0 true x a b c d e f g i j k=STR x a b c d e f g i j k:=rfl
theorem Zoo (x a b c d e f g i j k):Zy0 false x a b c d e f g i j k=False:=rfl
theorem ZvB (k v a j o c σ r K b m d T):stR k v a j o (HB.row b m d T) c σ r K=Zy0 (Ub (Nat.beq a m) (Nat.beq v b)) b d j o k a c T σ r K:=rfl
theorem Zwv (k v a j o c σ r K b m d T e f g i):stR k v a j o (HB.rws b m d T e f g i) c σ r K=STW b m d T e f g i v a j o k c σ r K:=rfl
theorem Zw5 (m c σ r K k o):stX (SV.p k o) m c σ r K=stC k o m (lkh k (St.hp σ)) c σ r K:=rfl
theorem Zwl (m c σ r K k v a j o):stX (SV.pr k v a j o) m c σ r K=stR k v a j o (lkh k (St.hp σ)) c σ r K:=rfl
theorem ZhX (x a b c d e):Zes true true x a b c d e=stX x a b c d e:=rfl
theorem Zh0 (m x σ r K a):ZeS none (some a) m x σ r K=Zes (chk a m) (YH a) x m a σ r K:=rfl
theorem ZuP (P Y d σ r K x y m):stp P Y d (SI.st x y m) σ r K=ZeS d (YA (rdG none (St.fr σ) y)) m (rdG none (St.fr σ) x) σ r K:=rfl
theorem Zuq (P Y d σ r K x m T):stp P Y d (SI.box x m T) σ r K=ZiI d (YA (rdG none (St.fr σ) x)) T σ r K:=rfl
theorem Zv6 (P Y d σ r K z T):stp P Y d (SI.alloc z T) σ r K=ZiI d (some (lit z)) T σ r K:=rfl
theorem ZwG (P Y d σ r K m b T x y):stp P Y d (SI.cln m b T x y) σ r K=Ztw b d m (Zma m (rdG none (St.fr σ) x)) (Zfp m (rdG none (St.fr σ) y)) T σ r K:=rfl
theorem Zvo (P Y d σ r K m b z T x):stp P Y d (SI.mks m b z T x) σ r K=Zzi b d m z (rdG none (St.fr σ) x) T σ r K:=rfl
theorem Zum (P Y d σ r K m x y):stp P Y d (SI.cpy m x y) σ r K=ZyM d m (rdG none (St.fr σ) x) (rdG none (St.fr σ) y) σ r K:=rfl
theorem Zyi (P Y d σ r K m b T x y):stp P Y d (SI.appm m b T x y) σ r K=ZyU b d m (rdG none (St.fr σ) x) (Zfp m (rdG none (St.fr σ) y)) T σ r K:=rfl
theorem Zvj (P Y d σ r K f a):stp P Y d (SI.callm f a) σ r K=ZdG P f (Zao (rdG none (St.fr σ)) a) d σ r K:=rfl
theorem Zxl (P Y d σ r K x a):stp P Y d (SI.calvm x a) σ r K=ZhY P Y (rdG none (St.fr σ) x) (Zao (rdG none (St.fr σ)) a) d σ r K:=rfl
theorem ZqI (P Y d σ r K x):stp P Y d (SI.isn x) σ r K=ZBF d (rdG none (St.fr σ) x) σ r K:=rfl
theorem ZqN (P Y d σ r K a b):stp P Y d (SI.raw a b) σ r K=RAW P d a b σ r K:=rfl
theorem Zol (P Y d σ r K a b):stp P Y d (SI.rv a b) σ r K = ∃ s,RBE P a b σ s/\YD d s none σ r K:=rfl
theorem Zsz (P Y d σ r K a x b):stp P Y d (SI.rb a x b) σ r K = ∃ k h1 s,rdG none (St.fr σ) x=SV.mp k/\WK (lkh k (St.hp σ)) h1/\RBB P a (x :: b) k (lkh k (St.hp σ)) h1 σ s/\YD d s none { fr:=St.fr σ,hp:=(k,h1) :: St.hp σ,n:=St.n σ,N:=St.N σ,gs:=St.gs σ } r K:=rfl
theorem Zjx (d σ r K):Zvz d σ r K=YD d (SV.v undef) none σ r K:=rfl
theorem ZAo (P Y j w d i σ r K b):gK P Y (SV.v (Value.bool b)) j w d i σ r K=GB P Y b j w d i σ r K:=rfl
theorem Zy9 (P Y j w d i σ r K a c b):gK P Y (SV.gd a c (SV.v (Value.bool b))) j w d i σ r K=Yv P (some (j,w)) d i σ r K:=rfl
theorem Zyg (P Y σ r K d i af):st1 P Y { d:=d,i:=i,g:=none,af:=af } σ r K=stp P Y d i σ r K:=rfl
theorem ZxV (P Y σ r K d i j w af):st1 P Y { d:=d,i:=i,g:=some (j,w),af:=af } σ r K=gK P Y (lk j (St.fr σ)) j w d i σ r K:=rfl
theorem Zrg (f g σ K b):ZBj (SV.v (Value.bool b)) f g σ K=BR b f g σ K:=rfl
theorem Zpu (k x y):Zzq BinOp.quo k x y=IntKind.wrap k (Int.tdiv x y):=rfl
theorem ZuR (a N):st0 a N={ fr:=X8 0 a,hp:=[],n:=0,N:=N,gs:=[] }:=rfl
theorem Zox (ρ):Zao ρ []=[]:=rfl
theorem Zoy (ρ a r):Zao ρ (a :: r) = ρ a :: Zao ρ r:=rfl
theorem Zpm (g):ZcE g []=[]:=rfl
theorem Zqf (g s l):ZcE g (s :: l)=g s :: ZcE g l:=rfl
theorem Zpp (ρ m):ZiF ρ m []=some []:=rfl
theorem ZnU (ρ m a r):ZiF ρ m (a :: r)=ZyE (YA (ρ a)) m (ZiF ρ m r):=rfl
theorem Zn3 (hp):Zm9 hp []=[]:=rfl
theorem Zn8 (hp s l):Zm9 hp (s :: l)=cvt hp s :: Zm9 hp l:=rfl
theorem Zvg: lit []=[]:=rfl
theorem Zwd (a r):lit (a :: r)=SV.v a :: lit r:=rfl
theorem ZxW: chk [] 0=true:=rfl
theorem Zxj (a l n):chk (a :: l) (Nat.succ n)=chk l n:=rfl
theorem ZvV (x):nth [] x=none:=rfl
theorem ZxH (s a):nth (s :: a) 0=some s:=rfl
theorem ZvY (a l n):nth (a :: l) (Nat.succ n)=nth l n:=rfl
theorem ZiA (a l c b):Zu (a :: l) 0 (c :: b)=c :: Zu l 0 b:=rfl
theorem Zii (x a l o):Zu (a :: l) (Nat.succ o) x=a :: Zu l o x:=rfl
theorem Zpl (o l t):Zy3 o l t true=some ((o,l) :: t):=rfl
theorem Zps (o l t):Zy3 o l t false=none:=rfl
theorem Zn7 (o m l t):ZyX o m (some l) (some t)=Zy3 o l t (chk l m):=rfl
theorem ZqT (ρ):Zsu ρ []=some []:=rfl
theorem Zqu (ρ o m a r):Zsu ρ ((o,m,a) :: r)=ZyX o m (YA (ρ a)) (Zsu ρ r):=rfl
theorem Zwi (x):spl x []=x:=rfl
theorem ZuO (x o l r):spl x ((o,l) :: r)=spl (Zu x o l) r:=rfl
theorem Zo0 (z t):Zng z (some t)=some (spl z t):=rfl
theorem Zoi (z):Zng z none=none:=rfl
theorem Zq6 (x):X8 x []=[]:=rfl
theorem Zoc (x s l):X8 x (s :: l)=(x,s) :: X8 (x+1) l:=rfl
theorem Zwz (j w s):gdS (SV.gd j w s)=true:=rfl
theorem Zvq (a):gdS (SV.v a)=false:=rfl
theorem Zvs (k o):gdS (SV.p k o)=false:=rfl
theorem ZuQ (l):gdS (SV.agg l)=false:=rfl
theorem Zuc (c m a):gdS (SV.sl c m a)=false:=rfl
theorem Zwt (k v):gdS (SV.mr k v)=false:=rfl
theorem Zyv (k v m i o):gdS (SV.pr k v m i o)=false:=rfl
theorem ZxZ (k v m i l):gdS (SV.ms k v m i l)=false:=rfl
theorem ZvJ (a o):gdS (SV.ps a o)=false:=rfl
theorem Zr8 (f a):gdS (SV.cl f a)=false:=rfl
theorem ZrS (l):gdS (SV.tup l)=false:=rfl
theorem Zr3 (φ):gdS (SV.q φ)=false:=rfl
theorem ZpU (k):gdS (SV.mp k)=false:=rfl
theorem Zri (k):gdS (SV.yl k)=false:=rfl
theorem Zou (T s):gdS (SV.ifc T s)=false:=rfl
theorem ZpG: gdS SV.any=false:=rfl
theorem Zx3 (ρ k o):rnS ρ (SV.p k o)=SV.p (ρ k) o:=rfl
theorem Zya (ρ k v):rnS ρ (SV.mr k v)=SV.mr (ρ k) v:=rfl
theorem Zxo (ρ k v m i o):rnS ρ (SV.pr k v m i o)=SV.pr (ρ k) v m i o:=rfl
theorem ZuE (ρ k v m i o):rnS ρ (SV.ms k v m i o)=SV.ms (ρ k) v m i o:=rfl
theorem Zyu (ρ k):rnS ρ (SV.mp k)=SV.mp (ρ k):=rfl
theorem Zuh (ρ k):rnS ρ (SV.yl k)=SV.yl (ρ k):=rfl
theorem ZtW (ρ l):rnS ρ (SV.agg l)=SV.agg (rnL ρ l):=rfl
theorem ZtP (ρ l):rnS ρ (SV.tup l)=SV.tup (rnL ρ l):=rfl
theorem Zwj (ρ f l):rnS ρ (SV.cl f l)=SV.cl f (rnL ρ l):=rfl
theorem ZnH (ρ T s):rnS ρ (SV.ifc T s)=SV.ifc T (rnS ρ s):=rfl
theorem Zp6 (ρ a):rnS ρ (SV.v a)=SV.v a:=rfl
theorem ZoX (ρ c m a):rnS ρ (SV.sl c m a)=SV.sl c m a:=rfl
theorem ZrP (ρ l o):rnS ρ (SV.ps l o)=SV.ps l o:=rfl
theorem ZsB (ρ φ):rnS ρ (SV.q φ)=SV.q φ:=rfl
theorem Zos (ρ j w s):rnS ρ (SV.gd j w s)=SV.gd j w s:=rfl
theorem Zrs (ρ):rnS ρ SV.any=SV.any:=rfl
theorem ZuZ (ρ):rnL ρ []=[]:=rfl
theorem ZwE (ρ s l):rnL ρ (s :: l)=rnS ρ s :: rnL ρ l:=rfl
theorem Zun (ρ l T):rnH ρ (HB.cells l T)=HB.cells (rnL ρ l) T:=rfl
theorem ZwZ (ρ v m a T):rnH ρ (HB.row v m a T)=HB.row v m a T:=rfl
theorem Zxm (ρ φ):rnH ρ (HB.ob φ)=HB.ob φ:=rfl
theorem Zv0 (ρ a c):rnH ρ (HB.map a c)=HB.map a c:=rfl
theorem Zvl (ρ a b c d):rnH ρ (HB.it a b c d)=HB.it (ρ a) b c d:=rfl
theorem Zwf (ρ a b):rnH ρ (HB.lp a b)=HB.lp a b:=rfl
theorem Zug (ρ a):rnH ρ (HB.lb a)=HB.lb a:=rfl
theorem ZuB (ρ v m a T o b c d):rnH ρ (HB.rws v m a T o b c d)=HB.rws v m a T o b c d:=rfl
theorem Zyr (ρ):rnH ρ HB.gone=HB.gone:=rfl
theorem ZuK (ρ):rnP ρ []=[]:=rfl
theorem Zuk (ρ u s r):rnP ρ ((u,s) :: r)=(ρ u,rnH ρ s) :: rnP ρ r:=rfl
theorem Zjp (ρ):Zcw ρ 0=[]:=rfl
theorem ZlS (ρ j):Zcw ρ (Nat.succ j)=(ρ j,HB.gone) :: Zcw ρ j:=rfl
theorem Zw4 (b x y):exB b x y=bif b then x else y:=rfl
theorem ZuN (a hp n d σ r K):cmK false a hp n d σ r K=YD d a none { fr:=St.fr σ,hp:=hp,n:=n,N:=St.N σ,gs:=St.gs σ } r K:=rfl
theorem ZwO (a hp n d σ r K):cmK true a hp n d σ r K=K (Ex.pan a) { fr:=St.fr σ,hp:=hp,n:=n,N:=St.N σ,gs:=St.gs σ }:=rfl
theorem ZkH (P Y a d σ r K f b):ZhY P Y (SV.cl f b) a d σ r K=ZdG P f (a ++ b) d σ r K:=rfl
theorem ZjE (P Y a d σ r K k):ZhY P Y (SV.yl k) a d σ r K=YLD Y k a d σ r K:=rfl
theorem ZvS (p T a s):mtI p T (SV.ifc a s)=(a=T/\p s):=rfl
theorem Zu9 (p l):mtO p (some l)=p l:=rfl
theorem Zxh (p):mtO p none=False:=rfl
theorem Zv3 (σ K hp n a):itE σ K hp n (HB.lp a none)=K Ex.n { fr:=St.fr σ,hp:=(St.n σ,HB.gone) :: hp,n:=n,N:=St.N σ,gs:=[] }:=rfl
theorem Zxv (σ K hp n a i):itE σ K hp n (HB.lp a (some (Ex.ex i)))=K (Ex.ex i) { fr:=St.fr σ,hp:=(St.n σ,HB.gone) :: hp,n:=n,N:=St.N σ,gs:=[] }:=rfl
theorem ZuD (σ K hp n a):itE σ K hp n (HB.lp a (some Ex.ret))=K Ex.ret { fr:=St.fr σ,hp:=(St.n σ,HB.gone) :: hp,n:=n,N:=St.N σ,gs:=[] }:=rfl
theorem Zu8 (σ K o):itP σ K o=match Ot.pn o with | false=>itE σ K (Ot.hp o) (Ot.n o) (lkh (St.n σ) (Ot.hp o)) | true=>K (Ex.pan (Ot.res o)) { fr:=St.fr σ,hp:=Ot.hp o,n:=Ot.n o,N:=St.N σ,gs:=[] }:=rfl
theorem ZpE (a r):Ztg a (HB.lp r none)=(r=a):=rfl
theorem ZoJ (a r):Znj a (HB.lb r)=(r=a):=rfl
theorem Zxd (p a s l):pmS (p :: a) (s :: l)=(p,s) :: pmS a l:=rfl
theorem ZnQ: Znn [] []=true:=rfl
theorem Znt (a l b m):Znn (a :: l) (b :: m)=Znn l m:=rfl
theorem Zkh (N):ZaM N []=true:=rfl
theorem Zmn (N j r):ZaM N (j :: r)=bif Nat.blt j N then ZaM N r else false:=rfl
theorem Zxe (p):rfB true p=p:=rfl
theorem Zvu (p):rfB false p=False:=rfl
theorem Zyp (P a b c σ K f d):rfK P a b (SV.cl f d) c σ K=gs0 (St.gs σ) (rfB (ZaM (St.N σ) c) (RFUN P a b f d c σ K)):=rfl
theorem ZnB (a hp n s):ZtF a hp n (some s)=a { pn:=false,res:=s,hp:=hp,n:=n }:=rfl
theorem Zns (a hp n):ZtF a hp n none=False:=rfl
theorem Zr9 (x s):ZyC (some s) x=rvD s x:=rfl
theorem Zr2 (x):ZyC none x=none:=rfl
theorem Zsq (σ):Ze1 σ []=some []:=rfl
theorem Zse (σ r a):Ze1 σ (r :: a)=ZyC (rv1 σ r) (Ze1 σ a):=rfl
theorem ZnI (a b x):Zbm a b Ex.n x=ZtF b (St.hp x) (St.n x) (rvE (Ze1 x a)):=rfl
theorem Zo1 (a b x):Zbm a b Ex.ret x=ZtF b (St.hp x) (St.n x) (rvE (Ze1 x a)):=rfl
theorem ZnW (a b x s):Zbm a b (Ex.pan s) x=b { pn:=true,res:=s,hp:=St.hp x,n:=St.n x }:=rfl
theorem Zo4 (a b x c):Zbm a b (Ex.ex c) x=False:=rfl
theorem Zx1 (a b Φ x):bdE a b Φ Ex.n x=(Znj b (lkh a (St.hp x))/\Φ { pn:=false,res:=SV.v (Value.bool true),hp:=(a,HB.lp b none) :: St.hp x,n:=St.n x }):=rfl
theorem ZuY (a b Φ x i):bdE a b Φ (Ex.ex i) x=(Znj b (lkh a (St.hp x))/\Φ { pn:=false,res:=SV.v (Value.bool false),hp:=(a,HB.lp b (some (Ex.ex i))) :: St.hp x,n:=St.n x }):=rfl
theorem ZuU (a b Φ x):bdE a b Φ Ex.ret x=(Znj b (lkh a (St.hp x))/\Φ { pn:=false,res:=SV.v (Value.bool false),hp:=(a,HB.lp b (some Ex.ret)) :: St.hp x,n:=St.n x }):=rfl
theorem ZvR (a b Φ x s):bdE a b Φ (Ex.pan s) x = Φ { pn:=true,res:=s,hp:=St.hp x,n:=St.n x }:=rfl
theorem Zuy (a b c K x):asE a b c K Ex.n x=(Ztg b (lkh a (St.hp x))/\c { fr:=St.fr x,hp:=(a,HB.lb b) :: St.hp x,n:=St.n x,N:=St.N x,gs:=St.gs x } K):=rfl
theorem Zub (a b c K x i):asE a b c K (Ex.ex i) x=False:=rfl
theorem ZxF (a b c K x):asE a b c K Ex.ret x=False:=rfl
theorem Zwh (a b c K x s):asE a b c K (Ex.pan s) x=False:=rfl
theorem Zwq (x):rho [] x=0:=rfl
theorem ZuC (a b):rho (a :: b) 0=a:=rfl
theorem Zt2 (a l k):rho (a :: l) (Nat.succ k)=rho l k:=rfl
theorem Zu1 (ρ a x):mtS ρ a SV.any x=True:=rfl
theorem ZwB (ρ a x k o):mtS ρ a (SV.p k o) x=(k < a/\x=SV.p (ρ k) o):=rfl
theorem ZvL (ρ a x k v):mtS ρ a (SV.mr k v) x=(k < a/\x=SV.mr (ρ k) v):=rfl
theorem Zx7 (ρ a x k v m i o):mtS ρ a (SV.pr k v m i o) x=(k < a/\x=SV.pr (ρ k) v m i o):=rfl
theorem Zxs (ρ a x k v m i o):mtS ρ a (SV.ms k v m i o) x=(k < a/\x=SV.ms (ρ k) v m i o):=rfl
theorem ZvK (ρ a x l):mtS ρ a (SV.agg l) x=mtO (mtL ρ a l) (Za6 x):=rfl
theorem ZwM (ρ a x l):mtS ρ a (SV.tup l) x=mtO (mtL ρ a l) (ZyR x):=rfl
theorem Zuv (ρ a x f l):mtS ρ a (SV.cl f l) x=mtO (mtL ρ a l) (clL f x):=rfl
theorem Zw8 (ρ a x b):mtS ρ a (SV.v b) x=(x=SV.v b):=rfl
theorem Zqq (ρ a x c m b):mtS ρ a (SV.sl c m b) x=(x=SV.sl c m b/\KFR b):=rfl
theorem Zod (ρ a x l o):mtS ρ a (SV.ps l o) x=(x=SV.ps l o/\KFL l):=rfl
theorem Zrw (ρ a x k):mtS ρ a (SV.mp k) x=(k < a/\x=SV.mp (ρ k)):=rfl
theorem Zpr (ρ a x k):mtS ρ a (SV.yl k) x=(k < a/\x=SV.yl (ρ k)):=rfl
theorem ZsR (ρ a x T t):mtS ρ a (SV.ifc T t) x=mtI (mtS ρ a t) T x:=rfl
theorem ZnP (ρ a x φ):mtS ρ a (SV.q φ) x=(x=SV.q φ):=rfl
theorem ZsL (ρ a x j w s):mtS ρ a (SV.gd j w s) x=False:=rfl
theorem Zx4 (ρ a x):mtL ρ a [] x=(x=[]):=rfl
theorem Zxn (ρ a x s l):mtL ρ a (s :: l) x=mtB (mtS ρ a s) (mtL ρ a l) x:=rfl
theorem ZvF (ρ a x):mtH ρ a HB.gone x=True:=rfl
theorem ZxD (ρ a l T b c):mtH ρ a (HB.cells l T) (HB.cells b c)=(c=T/\mtL ρ a l b):=rfl
theorem ZxS (ρ a x v m b T):mtH ρ a (HB.row v m b T) x=(x=HB.row v m b T/\KFR b):=rfl
theorem Zt1 (ρ a x φ):mtH ρ a (HB.ob φ) x=(x=HB.ob φ):=rfl
theorem Zxq (ρ a x b c):mtH ρ a (HB.map b c) x=(x=HB.map b c/\∀ (e:Nat × Value × SV),e ∈ b->KF (Prod.snd (Prod.snd e))):=rfl
theorem Zyj (ρ d x e a b c):mtH ρ d (HB.it e a b c) x=(e < d/\x=HB.it (ρ e) a b c):=rfl
theorem Zvv (ρ a x r b):mtH ρ a (HB.lp r b) x=(x=HB.lp r b):=rfl
theorem Zvn (ρ a x r):mtH ρ a (HB.lb r) x=(x=HB.lb r):=rfl
theorem Zv4 (ρ a x v m b T o c d e):mtH ρ a (HB.rws v m b T o c d e) x=(x=HB.rws v m b T o c d e/\KFR b/\∀ (r:List (List SV)),r ∈ d->KFR r):=rfl
theorem ZpF (ρ a l T v m b c):mtH ρ a (HB.cells l T) (HB.row v m b c)=False:=rfl
theorem Zp7 (ρ a l T φ):mtH ρ a (HB.cells l T) (HB.ob φ)=False:=rfl
theorem ZnC (ρ a l T b c):mtH ρ a (HB.cells l T) (HB.map b c)=False:=rfl
theorem ZqG (ρ a l T b c d e):mtH ρ a (HB.cells l T) (HB.it b c d e)=False:=rfl
theorem ZrA (ρ a l T b c):mtH ρ a (HB.cells l T) (HB.lp b c)=False:=rfl
theorem Zpq (ρ a l T b):mtH ρ a (HB.cells l T) (HB.lb b)=False:=rfl
theorem Znx (ρ a l T v m b c o d e f):mtH ρ a (HB.cells l T) (HB.rws v m b c o d e f)=False:=rfl
theorem Zp1 (ρ a l T):mtH ρ a (HB.cells l T) HB.gone=False:=rfl
theorem Zvm (p):mtM true p=True:=rfl
theorem Zyf (p):mtM false p=p:=rfl
theorem ZxM (ρ a x b):mtF ρ a x [] b=True:=rfl
theorem ZwF (ρ a x b t s r):mtF ρ a x ((t,s) :: r) b=(mtM (XA t x) (mtS ρ a s (lk t b))/\mtF ρ a (t :: x) r b):=rfl
theorem ZwP (ρ a hp b):mtP ρ a hp b 0=True:=rfl
theorem Zu3 (ρ a hp b j):mtP ρ a hp b (Nat.succ j)=(mtH ρ b (lkh j a) (lkh (ρ j) hp)/\mtP ρ a hp b j):=rfl
theorem Zwn (a):hpb a []=True:=rfl
theorem Zvt (a u s r):hpb a ((u,s) :: r)=(u < a/\hpb a r):=rfl
theorem ZxP (a b):eqC 0 (SV.v (Value.bool a)) (SV.v (Value.bool b))=some (a == b):=rfl
theorem Zxi (k a j b):eqC 1 (SV.v (Value.int k a)) (SV.v (Value.int j b))=bif ZdS k j then some (a == b) else none:=rfl
theorem Zyx (a b):eqC 2 (SV.v (Value.string a)) (SV.v (Value.string b))=some (ByteArray.toList a == ByteArray.toList b):=rfl
theorem ZxC (a b):eqA (some a) (some b)=some (a && b):=rfl
theorem Zrb: Zht [] [] []=some true:=rfl
theorem Zro (c a b d y e):Zht (c :: a) (b :: d) (y :: e)=eqA (eqC c b y) (Zht a d e):=rfl
theorem Zo5 (c a b):ZsJ c true (SV.agg a) (SV.agg b)=Zht c a b:=rfl
theorem ZsV (c a b):ZsJ c false (SV.v (Value.bool a)) (SV.v (Value.bool b))=some (a == b):=rfl
theorem ZwI (a b):eqR a (some b)=some (SV.v (Value.bool (ngB a b))):=rfl
theorem ZtR (a):eqR a none=none:=rfl
theorem ZxJ (x):ngB true x = !x:=rfl
theorem Zw0 (x):ngB false x=x:=rfl
theorem Zn6 (m hp c a b):Zv8 m hp (SV.sl c a b)=ZhR b (Nat.beq m a):=rfl
theorem ZpY (m hp):Zv8 m hp (SV.v (Value.slice none 0 0))=some []:=rfl
theorem ZpQ (m hp k v):Zv8 m hp (SV.mr k v)=ZiL m v (lkh k hp):=rfl
theorem ZsZ (m a b):Zma m (SV.sl true a b)=ZhR b (Nat.beq m a):=rfl
theorem ZrO (m):Zma m (SV.v (Value.slice none 0 0))=some []:=rfl
theorem Zsv (g m b d σ r K a c):ZyL g m b (some a) (some c) d σ r K=APP g m b a c d σ r K:=rfl
theorem ZrI (g m b d σ r K a):ZyL g m b (some a) none d σ r K=False:=rfl
theorem Zoj (g m b y d σ r K):ZyL g m b none y d σ r K=False:=rfl
theorem Zq4 (l):Za6 (SV.agg l)=some l:=rfl
theorem ZoZ (l):ZyR (SV.tup l)=some l:=rfl
theorem Zyz (f a b):clL f (SV.cl a b)=bif Nat.beq a f then some b else none:=rfl
theorem Zxu (p q):mtB p q []=False:=rfl
theorem ZxE (p q s l):mtB p q (s :: l)=(p s/\q l):=rfl
theorem Zlr (x a b c d e f):Zrq false true x a b c d e f=e { fr:=(x,SV.mr (St.n d) 0) :: St.fr d,hp:=(St.n d,HB.row 0 a b c) :: St.hp d,n:=St.n d+1,N:=St.N d,gs:=St.gs d } f:=rfl
theorem ZsO (m a T σ r K b):Zq7 (some b) m a T σ r K=Zrq (XA b (St.gs σ)) (Nat.blt b (St.N σ)) b m a T σ r K:=rfl
theorem Zss (m a T σ r K):Zq7 none m a T σ r K=False:=rfl
theorem ZoW (b d m T σ r K a):Ztw b d m (some []) (some a) T σ r K=CLN b d m a T σ r K:=rfl
theorem ZrH (b d m y T σ r K a c):Ztw b d m (some (a :: c)) y T σ r K=False:=rfl
theorem ZnJ (b d m T σ r K):Ztw b d m (some []) none T σ r K=False:=rfl
theorem ZpM (b d m y T σ r K):Ztw b d m none y T σ r K=False:=rfl
theorem ZrY (b d m z T σ r K k n):Zzi b d m z (SV.v (Value.int k n)) T σ r K=MKS b d m (lit z) n T σ r K:=rfl
theorem ZnR (d σ r K c m a):ZBF d (SV.sl c m a) σ r K=ISN d a σ r K:=rfl
theorem ZsW (g d σ r K c m a b n e j):ZBs g (SV.sl c m a) (SV.v (Value.int b n)) (SV.v (Value.int e j)) d σ r K=SLC g n j m a d σ r K:=rfl
theorem Zq8 (g m a d σ r K i j):ZyD g m a (some i) (some j) d σ r K=SUB g i j m a d σ r K:=rfl
theorem ZpD (g m a d σ r K b):ZyD g m a (some b) none d σ r K=False:=rfl
theorem Zp5 (g m a b d σ r K):ZyD g m a none b d σ r K=False:=rfl
theorem Zp2 (a ρ):ZcZ a ρ none=some a:=rfl
theorem ZqK (a ρ b):ZcZ a ρ (some b)=match ρ b with | SV.v (Value.int k n)=>some n | x=>none:=rfl
theorem Zqz (m c a b):Zfp m (SV.sl c a b)=ZhR b (Nat.beq m a):=rfl
theorem Zo2 (m):Zfp m (SV.v (Value.slice none 0 0))=some []:=rfl
theorem ZrQ (x h j w):Zy2 false (.v x) h j w=false:=rfl
theorem Zhk (x l):Zu (x :: l) 0 []=x :: l:=rfl
theorem Zh7:Zu [] 0 []=[]:=rfl
attribute [go_sem] Zsc Zs2 ZsP Zpk w64_0 w64_1 w64_2 w64_3 w64_4 w64_5 w64_6 e_stO ZAn Zyo Zqg Zvy ZBd Zrv ZoD ZtQ Zsm ZnN ZoI ZzN ZvU ZAZ Zwo Zut phx_1 phx_2 phK_n Zwk Zzs Zws ZzX ZrN ZwL Zyb ZxN ZsI sx_gh ZsF Zw2 ZAd ZtY Zsf Zz2 ZqM ZA8 ZsQ Zz5 ZwD ZqF lkB_t lkB_f ZAC Zzm ZwU Zwr Zzh ZAx Zso Zww ZwH ZzA ZAG ZzR e_lk e_lk0 e_lkh Zzp ZAI ZvN e_blk ZiT ZnK Zwx Zud ZtZ ZmA Zsg Zjs ZpI Zve ZuT Zx0 ZkI Zq9 ZfX Ziw ZlN Zkb ZjB ZfY Zhr Zhe ZmJ ZqZ Zp8 Zr7 Zhp Zli Zua Zid Zlx ZqJ Zn9 Zob ZhE Zi3 Zir Zic ZjS Zkk Zsw ZqY Zor Zq3 Zn4 Zog Zho ZiE ZlI Zme Zil Zka Zrh ZsD Zpw ZhM ZlK Zhq Zki Zr6 ZsN ZsM Zih Zlt ZfG Zix Zmh Zmt ZlF Zhi Zna Zqo ZxQ Zxg Zwb Zkx Zrx ZhJ Zky Zqc ZsG Zn0 Zh9 ZmB Zh4 Zi8 ZhT ZkT Zfs Ziy ZjZ ZkX Zne ZfB Zik Zfa Ze9 e_yld e_exR e_hpM Zj3 ZfL Ziq Zlu Zlh ZlM Zh1 Zlb Zvh Zfb Zit ZfR Zhw Zdn ZcG Zee ZcB Zb9 e_rdG ZBh ZAH ZAe e_alw Zzc e_vw1 e_vw2 e_vw3 e_vw4 Zoq ZoV Zzl ZjF Zle ZhS Zif Zhm Zia ZhB Zie Zh2 ZhK Zhg Zls Zhu ZhU Zhh Zj4 Zhs Ziu Ziz ZrL ZrV ZjH Zld ZkP Znc Zr5 Zoa ZAy Zxt ZvD e_mm e_bld ZhZ ZzD ZoY Zjj ZrU ZpB ZrW ZjL ZiU e_rvR ZBe ZvW Zvw ZsT Zio Zfj ZiW ZpK Zig Zkj Zlg Zqv Zhz ZkQ ZkU Zlq Zi9 ZjX Zqj ZhF Zh3 Zmp Zh6 Zl7 e_rvs ZoK Zkl Zqe ZtV ZA3 Zml ZlU Zkd Zmi Zsn Zqy ZvA ZuX Zym Zwa Zvd Zxc ZvM ZuJ Zuf ZxG ZvO Zon ZpS ZnS ZoM Zsi ZrX ZqA ZoB ZsY Zo7 Zqt Zq2 ZxI Zwu Zxb ZvE ZwW ZvG Zx6 Zvi Zwp ZwY Zu7 Zv9 ZvQ ZqH Zra Zr4 Zo9 Zqx ZpX Zry ZqR Zmd Zlz ZoC Znv ZjT ZjN Zwe ZxO Zl8 Zj2 ZiP Zi2 ZrD Zow ZjV Zql Zre Zsb Zpy Zs1 Zs0 Zsk Zph Zrt ZnL Zw7 ZtS Zvc Zt0 Zus Zw6 Zup Zvp ZqD ZoF ZoQ Zrp Zn2 Zqb ZsC Zrn Znw Zru Zop ZrT Zrr Zp0 Zp9 ZqC ZrE Zsx ZoG ZkA Zjl Zl3 ZjI Zmg Znf ZkJ ZkC ZiX ZmS Zke Zjd Zkc ZjY ZkF Zje Zjn ZmF ZlV ZmI Zjt Zm7 ZiY ZlD Zjz ZkG Zkq ZmV Zkr ZoL Zpo ZlA ZsH Zrl ZrM Zqk Zpv Zpe Zzk Zzu ZsK Zo6 ZoU Zqa Zsh Zq5 Znu ZpA ZnX Zsa ZpZ ZnA Zpx Zqh ZsA ZqL ZnF ZpW Zpg Znr ZnE Zqw Zvk Zqm Zoo ZvB Zwv Zw5 Zwl ZhX Zh0 ZuP Zuq Zv6 ZwG Zvo Zum Zyi Zvj Zxl ZqI ZqN Zol Zsz Zjx ZAo Zy9 Zyg ZxV Zrg Zpu ZuR Zox Zoy Zpm Zqf Zpp ZnU Zn3 Zn8 Zvg Zwd ZxW Zxj ZvV ZxH ZvY ZiA Zii Zpl Zps Zn7 ZqT Zqu Zwi ZuO Zo0 Zoi Zq6 Zoc Zwz Zvq Zvs ZuQ Zuc Zwt Zyv ZxZ ZvJ Zr8 ZrS Zr3 ZpU Zri Zou ZpG Zx3 Zya Zxo ZuE Zyu Zuh ZtW ZtP Zwj ZnH Zp6 ZoX ZrP ZsB Zos Zrs ZuZ ZwE Zun ZwZ Zxm Zv0 Zvl Zwf Zug ZuB Zyr ZuK Zuk Zjp ZlS Zw4 ZuN ZwO ZkH ZjE ZvS Zu9 Zxh Zv3 Zxv ZuD Zu8 ZpE ZoJ Zxd ZnQ Znt Zkh Zmn Zxe Zvu Zyp ZnB Zns Zr9 Zr2 Zsq Zse ZnI Zo1 ZnW Zo4 Zx1 ZuY ZuU ZvR Zuy Zub ZxF Zwh Zwq ZuC Zt2 Zu1 ZwB ZvL Zx7 Zxs ZvK ZwM Zuv Zw8 Zqq Zod Zrw Zpr ZsR ZnP ZsL Zx4 Zxn ZvF ZxD ZxS Zt1 Zxq Zyj Zvv Zvn Zv4 ZpF Zp7 ZnC ZqG ZrA Zpq Znx Zp1 Zvm Zyf ZxM ZwF ZwP Zu3 Zwn Zvt ZxP Zxi Zyx ZxC Zrb Zro Zo5 ZsV ZwI ZtR ZxJ Zw0 Zn6 ZpY ZpQ ZsZ ZrO Zsv ZrI Zoj Zq4 ZoZ Zyz Zxu ZxE Zlr ZsO Zss ZoW ZrH ZnJ ZpM ZrY ZnR ZsW Zq8 ZpD Zp5 Zp2 ZqK Zqz Zo2 ZrQ Zhk Zh7 List.drop List.take List.length List.cons_append List.nil_append Nat.beq Nat.blt Nat.ble Nat.zero_add Nat.add_zero Nat.mul_one Nat.zero_mul Nat.one_mul cond_true cond_false List.set
section typed
variable {K V:Type} [DecidableEq K]
def mpS (key:K->Value) (val:V->SV) (L:List (Nat × K × V)):List (Nat × Value × SV):=L.map λe=>(e.1,key e.2.1,val e.2.2)
def XX (k:K):List (Nat × K × V)->Option V
 | []=>none
 | e :: l=>if e.2.1=k then some e.2.2 else XX k l
def Za2 (c:Nat) (k:K) (v:V):List (Nat × K × V)->List (Nat × K × V)
 | []=>[(c,k,v)]
 | e :: l=>if e.2.1=k then (e.1,k,v) :: l else e :: Za2 c k v l
def Zad (k:K):List (Nat × K × V)->List (Nat × K × V)
 | []=>[]
 | e :: l=>if e.2.1=k then l else e :: Zad k l
def ZdK (c:Nat) (k:K) (L:List (Nat × K × V)):Nat:=bif (XX k L).isSome then c else c+1
def fI (k:K):List K->List MapEntry->Nat->Option (Nat × Value)
 | q :: ks,e :: ys,i=>if q=k then some (i,e.val) else fI k ks ys (i+1)
 | _,_,_=>none
structure KeyT (P:Program) (kt:TypeId) (key:K->Value) (sv:K->SV):Prop where
 chk:∀ (em:Bool) (k:K) (w:World),(Instr.checkKey em 10000 kt (key k)).run P w = .ok () w
 fnd:∀ (k:K) (ks:List K) (ys:List MapEntry) (w:World),ys.map (·.key)=ks.map key->(Instr.findKey kt (key k) ys).run P w = .ok (fI k ks ys 0) w
 same:∀ k,Instr.sameBits 10000 (key k) (key k)=true
 svR:∀ {w:World} {E:Env} {n ok:Nat->Prop} (k:K) (y:Value),R w E n ok (sv k) y↔y=key k
theorem Zb7 {w:World} {E:Env} {n ok:Nat->Prop} {key:K->Value} {val:V->SV} (k:K):∀ (L:List (Nat × K × V)) (ys:List MapEntry) (i:Nat),RM w E n ok (mpS key val L) ys ->
 (XX k L=none/\fI k (L.map (·.2.1)) ys i=none/\Zad k L=L/\∀ {w':World} {E':Env} {n' ok':Nat->Prop} c v' y',R w' E' n' ok' (val v') y'->RM w' E' n' ok' (mpS key val L) ys->RM w' E' n' ok' (mpS key val (Za2 c k v' L)) (ys ++ [⟨key k,y',c⟩])) \/
 ∃ j v e,XX k L=some v/\fI k (L.map (·.2.1)) ys i=some (i+j,e.val)/\ys[j]? = some e/\e.key=key k/\R w E n ok (val v) e.val /\
  (∀ {w':World} {E':Env} {n' ok':Nat->Prop},RM w' E' n' ok' (mpS key val L) ys->RM w' E' n' ok' (mpS key val (Zad k L)) (ys.eraseIdx j)/\∀ c v' y',R w' E' n' ok' (val v') y'->RM w' E' n' ok' (mpS key val (Za2 c k v' L)) (ys.modify j λe=>{ e with key:=key k,val:=y' }))
 | [],ys,i,h=>by
  simp only [mpS,List.map_nil,RM] at h;subst h;exact .inl ⟨rfl,rfl,rfl,λc v' y' hR _=>by simp only [Za2,mpS,List.map_cons,List.map_nil,List.nil_append,RM];exact ⟨y',[],rfl,hR,rfl⟩⟩
 | e :: l,ys,i,h=>by
  simp only [mpS,List.map_cons,RM] at h;obtain ⟨y,r,rfl,h1,h2⟩:=h;by_cases hk:e.2.1=k
  . refine .inr ⟨0,e.2.2,⟨key e.2.1,y,e.1⟩,by simp [XX,hk],by simp [fI,hk],rfl,by simp [hk],h1,λ{w' E' n' ok'} h'=>?_⟩;simp only [mpS,List.map_cons,RM] at h';obtain ⟨y0,r0,e0,h3,h4⟩:=h';cases e0
    refine ⟨by simpa [Zad,hk,mpS] using h4,λc v' y' hR=>?_⟩;simp only [Za2,hk,if_true,mpS,List.map_cons,RM];exact ⟨y',r,by simp,hR,h4⟩
  . rcases Zb7 k l r (i+1) h2 with ⟨a1,a2,a3,a4⟩ | ⟨j,v,e',b1,b2,b3,b4,b5,b6⟩
    . refine .inl ⟨by simp [XX,hk,a1],by simp [fI,hk,a2],by simp [Zad,hk,a3],λ{w' E' n' ok'} c v' y' hR h'=>?_⟩;simp only [mpS,List.map_cons,RM] at h';obtain ⟨y0,r0,e0,h3,h4⟩:=h';cases e0
      simp only [Za2,hk,if_false,mpS,List.map_cons,RM];exact ⟨y,_,rfl,h3,a4 c v' y' hR h4⟩
    . refine .inr ⟨j+1,v,e',by simp [XX,hk,b1],by simp [fI,hk,b2];omega,by simpa using b3,b4,b5,λ{w' E' n' ok'} h'=>?_⟩;simp only [mpS,List.map_cons,RM] at h';obtain ⟨y0,r0,e0,h3,h4⟩:=h';cases e0
      obtain ⟨c1,c2⟩:=b6 h4;refine ⟨?_,λc v' y' hR=>?_⟩
      . simp only [Zad,hk,if_false,mpS,List.map_cons,RM];exact ⟨y,_,by simp,h3,c1⟩
      . simp only [Za2,hk,if_false,mpS,List.map_cons,RM];exact ⟨y,_,by simp,h3,c2 c v' y' hR⟩
omit [DecidableEq K] in
theorem Zcl {w:World} {E:Env} {n ok:Nat->Prop} {key:K->Value} {val:V->SV}:∀ {L:List (Nat × K × V)} {ys:List MapEntry},RM w E n ok (mpS key val L) ys->ys.map (·.key)=(L.map (·.2.1)).map key
 | [],ys,h=>by simp only [mpS,List.map_nil,RM] at h;subst h;rfl
 | e :: l,ys,h=>by
  simp only [mpS,List.map_cons,RM] at h;obtain ⟨y,r,rfl,h1,h2⟩:=h;simp only [List.map_cons,List.cons.injEq,true_and];exact Zcl h2
theorem ZtB {w:World} {E:Env} {n ok:Nat->Prop}:∀ {L:List (Nat × Value × SV)} {ys:List MapEntry},RM w E n ok L ys->ys.length=L.length
 | [],ys,h=>by simp only [RM] at h;subst h;rfl
 | e :: l,ys,h=>by simp only [RM] at h;obtain ⟨y,r,rfl,h1,h2⟩:=h;simp [ZtB h2]
theorem ZkL {w:World} {E:Env} {n ok:Nat->Prop}:∀ {L:List (Nat × Value × SV)} {ys:List MapEntry},RM w E n ok L ys->∀ e ∈ ys,∃ x ∈ L,e.born=x.1/\e.key=x.2.1/\R w E n ok x.2.2 e.val
 | [],ys,h=>by simp only [RM] at h;subst h;simp
 | e :: l,ys,h=>by
  simp only [RM] at h;obtain ⟨y,r,rfl,h1,h2⟩:=h;intro e' he';rcases List.mem_cons.1 he' with rfl | he'
  . exact ⟨e,by simp,rfl,rfl,h1⟩
  . obtain ⟨x,hx,h⟩:=ZkL h2 e' he';exact ⟨x,by simp [hx],h⟩
theorem Zl5 {w:World} {E:Env} {n ok:Nat->Prop}:∀ {L:List (Nat × Value × SV)} {ys:List MapEntry},RM w E n ok L ys->∀ x ∈ L,∃ e ∈ ys,e.born=x.1
 | [],ys,h=>by simp
 | e :: l,ys,h=>by
  simp only [RM] at h;obtain ⟨y,r,rfl,h1,h2⟩:=h;intro x hx;rcases List.mem_cons.1 hx with rfl | hx
  . exact ⟨_,List.mem_cons_self,rfl⟩
  . obtain ⟨e',he',h⟩:=Zl5 h2 x hx;exact ⟨e',by simp [he'],h⟩
theorem ZAL {P:Program} {kt:TypeId} {kd:IntKind} (hu:P.underlying kt=some (.int kd)):KeyT P kt (λn:Int=>.int kd n) (λn=>.v (.int kd n)):=by
 refine ⟨λem k w=>MapKept.run_checkKey hu (by simp [MapKept.IsKey]) em _,λk ks ys w h=>?_,λk=>by simp [Instr.sameBits],λk y=>by simp only [R]⟩;have:∀ (ks:List Int) (ys:List MapEntry) (i:Nat),ys.map (·.key)=ks.map (λn:Int=>Value.int kd n)->Instr.findNow (.int kd) (.int kd k) ys i=some (fI k ks ys i):=by
  intro ks ys
  induction ys generalizing ks with
  | nil=>intro i h;cases ks with
   | nil=>rfl
   | cons a b=>simp at h
  | cons e ys ih=>intro i h;cases ks with
   | nil=>simp at h
   | cons a b =>
    simp only [List.map_cons,List.cons.injEq] at h;simp only [Instr.findNow,h.1,Instr.sameNow,if_true,fI];by_cases ha:a=k
    . subst ha;simp
    . have:(k == a)=false:=by simpa using λe=>ha e.symm
      simp [this,ha,ih b (i+1) h.2]
 exact MapKept.run_findKey hu (this ks ys 0 h)
end typed
section
variable {P:Program} {C:Cx} {E:Env} {σ : St} {a:Act} {w:World}
def ZaJ (σ : St):Operand->SV
 | .tmp u=>lk u σ.fr
 | .const x=>.v x
 | _=>.any
theorem Vx (h:Sim C E σ a w) {o:Operand} {s:SV} (hs:ZaJ σ o=s) (hg:∀ j b u,s≠.gd j b u):R w E (ltn σ.n) (okS C E σ.hp) s (a.eval o):=by
 cases o with
 | tmp u =>
  have:=Zue (h.fr u) (λj b u' e=>hg j b u' (by rw [<- hs];exact e));simp only [ZaJ] at hs;rw [hs] at this;exact this
 | const x=>simp only [ZaJ] at hs;subst hs;simp only [R];rfl
 | _=>simp only [ZaJ] at hs;subst hs;simp only [R]
theorem ZaQ (h:Sim C E σ a w) {km c:Nat} {es:List (Nat × Value × SV)} (hk:lkh km σ.hp = .map es c) :
 ltn σ.n km/\∃ ys,w.heap[E.β km]? = some (.map ys c)/\RM w E (ltn σ.n) (okS C E σ.hp) es ys.toList:=by
 have hb:=h.hs.bk km;rw [hk] at hb;refine ⟨?_,hb⟩;rcases Classical.em (ltn σ.n km) with q | q
 . exact q
 . rw [h.hs.kn km q] at hk;cases hk
theorem Zte {d:Option Nat} {s:SV} {r:KT} {K:RK} {y:Value} {w':World} {E':Env} {hp':List (Nat × HB)} {n':Nat} {next:Act->World->Prop} (hk:YD d s none ⟨σ.fr,hp',n',σ.N,σ.gs⟩ r K) (h:Sim C E σ a w)
 (hst:ZD w w' (okS C E σ.hp) (okS C E' hp')) (hE:∀ k,k < σ.n->Ele E E' k k) (hn:σ.n<=n') (hh:HSim C E' hp' (ltn n') w') (hR:R w' E' (ltn n') (okS C E' hp') s y)
 (hnext:∀ σ' E' a' w',r σ' K->Sim C E' σ' a' w'->next a' w'):next (a.put d y) w':=by
 rcases Zaq hk with ⟨g1,g2⟩ | ⟨t,g1,g2,g3,g4,g5⟩
 . rw [g1];exact hnext _ E' _ _ g2 (Yu (σ:=σ) h hst hE hn hh)
 . rw [g1];exact hnext _ E' _ _ g5 (XV (σ:=σ) h hst hE hn hh g2 g3 (λj b u e=>by rw [e] at g4;cases g4) hR)
theorem W4 {d:Option Nat} {s:SV} {r:KT} {K:RK} {y:Value} {next:Act->World->Prop} (hk:YD d s none σ r K) (h:Sim C E σ a w) (hR:R w E (ltn σ.n) (okS C E σ.hp) s y)
 (hnext:∀ σ' E' a' w',r σ' K->Sim C E' σ' a' w'->next a' w'):next (a.put d y) w :=
 Zte (hp':=σ.hp) (n':=σ.n) hk h (λb hb _=>⟨hb,rfl⟩) (λ_ _=>Ele.rfl) (Nat.le_refl _) h.hs hR hnext
theorem Zji {K':Type} [DecidableEq K'] {kt:TypeId} {key:K'->Value} {sv:K'->SV} (hK:KeyT P kt key sv) (k:K'):∀ j b u,sv k≠.gd j b u:=λj b u e=>by
 have:=(hK.svR (w:=default) (E:=⟨λ_=>0,λ_ _=>undef,λ_=>0⟩) (n:=λ_=>True) (ok:=λ_=>True) k (key k)).2 rfl;rw [e] at this;simp only [R] at this
theorem Zea {hp:List (Nat × HB)} {n:Nat->Prop} {q:Nat} {hb:HB} {o:Obj} (h:HSim C E hp n w) (hq:¬ n q) (hocc:∀ (E:Env) b,occ E q hb b↔b=E.β q)
 (hok:∀ E',(∀ k,n k->Ele E E' k k)->E'.β q=w.heap.size->Z9 (w.alloc o) E' (λk=>n k\/k=q) (okS C E' ((q,hb) :: hp)) q hb) :
 ∃ E',(∀ k,n k->Ele E E' k k)/\E'.β q=w.heap.size/\HSim C E' ((q,hb) :: hp) (λk=>n k\/k=q) (w.alloc o)/\ZD w (w.alloc o) (okS C E hp) (okS C E' ((q,hb) :: hp)):=by
 let E':Env:=⟨λk=>if k=q then w.heap.size else E.β k,E.hv,E.iss⟩
 have hE:∀ k,n k->Ele E E' k k:=λk hk=>⟨by simp [E',show k≠q from by rintro rfl;exact hq hk],Nat.le_refl _,λ_ _=>rfl⟩;have hEn:E'.β q=w.heap.size:=by simp [E']
 have hbel:Below w.heap.size w (w.alloc o):=(Below.refl _ _).alloc (Nat.le_refl _) _;have hoc:∀ j b,j≠q->(occ E' j (lkh j ((q,hb) :: hp)) b↔occ E j (lkh j hp) b):=λj b hj=>by
  rw [Zp,if_neg hj];cases hl:lkh j hp<;>simp only [occ,E',if_neg hj]
 have hocn:∀ b,occ E' q (lkh q ((q,hb) :: hp)) b↔b=w.heap.size:=λb=>by
  rw [Zp,if_pos rfl,hocc,hEn]
 have hlt:∀ b,b < w.heap.size->(okS C E' ((q,hb) :: hp) b↔okS C E hp b):=λb hb'=>by
  unfold okS;constructor
  . rintro ⟨h1,h2⟩;refine ⟨h1,λj hj=>?_⟩;by_cases hjn:j=q
    . subst hjn;rw [h.kn j hq] at hj;exact hj
    . exact h2 j ((hoc j b hjn).2 hj)
  . rintro ⟨h1,h2⟩;refine ⟨h1,λj hj=>?_⟩;by_cases hjn:j=q
    . subst hjn;rw [hocn] at hj;omega
    . exact h2 j ((hoc j b hjn).1 hj)
 have hst:ZD w (w.alloc o) (okS C E hp) (okS C E' ((q,hb) :: hp)):=λb hb' hs=>by
  have hlt':b < w.heap.size:=by
   obtain ⟨o,ho⟩:=Option.isSome_iff_exists.1 hs;exact (Array.getElem?_eq_some_iff.1 ho).1
  exact ⟨(hlt b hlt').2 hb',hbel.block b hlt'⟩
 refine ⟨E',hE,hEn,⟨λj hj=>?_,λj=>?_,λj j' b h1 h2=>?_,λj b h1=>?_,Vd h.kp hbel,λk hk=>(by obtain ⟨p1,p2⟩:=h.pin k hk;exact ⟨.inl p1,p2.trans (hE k p1)⟩)⟩,hst⟩
 . rw [Zp,if_neg (λe=>hj (.inr e))];exact h.kn j (λe=>hj (.inl e))
 . rw [Zp];by_cases hj:j=q
   . subst hj;rw [if_pos rfl];exact hok E' hE hEn
   . rw [if_neg hj];refine Yh hst hE (λ_ h=>.inl h) ?_ (λb ho=>hbel.block b (Yt h ho)) (by simp [E',hj]) (h.bk j);rcases Classical.em (n j) with h' | h'
     . exact .inr h'
     . exact .inl (h.kn j h')
 . by_cases hj:j=q<;>by_cases hj':j'=q
   . omega
   . subst hj;rw [hocn] at h1;rw [hoc j' b hj'] at h2;have:=Yt h h2;omega
   . subst hj';rw [hocn] at h2;rw [hoc j b hj] at h1;have:=Yt h h1;omega
   . exact h.dj j j' b ((hoc j b hj).1 h1) ((hoc j' b hj').1 h2)
 . by_cases hj:j=q
   . subst hj;rw [hocn] at h1;exact .inl (by rw [h1];exact h.kp.size)
   . exact h.lo j b ((hoc j b hj).1 h1)
end
section
variable {P:Program} {K' V:Type} [DecidableEq K'] {key:K'->Value} {sv:K'->SV} {val:V->SV} {L:List (Nat × K' × V)} {km c:Nat} {kt et t ty:TypeId} {mx ix vx:Operand} {σ : St} {r:KT} {K:RK} {d:Option Nat} {k:K'}
theorem Zd2 {u:Nat} {rs:Option Operand} (hr:rs=none) (h1:XA u σ.gs=false) (h2:Nat.blt u σ.N=true) (h:r ⟨(u,.mp σ.n) :: σ.fr,(σ.n,.map [] 0) :: σ.hp,σ.n+1,σ.N,σ.gs⟩ K) :
 RAW P (some u) (.makeMap t rs) ty σ r K:=by
 subst hr;intro o C E a w next Q e1 e2 e3 hS hn hq
 obtain ⟨E',k1,k2,k3,k4⟩:=Zea (q:=σ.n) (hb:=.map [] 0) (o:=.map #[] 0) hS.hs (by simp [ltn]) (λE b=>by simp only [occ]) (λE' g1 g2=>by
  simp only [Z9,g2];exact ⟨#[],heap_alloc_new _ _,rfl⟩)
 have hV:(λk=>ltn σ.n k\/k = σ.n)=ltn (σ.n+1):=by funext k;simp only [ltn,eq_iff_iff];omega
 rw [hV] at k3;have hx:(execOp a.eval o).run P w = .ok (.value (.map (some w.heap.size))) (w.alloc (.map #[] 0)):=by
  obtain ⟨dst',op',ty',pos,after,guard⟩:=o;simp only at e2;subst e2;simp [execOp,Sem.run_bind,Instr.makeMap,ZdO,Sem.run_pure]
 refine ZM hx (by simp) ?_;show next (a.put o.dst _) _;rw [e1];refine hn _ E' _ _ h (XV hS k4 k1 (by omega) k3 (λhh=>?_) (by simpa [Nat.blt_eq] using h2) (λ_ _ _ e=>by cases e) ?_)
 . rw [ZV.2 hh] at h1;cases h1
 . simp only [R,k2];exact ⟨by simp [ltn],trivial⟩
theorem Zko {ok:Bool} {zs:SV} {z:Value} (hm:ZaJ σ mx = .mp km) (hh:lkh km σ.hp = .map (mpS key val L) c) (ht:P.underlying t=some (.map kt et)) (hK:KeyT P kt key sv) (hi:ZaJ σ ix=sv k)
 (hz:YZ P et=some z) (hzR:∀ w E n ok,R w E n ok zs z)
 (h1:∀ v,XX k L=some v->YD d (bif ok then .tup [val v,.v (.bool true)] else val v) none σ r K) (h0:XX k L=none->YD d (bif ok then .tup [zs,.v (.bool false)] else zs) none σ r K) :
 RAW P d (.lookup t mx ix ok) ty σ r K:=by
 intro o C E a w next Q e1 e2 e3 hS hn hq;have hmv:=Vx hS hm (λ_ _ _=>by simp);have hiv:=(hK.svR k _).1 (Vx hS hi (Zji hK k));simp only [R] at hmv;obtain ⟨g0,ys,g1,g2⟩:=ZaQ hS hh;have hfn:=λw=>hK.fnd k _ _ w (Zcl g2);have hex:∀ y,(Instr.lookup t (a.eval mx) (a.eval ix) ok).run P w = .ok y w->(execOp a.eval o).run P w = .ok (.value y) w:=λy hy=>by
  obtain ⟨dst',op',ty',pos,after,guard⟩:=o;simp only at e2;subst e2;simp only [execOp,Sem.run_bind,hy,Result.andThen_ok,Sem.run_pure]
 rcases Zb7 (w:=w) (E:=E) (n:=ltn σ.n) (ok:=okS C E σ.hp) k L ys.toList 0 g2 with ⟨a1,a2,-,-⟩ | ⟨j,v,e,b1,b2,b3,b4,b5,-⟩
 . have hrun:(Instr.lookup t (a.eval mx) (a.eval ix) ok).run P w = .ok (if ok then .tuple #[z,.bool false] else z) w:=by
    rw [hmv.2,hiv];simp only [Instr.lookup,Sem.run_bind,run_underlying ht,Result.andThen_ok,Ys g1 rfl,Sem.run_pure,hK.chk,hfn,a2,V0 hz]
   refine ZM (hex _ hrun) (by simp) ?_;show next (a.put o.dst _) _;rw [e1];refine W4 (h0 a1) hS ?_ hn;cases ok
   . exact hzR _ _ _ _
   . simp only [cond_true,if_true,R,RL];exact ⟨_,rfl,_,_,rfl,hzR _ _ _ _,_,_,rfl,rfl,rfl⟩
 . have hrun:(Instr.lookup t (a.eval mx) (a.eval ix) ok).run P w = .ok (if ok then .tuple #[e.val,.bool true] else e.val) w:=by
    rw [hmv.2,hiv];simp only [Instr.lookup,Sem.run_bind,run_underlying ht,Result.andThen_ok,Ys g1 rfl,Sem.run_pure,hK.chk,hfn,b2]
   refine ZM (hex _ hrun) (by simp) ?_;show next (a.put o.dst _) _;rw [e1];refine W4 (h1 v b1) hS ?_ hn;cases ok
   . exact b5
   . simp only [cond_true,if_true,R,RL];exact ⟨_,rfl,_,_,rfl,b5,_,_,rfl,rfl,rfl⟩
theorem Zqd {v:V} {s:SV} {ins:Bool} (hm:ZaJ σ mx = .mp km) (hh:lkh km σ.hp = .map (mpS key val L) c) (ht:P.underlying t=some (.map kt et)) (hK:KeyT P kt key sv) (hi:ZaJ σ ix=sv k)
 (hv:ZaJ σ vx=s) (hvg:∀ j b u,s≠.gd j b u) (hsv:∀ w E n ok y,R w E n ok s y->R w E n ok (val v) y) (h:r ⟨σ.fr,(km,.map (mpS key val (Za2 c k v L)) (ZdK c k L)) :: σ.hp,σ.n,σ.N,σ.gs⟩ K) :
 RAW P none (bif ins then .insert t mx ix vx else .mapUpdate t mx ix vx) ty σ r K:=by
 intro o C E a w next Q e1 e2 e3 hS hn hq;have hmv:=Vx hS hm (λ_ _ _=>by simp);have hiv:=(hK.svR k _).1 (Vx hS hi (Zji hK k));have hvv:=hsv _ _ _ _ _ (Vx hS hv hvg);simp only [R] at hmv;obtain ⟨g0,ys,g1,g2⟩:=ZaQ hS hh;have hfn:=λw=>hK.fnd k _ _ w (Zcl g2);have hex:∀ w',(Instr.mapUpdate t (a.eval mx) (a.eval ix) (a.eval vx)).run P w = .ok () w'->(execOp a.eval o).run P w = .ok .skip w':=λw' hy=>by
  obtain ⟨dst',op',ty',pos,after,guard⟩:=o;simp only at e2;subst e2;cases ins<;>simp only [cond_true,cond_false,execOp,Sem.run_bind,hy,Result.andThen_ok,Sem.run_pure]
 have hfin:∀ ys',((ys':Array MapEntry),ZdK c k L)=(ys',ZdK c k L)->(∀ {w':World} {ok':Nat->Prop},RM w' E (ltn σ.n) ok' (mpS key val L) ys.toList->R w' E (ltn σ.n) ok' (val v) (a.eval vx)->RM w' E (ltn σ.n) ok' (mpS key val (Za2 c k v L)) ys'.toList) ->
  next (a.put o.dst undef) (Ur w (E.β km) (.map ys' (ZdK c k L))):=λys' _ hRM=>by
  obtain ⟨q1,q2⟩:=Vo (k:=km) (hb:=.map (mpS key val (Za2 c k v L)) (ZdK c k L)) (o:=.map ys' (ZdK c k L)) hS.hs (λb=>by rw [hh];simp only [occ]) (λb=>by simp only [occ]) (λhlt hst=>by
   simp only [Z9]
   exact ⟨ys',Wg hlt,hRM (ZbG hst.c (λ_ _=>Ele.rfl) (λ_ h=>h) _ _ g2) (ZU hst.c (λ_ _=>Ele.rfl) (λ_ h=>h) _ _ hvv)⟩)
  rw [e1];exact hn _ E _ _ h (Yu hS q2 (λ_ _=>Ele.rfl) (Nat.le_refl _) q1)
 rcases Zb7 (w:=w) (E:=E) (n:=ltn σ.n) (ok:=okS C E σ.hp) k L ys.toList 0 g2 with ⟨a1,a2,-,a4⟩ | ⟨j,v0,e,b1,b2,b3,b4,b5,b6⟩
 . have hc:ZdK c k L=c+1:=by simp [ZdK,a1]
   have hrun:(Instr.mapUpdate t (a.eval mx) (a.eval ix) (a.eval vx)).run P w = .ok () (Ur w (E.β km) (.map (ys.push ⟨key k,a.eval vx,c⟩) (c+1))):=by
    rw [hmv.2,hiv];simp only [Instr.mapUpdate,Sem.run_bind,run_underlying ht,Result.andThen_ok,Ys g1 rfl,Sem.run_pure,hK.chk,hfn,a2,Xc _ g1 rfl]
   refine ZM (hex _ hrun) (by simp) ?_;show next (a.put o.dst undef) _;rw [<- hc];exact hfin _ rfl λh1 h2=>by rw [Array.toList_push];exact a4 c v _ h2 h1
 . have hc:ZdK c k L=c:=by simp [ZdK,b1]
   rw [Nat.zero_add] at b2;have hek:((ys[j]?).map (·.key)).getD (key k)=key k:=by
    have:ys[j]? = some e:=by simpa using b3
    simp [this,b4]
   have hrun:(Instr.mapUpdate t (a.eval mx) (a.eval ix) (a.eval vx)).run P w = .ok () (Ur w (E.β km) (.map (ys.modify j λe=>{ e with key:=key k,val:=a.eval vx }) c)):=by
    rw [hmv.2,hiv];simp only [Instr.mapUpdate,Sem.run_bind,run_underlying ht,Result.andThen_ok,Ys g1 rfl,Sem.run_pure,hK.chk,hfn,b2,hek,Instr.keyThatStays,hK.same,if_true,Xc _ g1 rfl]
   refine ZM (hex _ hrun) (by simp) ?_;show next (a.put o.dst undef) _;have:=hfin (ys.modify j λe=>{ e with key:=key k,val:=a.eval vx }) rfl λ{w' ok'} h1 h2=>by
    rw [Array.toList_modify];exact (b6 h1).2 c v _ h2
   rw [hc] at this;exact this
theorem Zjg {v:V} {ins:Bool} (hm:ZaJ σ mx = .mp km) (hh:lkh km σ.hp = .map (mpS key val L) c) (ht:P.underlying t=some (.map kt et)) (hK:KeyT P kt key sv) (hi:ZaJ σ ix=sv k)
 (hv:ZaJ σ vx=val v) (hvg:∀ j b u,val v≠.gd j b u) (h:r ⟨σ.fr,(km,.map (mpS key val (Za2 c k v L)) (ZdK c k L)) :: σ.hp,σ.n,σ.N,σ.gs⟩ K) :
 RAW P none (bif ins then .insert t mx ix vx else .mapUpdate t mx ix vx) ty σ r K:=Zqd hm hh ht hK hi hv hvg (λ_ _ _ _ _ h=>h) h
theorem Zt4 (hm:ZaJ σ mx = .mp km) (hh:lkh km σ.hp = .map (mpS key val L) c) (ht:P.underlying t=some (.map kt et)) (hK:KeyT P kt key sv) (hi:ZaJ σ ix=sv k) {ats:Array TypeId} (ha:ats[0]? = some t)
 (h:r ⟨σ.fr,(km,.map (mpS key val (Zad k L)) c) :: σ.hp,σ.n,σ.N,σ.gs⟩ K) :
 RAW P none (.call { callee:=.builtin .delete,args:=#[mx,ix],argTypes:=ats }) ty σ r K:=by
 intro o C E a w next Q e1 e2 e3 hS hn hq;have hmv:=Vx hS hm (λ_ _ _=>by simp);have hiv:=(hK.svR k _).1 (Vx hS hi (Zji hK k));simp only [R] at hmv;obtain ⟨g0,ys,g1,g2⟩:=ZaQ hS hh;have hfn:=λw=>hK.fnd k _ _ w (Zcl g2);have hex:∀ w',(Builtin.delete_ ats ty #[a.eval mx,a.eval ix]).run P w = .ok (.tuple #[]) w'->(execOp a.eval o).run P w = .ok (.value (.tuple #[])) w':=λw' hy=>by
  obtain ⟨dst',op',ty',pos,after,guard⟩:=o;simp only at e2 e3;subst e2;subst e3;simp [execOp,resolve,invoke,builtin,hy]
 have hfin:∀ ys':Array MapEntry,(∀ {w':World} {ok':Nat->Prop},RM w' E (ltn σ.n) ok' (mpS key val L) ys.toList->RM w' E (ltn σ.n) ok' (mpS key val (Zad k L)) ys'.toList) ->
  next (a.put o.dst (.tuple #[])) (Ur w (E.β km) (.map ys' c)):=λys' hRM=>by
  obtain ⟨q1,q2⟩:=Vo (k:=km) (hb:=.map (mpS key val (Zad k L)) c) (o:=.map ys' c) hS.hs (λb=>by rw [hh];simp only [occ]) (λb=>by simp only [occ]) (λhlt hst=>by
   simp only [Z9]
   exact ⟨ys',Wg hlt,hRM (ZbG hst.c (λ_ _=>Ele.rfl) (λ_ h=>h) _ _ g2)⟩)
  rw [e1];exact hn _ E _ _ h (Yu hS q2 (λ_ _=>Ele.rfl) (Nat.le_refl _) q1)
 rcases Zb7 (w:=w) (E:=E) (n:=ltn σ.n) (ok:=okS C E σ.hp) k L ys.toList 0 g2 with ⟨a1,a2,a3,-⟩ | ⟨j,v0,e,b1,b2,b3,b4,b5,b6⟩
 . have hrun:(Builtin.delete_ ats ty #[a.eval mx,a.eval ix]).run P w = .ok (.tuple #[]) (Ur w (E.β km) (.map ys c)):=by
    rw [hmv.2,hiv];simp [Builtin.delete_,Sem.run_bind,ha,run_underlying ht,Result.andThen_ok,Ys g1 rfl,Sem.run_pure,hK.chk,hfn,a2,Xc _ g1 rfl]
   refine ZM (hex _ hrun) (by simp) ?_;show next (a.put o.dst _) _;exact hfin _ λh1=>by rw [a3];exact h1
 . rw [Nat.zero_add] at b2;have hlt:j < ys.size:=by
    have:ys[j]? = some e:=by simpa using b3
    exact (Array.getElem?_eq_some_iff.1 this).1
   have hrun:(Builtin.delete_ ats ty #[a.eval mx,a.eval ix]).run P w = .ok (.tuple #[]) (Ur w (E.β km) (.map (ys.eraseIdxIfInBounds j) c)):=by
    rw [hmv.2,hiv];simp [Builtin.delete_,Sem.run_bind,ha,run_underlying ht,Result.andThen_ok,Ys g1 rfl,Sem.run_pure,hK.chk,hfn,b2,Xc _ g1 rfl]
   refine ZM (hex _ hrun) (by simp) ?_;show next (a.put o.dst _) _;exact hfin _ λ{w' ok'} h1=>by
    have:(ys.eraseIdxIfInBounds j).toList=ys.toList.eraseIdx j:=by simp [Array.eraseIdxIfInBounds,hlt]
    rw [this];exact (b6 h1).1
theorem ZsS {es:List (Nat × Value × SV)} (hm:ZaJ σ mx = .mp km) (hh:lkh km σ.hp = .map es c) (ht:P.underlying t=some (.map kt et)) {ats:Array TypeId} (ha:ats[0]? = some t)
 (h:YD d (.v (.int .i64 es.length)) none σ r K):RAW P d (.call { callee:=.builtin .len,args:=#[mx],argTypes:=ats }) ty σ r K:=by
 intro o C E a w next Q e1 e2 e3 hS hn hq;have hmv:=Vx hS hm (λ_ _ _=>by simp);simp only [R] at hmv;obtain ⟨g0,ys,g1,g2⟩:=ZaQ hS hh;have hl:=ZtB g2;have hrun:(Builtin.len_ ats ty #[a.eval mx]).run P w = .ok (.int .i64 es.length) w:=by
  rw [hmv.2];simp [Builtin.len_,Sem.run_bind,ha,run_underlying ht,Result.andThen_ok,Ys g1 rfl,Sem.run_pure,goInt,<- hl]
 have hx:(execOp a.eval o).run P w = .ok (.value (.int .i64 es.length)) w:=by
  obtain ⟨dst',op',ty',pos,after,guard⟩:=o;simp only at e2 e3;subst e2;subst e3;simp [execOp,resolve,invoke,builtin,hrun]
 refine ZM hx (by simp) ?_;show next (a.put o.dst _) _;rw [e1];exact W4 h hS (by simp only [R]) hn
theorem Zk2 {u:Nat} {es:List (Nat × Value × SV)} (hm:ZaJ σ mx = .mp km) (hh:lkh km σ.hp = .map es c) (ht:P.underlying t=some (.map kt et)) (h1:XA u σ.gs=false) (h2:Nat.blt u σ.N=true)
 (h:r ⟨(u,.p σ.n 0) :: σ.fr,(σ.n,.it km c [] c) :: σ.hp,σ.n+1,σ.N,σ.gs⟩ K):RAW P (some u) (.range t mx) ty σ r K:=by
 intro o C E a w next Q e1 e2 e3 hS hn hq;have hmv:=Vx hS hm (λ_ _ _=>by simp);simp only [R] at hmv;obtain ⟨g0,ys,g1,g2⟩:=ZaQ hS hh
 obtain ⟨E',k1,k2,k3,k4⟩:=Zea (q:=σ.n) (hb:=.it km c [] c) (o:=.mapIter (some (E.β km)) c #[] c) hS.hs (by simp [ltn]) (λE b=>by simp only [occ]) (λE' q1 q2=>by
  simp only [Z9,q2];exact ⟨.inl g0,by rw [(q1 km g0).1];exact heap_alloc_new _ _⟩)
 have hV:(λk=>ltn σ.n k\/k = σ.n)=ltn (σ.n+1):=by funext k;simp only [ltn,eq_iff_iff];omega
 rw [hV] at k3;have hx:(execOp a.eval o).run P w = .ok (.value (.pointer (some ⟨w.heap.size,0,none⟩))) (w.alloc (.mapIter (some (E.β km)) c #[] c)):=by
  obtain ⟨dst',op',ty',pos,after,guard⟩:=o;simp only at e2;subst e2;simp only [execOp,hmv.2];simp [Sem.run_bind,Instr.range,run_underlying ht,Ys g1 rfl,ZdO,Sem.run_pure]
 refine ZM hx (by simp) ?_;show next (a.put o.dst _) _;rw [e1];refine hn _ E' _ _ h (XV hS k4 k1 (by omega) k3 (λhh=>?_) (by simpa [Nat.blt_eq] using h2) (λ_ _ _ e=>by cases e) ?_)
 . rw [ZV.2 hh] at h1;cases h1
 . simp only [R,k2];exact ⟨by simp [ltn],trivial⟩
theorem Zmj (w:World) (ty:TypeId) (rr bm since last:Nat) (seen:Array Nat) (es:Array MapEntry) (clock:Nat)
 (hr:w.heap[rr]? = some (.mapIter (some bm) since seen last)) (hb:w.heap[bm]? = some (.map es clock)) (hold:∀ x ∈ es.toList,x.born < since) (hsc:since<=last) :
 ((∀ x ∈ es.toList,seen.contains x.born=true)/\(Instr.next (.pointer (some ⟨rr,0,none⟩)) false ty).run P w = .ok (.tuple #[.bool false]) w) \/
 ∃ e ∈ es.toList,seen.contains e.born=false/\∃ k,(Instr.next (.pointer (some ⟨rr,0,none⟩)) false ty).run P w = .ok (.tuple #[.bool true,e.key,e.val]) (Ur { w with drawn:=k } rr (.mapIter (some bm) since (seen.push e.born) clock)):=by
 have htest:(!seen.isEmpty && !es.isEmpty && es.all (λx=>decide (x.born ≥ last)))=false:=by
  rw [Bool.eq_false_iff];intro hh;simp only [Bool.and_eq_true,Bool.not_eq_true'] at hh;obtain ⟨⟨-,h2⟩,h3⟩:=hh;have h0:0 < es.size:=by
   rcases Nat.eq_zero_or_pos es.size with h0 | h0
   . simp [Array.isEmpty,h0] at h2
   . exact h0
  rw [Array.all_eq_true_iff_forall_mem] at h3;have h4:=h3 _ (Array.getElem_mem h0);have h5:=hold es[0] (by simp);simp at h4;omega
 have hL:(Array.filter (λe=>!seen.contains e.born) es).filter (λx=>decide (x.born < since))=Array.filter (λe=>!seen.contains e.born) es :=
  Array.filter_eq_self.2 λx hx=>by
   simp only [Array.mem_filter] at hx;simpa using hold x (by simpa using hx.1)
 have hL2:(Array.filter (λe=>!seen.contains e.born) es).filter (λx=>decide (x.born ≥ since)) = #[]:=by
  rw [Array.filter_eq_empty_iff];intro x hx;simp only [Array.mem_filter] at hx;have:=hold x (by simpa using hx.1);simp;omega
 simp only [Instr.next,Sem.run_bind,Ys hr rfl,Ys hb rfl,Result.andThen_ok,htest,Bool.false_eq_true,if_false,hL,hL2,Array.append_empty];have hmem:∀ x,x ∈ Array.filter (λe=>!seen.contains e.born) es↔x ∈ es.toList/\seen.contains x.born=false:=λx=>by
  simp [Array.mem_filter]
 generalize hF:Array.filter (λe=>!seen.contains e.born) es=F at hmem ⊢;by_cases h0:F.size=0
 . left;have hE:F = #[]:=Array.eq_empty_of_size_eq_zero h0;subst hE;refine ⟨λx hx=>?_,?_⟩
   . cases hc:seen.contains x.born with
     | true=>rfl
     | false=>have:=(hmem x).2 ⟨hx,hc⟩;simp at this
   . simp [choose,Sem.run,Question.forced]
 . right;have hne:F.isEmpty=false:=by simp [Array.isEmpty,h0]
   simp only [hne,Bool.false_eq_true,if_false,Array.empty_append,Array.size_map];have hch:∃ (j:Nat) (k:Nat),j < F.size/\(choose (Question.mapNext F.size)).run P w = .ok j { w with drawn:=k }:=by
    by_cases hf:F.size<=1
    . exact ⟨0,w.drawn,by omega,by simp [choose,Sem.run,Question.forced,hf]⟩
    . exact ⟨_,w.drawn+1,Nat.mod_lt _ (by omega),by
       simp only [choose,Sem.run,Question.forced,decide_eq_true_eq,hf,if_false,Question.cut]
       rfl⟩
   obtain ⟨j,k,hj,hrun⟩:=hch;have hm:=(hmem F[j]).1 (Array.getElem_mem hj);refine ⟨F[j],hm.1,hm.2,k,?_⟩;have hr1:({ w with drawn:=k }:World).heap[rr]? = some (.mapIter (some bm) since seen last):=hr;simp only [hrun,Array.getElem?_map,Array.getElem?_eq_getElem hj,Option.map_some,Sem.run_bind,Result.andThen_ok,Xc _ hr1 rfl,Sem.run_pure]
theorem Zny {q since last:Nat} {seen:List Nat} (hm:ZaJ σ mx = .p q 0) (hq:lkh q σ.hp = .it km since seen last) (hh:lkh km σ.hp = .map (mpS key val L) c) (hold:∀ e ∈ L,e.1 < since) (hsc:since<=last) (hK:KeyT P kt key sv)
 (h0:(∀ e ∈ L,e.1 ∈ seen)->YD d (.tup [.v (.bool false)]) none σ r K)
 (h1:∀ e ∈ L,e.1 ∉ seen->YD d (.tup [.v (.bool true),sv e.2.1,val e.2.2]) none ⟨σ.fr,(q,.it km since (seen ++ [e.1]) c) :: σ.hp,σ.n,σ.N,σ.gs⟩ r K) :
 RAW P d (.next mx false) ty σ r K:=by
 intro o C E a w next Q e1 e2 e3 hS hn _;have hmv:=Vx hS hm (λ_ _ _=>by simp);simp only [R] at hmv;obtain ⟨g0,ys,g1,g2⟩:=ZaQ hS hh;have hb:=hS.hs.bk q;rw [hq] at hb;obtain ⟨-,hit⟩:=hb;have hex:∀ y w',(Instr.next (a.eval mx) false ty).run P w = .ok y w'->(execOp a.eval o).run P w = .ok (.value y) w':=λy w' hy=>by
  obtain ⟨dst',op',ty',pos,after,guard⟩:=o;simp only at e2 e3;subst e2;subst e3;simp only [execOp,Sem.run_bind,hy,Result.andThen_ok,Sem.run_pure]
 rw [hmv.2] at hex
 rcases Zmj (P:=P) w ty (E.β q) (E.β km) since last seen.toArray ys c hit g1 (λx hx=>by
  obtain ⟨z,hz,z1,z2,z3⟩:=ZkL g2 x hx;obtain ⟨e,he,rfl⟩:=List.mem_map.1 hz
  rw [z1];exact hold e he) hsc with ⟨k1,k2⟩ | ⟨e,k1,k2,k,k3⟩
 . refine ZM (hex _ _ k2) (by simp) ?_;show next (a.put o.dst _) _;rw [e1];refine W4 (h0 λe he=>?_) hS (by simp only [R,RL];exact ⟨_,rfl,_,_,rfl,rfl,rfl⟩) hn;obtain ⟨y,hy,hyb⟩:=Zl5 g2 (e.1,key e.2.1,val e.2.2) (List.mem_map.2 ⟨e,he,rfl⟩);have:=k1 y hy;rw [hyb] at this;simpa using this
 . refine ZM (hex _ _ k3) (by simp) ?_;show next (a.put o.dst _) _;obtain ⟨z,hz,z1,z2,z3⟩:=ZkL g2 e k1;obtain ⟨x,hx,rfl⟩:=List.mem_map.1 hz;simp only at z1 z2 z3;have hS':=ZbO hS k;have hqn:ltn σ.n q:=by
    rcases Classical.em (ltn σ.n q) with h | h
    . exact h
    . rw [hS.hs.kn q h] at hq;cases hq
   obtain ⟨q1,q2⟩:=Vo (k:=q) (hb:=.it km since (seen ++ [x.1]) c) (o:=.mapIter (some (E.β km)) since (seen.toArray.push e.born) c) hS'.hs (λb=>by rw [hq];simp only [occ]) (λb=>by simp only [occ]) (λhlt hst=>by
    simp only [Z9];refine ⟨g0,?_⟩;rw [z1];have:(seen ++ [x.1]).toArray=seen.toArray.push x.1:=by simp
    rw [this]
    exact Wg hlt)
   rw [e1];refine Zte (h1 x hx (by rw [z1] at k2;simpa using k2)) hS' q2 (λ_ _=>Ele.rfl) (Nat.le_refl _) q1 ?_ hn;simp only [R,RL];have e4:=(hK.svR (w:=Ur { w with drawn:=k } (E.β q) (.mapIter (some (E.β km)) since (seen.toArray.push e.born) c)) (E:=E) (n:=ltn σ.n) (ok:=okS C E ((q,.it km since (seen ++ [x.1]) c) :: σ.hp)) x.2.1 e.key).2 z2;have z4:R { w with drawn:=k } E (ltn σ.n) (okS C E σ.hp) (val x.2.2) e.val:=ZU (w:=w) (w':={ w with drawn:=k }) (ok:=okS C E σ.hp) (λb hb _=>⟨hb,rfl⟩) (λ_ _=>Ele.rfl) (λ_ h=>h) _ _ z3
   exact ⟨_,rfl,_,_,rfl,rfl,_,_,rfl,e4,_,_,rfl,ZU q2.c (λ_ _=>Ele.rfl) (λ_ h=>h) _ _ z4,rfl⟩
theorem Zjc {q since:Nat} {seen:List Nat} {e:Nat × K' × V} (hm:ZaJ σ mx = .p q 0) (hq:lkh q σ.hp = .it km since (seen ++ [e.1]) c) (hh:lkh km σ.hp = .map (mpS key val L) c) (he:e ∈ L) (hn:(L.map (·.1)).Nodup) (hK:KeyT P kt key sv)
 (hk:YD d (.tup [sv e.2.1,val e.2.2]) none σ r K):RAW P d (.entry mx) ty σ r K:=by
 intro o C E a w next Q e1 e2 e3 hS hnx _;have hmv:=Vx hS hm (λ_ _ _=>by simp);simp only [R] at hmv;obtain ⟨g0,ys,g1,g2⟩:=ZaQ hS hh;have hb:=hS.hs.bk q;rw [hq] at hb;obtain ⟨-,hit⟩:=hb;have hfind:∀ (L:List (Nat × K' × V)) (ys:List MapEntry),RM w E (ltn σ.n) (okS C E σ.hp) (mpS key val L) ys->e ∈ L->(L.map (·.1)).Nodup->∃ y,ys.find? (·.born == e.1)=some y/\y.key=key e.2.1/\R w E (ltn σ.n) (okS C E σ.hp) (val e.2.2) y.val:=by
  intro L
  induction L with
  | nil=>intro ys _ he;cases he
  | cons x l ih =>
   intro ys h he hn;simp only [mpS,List.map_cons,RM] at h;obtain ⟨y,r,rfl,h1,h2⟩:=h;simp only [List.map_cons,List.nodup_cons] at hn;rcases List.mem_cons.1 he with rfl | he
   . exact ⟨⟨key e.2.1,y,e.1⟩,by simp,rfl,h1⟩
   . obtain ⟨y',q1,q2⟩:=ih r h2 he hn.2;refine ⟨y',?_,q2⟩;have:x.1≠e.1:=λhx=>hn.1 (hx ▸ List.mem_map.2 ⟨e,he,rfl⟩);simp [this,q1]
 obtain ⟨y,f1,f2,f3⟩:=hfind L ys.toList g2 he hn;have f1':ys.find? (·.born == e.1)=some y:=by rw [<- Array.find?_toList];exact f1
 have hrun:(Instr.entry (.pointer (some ⟨E.β q,0,none⟩))).run P w = .ok (.tuple #[y.key,y.val]) w:=by
  have:(seen ++ [e.1]).toArray.back? = some e.1:=by simp
  simp only [Instr.entry,Sem.run_bind,Ys hit rfl,Ys g1 rfl,Result.andThen_ok,this,bne_self_eq_false,Bool.false_eq_true,if_false,f1',Sem.run_pure]
 have hx:(execOp a.eval o).run P w = .ok (.value (.tuple #[y.key,y.val])) w:=by
  obtain ⟨dst',op',ty',pos,after,guard⟩:=o;simp only at e2;subst e2;simp only [execOp,Sem.run_bind,hmv.2,hrun,Result.andThen_ok,Sem.run_pure]
 refine ZM hx (by simp) ?_;show next (a.put o.dst _) _;rw [e1];refine W4 hk hS ?_ hnx;simp only [R,RL];exact ⟨_,rfl,_,_,rfl,(hK.svR _ _).2 f2,_,_,rfl,f3,rfl⟩
end
section
variable {K V:Type} [DecidableEq K] {k k':K} {v:V} {c:Nat} {L:List (Nat × K × V)}
structure MW (L:List (Nat × K × V)) (c:Nat):Prop where
 bn:(L.map (·.1)).Nodup
 bl:∀ e ∈ L,e.1 < c
 kn:(L.map (·.2.1)).Nodup
omit [DecidableEq K] in
theorem MW.nil {c:Nat}:MW ([]:List (Nat × K × V)) c:=⟨List.nodup_nil,(λe h=>by cases h),List.nodup_nil⟩
theorem ZgV:∀ {L:List (Nat × K × V)},XX k L=some v->∃ b,(b,k,v) ∈ L
 | [],h=>by cases h
 | e :: l,h=>by
  simp only [XX] at h;split at h
  . rename_i hk;cases h;subst hk;exact ⟨e.1,by simp⟩
  . obtain ⟨b,hb⟩:=ZgV h;exact ⟨b,by simp [hb]⟩
theorem XR:∀ {L:List (Nat × K × V)},XX k L=none↔∀ e ∈ L,e.2.1≠k
 | []=>by simp [XX]
 | e :: l=>by
  simp only [XX];split
  . rename_i hk;simp [hk]
  . rename_i hk;rw [XR];simp [hk]
theorem ZkR:∀ {L:List (Nat × K × V)} {e:Nat × K × V},(L.map (·.2.1)).Nodup->e ∈ L->XX e.2.1 L=some e.2.2
 | x :: l,e,hn,he=>by
  simp only [List.map_cons,List.nodup_cons] at hn;simp only [XX];rcases List.mem_cons.1 he with rfl | he
  . simp
  . rw [if_neg (λhx:x.2.1=e.2.1=>hn.1 (by rw [hx];exact List.mem_map.2 ⟨e,he,rfl⟩))];exact ZkR hn.2 he
theorem ZdD:∀ {L:List (Nat × K × V)},XX k' (Za2 c k v L)=if k'=k then some v else XX k' L
 | []=>by simp only [Za2,XX];by_cases h:k=k'<;>simp [h,eq_comm]
 | e :: l=>by
  simp only [Za2];by_cases he:e.2.1=k
  . rw [if_pos he];simp only [XX];by_cases hk:k=k'
    . subst hk;simp
    . rw [if_neg hk,if_neg (λh=>hk h.symm),if_neg (λh=>hk (he.symm.trans h))]
  . rw [if_neg he];simp only [XX];by_cases hk:e.2.1=k'
    . rw [if_pos hk,if_neg (λh=>he (hk.trans h)),if_pos hk]
    . rw [if_neg hk,if_neg hk,ZdD]
theorem Zbd:∀ {L:List (Nat × K × V)},XX k L=none->Za2 c k v L=L ++ [(c,k,v)]
 | [],_=>rfl
 | e :: l,h=>by
  simp only [XX] at h;split at h
  . cases h
  . rename_i he;simp only [Za2,if_neg he,Zbd h,List.cons_append]
theorem ZgU:∀ {L:List (Nat × K × V)},(XX k L).isSome->(Za2 c k v L).map (λe=>(e.1,e.2.1))=L.map λe=>(e.1,e.2.1)
 | [],h=>by simp [XX] at h
 | e :: l,h=>by
  simp only [XX] at h;simp only [Za2];split
  . rename_i he;simp [he]
  . rename_i he;rw [if_neg he] at h;simp [ZgU h]
theorem MW.set (h:MW L c) (v:V):MW (Za2 c k v L) (ZdK c k L):=by
 cases hg:XX k L with
 | none =>
  have hc:ZdK c k L=c+1:=by simp [ZdK,hg]
  rw [Zbd hg,hc];have hk:=XR.1 hg;refine ⟨?_,λe he=>?_,?_⟩
  . rw [List.map_append,List.nodup_append];refine ⟨h.bn,by simp,λa ha b hb=>?_⟩;obtain ⟨e,he,rfl⟩:=List.mem_map.1 ha;simp only [List.map_cons,List.map_nil,List.mem_singleton] at hb;have:=h.bl e he;omega
  . rcases List.mem_append.1 he with he | he
    . have:=h.bl e he;omega
    . simp only [List.mem_singleton] at he;subst he;simp
  . rw [List.map_append,List.nodup_append];refine ⟨h.kn,by simp,λa ha b hb=>?_⟩;obtain ⟨e,he,rfl⟩:=List.mem_map.1 ha;simp only [List.map_cons,List.map_nil,List.mem_singleton] at hb;rw [hb];exact hk e he
 | some v0 =>
  have hc:ZdK c k L=c:=by simp [ZdK,hg]
  have hm:=ZgU (c:=c) (v:=v) (k:=k) (L:=L) (by rw [hg];rfl);have e1:(Za2 c k v L).map (·.1)=L.map (·.1):=by
   have:=congrArg (List.map Prod.fst) hm;simpa [List.map_map,Function.comp_def] using this
  have e2:(Za2 c k v L).map (·.2.1)=L.map (·.2.1):=by
   have:=congrArg (List.map Prod.snd) hm;simpa [List.map_map,Function.comp_def] using this
  rw [hc];refine ⟨by rw [e1];exact h.bn,λe he=>?_,by rw [e2];exact h.kn⟩;have:e.1 ∈ L.map (·.1):=by rw [<- e1];exact List.mem_map.2 ⟨e,he,rfl⟩
  obtain ⟨x,hx,hxe⟩:=List.mem_map.1 this;rw [<- hxe];exact h.bl x hx
theorem Zac:∀ {L:List (Nat × K × V)},(Zad k L).Sublist L
 | []=>.slnil
 | e :: l=>by
  simp only [Zad];split
  . exact List.sublist_cons_self _ _
  . exact Zac.cons_cons _
theorem MW.del (h:MW L c):MW (Zad k L) c:=⟨(Zac.map _).nodup h.bn,λe he=>h.bl e (Zac.subset he),(Zac.map _).nodup h.kn⟩
theorem Zgb:∀ {L:List (Nat × K × V)},(L.map (·.2.1)).Nodup->XX k' (Zad k L)=if k'=k then none else XX k' L
 | [],_=>by simp [Zad,XX]
 | e :: l,hn=>by
  simp only [List.map_cons,List.nodup_cons] at hn;simp only [Zad];by_cases he:e.2.1=k
  . rw [if_pos he];by_cases hk:k'=k
    . rw [if_pos hk,XR];intro x hx hxe;exact hn.1 (by rw [he,<- hk,<- hxe];exact List.mem_map.2 ⟨x,hx,rfl⟩)
    . rw [if_neg hk];simp only [XX];rw [if_neg (λh=>hk (h.symm.trans he))]
  . rw [if_neg he];simp only [XX];by_cases hk:e.2.1=k'
    . rw [if_pos hk,if_pos hk,if_neg (λh=>he (hk.trans h))]
    . rw [if_neg hk,if_neg hk,Zgb hn.2]
theorem Zga:∀ {L:List (Nat × K × V)},(XX k L).isSome->(Zad k L).length+1=L.length
 | [],h=>by simp [XX] at h
 | e :: l,h=>by
  simp only [XX] at h;simp only [Zad];split
  . simp
  . rename_i he;rw [if_neg he] at h;simp [Zga h]
omit [DecidableEq K] in
theorem ZE {key:K->Value} {val:V->SV}:(∀ e ∈ mpS key val L,KF e.2.2)↔∀ v ∈ L.map (·.2.2),KF (val v):=by
 simp only [mpS,List.mem_map];exact ⟨λh v ⟨e,he,hv⟩=>hv ▸ h _ ⟨e,he,rfl⟩,λh _ ⟨e,he,hx⟩=>hx ▸ h _ ⟨e,he,rfl⟩⟩
omit [DecidableEq K] in
theorem Zx {key:K->Value} {val:V->SV}:(∀ (a:Nat) (b:Value) (c:SV),(a,b,c) ∈ mpS key val L->KF c)↔∀ v ∈ L.map (·.2.2),KF (val v):=by
 rw [<- ZE (key:=key)];exact ⟨λh e he=>h e.1 e.2.1 e.2.2 he,λh a b c he=>h _ he⟩
def Zqp (L:List (Nat × K × V)) (seen:List Nat):Nat:=(L.filter λe=>!seen.contains e.1).length
omit [DecidableEq K] in
theorem ZqB {e:Nat × K × V} {seen:List Nat} (he:e ∈ L) (hs:e.1 ∉ seen):Zqp L (seen ++ [e.1]) < Zqp L seen:=by
 unfold Zqp;have hsub:(L.filter λx=>!(seen ++ [e.1]).contains x.1)=(L.filter λx=>!seen.contains x.1).filter λx=>!(x.1 == e.1):=by
  rw [List.filter_filter];congr 1;funext x;simp only [List.contains_append,Bool.not_or];rw [Bool.and_comm];congr 1;simp only [List.contains_cons,List.contains_nil,Bool.or_false]
 rw [hsub];refine Nat.lt_of_le_of_ne (List.length_filter_le _ _) λh=>?_;have:=List.length_filter_eq_length_iff.1 h e (by simp [he,hs]);simp at this
end
end Go.Sx
namespace Go.Sx
open Go Go.RowKit
def ZdU (s s':SV):Prop:=∀ (w:World) (E:Env) (n ok:Nat->Prop) (y:Value),R w E n ok s y->R w E n ok s' y
theorem ZdU.rfl {s:SV}:ZdU s s:=λ_ _ _ _ _ h=>h
theorem Yk {c:Bool} {m:Nat}:ZdU (.v (.slice none 0 0)) (.sl c m []):=λw E n ok y h=>by
 simp only [R] at h ⊢;exact ⟨none,0,0,h,by simp,⟨Nat.le_refl _,λ_=>Eq.refl _⟩,by simp,by simp⟩
theorem W7 {l l':List SV} (h:∀ (w:World) (E:Env) (n ok:Nat->Prop) (ys:List Value),RL w E n ok l ys->RL w E n ok l' ys):ZdU (.tup l) (.tup l'):=λw E n ok y hy=>by
 simp only [R] at hy ⊢;obtain ⟨cs,h1,h2⟩:=hy;exact ⟨cs,h1,h _ _ _ _ _ h2⟩
theorem ZC {s s':SV} {l l':List SV} (h1:ZdU s s') (h2:∀ (w:World) (E:Env) (n ok:Nat->Prop) (ys:List Value),RL w E n ok l ys->RL w E n ok l' ys):∀ (w:World) (E:Env) (n ok:Nat->Prop) (ys:List Value),RL w E n ok (s :: l) ys->RL w E n ok (s' :: l') ys:=λw E n ok ys h=>by
 simp only [RL] at h ⊢;obtain ⟨y,r,q1,q2,q3⟩:=h;exact ⟨y,r,q1,h1 _ _ _ _ _ q2,h2 _ _ _ _ _ q3⟩
def ZvT (rs:List RV) (res:SV):Ex->St->Prop
 | .ex _,_=>False
 | .n,σ=>∃ s,rvR rs σ = some s/\ZdU s res
 | .ret,σ=>∃ s,rvR rs σ = some s/\ZdU s res
 | .pan _,_=>False
theorem ZAu (rs:List RV) (res:SV) (σ : St):ZvT rs res .n σ = ∃ s,rvR rs σ = some s/\ZdU s res:=rfl
theorem Zpf (rs:List RV) (res:SV) (σ : St):ZvT rs res .ret σ = ∃ s,rvR rs σ = some s/\ZdU s res:=rfl
attribute [go_sem] ZAu Zpf
section
variable {P:Program}
theorem US {f:FuncId} {fn:Func} {code:Code} {ir:SC} {args:List SV} {res:SV} {rs:List RV} {N:Nat} (hf:P.funcs[f]? = some fn) (hb:fn.body=some code) (hnm:YO P f=true) (hc:XM P ir code=true)
 (hr:Wu P rs fn.results.toList=true) (hN:fn.ntmps=N) (hA:args.length<=N) (ka:KFL args) (kr:KF res) (h:sx P Y0 0 ir (st0 args N) (ZvT rs res)):Ct P f args res:=by
 refine ⟨hnm,ka,kr,λw ok vs hR=>?_⟩
 let C:Cx:=⟨w,ok,λ_ _=>False,[],none,E0,0⟩
 have hok:∀ b,ok b->okS C E0 [] b:=λb hb=>⟨.inl hb,λ_ h=>h⟩;refine ZaH (C:=C) (E:=E0) (hp0:=[]) (n0:=0) hf hb hc hN hA rfl rfl ⟨Nat.le_refl _,λ_ _ h=>h.elim⟩
  ⟨λk _=>rfl,λk=>trivial,λk k' b h=>h.elim,λk b h=>h.elim,⟨rfl,rfl,rfl,Nat.le_refl _,λ_ _ _=>rfl⟩,λk hk=>absurd hk (Nat.not_lt_zero k)⟩
  (ZJ (λb hb _=>⟨hok b hb,rfl⟩) (λ_ h=>Ele.rfl) (λ_ h=>h.elim) _ _ hR) Zca h λe σ hk C' E a w' c1 c2 c3 c4 c5 hs=>?_
 have hpass:∀ k b,¬ C'.pass k b:=λk b=>by rw [c3];exact λh=>h
 have hend:(∃ s,rvR rs σ = some s/\ZdU s res)->∃ v,(results fn a.tmps).run P w' = .ok v w'/\∃ y,Ending.returned v = .returned y/\R w' E0 (λ_=>False) (λb=>ok b\/w.heap.size<=b) res y/\Below w.heap.size w w':=λ⟨s,hrr,hw⟩=>by
  obtain ⟨v,h1,h2⟩:=UX (P:=P) (fn:=fn) (a:=a) (w:=w') (E:=E) (n:=ltn σ.n) (ok:=okF C') hrr λl hl=>ZkM hs hpass rs _ l hr hl;have hkp:=hs.hs.kp;have e1:okF C'=λb=>ok b\/w.heap.size<=b:=by funext b;simp only [okF,c1,c2];rfl
  rw [e1] at h2;have e0:C'.w0=w:=c1;refine ⟨v,h1,v,rfl,ZiG res v kr (hw _ _ _ _ _ h2),?_⟩;have q:=hkp;exact ⟨by rw [<- e0];exact q.os,by rw [<- e0];exact q.tape,by rw [<- e0];exact q.output,by rw [<- e0];exact q.size,λb hb=>by rw [<- e0];exact q.block b (by rw [e0];exact hb) (λk=>hpass k b)⟩
 cases e with
 | ex i=>exact hk.elim
 | pan s=>exact hk.elim
 | n=>exact hend hk
 | ret=>exact hend hk
end
theorem Ct.args {P:Program} {f:FuncId} {args args0:List SV} {res:SV} (h:Ct P f args res) (ka:KFL args0) (hw:∀ (w:World) (E:Env) (n ok:Nat->Prop) (ys:List Value),RL w E n ok args0 ys->RL w E n ok args ys):Ct P f args0 res :=
 ⟨h.1,ka,h.3,λw ok vs hR=>h.4 w ok vs (hw _ _ _ _ _ hR)⟩
inductive FB where
 | tail (c:SC)
 | seq (a:SC) (b:FB)
 | dfr (ops:List Ins) (mx kx:X) (t:TypeId) (b:FB)
 | rcv (ops:List Ins) (cx:X) (b:FB)
def Zzw (mx kx:X) (t:TypeId) (o:Oper):Bool :=
 match o.op,o.dst,o.guard with
 | .defer c,none,none=>(match c.callee with | .builtin .delete=>true | _=>false) && (match c.args.toList with | [m,k]=>Xg mx m && Xg kx k | _=>false) && (match c.argTypes[0]? with | some u=>u == t | none=>false)
 | _,_,_=>false
def Zta (cx:X) (o:Oper):Bool :=
 match o.op,o.dst,o.guard with
 | .defer c,none,none=>(match c.callee with | .value y=>Xg cx y | _=>false) && c.args.isEmpty
 | _,_,_=>false
def Za4 (P:Program):FB->Code->Bool
 | .tail c,code=>XM P c code
 | .seq a b,code=>(match code with | .seq x y=>XM P a x && Za4 P b y | _=>false)
 | .dfr ops mx kx t b,code=>(match code with
  | .seq (.region _ os false) y=>ZaY P os ops (os.toList.take ops.length) && (match os.toList.drop ops.length with | [o]=>Zzw mx kx t o | _=>false) && Za4 P b y
  | _=>false)
 | .rcv ops cx b,code=>(match code with
  | .seq (.region _ os false) y=>ZaY P os ops (os.toList.take ops.length) && (match os.toList.drop ops.length with | [o]=>Zta cx o | _=>false) && Za4 P b y
  | _=>false)
def ZvI (P:Program) (t:TypeId) (kv:Value) (hb hb':HB):Prop :=
 ∃ (K V:Type) (_:DecidableEq K) (key:K->Value) (val:V->SV) (sv:K->SV) (L:List (Nat × K × V)) (k:K) (kt et:TypeId) (c:Nat),
  hb = .map (mpS key val L) c/\hb' = .map (mpS key val (Zad k L)) c/\kv=key k/\P.underlying t=some (.map kt et)/\KeyT P kt key sv
theorem delR {P:Program} {K V:Type} [DecidableEq K] {t:TypeId} {key:K->Value} {val:V->SV} {sv:K->SV} {L:List (Nat × K × V)} {k:K} {c:Nat} {kt et:TypeId} (ht:P.underlying t=some (.map kt et)) (hK:KeyT P kt key sv) :
 ZvI P t (key k) (.map (mpS key val L) c) (.map (mpS key val (Zad k L)) c):=⟨K,V,inferInstance,key,val,sv,L,k,kt,et,c,rfl,rfl,rfl,ht,hK⟩
def dK (P:Program) (t:TypeId) (km:Nat) (kv:Value) (K:Ex->St->Prop):Ex->St->Prop
 | .n,σ=>∃ hb',ZvI P t kv (lkh km σ.hp) hb'/\K .n ⟨σ.fr,(km,hb') :: σ.hp,σ.n,σ.N,σ.gs⟩
 | .ret,σ=>∃ hb',ZvI P t kv (lkh km σ.hp) hb'/\K .ret ⟨σ.fr,(km,hb') :: σ.hp,σ.n,σ.N,σ.gs⟩
 | _,_=>False
def fxS (f:St->(Ex->St->Prop)->Prop) (K:Ex->St->Prop):Ex->St->Prop
 | .n,σ=>f σ K
 | .ex _,_=>False
 | .ret,σ=>K .ret σ
 | .pan s,σ=>K (.pan s) σ
def mpO:SV->Option Nat
 | .mp k=>some k
 | _=>none
def vO:SV->Option Value
 | .v x=>some x
 | _=>none
def ZAU (P:Program) (t:TypeId) (f:Nat->St->(Ex->St->Prop)->Prop) (km:Option Nat) (kv:Option Value) (σ : St) (K:Ex->St->Prop):Prop :=
 match km,kv with
 | some km,some kv=>Nat.blt km σ.n=true/\f σ.n σ (dK P t km kv K)
 | _,_=>False
def ZnO (t:Nat) (o:Oper):Bool :=
 match o.op,o.dst,o.guard with
 | .call c,some u,none=>u == t && (match c.callee with | .builtin .recover=>true | _=>false) && c.args.isEmpty
 | _,_,_=>false
structure RcF (P:Program) (g:FuncId) (t:Nat) (l:List Ins) (c:SC) (N:Nat):Prop where
 ex:∃ fn id os y0 o1,P.funcs[g]? = some fn/\fn.body=some (.seq (.region id os false) y0)/\os[0]? = some o1/\ZnO t o1=true/\ZaY P os l (os.toList.drop 1)=true/\XM P c y0=true/\fn.ntmps=N/\t < N/\fn.results = #[]
 bd:YO P g=true
def rcK (σ : St) (k:St->Prop):Ex->St->Prop
 | .n,σ'=>k ⟨σ.fr,σ'.hp,σ'.n,σ.N,σ.gs⟩
 | .ret,σ'=>k ⟨σ.fr,σ'.hp,σ'.n,σ.N,σ.gs⟩
 | _,_=>False
def rcR (P:Program) (t:Nat) (l:List Ins) (c:SC) (N:Nat) (caps:List SV) (s:SV) (σ : St) (k:St->Prop):Prop :=
 Nat.ble caps.length N=true/\rx P Y0 l ⟨(t,s) :: X8 0 caps,σ.hp,σ.n,N,[]⟩ (Zc6 (fxS (λσ' K=>sx P Y0 σ.n c σ' K) (rcK σ k)))
def Zza (P:Program) (f:Nat->St->(Ex->St->Prop)->Prop) (rk:FuncId->List SV->Ex->St->Prop) (s:SV) (σ : St):Prop :=
 match s with
 | .cl g caps=>f σ.n σ (rk g caps)
 | _=>False
def rK (P:Program) (K:Ex->St->Prop) (g:FuncId) (caps:List SV):Ex->St->Prop
 | .n,σ=>∃ t l c N,RcF P g t l c N/\rcR P t l c N caps (.v .nilIface) σ (K .n)
 | .ret,σ=>∃ t l c N,RcF P g t l c N/\rcR P t l c N caps (.v .nilIface) σ (K .ret)
 | .pan s,σ=>∃ t l c N,RcF P g t l c N/\rcR P t l c N caps s σ (K .ret)
 | .ex _,_=>False
def fx (P:Program):Nat->FB->St->(Ex->St->Prop)->Prop
 | m,.tail c,σ,K=>sx P Y0 m c σ K
 | m,.seq a b,σ,K=>sx P Y0 m a σ (fxS (fx P m b) K)
 | _,.dfr ops mx kx t b,σ,K=>rx P Y0 ops σ (Zc6 (fxS (λσ K=>ZAU P t (λn=>fx P n b) (mpO (rdG none σ.fr mx)) (vO (rdG none σ.fr kx)) σ K) K))
 | _,.rcv ops cx b,σ,K=>rx P Y0 ops σ (Zc6 (fxS (λσ K=>Zza P (λn=>fx P n b) (rK P K) (rdG none σ.fr cx) σ) K))
theorem ZwT (P:Program) (m:Nat) (c:SC) (σ : St) (K:Ex->St->Prop):fx P m (.tail c) σ K=sx P Y0 m c σ K:=rfl
theorem ZA1 (P:Program) (m:Nat) (a:SC) (b:FB) (σ : St) (K:Ex->St->Prop):fx P m (.seq a b) σ K=sx P Y0 m a σ (fxS (fx P m b) K):=rfl
theorem ZzO (P:Program) (m:Nat) (ops:List Ins) (mx kx:X) (t:TypeId) (b:FB) (σ : St) (K:Ex->St->Prop):fx P m (.dfr ops mx kx t b) σ K=rx P Y0 ops σ (Zc6 (fxS (λσ K=>ZAU P t (λn=>fx P n b) (mpO (rdG none σ.fr mx)) (vO (rdG none σ.fr kx)) σ K) K)):=rfl
theorem ZAY (P:Program) (m:Nat) (ops:List Ins) (cx:X) (b:FB) (σ : St) (K:Ex->St->Prop):fx P m (.rcv ops cx b) σ K=rx P Y0 ops σ (Zc6 (fxS (λσ K=>Zza P (λn=>fx P n b) (rK P K) (rdG none σ.fr cx) σ) K)):=rfl
theorem Zxf (P:Program) (f:Nat->St->(Ex->St->Prop)->Prop) (rk:FuncId->List SV->Ex->St->Prop) (g:FuncId) (caps:List SV) (σ : St):Zza P f rk (.cl g caps) σ = f σ.n σ (rk g caps):=rfl
theorem rK_n (P:Program) (K:Ex->St->Prop) (g:FuncId) (caps:List SV) (σ : St):rK P K g caps .n σ = ∃ t l c N,RcF P g t l c N/\rcR P t l c N caps (.v .nilIface) σ (K .n):=rfl
theorem Zy6 (P:Program) (K:Ex->St->Prop) (g:FuncId) (caps:List SV) (σ : St):rK P K g caps .ret σ = ∃ t l c N,RcF P g t l c N/\rcR P t l c N caps (.v .nilIface) σ (K .ret):=rfl
theorem ZzE (P:Program) (K:Ex->St->Prop) (g:FuncId) (caps:List SV) (s:SV) (σ : St):rK P K g caps (.pan s) σ = ∃ t l c N,RcF P g t l c N/\rcR P t l c N caps s σ (K .ret):=rfl
theorem e_rcR (P:Program) (t:Nat) (l:List Ins) (c:SC) (N:Nat) (caps:List SV) (s:SV) (σ : St) (k:St->Prop):rcR P t l c N caps s σ k=(Nat.ble caps.length N=true/\rx P Y0 l ⟨(t,s) :: X8 0 caps,σ.hp,σ.n,N,[]⟩ (Zc6 (fxS (λσ' K=>sx P Y0 σ.n c σ' K) (rcK σ k)))):=rfl
theorem rcK_n (σ : St) (k:St->Prop) (σ':St):rcK σ k .n σ'=k ⟨σ.fr,σ'.hp,σ'.n,σ.N,σ.gs⟩:=rfl
theorem ZwV (σ : St) (k:St->Prop) (σ':St):rcK σ k .ret σ'=k ⟨σ.fr,σ'.hp,σ'.n,σ.N,σ.gs⟩:=rfl
attribute [go_sem] ZAY Zxf rK_n Zy6 ZzE e_rcR rcK_n ZwV
theorem fxS_n (f:St->(Ex->St->Prop)->Prop) (K:Ex->St->Prop) (σ : St):fxS f K .n σ = f σ K:=rfl
theorem Zuz (f:St->(Ex->St->Prop)->Prop) (K:Ex->St->Prop) (σ : St):fxS f K .ret σ = K .ret σ:=rfl
theorem ZzW (P:Program) (t:TypeId) (f:Nat->St->(Ex->St->Prop)->Prop) (km:Nat) (kv:Value) (σ : St) (K:Ex->St->Prop):ZAU P t f (some km) (some kv) σ K=(Nat.blt km σ.n=true/\f σ.n σ (dK P t km kv K)):=rfl
theorem Zy5 (k:Nat):mpO (.mp k)=some k:=rfl
theorem vO_v (x:Value):vO (.v x)=some x:=rfl
theorem dK_n (P:Program) (t:TypeId) (km:Nat) (kv:Value) (K:Ex->St->Prop) (σ : St):dK P t km kv K .n σ = ∃ hb',ZvI P t kv (lkh km σ.hp) hb'/\K .n ⟨σ.fr,(km,hb') :: σ.hp,σ.n,σ.N,σ.gs⟩:=rfl
theorem Zy7 (P:Program) (t:TypeId) (km:Nat) (kv:Value) (K:Ex->St->Prop) (σ : St):dK P t km kv K .ret σ = ∃ hb',ZvI P t kv (lkh km σ.hp) hb'/\K .ret ⟨σ.fr,(km,hb') :: σ.hp,σ.n,σ.N,σ.gs⟩:=rfl
attribute [go_sem] ZwT ZA1 ZzO fxS_n Zuz ZzW Zy5 vO_v dK_n Zy7
section
variable {P:Program}
theorem Zja {C:Cx} {Y:Hd} (hY:ZeW P C Y) {ops:Array Oper} {Q:Exit->Act->World->Prop} {K:RK} {os2:List Oper} (hn:∀ σ E a w,K .n σ->Sim C E σ a w->UR C.rd P ops Q os2 a w)
 (hp:∀ s σ' E a w y,K (.pan s) σ'->Sim C E σ' a w->R w E (ltn σ'.n) (okS C E σ'.hp) s y->Q (.panic [{ v:=y,recovered:=false }]) a w):∀ (l:List Ins) (os:List Oper),ZaY P ops l os=true ->
 ∀ (σ : St) E a w,rx P Y l σ K->Sim C E σ a w->UR C.rd P ops Q (os ++ os2) a w
 | [],[],_,σ,E,a,w,hr,h=>hn σ E a w hr h
 | io :: l,o :: os,hc,σ,E,a,w,hr,h=>by
  simp only [ZaY,Bool.and_eq_true] at hc;have ih:=Zja hY hn hp l os hc.2;exact Zae (next:=UR C.rd P ops Q (os ++ os2)) hc.1 hr h (λσ' E' a' w' h1 h2=>ih σ' E' a' w' h1 h2) (λs σ' E' w' y h1 h2 h3=>hp s σ' E' a w' y h1 h2 h3) hY
 | [],_ :: _,h,_,_,_,_,_,_=>by simp [ZaY] at h
 | _ :: _,[],h,_,_,_,_,_,_=>by simp [ZaY] at h
theorem Zxr {C:Cx} {E:Env} {σ : St} {a:Act} {w:World} (h:Sim C E σ a w) {t:TypeId} {km:Nat} {kv:Value} {hb':HB} {ats:Array TypeId} {ty:TypeId} {cc:Array Bool} (ha:ats[0]? = some t) (hd:ZvI P t kv (lkh km σ.hp) hb') :
 ∃ x w',(invoke (.builtin .delete ats ty cc) #[.map (some (E.β km)),kv]).run P w = .ok (.value x) w'/\Sim C E ⟨σ.fr,(km,hb') :: σ.hp,σ.n,σ.N,σ.gs⟩ a w'/\ZD w w' (okS C E σ.hp) (okS C E ((km,hb') :: σ.hp)):=by
 obtain ⟨K,V,_,key,val,sv,L,k,kt,et,c,hh,rfl,rfl,ht,hK⟩:=hd;obtain ⟨g0,ys,g1,g2⟩:=ZaQ h hh;have hfn:=λw=>hK.fnd k _ _ w (Zcl g2);have hex:∀ w',(Builtin.delete_ ats ty #[.map (some (E.β km)),key k]).run P w = .ok (.tuple #[]) w'->(invoke (.builtin .delete ats ty cc) #[.map (some (E.β km)),key k]).run P w = .ok (.value (.tuple #[])) w':=λw' hy=>by
  simp [invoke,builtin,hy]
 have hfin:∀ ys':Array MapEntry,(∀ {w':World} {ok':Nat->Prop},RM w' E (ltn σ.n) ok' (mpS key val L) ys.toList->RM w' E (ltn σ.n) ok' (mpS key val (Zad k L)) ys'.toList) ->
  Sim C E ⟨σ.fr,(km,.map (mpS key val (Zad k L)) c) :: σ.hp,σ.n,σ.N,σ.gs⟩ a (Ur w (E.β km) (.map ys' c))/\ZD w (Ur w (E.β km) (.map ys' c)) (okS C E σ.hp) (okS C E ((km,.map (mpS key val (Zad k L)) c) :: σ.hp)):=λys' hRM=>by
  obtain ⟨q1,q2⟩:=Vo (k:=km) (hb:=.map (mpS key val (Zad k L)) c) (o:=.map ys' c) h.hs (λb=>by rw [hh];simp only [occ]) (λb=>by simp only [occ]) (λhlt hst=>by
   simp only [Z9]
   exact ⟨ys',Wg hlt,hRM (ZbG hst.c (λ_ _=>Ele.rfl) (λ_ h=>h) _ _ g2)⟩)
  exact ⟨Yu h q2 (λ_ _=>Ele.rfl) (Nat.le_refl _) q1,q2⟩
 rcases Zb7 (w:=w) (E:=E) (n:=ltn σ.n) (ok:=okS C E σ.hp) k L ys.toList 0 g2 with ⟨a1,a2,a3,-⟩ | ⟨j,v0,e,b1,b2,b3,b4,b5,b6⟩
 . have hrun:(Builtin.delete_ ats ty #[.map (some (E.β km)),key k]).run P w = .ok (.tuple #[]) (Ur w (E.β km) (.map ys c)):=by
    simp [Builtin.delete_,Sem.run_bind,ha,run_underlying ht,Result.andThen_ok,Ys g1 rfl,Sem.run_pure,hK.chk,hfn,a2,Xc _ g1 rfl]
   exact ⟨_,_,hex _ hrun,hfin _ λh1=>by rw [a3];exact h1⟩
 . rw [Nat.zero_add] at b2;have hlt:j < ys.size:=by
    have:ys[j]? = some e:=by simpa using b3
    exact (Array.getElem?_eq_some_iff.1 this).1
   have hrun:(Builtin.delete_ ats ty #[.map (some (E.β km)),key k]).run P w = .ok (.tuple #[]) (Ur w (E.β km) (.map (ys.eraseIdxIfInBounds j) c)):=by
    simp [Builtin.delete_,Sem.run_bind,ha,run_underlying ht,Result.andThen_ok,Ys g1 rfl,Sem.run_pure,hK.chk,hfn,b2,Xc _ g1 rfl]
   exact ⟨_,_,hex _ hrun,hfin _ λ{w' ok'} h1=>by
    have:(ys.eraseIdxIfInBounds j).toList=ys.toList.eraseIdx j:=by simp [Array.eraseIdxIfInBounds,hlt]
    rw [this];exact (b6 h1).1⟩
theorem Zff {C C':Cx} {E E':Env} {σ σ':St} {a a':Act} {w w':World} (h:Sim C E σ a w) (h':Sim C' E' σ' a' w') (c1:C'.w0=w) (c2:C'.okp=okS C E σ.hp) (c3:C'.pass=λk b=>occ E k (lkh k σ.hp) b) (c4:C'.e0=E) (c5:C'.m0 = σ.n) (hm:C.m0<=σ.n) :
 Sim { C with ds:=a'.defers } E' σ' a' w':=by
 have hok:∀ b,okS C' E' σ'.hp b->okS C E' σ'.hp b:=λb hb=>by
  obtain ⟨g1,g2⟩:=hb;refine ⟨?_,g2⟩;rw [c1,c2] at g1;rcases g1 with g1 | g1
  . exact g1.1
  . exact .inr (Nat.le_trans h.hs.kp.size g1)
 have hst:Y8 w' w' (okS C' E' σ'.hp) (okS C E' σ'.hp):=λb hb _=>⟨hok b hb,rfl⟩;refine ⟨λt=>?_,h'.sz,ZaN,h'.gs,⟨h'.hs.kn,λk=>?_,h'.hs.dj,λk b ho=>?_,⟨?_,?_,?_,?_,λb h1 h2=>?_⟩,λk hk=>?_⟩⟩
 . have:=h'.fr t;cases hq:lk t σ'.fr<;>rw [hq] at this<;>try exact ZU hst (λ_ _=>Ele.rfl) (λ_ h=>h) _ _ this
   exact ⟨λhg=>ZU hst (λ_ _=>Ele.rfl) (λ_ h=>h) _ _ (this.1 hg),this.2⟩
 . refine X2 hst (λ_ _=>Ele.rfl) (λ_ h=>h) ?_ (λb ho=>rfl) rfl (h'.hs.bk k);rcases Classical.em (ltn σ'.n k) with hk | hk
   . exact .inr hk
   . exact .inl (h'.hs.kn k hk)
 . rcases h'.hs.lo k b ho with g | g
   . rw [c1] at g;exact .inl (Nat.le_trans h.hs.kp.size g)
   . rw [c3] at g;exact h.hs.lo k b g
 . have:=h'.hs.kp.os;rw [c1] at this;exact this.trans h.hs.kp.os
 . have:=h'.hs.kp.tape;rw [c1] at this;exact this.trans h.hs.kp.tape
 . have:=h'.hs.kp.output;rw [c1] at this;exact this.trans h.hs.kp.output
 . have:=h'.hs.kp.size;rw [c1] at this;exact Nat.le_trans h.hs.kp.size this
 . have h1':b < C.w0.heap.size:=h1;have h2':∀ k,¬ C.pass k b:=h2
   have hb:=h'.hs.kp.block b (by rw [c1];exact Nat.lt_of_lt_of_le h1' h.hs.kp.size) (λk hk=>by
    rw [c3] at hk;rcases h.hs.lo k b hk with g | g
    . exact absurd h1' (Nat.not_lt.2 g)
    . exact h2' k g)
   rw [c1] at hb;exact hb.trans (h.hs.kp.block b h1' h2')
 . have hk':k < C.m0:=hk;have p1:=h.hs.pin k hk';have p2:=h'.hs.pin k (by rw [c5];exact Nat.lt_of_lt_of_le hk' hm);rw [c4] at p2;exact ⟨p2.1,p1.2.trans p2.2⟩
theorem Wt {fn:Func} {R':Ending->World->Prop} {C:Cx} {K:Ex->St->Prop}
 (hK:∀ e σ',K e σ'->∀ (C':Cx) E' a' w',C'.w0=C.w0->C'.okp=C.okp->C'.pass=C.pass->C'.e0=C.e0->C'.m0=C.m0->Sim C' E' σ' a' w'->match e with
  | .n | .ret=>Lv P fn a'.tmps R' C.ds .returning w'
  | .ex _=>False
  | .pan s=>∀ y,R w' E' (ltn σ'.n) (okS C' E' σ'.hp) s y->Lv P fn a'.tmps R' C.ds (.panicking [{ v:=y,recovered:=false }]) w')
 (e:Ex) (σ':St) (hk:K e σ') (E':Env) (a':Act) (w':World) (hs:Sim C E' σ' a' w'):ExQ C (YC P fn R') e σ' E' a' w':=by
 obtain ⟨ms,d1,d2,d3⟩:=hs.df;have key:=hK e σ' hk;cases e with
 | ex i=>exact (key C E' a' w' rfl rfl rfl rfl rfl hs).elim
 | n =>
  show Lv P fn a'.tmps R' a'.defers .returning w';rw [d1];refine XY ms _ _ (by simp) d2.1 (λm hm=>(d3 m hm).2.2) λw'' hu=>?_;exact key { C with ds:=a'.defers } E' a' w'' rfl rfl rfl rfl rfl (WD hs d3 hu)
 | ret =>
  show Lv P fn a'.tmps R' a'.defers .returning w';rw [d1];refine XY ms _ _ (by simp) d2.1 (λm hm=>(d3 m hm).2.2) λw'' hu=>?_;exact key { C with ds:=a'.defers } E' a' w'' rfl rfl rfl rfl rfl (WD hs d3 hu)
 | pan s =>
  intro y hy;show Lv P fn a'.tmps R' a'.defers (.panicking _) w';rw [d1];refine XY ms _ _ (by simp) d2.1 (λm hm=>(d3 m hm).2.2) λw'' hu=>?_;have hst:Y8 w' w'' (okS C E' σ'.hp) (okS C E' σ'.hp):=λb hb q=>⟨hb,hu.other b λhm'=>by rcases q with ⟨cs,T,fz,e⟩ | ⟨es,c,e⟩<;>(rw [(d3 b hm').2.2] at e;cases e)⟩;exact key { C with ds:=a'.defers } E' a' w'' rfl rfl rfl rfl rfl (WD hs d3 hu) y (ZU hst (λ_ _=>Ele.rfl) (λ_ h=>h) _ _ hy)
theorem Zjw {C:Cx} {E:Env} {σ : St} {a:Act} {w:World} (h:Sim C E σ a w) (ds:List Deferred):Sim ⟨w,okS C E σ.hp,λk b=>occ E k (lkh k σ.hp) b,ds,none,E,σ.n⟩ E σ { a with defers:=ds } w:=by
 have hst:Y8 w w (okS C E σ.hp) (okS ⟨w,okS C E σ.hp,λk b=>occ E k (lkh k σ.hp) b,ds,none,E,σ.n⟩ E σ.hp):=λb hb _=>⟨⟨.inl hb,hb.2⟩,rfl⟩;refine ⟨λt=>?_,h.sz,ZaN,h.gs,⟨h.hs.kn,λk=>?_,h.hs.dj,λk b ho=>.inr ho,⟨rfl,rfl,rfl,Nat.le_refl _,λ_ _ _=>rfl⟩,λk hk=>⟨hk,Ele.rfl⟩⟩⟩
 . have:=h.fr t;show FR w E (ltn σ.n) _ σ.fr (lk t σ.fr) (a.tmps.getD t undef);cases hq:lk t σ.fr<;>rw [hq] at this<;>try exact ZU hst (λ_ _=>Ele.rfl) (λ_ h=>h) _ _ this
   exact ⟨λhg=>ZU hst (λ_ _=>Ele.rfl) (λ_ h=>h) _ _ (this.1 hg),this.2⟩
 . refine X2 hst (λ_ _=>Ele.rfl) (λ_ h=>h) ?_ (λb ho=>rfl) rfl (h.hs.bk k);rcases Classical.em (ltn σ.n k) with hk | hk
   . exact .inr hk
   . exact .inl (h.hs.kn k hk)
def ZBr (v:Value) (u u':FrameMode):Prop:=(u = .returning/\v = .nilIface/\u' = .returning)\/(u = .panicking [{ v:=v,recovered:=false }]/\u' = .panicking [{ v:=v,recovered:=true }])
theorem ZqQ {b c₀:Frame} {a:Act} {k:List Item} {cs:List Frame} {w:World} {os:Array Oper} {o:Oper} {rest:List Nat} {t:Nat} {v:Value} {u u':FrameMode} (hb:b.kind = .deferred) (h0:os[0]? = some o) (hr:ZnO t o=true)
 (hc:c₀.mode=u) (hu:ZBr v u u'):step P (lone (b.at a (.inRegion os (0 :: rest) :: k)) (c₀ :: cs) w) = .next (lone (b.at (a.put (some t) v) (.inRegion os rest :: k)) ({ c₀ with mode:=u' } :: cs) w):=by
 obtain ⟨dst,op,ty,pos,after,guard⟩:=o;unfold ZnO at hr;split at hr
 case h_2=>cases hr
 rename_i c x e1 e2 e3;simp only at e1 e2 e3;subst e1;subst e2;subst e3;simp only [Bool.and_eq_true,beq_iff_eq] at hr;obtain ⟨⟨rfl,hr1⟩,hr2⟩:=hr;split at hr1
 case h_2=>cases hr1
 rename_i hcal;have hw:Region.wanted (⟨some x,.call c,ty,pos,after,none⟩:Oper) (yielded os a.tmps)=true:=rfl;have hg:=stepG_op (P:=P) (b:=b) (k:=k) (cs:=c₀ :: cs) (w:=w) (rest:=rest) h0 hw;have hfin:∀ v,(b.at a (.inRegion os (0 :: rest) :: k)).finish v=b.at (a.put (some x) v) (.inRegion os rest :: k):=by
  intro v;rw [Frame.finish_at,h0];rfl
 have hrun:(execOp a.eval (⟨some x,.call c,ty,pos,after,none⟩:Oper)).run P w = .ok .recover w:=by
  simp [execOp,resolve,hcal,invoke,builtin,Sem.run_bind,Sem.run_pure]
 have hk:(b.at a (.inRegion os (0 :: rest) :: k)).kind = .deferred:=hb;have htr:=tryRecover_deferred hk (c₀ :: cs);refine step_lone_go ?_;rw [hg,<- hfin];rcases hu with ⟨rfl,rfl,rfl⟩ | ⟨rfl,rfl⟩
 . have hrd:recoverD (c₀ :: cs)=none:=by simp [recoverD,hc]
   have hcc:({ c₀ with mode:=.returning }:Frame)=c₀:=by rw [<- hc]
   simp only [Frame.at] at htr ⊢;simp [stepG.apply,hrun,htr,hrd,hcc]
 . have hrd:recoverD (c₀ :: cs)=some (v,{ c₀ with mode:=.panicking [{ v:=v,recovered:=true }] } :: cs):=by simp [recoverD,hc]
   simp only [Frame.at] at htr ⊢;simp [stepG.apply,hrun,htr,hrd]
theorem Zs4 {fr:Frame} {cs:List Frame}:∀ (ms:List Nat) (w:World),fr.mode≠.run->fr.defers=ms.map ZdI->ms.Nodup->(∀ m ∈ ms,w.heap[m]? = some (.deferred (some []))) ->
 ∃ w',Unm ms w w'/\Steps P (lone fr cs w) (lone { fr with defers:=[] } cs w')
 | [],w,_,hd,_,_=>⟨w,Unm.refl w,by rw [show ({ fr with defers:=[] }:Frame)=fr by rw [<- show fr.defers=[] from hd]];exact Steps.refl P _⟩
 | m :: ms,w,hm,hd,hnd,hh=>by
  rw [List.nodup_cons] at hnd;have hm0:=hh m (by simp);have hlt:=(Array.getElem?_eq_some_iff.1 hm0).1;have h1:step P (lone fr cs w) = .next (lone { fr with defers:=ms.map ZdI } cs (Ur w m (.deferred none))) :=
   Ui hm hd rfl (by simp only [Instr.takeDeferred,Sem.run_bind,Ys hm0 rfl,Result.andThen_ok,Xc _ hm0 rfl,Sem.run_pure])
  obtain ⟨w',g1,g2⟩:=Zs4 (fr:={ fr with defers:=ms.map ZdI }) (cs:=cs) ms (Ur w m (.deferred none)) hm rfl hnd.2 (λk hk=>by
   rw [WY (by rintro rfl;exact hnd.1 hk)];exact hh k (by simp [hk]))
  refine ⟨w',⟨g1.os,g1.tape,g1.output,by rw [g1.size,Zcp],λb hb=>?_⟩,.head h1 g2⟩;rw [List.mem_cons,not_or] at hb;rw [g1.other b hb.2];exact WY hb.1
theorem ZmG {g:FuncId} {fn:Func} {id:Nat} {os:Array Oper} {y0:Code} {o1:Oper} {t:Nat} {args:Array Value} {w:World} {u u':FrameMode} {v:Value} {R:Ending->FrameMode->World->Prop} {Q:Exit->Act->World->Prop}
 (hf:P.funcs[g]? = some fn) (hb:fn.body=some (.seq (.region id os false) y0)) (h0:os[0]? = some o1) (hrec:ZnO t o1=true) (hu:ZBr v u u')
 (h:UR none P os (Exit.then (wpX none P y0 Q) Q) (os.toList.drop 1) (({ tmps:=args ++ Array.replicate (fn.ntmps - args.size) undef,defers:=[] }:Act).put (some t) v) w)
 (hQ:∀ e a w,Q e a w->(e = .normal\/e = .ret)/\∃ ms:List Nat,a.defers=ms.map ZdI/\ms.Nodup/\(∀ m ∈ ms,w.heap[m]? = some (.deferred (some [])))/\∀ w',Unm ms w w'->∃ val,(results fn a.tmps).run P w' = .ok val w'/\R (.returned val) u' w') :
 CallsD P g args u w R:=by
 intro c₀ cs hc
 let b:Frame:={ (default:Frame) with fn:=g,kind:=.deferred }
 let a0:Act:={ tmps:=args ++ Array.replicate (fn.ntmps - args.size) undef,defers:=[] }
 have henter:Frame.enter P g args .deferred=b.at a0 [.code (.seq (.region id os false) y0)]:=by
  simp [Frame.enter,Frame.at,hf,hb,b,a0]
 have hsz:0 < os.size:=(Array.getElem?_eq_some_iff.1 h0).1;have hrange:List.range os.size=0 :: List.range' 1 (os.size - 1):=by
  rw [List.range_eq_range',show os.size=(os.size - 1)+1 from by omega,List.range'_succ];simp
 have h1:=Zb2 (r:=none) (P:=P) (ops:=os) (os.toList.drop 1) 1 (λj hj=>by simp [List.getElem?_drop,Nat.add_comm]) _ w h;rw [List.length_drop,Array.length_toList] at h1;obtain ⟨e,a1,w1,q,s⟩:=Zbr _ _ w h1 b [.code y0] ({ c₀ with mode:=u' } :: cs) rfl (by simp [b,hf]);have s:=(arrivesIn_iff (b:=b) (λ_ _=>steps_iff.symm) rfl).1 s;rw [Frame.atR_of_none (b:=b) rfl] at s;have hpre:Steps P (lone (Frame.enter P g args .deferred) (c₀ :: cs) w) (lone (b.at (a0.put (some t) v) (.inRegion os (List.range' 1 (os.size - 1)) :: [.code y0])) ({ c₀ with mode:=u' } :: cs) w):=by
  rw [henter];refine .head step_seq (.head step_region ?_);rw [hrange];exact .one (ZqQ rfl h0 hrec hc hu)
 have fin:∀ (e:Exit) (a:Act) (w2:World) (todo:List Item),Q e a w2->Steps P (lone (Frame.enter P g args .deferred) (c₀ :: cs) w) (lone ({ b.at a todo with mode:=.returning }:Frame) ({ c₀ with mode:=u' } :: cs) w2) ->
  ∃ e u'' w' fr,R e u'' w'/\Comes P (lone (Frame.enter P g args .deferred) (c₀ :: cs) w) (lone fr ({ c₀ with mode:=u'' } :: cs) w') e/\fr.kind = .deferred/\fr.going P w' e:=λe a w2 todo hq hs=>by
  obtain ⟨_,ms,d1,d2,d3,d4⟩:=hQ e a w2 hq;obtain ⟨w3,g1,g2⟩:=Zs4 (P:=P) (fr:={ b.at a todo with mode:=.returning }) (cs:={ c₀ with mode:=u' } :: cs) ms w2 (by simp) d1 d2 d3;obtain ⟨val,hr,hR⟩:=d4 w3 g1;exact ⟨.returned val,u',w3,_,hR,Steps.trans hs g2,rfl,rfl,rfl,fn,hf,hr⟩
 have tl:∀ (a:Act) (w2:World),wpX none P y0 Q a w2->Steps P (lone (Frame.enter P g args .deferred) (c₀ :: cs) w) (lone (b.at a [.code y0]) ({ c₀ with mode:=u' } :: cs) w2) ->
  ∃ e u'' w' fr,R e u'' w'/\Comes P (lone (Frame.enter P g args .deferred) (c₀ :: cs) w) (lone fr ({ c₀ with mode:=u'' } :: cs) w') e/\fr.kind = .deferred/\fr.going P w' e:=λa w2 hy hs=>by
  obtain ⟨e2,a2,w3,q2,s2⟩:=hy b [] ({ c₀ with mode:=u' } :: cs) rfl (by simp [b,hf]);have s2:=(arrivesIn_iff (b:=b) (λ_ _=>steps_iff.symm) rfl).1 s2;rw [Frame.atR_of_none (b:=b) rfl] at s2;rcases (hQ e2 a2 w3 q2).1 with rfl | rfl
  . exact fin _ a2 w3 [] q2 (Steps.trans hs (Steps.trans s2 (.one step_end)))
  . obtain ⟨todo,s3⟩:=s2;exact fin _ a2 w3 todo q2 (Steps.trans hs s3)
 cases e with
 | normal=>exact tl a1 w1 q (Steps.trans hpre s)
 | ret =>
  obtain ⟨todo,s3⟩:=s;exact fin _ a1 w1 todo q (Steps.trans hpre s3)
 | panic chain=>rcases (hQ _ a1 w1 q).1 with h | h<;>cases h
 | exit id=>rcases (hQ _ a1 w1 q).1 with h | h<;>cases h
 | goto l=>rcases (hQ _ a1 w1 q).1 with h | h<;>cases h
 | outgrown=>rcases (hQ _ a1 w1 q).1 with h | h<;>cases h
theorem ZmK {C:Cx} {E:Env} {hp0:List (Nat × HB)} {n0 N:Nat} {args:List SV} {vs:List Value} {w:World} (hN:args.length<=N) (hds:C.ds=[]) (hH:HSim C E hp0 (ltn n0) w) (hR:RL w E (ltn n0) (okS C E hp0) args vs) :
 Sim C E ⟨X8 0 args,hp0,n0,N,[]⟩ { tmps:=vs.toArray ++ Array.replicate (N - vs.toArray.size) undef,defers:=[] } w:=by
 have hlen:=ZF hR;have hng:∀ t j b s,lk t (X8 0 args)≠.gd j b s:=by
  intro t j b s ht;simp only [Up,Nat.zero_le,if_true,Nat.sub_zero] at ht;by_cases htl:t < args.length
  . have e1:args.getD t .any=args[t]:=by simp [htl]
    obtain ⟨y,h1,h2⟩:=VK hR (List.getElem?_eq_getElem htl);rw [e1] at ht;rw [ht] at h2;simp only [R] at h2
  . have e1:args.getD t .any = .any:=by simp [List.getElem?_eq_none (Nat.le_of_not_lt htl)]
    rw [e1] at ht;cases ht
 refine ⟨λt=>?_,by simp;omega,by rw [<- hds];exact ZaN,λt j b s ht=>absurd ht (hng t j b s),hH⟩;have hng:=hng t;have hFR:R w E (ltn n0) (okS C E hp0) (lk t (X8 0 args)) ((vs.toArray ++ Array.replicate (N - vs.toArray.size) undef).getD t undef):=by
  simp only [Up,Nat.zero_le,if_true,Nat.sub_zero];by_cases ht:t < args.length
  . have e1:args.getD t .any=args[t]:=by simp [ht]
    obtain ⟨y,h1,h2⟩:=VK hR (List.getElem?_eq_getElem ht);have e2:(vs.toArray ++ Array.replicate (N - vs.toArray.size) undef).getD t undef=y:=by
     have:t < vs.length:=by omega
     have h1':=(List.getElem?_eq_some_iff.1 h1).2;simp [Array.getElem?_append,this,h1']
    rw [e1,e2];exact h2
  . have e1:args.getD t .any = .any:=by simp [List.getElem?_eq_none (Nat.le_of_not_lt ht)]
    rw [e1];simp only [R]
 simp only;cases hq:lk t (X8 0 args)<;>rw [hq] at hFR hng<;>first | exact hFR | exact absurd rfl (hng _ _ _)
theorem ZzY {g:FuncId} {t N:Nat} {l:List Ins} {c:SC} (hF:RcF P g t l c N) {C:Cx} {E:Env} {σ : St} {a:Act} {w:World} (hS:Sim C E σ a w) (hm:C.m0<=σ.n) {caps:List SV} {vs:List Value} (hR:RL w E (ltn σ.n) (okS C E σ.hp) caps vs)
 {s:SV} {v:Value} (hv:R w E (ltn σ.n) (okS C E σ.hp) s v) {k:St->Prop} (hrun:rcR P t l c N caps s σ k) {u u':FrameMode} (hu:ZBr v u u') {R':Ending->FrameMode->World->Prop}
 (hk:∀ hp' n' E' w',k ⟨σ.fr,hp',n',σ.N,σ.gs⟩->Sim C E' ⟨σ.fr,hp',n',σ.N,σ.gs⟩ a w'->R' (.returned (.tuple #[])) u' w'):CallsD P g vs.toArray u w R':=by
 obtain ⟨fn,id,os,y0,o1,f1,f2,f3,f4,f5,f6,f7,f8,f9⟩:=hF.ex;obtain ⟨hcl,hrun⟩:=hrun;have hcl:=Nat.le_of_ble_eq_true hcl
 let C2:Cx:=⟨w,okS C E σ.hp,λk b=>occ E k (lkh k σ.hp) b,[],none,E,σ.n⟩
 have hst:Y8 w w (okS C E σ.hp) (okS C2 E σ.hp):=λb hb _=>⟨⟨.inl hb,hb.2⟩,rfl⟩;have hin:=Zjw hS [];have hR2:RL w E (ltn σ.n) (okS C2 E σ.hp) caps vs:=ZJ hst (λ_ _=>Ele.rfl) (λ_ h=>h) _ _ hR;have hv2:R w E (ltn σ.n) (okS C2 E σ.hp) s v:=ZU hst (λ_ _=>Ele.rfl) (λ_ h=>h) _ _ hv;have h0:Sim C2 E ⟨X8 0 caps,σ.hp,σ.n,N,[]⟩ { tmps:=vs.toArray ++ Array.replicate (N - vs.toArray.size) undef,defers:=[] } w:=ZmK hcl rfl hin.hs hR2
 have h1:Sim C2 E ⟨(t,s) :: X8 0 caps,σ.hp,σ.n,N,[]⟩ (Act.put { tmps:=vs.toArray ++ Array.replicate (N - vs.toArray.size) undef,defers:=[] } (some t) v) w :=
  XV h0 (λb hb _=>⟨hb,rfl⟩) (λ_ _=>Ele.rfl) (Nat.le_refl _) hin.hs (by simp) f8 (U0 hv) hv2
 let Q:Exit->Act->World->Prop:=λe a2 w2=>(e = .normal\/e = .ret)/\∃ σ' E',k ⟨σ.fr,σ'.hp,σ'.n,σ.N,σ.gs⟩/\Sim C2 E' σ' a2 w2
 have hKQ:LkQ C2 (rcK σ k) Q:=λe σ' hk' E' a' w' hs=>by
  cases e with
  | n=>exact ⟨.inl rfl,σ',E',hk',hs⟩
  | ret=>exact ⟨.inr rfl,σ',E',hk',hs⟩
  | ex i=>exact hk'.elim
  | pan s=>exact hk'.elim
 have hmc:MC C2 σ.n:=⟨Nat.le_refl _,λj b ho=>by
  rcases Classical.em (ltn σ.n j) with hj | hj
  . exact hj
  . have ho':occ E j (lkh j σ.hp) b:=ho
    rw [hS.hs.kn j hj] at ho';exact ho'.elim⟩
 have hlist:=ZdA (P:=P) (C:=C2) (Y:=Y0) Zca (ops:=os) (Q:=Exit.then (wpX none P y0 Q) Q) (K:=Zc6 (fxS (λσ' K=>sx P Y0 σ.n c σ' K) (rcK σ k))) (λe σ' hk' E' a' w' hs0=>by
  have hs:=Xz hs0;cases e with
  | n =>
   have hwp:=YL c C2 Y0 σ.n y0 (Uc σ') (rcK σ k) Q E' a' w' hmc Zca (.inl rfl) f6 hk' hKQ hs;exact hwp
  | ret=>exact hKQ .ret _ hk' E' a' w' hs
  | ex i=>exact hk'.elim
  | pan s=>exact hk'.elim) l _ f5 _ E _ w hrun h1
 refine ZmG (u':=u') (v:=v) f1 f2 f3 f4 hu (Q:=Q) (by rw [f7];exact hlist) (λe a2 w2 hq=>⟨hq.1,?_⟩);obtain ⟨_,σ',E',hk',hs'⟩:=hq;obtain ⟨ms,d1,d2,d3⟩:=hs'.df;refine ⟨ms,by rw [d1];simp [C2],d2.1,λm hm'=>(d3 m hm').2.2,λw3 hu3=>?_⟩;refine ⟨.tuple #[],by simp [results,f9],?_⟩;have hs3:=WD hs' d3 hu3;have hout:=Zff hS hs3 rfl rfl rfl rfl rfl hm;obtain ⟨g1,g2⟩:=ZfF (C:=C) hout.hs rfl rfl rfl rfl rfl
 have hpin:∀ j,j < σ.n->j < σ'.n/\Ele E E' j j:=λj hj=>hs3.hs.pin j hj;refine hk σ'.hp σ'.n E' w3 hk' (Yu hS (λb hb hsome=>?_) (λj hj=>(hpin j hj).2) ?_ g1)
 . obtain ⟨b1,b2⟩:=hb;have hlt:b < w.heap.size:=by
    rcases Nat.lt_or_ge b w.heap.size with q | q
    . exact q
    . rw [Array.getElem?_eq_none q] at hsome;cases hsome
   refine ⟨⟨b1,λj ho=>?_⟩,?_⟩
   . rcases hs3.hs.lo j b ho with q | q
     . exact absurd hlt (Nat.not_lt.2 q)
     . exact b2 j q
   . exact hs3.hs.kp.block b hlt (λj q=>b2 j q)
 . rcases Nat.lt_or_ge σ'.n σ.n with q | q
   . exact absurd (hpin σ'.n q).1 (Nat.lt_irrefl _)
   . exact q
theorem Zbn {fn:Func} {R':Ending->World->Prop}:∀ (b:FB) (C:Cx) (m:Nat) (code:Code) (σ : St) (K:Ex->St->Prop) (E:Env) (a:Act) (w:World),MC C m->C.rd=none->Za4 P b code=true->fx P m b σ K->Sim C E σ a w ->
 (∀ e σ',K e σ'->∀ (C':Cx) E' a' w',C'.w0=C.w0->C'.okp=C.okp->C'.pass=C.pass->C'.e0=C.e0->C'.m0=C.m0->Sim C' E' σ' a' w'->match e with
  | .n | .ret=>Lv P fn a'.tmps R' C.ds .returning w'
  | .ex _=>False
  | .pan s=>∀ y,R w' E' (ltn σ'.n) (okS C' E' σ'.hp) s y->Lv P fn a'.tmps R' C.ds (.panicking [{ v:=y,recovered:=false }]) w') ->
 wpX none P code (YC P fn R') a w
 | .tail c,C,m,code,σ,K,E,a,w,hm,hrd,hc,h,hS,hK=>by
  have hwp:=YL c C Y0 m code σ K (YC P fn R') E a w hm Zca (.inl hrd) hc h (λe σ' hk E' a' w' hs=>Wt hK e σ' hk E' a' w' hs) hS;rw [hrd] at hwp;exact hwp
 | .seq x b,C,m,code,σ,K,E,a,w,hm,hrd,hc,h,hS,hK=>by
  cases code<;>simp [Za4] at hc
  rename_i cx cy;refine Zdv ?_;have hwp:=YL x C Y0 m cx σ (fxS (fx P m b) K) (Exit.then (wpX none P cy (YC P fn R')) (YC P fn R')) E a w hm Zca (.inl hrd) hc.1 h (λe σ' hk E' a' w' hs=>?_) hS
  . rw [hrd] at hwp;exact hwp
  cases e with
  | n=>exact Zbn b C m cy σ' K E' a' w' hm hrd hc.2 hk hs hK
  | ex i=>exact hk.elim
  | ret=>exact Wt hK .ret σ' hk E' a' w' hs
  | pan s=>exact Wt hK (.pan s) σ' hk E' a' w' hs
 | .dfr ops mx kx t b,C,m,code,σ,K,E,a,w,hm,hrd,hc,h,hS,hK=>by
  unfold Za4 at hc;split at hc
  case h_2=>cases hc
  rename_i id os cy;simp only [Bool.and_eq_true] at hc;obtain ⟨⟨hc1,hc2⟩,hc3⟩:=hc;split at hc2
  case h_2=>cases hc2
  rename_i o ho;have hos:os.toList=os.toList.take ops.length ++ [o]:=by rw [<- ho,List.take_append_drop]
  refine Zdv (Wa ?_);rw [hos,<- hrd];refine Zja (C:=C) (Q:=Exit.then (wpX C.rd P cy (YC P fn R')) (YC P fn R')) (os2:=[o]) Zca (K:=Zc6 (fxS (λσ K=>ZAU P t (λn=>fx P n b) (mpO (rdG none σ.fr mx)) (vO (rdG none σ.fr kx)) σ K) K)) (λσ0 E1 a1 w1 hk0 hs0=>?_)
   (λs σ' E' a' w' y hk hs hy=>Wt hK (.pan s) (Uc σ') hk E' a' w' (Xz hs) y (by rw [ZfO,ZdN];exact hy)) ops _ hc1 σ E a w h hS
  have hs:=Xz hs0;simp only [Zc6,fxS] at hk0;generalize Uc σ0 = σ1 at hs hk0;obtain ⟨ms,d1,d2,d3⟩:=hs.df;unfold ZAU at hk0;split at hk0
  case h_2=>exact hk0.elim
  rename_i km kv hkm hkv;obtain ⟨hlt,hfx⟩:=hk0;have hlt:=Nat.le_of_ble_eq_true hlt;have hmv:a1.tmps=a1.tmps/\evX a1 mx = .map (some (E1.β km)):=by
   have hR:=YU hs.fr (g:=none) trivial mx;cases hq:rdG none σ1.fr mx<;>rw [hq] at hkm<;>simp only [mpO,Option.some.injEq,reduceCtorEq] at hkm
   subst hkm;rw [hq] at hR;simp only [R] at hR;exact ⟨rfl,hR.2⟩
  have hkv':evX a1 kx=kv:=by
   have hR:=YU hs.fr (g:=none) trivial kx;cases hq:rdG none σ1.fr kx<;>rw [hq] at hkv<;>simp only [vO,Option.some.injEq,reduceCtorEq] at hkv
   subst hkv;rw [hq] at hR;simp only [R] at hR;exact hR
  have hmn:C.m0<=σ1.n:=by
   rcases Nat.lt_or_ge σ1.n C.m0 with q | q
   . exact absurd (hs.hs.pin σ1.n q).1 (Nat.lt_irrefl _)
   . exact q
  unfold Zzw at hc2;split at hc2
  case h_2=>cases hc2
  rename_i c hop hdst hgd;simp only [Bool.and_eq_true] at hc2;obtain ⟨⟨e1,e2⟩,e3⟩:=hc2;split at e1
  case h_2=>cases e1
  rename_i hcal;split at e2
  case h_2=>cases e2
  rename_i om ok hargs;simp only [Bool.and_eq_true] at e2;split at e3
  case h_2=>cases e3
  rename_i u hu;have hut:u=t:=by simpa using e3
  subst hut;have hca:c.args = #[om,ok]:=by apply Array.toList_inj.1;rw [hargs]
  rw [hrd];simp only [UR,Region.wanted,hgd];simp only [if_true];have hrun:(o.semAt none a1.eval).run P w1 = .ok (.defer { target:=.builtin .delete c.argTypes o.type (c.args.map λ| .const _=>true | _=>false),args:=#[.map (some (E1.β km)),kv] }) w1:=by
   rw [Oper.semAt_none];obtain ⟨dst',op',ty',pos,after,guard⟩:=o;simp only at hop;subst hop;simp only [execOp,Sem.run_bind,resolve,hcal,Sem.run_pure,Result.andThen_ok,hca];simp only [List.map_toArray,List.map_cons,List.map_nil,Zk e2.1 a1,Zk e2.2 a1,hmv.2,hkv'];cases om<;>cases ok<;>rfl
  show o.wpq none P a1 w1 _ _;unfold Oper.wpq;rw [hrun];simp only [Oper.uponX,hdst];show Exit.then _ _ .normal _ w1;simp only [Exit.then];show wpX none P cy (YC P fn R') { a1 with defers:=_ :: a1.defers } w1;refine Zbn b _ σ1.n cy σ1 (dK P u km kv K) E1 _ w1 ⟨Nat.le_refl _,λk b ho=>?_⟩ rfl hc3 hfx (Zjw hs _) (λe σ' hk C2 E' a' w' c1 c2 c3 c4 c5 hs'=>?_)
  . rcases Classical.em (ltn σ1.n k) with hk | hk
    . exact hk
    . have ho':occ E1 k (lkh k σ1.hp) b:=ho;rw [hs.hs.kn k hk] at ho';exact ho'.elim
  have main:∀ (hb':HB),ZvI P u kv (lkh km σ'.hp) hb'->(∀ (C':Cx) E' a' w',C'.w0=C.w0->C'.okp=C.okp->C'.pass=C.pass->C'.e0=C.e0->C'.m0=C.m0->Sim C' E' ⟨σ'.fr,(km,hb') :: σ'.hp,σ'.n,σ'.N,σ'.gs⟩ a' w'->Lv P fn a'.tmps R' C.ds .returning w') ->
   Lv P fn a'.tmps R' ({ target:=.builtin .delete c.argTypes o.type (c.args.map λ| .const _=>true | _=>false),args:=#[.map (some (E1.β km)),kv] } :: a1.defers) .returning w':=λhb' hdel hKK=>by
   obtain ⟨x,w2,hrun2,hs2,_⟩:=Zxr hs' (ty:=o.type) (cc:=c.args.map λ| .const _=>true | _=>false) hu hdel;have hβ : E'.β km=E1.β km:=by
    have:=(hs'.hs.pin km (by rw [c5];exact hlt)).2.1;rw [c4] at this;exact this
   rw [hβ] at hrun2;refine ⟨by simp,.inr (.inl ⟨.delete,c.argTypes,o.type,_,w2,x,rfl,hrun2,?_⟩)⟩;rw [d1];have hsim:=Zff hs hs2 c1 c2 c3 c4 c5 hmn;have hmark:∀ m ∈ ms,C.w0.heap.size<=m/\okS C E' ((km,hb') :: σ'.hp) m/\w2.heap[m]? = some (.deferred (some [])):=λm hm=>by
    obtain ⟨p1,p2,p3⟩:=d3 m hm;have hlt':m < w1.heap.size:=(Array.getElem?_eq_some_iff.1 p3).1;have hnp:∀ k,¬ C2.pass k m:=λk hk=>by rw [c3] at hk;exact p2.2 k hk
    refine ⟨p1,⟨p2.1,λk ho=>?_⟩,?_⟩
    . rcases hs2.hs.lo k m ho with g | g
      . rw [c1] at g;exact absurd hlt' (Nat.not_lt.2 g)
      . exact hnp k g
    . have:=hs2.hs.kp.block m (by rw [c1];exact hlt') hnp;rw [c1] at this;rw [this];exact p3
   refine XY ms _ _ (by simp) d2.1 (λm hm=>(hmark m hm).2.2) λw3 hu3=>?_;exact hKK { C with ds:=a'.defers } E' a' w3 rfl rfl rfl rfl rfl (WD (C:={ C with ds:=a'.defers }) hsim hmark hu3)
  cases e with
  | ex i=>exact hk.elim
  | pan s=>exact hk.elim
  | n =>
   obtain ⟨hb',h1,h2⟩:=hk;exact main hb' h1 (λC' E' a' w' q1 q2 q3 q4 q5 q6=>hK .n _ h2 C' E' a' w' q1 q2 q3 q4 q5 q6)
  | ret =>
   obtain ⟨hb',h1,h2⟩:=hk;exact main hb' h1 (λC' E' a' w' q1 q2 q3 q4 q5 q6=>hK .ret _ h2 C' E' a' w' q1 q2 q3 q4 q5 q6)
 | .rcv ops cx b,C,m,code,σ,K,E,a,w,hm,hrd,hc,h,hS,hK=>by
  unfold Za4 at hc;split at hc
  case h_2=>cases hc
  rename_i id os cy;simp only [Bool.and_eq_true] at hc;obtain ⟨⟨hc1,hc2⟩,hc3⟩:=hc;split at hc2
  case h_2=>cases hc2
  rename_i o ho;have hos:os.toList=os.toList.take ops.length ++ [o]:=by rw [<- ho,List.take_append_drop]
  refine Zdv (Wa ?_);rw [hos,<- hrd];refine Zja (C:=C) (Q:=Exit.then (wpX C.rd P cy (YC P fn R')) (YC P fn R')) (os2:=[o]) Zca (K:=Zc6 (fxS (λσ K=>Zza P (λn=>fx P n b) (rK P K) (rdG none σ.fr cx) σ) K)) (λσ0 E1 a1 w1 hk0 hs0=>?_)
   (λs σ' E' a' w' y hk hs hy=>Wt hK (.pan s) (Uc σ') hk E' a' w' (Xz hs) y (by rw [ZfO,ZdN];exact hy)) ops _ hc1 σ E a w h hS
  have hs:=Xz hs0;simp only [Zc6,fxS] at hk0;generalize Uc σ0 = σ1 at hs hk0;obtain ⟨ms,d1,d2,d3⟩:=hs.df;unfold Zza at hk0;split at hk0
  case h_2=>exact hk0.elim
  rename_i g caps hcl;have hRx:=YU hs.fr (g:=none) trivial cx;rw [hcl] at hRx;simp only [R] at hRx;obtain ⟨cs,k1,k2⟩:=hRx;have hmn:C.m0<=σ1.n:=by
   rcases Nat.lt_or_ge σ1.n C.m0 with q | q
   . exact absurd (hs.hs.pin σ1.n q).1 (Nat.lt_irrefl _)
   . exact q
  unfold Zta at hc2;split at hc2
  case h_2=>cases hc2
  rename_i cc hop hdst hgd;simp only [Bool.and_eq_true] at hc2;obtain ⟨e1,e2⟩:=hc2;split at e1
  case h_2=>cases e1
  rename_i y hcal;have hca:cc.args = #[]:=by simpa using e2
  rw [hrd];simp only [UR,Region.wanted,hgd];simp only [if_true];have hrun:(o.semAt none a1.eval).run P w1 = .ok (.defer { target:=.fn (.func g) cs,args:=#[] }) w1:=by
   rw [Oper.semAt_none];obtain ⟨dst',op',ty',pos,after,guard⟩:=o;simp only at hop;subst hop;simp [execOp,resolve,hcal,hca,Zk e1 a1,k1,Deferred.ofValue,Sem.run_bind,Sem.run_pure]
  show o.wpq none P a1 w1 _ _;unfold Oper.wpq;rw [hrun];simp only [Oper.uponX,hdst];show Exit.then _ _ .normal _ w1;simp only [Exit.then];show wpX none P cy (YC P fn R') { a1 with defers:=_ :: a1.defers } w1;refine Zbn b _ σ1.n cy σ1 (rK P K g caps) E1 _ w1 ⟨Nat.le_refl _,λk b ho=>?_⟩ rfl hc3 hk0 (Zjw hs _) (λe σ' hk C2 E' a' w' c1 c2 c3 c4 c5 hs'=>?_)
  . rcases Classical.em (ltn σ1.n k) with hk | hk
    . exact hk
    . have ho':occ E1 k (lkh k σ1.hp) b:=ho;rw [hs.hs.kn k hk] at ho';exact ho'.elim
  have hpin:∀ j,j < σ1.n->j < σ'.n/\Ele E1 E' j j:=λj hj=>by
   have:=hs'.hs.pin j (by rw [c5];exact hj);rw [c4] at this;exact this
  have hstC:Y8 w1 w' (okS C E1 σ1.hp) (okS C2 E' σ'.hp):=λb hb q=>by
   have hlt:b < w1.heap.size:=by rcases q with ⟨cells,T,fz,hcell⟩ | ⟨es,c,hcell⟩<;>exact (Array.getElem?_eq_some_iff.1 hcell).1
   refine ⟨⟨.inl (by rw [c2];exact hb),λj ho=>?_⟩,?_⟩
   . rcases hs'.hs.lo j b ho with q | q
     . rw [c1] at q;exact absurd hlt (Nat.not_lt.2 q)
     . rw [c3] at q;exact hb.2 j q
   . have:=hs'.hs.kp.block b (by rw [c1];exact hlt) (λj q=>by rw [c3] at q;exact hb.2 j q);rw [c1] at this;exact this
  have hcaps:RL w' E' (ltn σ'.n) (okS C2 E' σ'.hp) caps cs.toList:=ZJ hstC (λj hj=>(hpin j hj).2) (λj hj=>(hpin j hj).1) _ _ k2;have fin:∀ (kk:St->Prop) (eK:Ex) (heK:eK = .n\/eK = .ret),(∀ σ,kk σ->K eK σ)->∀ hp' n' E3 w3,kk ⟨σ'.fr,hp',n',σ'.N,σ'.gs⟩->Sim C2 E3 ⟨σ'.fr,hp',n',σ'.N,σ'.gs⟩ a' w3->Lv P fn a'.tmps R' a1.defers .returning w3:=λkk eK heK hkk hp' n' E3 w3 hq hs2=>by
   rw [d1];have hsim:=Zff hs hs2 c1 c2 c3 c4 c5 hmn;have hmark:∀ m ∈ ms,C.w0.heap.size<=m/\okS C E3 hp' m/\w3.heap[m]? = some (.deferred (some [])):=λm hm=>by
    obtain ⟨p1,p2,p3⟩:=d3 m hm;have hlt':m < w1.heap.size:=(Array.getElem?_eq_some_iff.1 p3).1;have hnp:∀ k,¬ C2.pass k m:=λk hk=>by rw [c3] at hk;exact p2.2 k hk
    refine ⟨p1,⟨p2.1,λk ho=>?_⟩,?_⟩
    . rcases hs2.hs.lo k m ho with g | g
      . rw [c1] at g;exact absurd hlt' (Nat.not_lt.2 g)
      . exact hnp k g
    . have:=hs2.hs.kp.block m (by rw [c1];exact hlt') hnp;rw [c1] at this;rw [this];exact p3
   refine XY ms _ _ (by simp) d2.1 (λm hm=>(hmark m hm).2.2) λw4 hu4=>?_;rcases heK with rfl | rfl
   . exact hK .n _ (hkk _ hq) { C with ds:=a'.defers } E3 a' w4 rfl rfl rfl rfl rfl (WD (C:={ C with ds:=a'.defers }) hsim hmark hu4)
   . exact hK .ret _ (hkk _ hq) { C with ds:=a'.defers } E3 a' w4 rfl rfl rfl rfl rfl (WD (C:={ C with ds:=a'.defers }) hsim hmark hu4)
  have hm2:C2.m0<=σ'.n:=by
   rw [c5];rcases Nat.lt_or_ge σ'.n σ1.n with q | q
   . exact absurd (hpin σ'.n q).1 (Nat.lt_irrefl _)
   . exact q
  have main:∀ (s:SV) (v:Value) (u u':FrameMode) (eK:Ex),(eK = .n\/eK = .ret)->R w' E' (ltn σ'.n) (okS C2 E' σ'.hp) s v->ZBr v u u'->(∃ t l c N,RcF P g t l c N/\rcR P t l c N caps s σ' (K eK)) ->
   Lv P fn a'.tmps R' ({ target:=.fn (.func g) cs,args:=#[] } :: a1.defers) u w':=λs v u u' eK heK hv hu hex=>by
   obtain ⟨t,l,c,N,hF,hrun⟩:=hex;have hset:u≠.run/\settle u' = .returning:=by
    rcases hu with ⟨rfl,rfl,rfl⟩ | ⟨rfl,rfl⟩
    . exact ⟨by simp,rfl⟩
    . exact ⟨by simp,rfl⟩
   refine ⟨hset.1,.inr (.inr ⟨.func g,cs,g,cs,rfl,by simp [invoke,Xj hF.bd],?_⟩)⟩
   have hcalls:=ZzY hF hs' hm2 hcaps hv hrun hu (R':=λe u'' w''=>match e with
    | .returned _=>Lv P fn a'.tmps R' a1.defers (settle u'') w''
    | .panicked chain=>Lv P fn a'.tmps R' a1.defers (raised u'' chain) w''
    | .outgrown=>R' .outgrown w'') (λhp' n' E3 w3 hq hs3=>by
    show Lv P fn a'.tmps R' a1.defers (settle u') w3;rw [hset.2]
    exact fin (K eK) eK heK (λ_ h=>h) hp' n' E3 w3 hq hs3)
   rw [show cs.toList.toArray=cs from rfl] at hcalls;intro c₀ cs0 hc0;obtain ⟨e2,u2,w2,fr2,q1,q2,q3,q4⟩:=hcalls c₀ cs0 hc0;refine ⟨e2,u2,w2,fr2,?_,q2,q3,q4⟩;cases e2<;>exact q1
  cases e with
  | ex i=>exact hk.elim
  | n=>exact main _ _ _ _ .n (.inl rfl) (by simp only [R]) (.inl ⟨rfl,rfl,rfl⟩) hk
  | ret=>exact main _ _ _ _ .ret (.inr rfl) (by simp only [R]) (.inl ⟨rfl,rfl,rfl⟩) hk
  | pan s=>intro y hy;exact main s y _ _ .ret (.inr rfl) hy (.inr ⟨rfl,rfl⟩) hk
theorem Zfg {f:FuncId} {fn:Func} {code:Code} {fb:FB} {args:List SV} {N n0 m:Nat} {hp0:List (Nat × HB)} {C:Cx} {E:Env} {w:World} {vs:List Value} {K:Ex->St->Prop} {R':Ending->World->Prop}
 (hf:P.funcs[f]? = some fn) (hb:fn.body=some code) (hc:Za4 P fb code=true) (hN:fn.ntmps=N) (hA:args.length<=N) (hds:C.ds=[]) (hrd:C.rd=none) (hm:MC C m)
 (hH:HSim C E hp0 (ltn n0) w) (hR:RL w E (ltn n0) (okS C E hp0) args vs) (h:fx P m fb ⟨X8 0 args,hp0,n0,N,[]⟩ K)
 (hK:∀ e σ,K e σ->∀ C' E a w',C'.w0=C.w0->C'.okp=C.okp->C'.pass=C.pass->C'.e0=C.e0->C'.m0=C.m0->Sim C' E σ a w'->match e with
  | .n | .ret=>∃ v,(results fn a.tmps).run P w' = .ok v w'/\R' (.returned v) w'
  | .ex _=>False
  | .pan s=>∀ y,R w' E (ltn σ.n) (okS C' E σ.hp) s y->R' (.panicked [{ v:=y,recovered:=false }]) w'):Calls P f vs.toArray w R':=by
 have hlen:=ZF hR;have hng:∀ t j b s,lk t (X8 0 args)≠.gd j b s:=by
  intro t j b s ht;simp only [Up,Nat.zero_le,if_true,Nat.sub_zero] at ht;by_cases htl:t < args.length
  . have e1:args.getD t .any=args[t]:=by simp [htl]
    obtain ⟨y,h1,h2⟩:=VK hR (List.getElem?_eq_getElem htl);rw [e1] at ht;rw [ht] at h2;simp only [R] at h2
  . have e1:args.getD t .any = .any:=by simp [List.getElem?_eq_none (Nat.le_of_not_lt htl)]
    rw [e1] at ht;cases ht
 have hS:Sim C E ⟨X8 0 args,hp0,n0,N,[]⟩ { tmps:=vs.toArray ++ Array.replicate (fn.ntmps - vs.toArray.size) undef,defers:=[] } w:=by
  refine ⟨λt=>?_,by simp [hN];omega,by rw [<- hds];exact ZaN,λt j b s ht=>absurd ht (hng t j b s),hH⟩;have hng:=hng t;have hFR:R w E (ltn n0) (okS C E hp0) (lk t (X8 0 args)) ((vs.toArray ++ Array.replicate (fn.ntmps - vs.toArray.size) undef).getD t undef):=by
   simp only [Up,Nat.zero_le,if_true,Nat.sub_zero];by_cases ht:t < args.length
   . have e1:args.getD t .any=args[t]:=by simp [ht]
     obtain ⟨y,h1,h2⟩:=VK hR (List.getElem?_eq_getElem ht);have e2:(vs.toArray ++ Array.replicate (fn.ntmps - vs.toArray.size) undef).getD t undef=y:=by
      have:t < vs.length:=by omega
      have h1':=(List.getElem?_eq_some_iff.1 h1).2;simp [Array.getElem?_append,this,h1']
     rw [e1,e2];exact h2
   . have e1:args.getD t .any = .any:=by simp [List.getElem?_eq_none (Nat.le_of_not_lt ht)]
     rw [e1];simp only [R]
  simp only;cases hq:lk t (X8 0 args)<;>rw [hq] at hFR hng<;>first | exact hFR | exact absurd rfl (hng _ _ _)
 refine Ug hf hb ?_;refine Zbn fb C m code _ K E _ w hm hrd hc h hS (λe σ hk C' E a w' c1 c2 c3 c4 c5 hs=>?_);have key:=hK e σ hk C' E a w' c1 c2 c3 c4 c5 hs;rw [hds];cases e with
 | ex i=>exact key
 | n=>exact key
 | ret=>exact key
 | pan s=>exact key
theorem ZiB {f:FuncId} {fn:Func} {code:Code} {fb:FB} {args:List SV} {rs:List RV} {N n0:Nat} {hp0:List (Nat × HB)} {Z8:Ot->Prop} (hf:P.funcs[f]? = some fn) (hb:fn.body=some code) (hc:Za4 P fb code=true)
 (hr:Wu P rs fn.results.toList=true) (hN:fn.ntmps=N) (hA:args.length<=N) (h:fx P n0 fb ⟨X8 0 args,hp0,n0,N,[]⟩ (Zbm rs Z8)):CtY P Y0 f hp0 n0 args Z8:=by
 intro C E w vs d1 d2 d3 d4 d5 d6 hY hH hR;refine Zfg hf hb hc hN hA d3 d2 ⟨Nat.le_of_eq d5,d6⟩ hH hR h λe σ hk C' E' a w' c1 c2 c3 c4 c5 hs=>?_;obtain ⟨g1,g2⟩:=ZfF hs.hs c1 c2 c3 c4 c5;have hend:ZtF Z8 σ.hp σ.n (rvE (Ze1 σ rs))->∃ v,(results fn a.tmps).run P w' = .ok v w'/\∃ o E' y,Z8 o/\HSim C E' o.hp (ltn o.n) w'/\R w' E' (ltn o.n) (okS C E' o.hp) o.res y/\Ending.returned v=Zu4 o.pn y:=λhrr=>by
  cases hq:rvE (Ze1 σ rs) with
  | none=>rw [hq] at hrr;exact hrr.elim
  | some s =>
   rw [hq] at hrr;obtain ⟨v,h1,h2⟩:=UX (P:=P) (fn:=fn) (a:=a) (w:=w') (E:=E') (n:=ltn σ.n) (ok:=okS C' E' σ.hp) hq λl hl=>ZfM hs rs _ l hr hl;rw [g2] at h2;exact ⟨v,h1,_,E',v,hrr,g1,h2,rfl⟩
 cases e with
 | ex i=>exact hk.elim
 | n=>exact hend hk
 | ret=>exact hend hk
 | pan s=>intro y hy;rw [g2] at hy;exact ⟨_,E',y,hk,g1,hy,rfl⟩
theorem ZcM {f:FuncId} {fn:Func} {code:Code} {fb:FB} {args:List SV} {rs:List RV} {N n0:Nat} {hp0:List (Nat × HB)} {Z8:Ot->Prop} (hf:P.funcs[f]? = some fn) (hb:fn.body=some code) (hnm:YO P f=true) (hc:Za4 P fb code=true)
 (hr:Wu P rs fn.results.toList=true) (hN:fn.ntmps=N) (hA:args.length<=N) (hh:hpb n0 hp0) (hx:∀ o,Z8 o->KX o.res/\KXP o.hp) (h:fx P n0 fb ⟨X8 0 args,hp0,n0,N,[]⟩ (Zbm rs λo=>∃ o',Z8 o'/\ZcU n0 o o')):CtM P f hp0 n0 args Z8 :=
 ⟨hnm,hh,hx,(ZiB hf hb hc hr hN hA h).mono λ_ h=>h⟩
end
theorem Zag {m:Nat} {σ : St} (t:Nat) {s':SV} (hg:σ.gs=[]) (hw:ZdU (lk t σ.fr) s') (h2:∀ j b u,s'≠.gd j b u):Ent m σ ⟨(t,s') :: σ.fr,σ.hp,σ.n,σ.N,σ.gs⟩:=λC E a w hmc h=>by
 have hR0:∀ u,R w E (ltn σ.n) (okS C E σ.hp) (lk u σ.fr) (a.tmps.getD u undef):=λu=>Zue (h.fr u) (λj b u' e=>by have:=h.gs u j b u' e;rw [hg] at this;simp at this);have g2:ZD w w (okS C E σ.hp) (okS C E σ.hp):=λb hb _=>⟨hb,rfl⟩;refine ⟨E,λu=>?_,h.sz,h.df,λu j b s hu=>?_,h.hs⟩
 . rw [ZH];split
   . rename_i hu;subst hu;have:=hw _ _ _ _ _ (hR0 u);cases s'<;>first | exact this | exact absurd rfl (h2 _ _ _)
   . refine Xy g2 (λ_ _=>Ele.rfl) (λk hk=>hk) (λj b s hs=>?_) (h.fr u);have:=h.gs u j b s hs;rw [hg] at this;simp at this
 . rw [ZH] at hu;split at hu
   . exact absurd hu (h2 _ _ _)
   . exact h.gs u j b s hu
end Go.Sx
