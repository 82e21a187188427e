/- Walks and plain laws that lead to the given statement, part 4 of 9. -/
import Derived.Test.YtkpkgafhfakpdaaGreatDoorQC
set_option linter.all false
open Nat renaming beq_refl->nbr
namespace Go.Sx
open Go Go.RowKit
variable {Y:Hd}
section
variable (P:Program) (m:Nat) (σ : St) (K:Ex->St->Prop) (L:RK)
theorem Zw9:rx P Y [] σ L=L .n σ:=rfl
theorem ZsI (io:Ins) (r:List Ins):rx P Y (io :: r) σ L=st1 P Y io σ (rx P Y r) L:=rfl
theorem Zyt (ops:List Ins):sx P Y m (.reg ops) σ K=rx P Y ops σ (Zb8 K):=rfl
theorem Zre (ord:List Nat) (p:Ph) (ps:List Ph):sx P Y m (.regs ord p ps) σ K=phx P Y p ps σ (Zb8 K):=rfl
theorem phx_1 (vs:List VI) (nA nB:Nat) (rest:List Ins):phx P Y ⟨vs,nA,nB,rest⟩ [] σ L=gs0 σ.gs (rxv P Y (ZbY σ.hp (rx P Y rest)) vs σ L):=rfl
theorem phx_2 (vs:List VI) (nA nB:Nat) (rest:List Ins) (q:Ph) (ps:List Ph):phx P Y ⟨vs,nA,nB,rest⟩ (q :: ps) σ L=gs0 σ.gs (rxv P Y (ZbY σ.hp (rx P Y rest)) vs σ (phK (phx P Y q ps) L)):=rfl
theorem phK_n (f:St->RK->Prop):phK f L .n σ = f σ L:=rfl
theorem Zti (ord:List Nat) (vs:List VI) (nA nB:Nat) (rest:List Ins):sx P Y m (.regd ord vs nA nB rest) σ K=gs0 σ.gs (rxv P Y (ZbY σ.hp (rx P Y rest)) vs σ (Zb8 K)):=rfl
theorem Zsj (r:KT):rxv P Y r [] σ L=r σ L:=rfl
theorem ZyH (r:KT) (io:Ins) (l:List VI):rxv P Y r (.op io :: l) σ L=st1 P Y io σ (rxv P Y r l) L:=rfl
theorem Zom (r:KT) (x:X) (l:List VI):rxv P Y r (.hide x :: l) σ L=ZcQ (rdG none σ.fr x) σ (rxv P Y r l) L:=rfl
theorem ZlF (hp:List (Nat × HB)) (r:KT):ZbY hp r σ L=r ⟨σ.fr,hp,σ.n,σ.N,σ.gs⟩ L:=rfl
theorem ZqE (k o:Nat) (r:KT):ZcQ (.p k o) σ r L=r ⟨σ.fr,(k,.gone) :: σ.hp,σ.n,σ.N,σ.gs⟩ L:=rfl
theorem ZkM (k v:Nat) (r:KT):ZcQ (.mr k v) σ r L=r ⟨σ.fr,(k,.gone) :: σ.hp,σ.n,σ.N,σ.gs⟩ L:=rfl
theorem Zo7 (k v m i o:Nat) (r:KT):ZcQ (.pr k v m i o) σ r L=r ⟨σ.fr,(k,.gone) :: σ.hp,σ.n,σ.N,σ.gs⟩ L:=rfl
theorem ZlK (k v m i o:Nat) (r:KT):ZcQ (.ms k v m i o) σ r L=r ⟨σ.fr,(k,.gone) :: σ.hp,σ.n,σ.N,σ.gs⟩ L:=rfl
theorem Zte (p:Prop):gs0 [] p=p:=rfl
theorem ZwG (a b:SC):sx P Y m (.seq a b) σ K=sx P Y m a σ (ZsR (sx P Y m b) K):=rfl
theorem Ztn (c:X) (a b:SC):sx P Y m (.cond c a b) σ K=ZyQ (rdG none σ.fr c) (sx P Y m a) (sx P Y m b) σ K:=rfl
theorem ZoA (id:Nat) (c:SC):sx P Y m (.block id c) σ K=sx P Y m c σ (Zqh id K):=rfl
theorem ZtH (c:SC):sx P Y m (.loop c) σ K=ZqV m (sx P Y m c) σ K:=rfl
theorem Zvg (id:Nat):sx P Y m (.exit id) σ K=K (.ex id) σ:=rfl
theorem Zxm:sx P Y m .ret σ K=K .ret σ:=rfl
theorem ZuQ:sx P Y m .skip σ K=K .n σ:=rfl
theorem Zpx (c:SC):sx P Y m (.scope c) σ K=sx P Y m c σ K:=rfl
theorem sx_gh (c:SC):sx P Y m (.gh c) σ K=GH m (sx P Y m c) σ K:=rfl
theorem Zps (l:Nat):sx P Y m (.label l) σ K=K .n σ:=rfl
theorem Zt0 (e:Ex):Zb8 K e σ = K e (WT σ):=rfl
theorem ZxI (f:CT):ZsR f K .n σ = f σ K:=rfl
theorem ZqN (f:CT) (i:Nat):ZsR f K (.ex i) σ = K (.ex i) σ:=rfl
theorem ZoX (f:CT) (s:SV):ZsR f K (.pan s) σ = K (.pan s) σ:=rfl
theorem Zo0 (f:CT):ZsR f K .ret σ = K .ret σ:=rfl
theorem Zxv (id:Nat):Zqh id K .n σ = K .n σ:=rfl
theorem ZpQ (id:Nat) (s:SV):Zqh id K (.pan s) σ = K (.pan s) σ:=rfl
theorem ZnJ (id:Nat):Zqh id K .ret σ = K .ret σ:=rfl
theorem ZyE (rs:List RV) (res:SV):ZyS rs res .n σ = (rvR rs σ = some res):=rfl
theorem ZpF (rs:List RV) (res:SV):ZyS rs res .ret σ = (rvR rs σ = some res):=rfl
theorem Zxz {S:Type} (st:S->St) (rel:S->Prop) (μ : S->Nat) (s:S):ZlS m st rel μ s K .n σ = ∃ s',rel s'/\μ s' < μ s/\Ent m σ (st s'):=rfl
theorem Zty {S:Type} (st:S->St) (rel:S->Prop) (μ : S->Nat) (s:S) (i:Nat):ZlS m st rel μ s K (.ex i) σ = K (.ex i) σ:=rfl
theorem Zmi {S:Type} (st:S->St) (rel:S->Prop) (μ : S->Nat) (s:S) (x:SV):ZlS m st rel μ s K (.pan x) σ = K (.pan x) σ:=rfl
theorem ZnB {S:Type} (st:S->St) (rel:S->Prop) (μ : S->Nat) (s:S):ZlS m st rel μ s K .ret σ = K .ret σ:=rfl
end
section
variable {P:Program} {m:Nat} {σ : St} {K:Ex->St->Prop} {L:RK} {r:KT} {d:Option Nat} {g:Option (Nat × Bool)}
theorem br {b:Bool} {f h:CT} (h1:b=true->f σ K) (h2:b=false->h σ K):BR b f h σ K:=⟨h1,h2⟩
theorem Zs {b:Bool} {f h:CT} (hb:b=true) (h1:f σ K):BR b f h σ K:=⟨λ_=>h1,λe=>by rw [hb] at e;cases e⟩
theorem Zp {b:Bool} {f h:CT} (hb:b=false) (h1:h σ K):BR b f h σ K:=⟨λe=>by (rw [hb] at e;cases e),λ_=>h1⟩
theorem gb {b w:Bool} {j:Nat} {i:SI} (h:Z8 P (some (j,w)) d i σ r L):GB P Y b j w d i σ r L:=.inr (.inr h)
theorem YI {b w:Bool} {j:Nat} {i:SI} (hb:b=w) (h:stp P Y d i σ r L):GB P Y b j w d i σ r L:=.inl ⟨hb,h⟩
theorem Zj2 {b w:Bool} {j:Nat} {i:SI} (hb:b≠w) (h:Zsk d σ r L):GB P Y b j w d i σ r L:=.inr (.inl ⟨hb,h⟩)
theorem call {f:FuncId} {args:List SV} {res:SV} (h:Ct P f args res) (hk:Yh d res g σ r L):ZvM P g f args d σ r L:=⟨res,.inl (ZP.2 λ_=>h),hk⟩
theorem XK {f:FuncId} {args:List SV} {res:SV} (hf:FLT res) (h:Ct P f (ZaW (vw4 σ.hp) args) res) (hk:Yh d res g σ r L):ZvM P g f args d σ r L:=⟨res,.inr ⟨hf,ZP.2 λ_=>h⟩,hk⟩
theorem ZsA {b:BinOp} {k:IntKind} {x y:Int} (h:y≠0) (hk:Yh d (.v (.int k (ZwB b k x y))) g σ r L):DIV g b k x y d σ r L:=⟨ZP.2 λ_=>h,hk⟩
theorem ixs {xs:List (List SV)} {i:Int} (n:Nat) (row:List SV) (hi:i=(n:Int)) (hr:xs[n]? = some row) (hk:Yh d (.ps row 0) g σ r L):IXS g xs i d σ r L:=⟨row,ZP.2 λ_=>⟨n,hi,hr⟩,hk⟩
theorem Zu {α : Type} {l:List α} {f:α->List SV} {i:Int} (n:Nat) (hn:n < l.length) (hi:i=(n:Int)) (hk:Yh d (.ps (f l[n]) 0) g σ r L):IXS g (l.map f) i d σ r L :=
 ixs n _ hi (by simp [hn]) hk
theorem ixa {len:Nat} {i:Int} {F:Nat->Option SV} (n:Nat) (hi:i=(n:Int)) (hn:n < len) (hk:XE (F n) d g σ r L):IXA g len i F d σ r L:=⟨n,ZP.2 λ_=>⟨hi,hn⟩,hk⟩
theorem loop {f:CT} {S:Type} (st:S->St) (rel:S->Prop) (μ : S->Nat) (s:S) (h0:rel s) (he:Ent m σ (st s)) (hb:∀ s,rel s->f (st s) (ZlS m st rel μ s K)):ZqV m f σ K :=
 .inr ⟨S,st,rel,μ,⟨s,h0,he⟩,hb⟩
theorem Yn {f:CT} (n:Nat) (h:ZvH f K n σ):ZqV m f σ K:=.inl ⟨n,h⟩
theorem Zc {f:CT} (n:Nat):ZvH f K (n+1) σ = f σ (ZvI (ZvH f K n) K):=rfl
theorem ZxP (p:St->Prop):ZvI p K .n σ = p σ:=rfl
theorem Zvv (p:St->Prop) (i:Nat):ZvI p K (.ex i) σ = K (.ex i) σ:=rfl
theorem ZpE (p:St->Prop) (s:SV):ZvI p K (.pan s) σ = K (.pan s) σ:=rfl
theorem Znc (p:St->Prop):ZvI p K .ret σ = K .ret σ:=rfl
def Zv0:List (Nat × SV)->List (Nat × SV)->Prop
 | [],_=>True
 | (t,s) :: r,fr=>lk t fr=s/\Zv0 r fr
def Zv2:List (Nat × SV)->Bool
 | []=>true
 | (_,.gd _ _ _) :: _=>false
 | _ :: r=>Zv2 r
theorem ZhX:∀ {r fr:List (Nat × SV)},Zv0 r fr->∀ t,lk t r = .any\/lk t r=lk t fr
 | [],_,_,t=>.inl rfl
 | (u,s) :: r,fr,h,t=>by
  rw [ZH];by_cases ht:t=u
  . subst ht;rw [if_pos rfl];exact .inr h.1.symm
  . rw [if_neg ht];exact ZhX h.2 t
theorem Zdi:∀ {r:List (Nat × SV)},Zv2 r=true->∀ t j b s,lk t r≠.gd j b s
 | [],_,t,j,b,s=>by simp [lk]
 | (u,s') :: r,h,t,j,b,s=>by
  rw [ZH];by_cases ht:t=u
  . rw [if_pos ht];rintro rfl;simp [Zv2] at h
  . rw [if_neg ht];exact Zdi (by cases s'<;>first | exact h | simp [Zv2] at h) t j b s
end
section
variable {w:World} {E:Env} {ok ok':Nat->Prop} {ρ : Nat->Nat} {n':Nat} {n:Nat->Prop}
theorem ent {σ σ':St} (ρ : Nat->Nat) (hf:mtF ρ σ'.n [] σ'.fr σ.fr) (hp:mtP ρ σ'.hp σ.hp σ'.n σ'.n) (hb:hpb σ'.n σ'.hp) (hρ : ∀ i,i < σ'.n->∀ j,j < σ'.n->ρ i = ρ j->i=j) (hN:Nat.beq σ'.N σ.N=true) {m0:Nat} (hm:Nat.ble m0 σ'.n=true) (hfix:∀ i,i < m0->ρ i=i):Ent m0 σ σ':=by
 intro C E a w hm0 h;have hN:=Nat.eq_of_beq_eq_true hN;have hgone:=ZbS hb;have hH:=Zhy hp;have hocc:∀ k b,occ (rnE E ρ) k (lkh k σ'.hp) b->k < σ'.n/\occ E (ρ k) (lkh (ρ k) σ.hp) b:=λk b ho=>by
  by_cases hk:k < σ'.n
  . refine ⟨hk,?_⟩;have:=hH k hk;cases h1:lkh k σ'.hp<;>rw [h1] at ho this
    . cases h2:lkh (ρ k) σ.hp<;>rw [h2] at this<;>simp only [mtH] at this
      exact ho
    . simp only [mtH] at this;rw [this.1];exact ho
    . simp only [mtH] at this;rw [this];exact ho
    . simp only [mtH] at this;rw [this.1];exact ho
    . simp only [mtH] at this;rw [this.2];exact ho
    . simp only [mtH] at this;rw [this];exact ho
    . simp only [mtH] at this;rw [this];exact ho
    . simp only [mtH] at this;rw [this.1];exact ho
    . exact ho.elim
  . rw [hgone k hk] at ho;exact ho.elim
 have hst:ZE w w (okS C E σ.hp) (okS C (rnE E ρ) σ'.hp):=λb hb _=>⟨⟨hb.1,λk ho=>hb.2 _ (hocc k b ho).2⟩,rfl⟩;refine ⟨rnE E ρ,λt=>?_,by rw [hN];exact h.sz,Xy hst h.df,λt j b s ht=>?_,⟨hgone,λk=>?_,λk k' b h1 h2=>?_,λk b h1=>?_,h.hs.kp,λk hk=>?_⟩⟩
 . rcases ZhY hf t rfl with h1 | h1
   . rw [h1];exact trivial
   . have:=mtS_R hst h1 (h.fr t);have hng:=ZbT h1;cases hs:lk t σ'.fr<;>rw [hs] at this hng<;>first | exact this | exact absurd rfl (hng _ _ _)
 . rcases ZhY hf t rfl with h1 | h1
   . rw [h1] at ht;cases ht
   . exact absurd ht (ZbT h1 j b s)
 . by_cases hk:k < σ'.n
   . have:=hH k hk;have hbk:=h.hs.bk (ρ k);cases h1:lkh k σ'.hp<;>rw [h1] at this
     . cases h2:lkh (ρ k) σ.hp<;>rw [h2] at this hbk<;>simp only [mtH] at this
       obtain ⟨rfl,this⟩:=this;simp only [Z0] at hbk ⊢;obtain ⟨cs,k1,k2⟩:=hbk;exact ⟨cs,k1,Zad hst _ _ _ this k2⟩
     . simp only [mtH] at this;rw [this.1] at hbk;simp only [Z0] at hbk ⊢;obtain ⟨hi0,hbk⟩:=hbk;refine ⟨hi0,?_⟩;rcases hbk with q | ⟨b,cap,cs,q1,q2,q3,q4,q5,q6,q7⟩
       . exact .inl q
       . exact .inr ⟨b,cap,cs,q1,q2,q3,q4,q5,q6,ZC hst (λ_ h=>Ele.rfl) (λ_ h=>h.elim) _ _ (ZaL (E':=rnE E ρ) (n':=λ_=>False) _ _ (WF this.2) q7)⟩
     . rename_i φ;simp only [mtH] at this;rw [this] at hbk;simp only [Z0] at hbk ⊢;obtain ⟨o,k1,k2⟩:=hbk;exact ⟨o,k1,φ.mono _ _ _ _ _ hst k2⟩
     . simp only [mtH] at this;obtain ⟨this,hkf⟩:=this;rw [this] at hbk;simp only [Z0] at hbk ⊢;obtain ⟨ys,k1,k2⟩:=hbk;exact ⟨ys,k1,Zos hst _ _ hkf k2⟩
     . simp only [mtH] at this;rw [this.2] at hbk;simp only [Z0] at hbk ⊢;exact ⟨this.1,hbk.2⟩
     . simp only [mtH] at this;rw [this] at hbk;simp only [Z0] at hbk ⊢;exact hbk
     . simp only [mtH] at this;rw [this] at hbk;simp only [Z0] at hbk ⊢;exact hbk
     . simp only [mtH] at this;obtain ⟨this,k1,k2⟩:=this;rw [this] at hbk;exact W3 (E:=E) (k:=ρ k) (E':=rnE E ρ) hst.c (λ_ _=>rfl) rfl hk k1 k2 hbk
     . trivial
   . rw [hgone k hk];trivial
 . have e1:=hocc k b h1;have e2:=hocc k' b h2;exact hρ k e1.1 k' e2.1 (h.hs.dj _ _ b e1.2 e2.2)
 . obtain ⟨e1,e2⟩:=hocc k b h1;rcases h.hs.lo _ b e2 with q | q
   . exact .inl q
   . have q1:=Nat.lt_of_lt_of_le (hm0.2 _ _ q) hm0.1;have q2:ρ k=k:=hρ _ (Nat.lt_of_lt_of_le q1 (Nat.le_of_ble_eq_true hm)) k e1 (hfix _ q1);rw [q2] at q;exact .inr q
 . have hk':k < m0:=Nat.lt_of_lt_of_le hk hm0.1;obtain ⟨p1,p2,p3,p4⟩:=h.hs.pin k hk;exact ⟨Nat.lt_of_lt_of_le hk' (Nat.le_of_ble_eq_true hm),by simp only [rnE,hfix k hk'];exact p2,by simp only [rnE,hfix k hk'];exact p3,by simp only [rnE,hfix k hk'];exact p4⟩
end
theorem ZlQ {ρ : Nat->Nat} {n':Nat}:∀ {s:SV},KF s->mtS ρ n' s s:=by
 intro s;exact SV.rec (motive_1:=λs=>KF s->mtS ρ n' s s) (motive_2:=λl=>KFL l->mtL ρ n' l l) (motive_3:=λ_=>True)
  (λx _=>by simp [mtS]) (λk o h=>by simp [KF] at h) (λl ih h=>by simp only [KF] at h;simp only [mtS,ZvX,mtO];exact ih h)
  (λc m xs _ h=>by simp only [KF] at h;simp [mtS,h]) (λk v h=>by simp [KF] at h) (λk v m i o h=>by simp [KF] at h) (λk v m i o h=>by simp [KF] at h)
  (λl o _ h=>by simp only [KF] at h;simp [mtS,h]) (λf l ih h=>by simp only [KF] at h;simp only [mtS,clL,nbr,cond_true,mtO];exact ih h)
  (λl ih h=>by simp only [KF] at h;simp only [mtS,ZvW,mtO];exact ih h) (λk h=>by simp [KF] at h) (λk h=>by simp [KF] at h) (λT s ih h=>by simp only [KF] at h;simp only [mtS,mtI];exact ⟨trivial,ih h⟩) (λφ _=>by simp [mtS]) (λj w s _ h=>by simp [KF] at h) (λ_=>by simp [mtS])
  (λ_=>by simp [mtL]) (λs l h1 h2 h=>by simp only [KFL] at h;simp only [mtL,mtB];exact ⟨h1 h.1,h2 h.2⟩)
  trivial (λ_ _ _ _=>trivial) s
theorem Zb {ρ : Nat->Nat} {n':Nat}:∀ {l:List SV},KFL l->mtL ρ n' l l
 | [],_=>by simp [mtL]
 | s :: l,h=>by simp only [mtL,mtB];exact ⟨ZlQ h.1,Zb h.2⟩
abbrev I (n:Int):SV:=.v (.int .i64 n)
abbrev B (b:Bool):SV:=.v (.bool b)
theorem Zd:∀ {xs ys:List (List SV)},KFR (xs ++ ys)↔KFR xs/\KFR ys
 | [],ys=>by simp [KFR]
 | x :: xs,ys=>by simp [KFR,Zd (xs:=xs) (ys:=ys),and_assoc]
theorem Za {α : Type} {f:α->List SV} {l:List α}:KFR (l.map f)↔∀ x ∈ l,KFL (f x):=by
 induction l with
 | nil=>simp [KFR]
 | cons x l ih=>simp [KFR,ih]
attribute [simp] Zd KFR KFL KF Zb mtO Nat.beq_refl
theorem Zf {n:Int} (h1:-9223372036854775808<=n) (h2:n<=9223372036854775807):IntKind.i64.wrap n=n:=IntWalk.i64_in n ⟨h1,h2⟩
def stO {S:Type} (σ : St) (ov:S->List (Nat × SV)) (hv:S->List (Nat × HB)) (s:S):St:=⟨ov s ++ σ.fr,hv s ++ σ.hp,σ.n,σ.N,[]⟩
theorem e_stO {S:Type} (fr:List (Nat × SV)) (hp:List (Nat × HB)) (n N:Nat) (gs:List Nat) (ov:S->List (Nat × SV)) (hv:S->List (Nat × HB)) (s:S):stO ⟨fr,hp,n,N,gs⟩ ov hv s=⟨ov s ++ fr,hv s ++ hp,n,N,[]⟩:=rfl
theorem Z1 {m:Nat} {f:CT} {σ : St} {K:Ex->St->Prop} {S:Type} (ov:S->List (Nat × SV)) (hv:S->List (Nat × HB)) (rel:S->Prop) (μ : S->Nat) (s0:S) (h0:rel s0) (he:Ent m σ (stO σ ov hv s0))
 (hb:∀ s,rel s->f (stO σ ov hv s) (ZlS m (stO σ ov hv) rel μ s K)):ZqV m f σ K :=
 loop (stO σ ov hv) rel μ s0 h0 he hb
theorem Zmc {m:Nat} {f:CT} {σ σ1:St} {K:Ex->St->Prop} {S:Type} (hg:Ent m σ σ1) (ov:S->List (Nat × SV)) (hv:S->List (Nat × HB)) (rel:S->Prop) (μ : S->Nat) (s0:S) (h0:rel s0) (he:Ent m σ1 (stO σ1 ov hv s0))
 (hb:∀ s,rel s->f (stO σ1 ov hv s) (ZlS m (stO σ1 ov hv) rel μ s K)):ZqV m f σ K :=
 loop (stO σ1 ov hv) rel μ s0 h0 (Vs hg he) hb
theorem gh {m:Nat} {r:CT} {σ σ1:St} {K:Ex->St->Prop} (hg:Ent m σ σ1) (h:r σ1 K):GH m r σ K:=⟨σ1,hg,h⟩
theorem Zqm {C:Cx} {E:Env} {hp:List (Nat × HB)} {n:Nat->Prop} {w:World} {m k v m':Nat} {xs:List (List SV)} {T:TypeId} (hmc:MC C m) (hm:m<=k) (h:HSim C E hp n w) (hk:lkh k hp = .row v m' xs T) :
 (xs=[]/\∃ a,E.hv k v = .slice a 0 0)\/∃ b cap,E.hv k v = .slice (some ⟨b,0,none⟩) xs.length cap/\xs.length<=cap/\cap≠0/\xs.length<=9223372036854775807/\RR w E n (okS C E ((k,.gone) :: hp)) b m' xs 0:=by
 have hb:=h.bk k;rw [hk] at hb;simp only [Z0] at hb;rcases hb with ⟨_,h1 | ⟨b,cap,cs,h1,h2,h3,⟨h4,h4'⟩,h5,h6,h7⟩⟩
 . exact .inl h1
 . have hoc:occ E k (lkh k hp) b:=by rw [hk];exact ⟨_,_,h1,h4'⟩
   have hok:okS C E ((k,.gone) :: hp) b:=by
    refine ⟨?_,λj ho=>?_⟩
    . rcases h.lo k b hoc with q | q
      . exact .inr q
      . have:=hmc.2 k b q;have:=hmc.1;omega
    . rw [Zl] at ho;split at ho
      . exact ho.elim
      . exact absurd (h.dj j k b ho hoc).symm (by omega)
   exact .inr ⟨b,cap,h1,h4,h4',h5,XH (cs:=cs) (ok:=okS C E hp) hok (λj c hj=>by rw [cell_of_row _ _ _ _ _ _ h2];simpa using hj) (UL h k).2 xs 0 h6 (by simpa using h7)⟩
theorem Zeg {m:Nat} {σ : St} (t k:Nat) (s:SV) (hg:σ.gs=[]) (hs:∀ j b u,s≠.gd j b u) (hR:∀ C E w y,MC C m->HSim C E σ.hp (ltn σ.n) w->R w E (ltn σ.n) (okS C E σ.hp) (lk t σ.fr) y->R w E (ltn σ.n) (okS C E ((k,.gone) :: σ.hp)) s y) :
 Ent m σ ⟨(t,s) :: σ.fr,(k,.gone) :: σ.hp,σ.n,σ.N,σ.gs⟩:=λC E a w hmc h=>by
 obtain ⟨g1,g2⟩:=UL h.hs k;have hR0:∀ u,R w E (ltn σ.n) (okS C E σ.hp) (lk u σ.fr) (a.tmps.getD u undef):=λu=>ZpU (h.fr u) (λj b u' e=>by have:=h.gs u j b u' e;rw [hg] at this;simp at this);refine ⟨E,λu=>?_,h.sz,Xy g2 h.df,λu j b s' hu=>?_,g1⟩
 . rw [ZH];split
   . rename_i hu;subst hu;have:=hR C E w _ hmc h.hs (hR0 _);cases s<;>first | exact this | exact absurd rfl (hs _ _ _)
   . refine Xp g2 (λ_ _=>Ele.rfl) (λk hk=>hk) (λj b s hs=>?_) (h.fr u);have:=h.gs u j b s hs;rw [hg] at this;simp at this
 . rw [ZH] at hu;split at hu
   . exact absurd hu (hs _ _ _)
   . exact h.gs u j b s' hu
theorem ZdH {m:Nat} {σ : St} (t k v:Nat) {m':Nat} {xs:List (List SV)} {T:TypeId} (hm:Nat.ble m k=true) (hg:σ.gs=[]) (hl:lk t σ.fr = .mr k v) (hk:lkh k σ.hp = .row v m' xs T) :
 Ent m σ ⟨(t,.sl false m' xs) :: σ.fr,(k,.gone) :: σ.hp,σ.n,σ.N,σ.gs⟩ :=
 Zeg t k _ hg (λ_ _ _ e=>by cases e) λC E w y hmc hh hR=>by
  rw [hl] at hR;simp only [R] at hR ⊢;rcases Zqm hmc (Nat.le_of_ble_eq_true hm) hh hk with ⟨h1,a0,h2⟩ | ⟨b,cap,h1,h4,h4',h5,h7⟩
  . exact ⟨a0,0,0,by rw [hR.2.2.1,h2],by simp [h1],⟨Nat.le_refl _,λh=>by cases h⟩,by simp [h1],.inl h1⟩
  . exact ⟨_,_,_,hR.2.2.1.trans h1,rfl,⟨h4,λh=>by cases h⟩,h5,.inr ⟨b,0,rfl,h7⟩⟩
theorem ZmO {m:Nat} {σ : St} (t k v l:Nat) {m':Nat} {xs:List (List SV)} {T:TypeId} (hm:Nat.ble m k=true) (hg:σ.gs=[]) (hl:lk t σ.fr = .ms k v m' 0 l) (hk:lkh k σ.hp = .row v m' xs T) (hle:l<=xs.length) :
 Ent m σ ⟨(t,.sl false m' (xs.take l)) :: σ.fr,(k,.gone) :: σ.hp,σ.n,σ.N,σ.gs⟩ :=
 Zeg t k _ hg (λ_ _ _ e=>by cases e) λC E w y hmc hh hR=>by
  rw [hl] at hR;simp only [R] at hR ⊢;obtain ⟨_,_,a,len,cap,e1,e2,e3⟩:=hR;have hlen:l=(xs.take l).length:=by rw [List.length_take];omega
  rcases Zqm hmc (Nat.le_of_ble_eq_true hm) hh hk with ⟨h1,a0,h2⟩ | ⟨b,cap',h1,h4,h4',h5,h7⟩
  . rw [h2] at e1;cases e1;refine ⟨_,l,_,e3,hlen,⟨by omega,λh=>by cases h⟩,by rw [<- hlen];simp [h1] at hle;omega,.inl (by simp [h1])⟩
  . rw [h1] at e1;cases e1;refine ⟨_,l,_,e3,hlen,⟨by omega,λh=>by cases h⟩,by omega,.inr ⟨b,0,?_,Zdf l h7⟩⟩;rw [if_neg (by omega)];simp [Addr.add]
theorem Zdt {m:Nat} {b:Bool} {s s':SV} {hp hp':List (Nat × HB)} {n n':Nat} (h:Ent m ⟨[(0,s)],hp,n,1,[]⟩ ⟨[(0,s')],hp',n',1,[]⟩) (hg:∀ j b u,s'≠.gd j b u):Wk m ⟨b,s,hp,n⟩ ⟨b,s',hp',n'⟩:=by
 refine ⟨rfl,λC E w y hm hH hR=>?_⟩;have hng:=Vu hR;have hS:Sim C E ⟨[(0,s)],hp,n,1,[]⟩ { tmps:=#[y],defers:=C.ds } w:=by
  refine ⟨λt=>?_,rfl,V8,λt j b u ht=>?_,hH⟩
  . simp only [ZH];split
    . rename_i ht;subst ht;show FR w E (ltn n) _ _ s y;cases s<;>first | exact hR | exact absurd rfl (hng _ _ _)
    . exact trivial
  . simp only [ZH] at ht;split at ht
    . exact absurd ht (hng _ _ _)
    . cases ht
 obtain ⟨E',h'⟩:=h C E _ w hm hS;refine ⟨E',h'.hs,?_⟩;have:=h'.fr 0;exact ZpU this (λj b u e=>hg j b u (by simpa [lk] using e))
theorem entO {m:Nat} {b:Bool} {s s':SV} {hp hp':List (Nat × HB)} {n n':Nat} (ρ : Nat->Nat) (hf:mtS ρ n' s' s) (hp0:mtP ρ hp' hp n' n') (hb:hpb n' hp') (hρ : ∀ i,i < n'->∀ j,j < n'->ρ i = ρ j->i=j) (hm:Nat.ble m n'=true) (hfix:∀ i,i < m->ρ i=i):Wk m ⟨b,s,hp,n⟩ ⟨b,s',hp',n'⟩ :=
 Zdt (ent ρ (show mtF ρ n' [] [(0,s')] [(0,s)] from ⟨hf,trivial⟩) hp0 hb hρ rfl hm hfix) (ZbT hf)
theorem Zq {m:Nat} {b:Bool} {s s':SV} {hp hp':List (Nat × HB)} {n n':Nat} (hf:mtS id n' s' s) (hp0:mtP id hp' hp n' n') (hb:hpb n' hp') (hm:Nat.ble m n'=true):Wk m ⟨b,s,hp,n⟩ ⟨b,s',hp',n'⟩ :=
 entO id hf hp0 hb (λ_ _ _ _ h=>h) hm (λ_ _=>rfl)
theorem callm {P:Program} {f:FuncId} {args args0:List SV} {d:Option Nat} {σ : St} {r:KT} {K:RK} {hp0:List (Nat × HB)} {n0:Nat} {o:Ot} (ρ : Nat->Nat) (hc:CtM P f hp0 n0 args0 (· = o)) (h1:mtL ρ n0 args0 args) (h2:mtP ρ hp0 σ.hp n0 n0) (h3:Zy9 ρ n0) (h4:∀ i,i < n0->ρ i < σ.n)
 (h5:cmK o.pn (rnS (exR ρ n0 σ.n) o.res) (hpM ρ n0 σ.n o σ.hp) (σ.n+(o.n - n0)) d σ r K):ZcM P f args d σ r K :=
 ⟨hp0,n0,args0,_,ρ,hc,h1,h2,h3,h4,λ_ e=>e ▸ h5⟩
def rho:List Nat->Nat->Nat
 | [],_=>0
 | a :: _,0=>a
 | _ :: l,k+1=>rho l k
theorem Zcb:∀ (l:List Nat) (k:Nat) (h:k < l.length),rho l k=l[k]
 | a :: _,0,_=>rfl
 | _ :: l,k+1,h=>by simpa [rho] using Zcb l k (by simpa using h)
theorem Zi {m0:Nat} {σ σ':St} (hf:mtF id σ'.n [] σ'.fr σ.fr) (hp:mtP id σ'.hp σ.hp σ'.n σ'.n) (hb:hpb σ'.n σ'.hp) (hN:Nat.beq σ'.N σ.N=true) (hm:Nat.ble m0 σ'.n=true):Ent m0 σ σ':=ent id hf hp hb (λ_ _ _ _ h=>h) hN hm (λ_ _=>rfl)
theorem Zyu {fr:List (Nat × SV)} {j j':Nat} {w w' b:Bool} {p:Prop} (hl:lk j fr = .gd j' w' (.v (.bool b))) (h:b=w->p):ZdN (some (j,w)) fr p:=λhg=>h (by have:=(Zf7 hg hl).2;simpa using this)
theorem Zpw {fr:List (Nat × SV)} {j:Nat} {w b:Bool} {p:Prop} (hl:lk j fr = .v (.bool b)) (h:b=w->p):ZdN (some (j,w)) fr p:=λhg=>h (Zyi hg hl)
theorem Zqc {xs:List (List SV)} {i:Int} {σ : St} {r:KT} {L:RK} {d:Option Nat} {j j':Nat} {w w' b:Bool} (n:Nat) (row:List SV) (hl:lk j σ.fr = .gd j' w' (.v (.bool b))) (h:b=w->i=(n:Int)/\xs[n]? = some row) (hk:Yh d (.ps row 0) (some (j,w)) σ r L) :
 IXS (some (j,w)) xs i d σ r L:=⟨row,Zyu hl λe=>⟨n,(h e).1,(h e).2⟩,hk⟩
theorem Zyd {xs:List (List SV)} {i:Int} {σ : St} {r:KT} {L:RK} {d:Option Nat} {j:Nat} {w b:Bool} (n:Nat) (row:List SV) (hl:lk j σ.fr = .v (.bool b)) (h:b=w->i=(n:Int)/\xs[n]? = some row) (hk:Yh d (.ps row 0) (some (j,w)) σ r L) :
 IXS (some (j,w)) xs i d σ r L:=⟨row,Zpw hl λe=>⟨n,(h e).1,(h e).2⟩,hk⟩
theorem Xl {g:Option (Nat × Bool)} {k v m len:Nat} {i:Int} {d:Option Nat} {σ : St} {r:KT} {L:RK} (n:Nat) (hi:i=(n:Int)) (hn:n < len) (hk:Yh d (.pr k v m n 0) g σ r L):IXR g k v m len i d σ r L:=⟨n,ZP.2 λ_=>⟨hi,hn⟩,hk⟩
theorem Vf {α : Type} {l:List α} {f:α->List SV} {g:Option (Nat × Bool)} {i o m:Nat} {ag:Bool} {d:Option Nat} {σ : St} {r:KT} {L:RK} (hn:i < l.length) (hk:XE (Xs (f l[i]) o m ag) d g σ r L):LDR g (l.map f) i o m ag d σ r L:=⟨f l[i],ZP.2 λ_=>by simp [hn],hk⟩
theorem Zcf {α : Type} {l:List α} {f:α->List SV} {j o k v m:Nat} {c:List SV} {T:TypeId} {σ : St} {r:KT} {L:RK} (y:α) (hn:j < l.length) (ho:o+c.length<=(f l[j]).length) (he:Zm (f l[j]) o c=f y)
 (h:r ⟨σ.fr,(k,.row v m ((l.set j y).map f) T) :: σ.hp,σ.n,σ.N,σ.gs⟩ L):STR v (l.map f) j o k m c T σ r L :=
 ⟨f l[j],by simp [hn],ho,by rw [he,<- List.map_set];exact h⟩
theorem Zqu {k v m len:Nat} {i:Int} {d:Option Nat} {σ : St} {r:KT} {L:RK} {j:Nat} {w b:Bool} (n:Nat) (hl:lk j σ.fr = .v (.bool b)) (h:b=w->i=(n:Int)/\n < len) (hk:Yh d (.pr k v m n 0) (some (j,w)) σ r L):IXR (some (j,w)) k v m len i d σ r L:=⟨n,Zpw hl h,hk⟩
theorem Wr {r:List SV} (h:KFL r):∀ n,KFR (List.replicate n r)
 | 0=>trivial
 | n+1=>⟨h,Wr h n⟩
theorem Zr {P:Program} {f:FuncId} {args args0:List SV} {d:Option Nat} {σ : St} {r:KT} {K:RK} {hp0:List (Nat × HB)} {n0:Nat} {Zx:Ot->Prop} (l:List Nat) (hc:CtM P f hp0 n0 args0 Zx) (hn:Nat.beq l.length n0=true) (hi:Zc4 l=true) (hl:Us σ.n l=true)
 (h1:mtL (rho l) n0 args0 args) (h2:mtP (rho l) hp0 σ.hp n0 n0) (h5:∀ o,Zx o->cmK o.pn (rnS (exR (rho l) n0 σ.n) o.res) (hpM (rho l) n0 σ.n o σ.hp) (σ.n+(o.n - n0)) d σ r K):ZcM P f args d σ r K:=by
 have hn:=Nat.eq_of_beq_eq_true hn;refine ⟨hp0,n0,args0,Zx,rho l,hc,h1,h2,λi hi' j hj e=>?_,λi hi'=>?_,h5⟩
 . rw [Zcb l i (by omega),Zcb l j (by omega)] at e;have hp:=List.pairwise_iff_getElem.1 (Ws hi);rcases Nat.lt_trichotomy i j with h | h | h
   . exact absurd e (hp i j _ _ h)
   . exact h
   . exact absurd e.symm (hp j i _ _ h)
 . rw [Zcb l i (by omega)];exact UY hl _ (List.getElem_mem _)
theorem YQ {P:Program} {d:Option Nat} {op:BinOp} {t t' ty u:Nat} {c x v:Value} {σ : St} {r:KT} {K:RK} (hl:lk u σ.fr = .v x) (hop:op = .and\/op = .shr) (hr:∀ w:World,(binOp op t x c).run P w = .ok v w) (hv:v.oneCell'=true) (hk:Yh d (.v v) none σ r K) :
 RAW P d (.binOp op t (.tmp u) (.const c) t') ty σ r K:=by
 intro o C E a w next Q h1 h2 h3 hs hn hq;have hx:a.eval (.tmp u)=x:=by
  have:=hs.fr u;rw [hl] at this;simp only [FR,R] at this;exact this
 have hrun:(execOp a.eval o).run P w = .ok (.value v) w:=by
  obtain ⟨dst,op',ty',pos,after,guard⟩:=o;simp only at h2;subst h2;have hc:a.eval (.const c)=c:=rfl;simp only [execOp,hx,hc];rcases hop with rfl | rfl<;>simp [Sem.run_bind,eqGuard,hr]
 refine ZA hrun (by simp) ?_;show next (a.put o.dst v) w;rcases Wf hk with ⟨g1,g2⟩ | ⟨t,g1,g2,g3,g4,g5⟩
 . have hS:=hs;rw [h1,g1];exact hn _ E _ _ g2 hS
 . rw [h1,g1];exact hn _ E _ _ g5 (YJ hs (λb hb _=>⟨hb,rfl⟩) (λ_ _=>Ele.rfl) (Nat.le_refl _) hs.hs g2 g3 (λj b u e=>by rw [e] at g4;cases g4) (by simp only [R]))
theorem Zib {P:Program} {k v m u i L t ty:Nat} {xs:List (List SV)} {T:TypeId} {z:Value} {zl:List Value} {σ : St} {r:KT} {K:RK} (hl:lk u σ.fr = .ms k v m i L) (hk:lkh k σ.hp = .row v m xs T) (hL:i+L<=xs.length)
 (ht:P.underlying t=some (.slice T)) (hz:Yl P T=some z) (hzl:z.cells.toList=zl) (hzm:Nat.beq zl.length m=true) (hz1:∀ v ∈ zl,v.oneCell'=true)
 (h:r ⟨σ.fr,(k,.row v m (xs.take i ++ (List.replicate L (zl.map SV.v) ++ xs.drop (i+L))) T) :: σ.hp,σ.n,σ.N,σ.gs⟩ K) :
 RAW P none (.call { callee:=.builtin .clear,args:=#[.tmp u],argTypes:=#[t] }) ty σ r K:=by
 have hzm:=Nat.eq_of_beq_eq_true hzm;intro o C E a w next Q h1 h2 h3 hs hn hq;have hv:=ZpU (hs.fr u) (λj b u' e=>by rw [hl] at e;cases e);rw [hl] at hv;have hb:=hs.hs.bk k;rw [hk] at hb;simp only [R] at hv;obtain ⟨_,_,a0,len,cap,g1,g2,g3⟩:=hv;have hst:∀ {w'},(Builtin.clear_ #[t] ty #[a.tmps.getD u undef]).run P w = .ok (.tuple #[]) w'->(execOp a.eval o).run P w = .ok (.value (.tuple #[])) w':=λh=>by
  obtain ⟨dst,op',ty',pos,after,guard⟩:=o;simp only at h2 h3;subst h2;subst h3;simp only [Array.getD_eq_getD_getElem?] at h;simp [execOp,resolve,invoke,builtin,Act.eval,h]
 by_cases hL0:L=0
 . subst hL0;have hre:∀ j,lkh j ((k,.row v m (xs.take i ++ (List.replicate 0 (zl.map SV.v) ++ xs.drop (i+0))) T) :: σ.hp)=lkh j σ.hp:=λj=>by
    rw [Zl];split
    . rename_i hj;subst hj;rw [hk];simp
    . rfl
   obtain ⟨q1,q2⟩:=Zao hs.hs hre;have hrun:(Builtin.clear_ #[t] ty #[a.tmps.getD u undef]).run P w = .ok (.tuple #[]) w:=by
    rw [g3];generalize (if cap - i=0 then a0 else a0.map (·.add (i * m)))=ad;cases ad<;>simp [Builtin.clear_,Sem.run_bind,run_underlying ht]
   refine ZA (hst hrun) (by simp) ?_;show next (a.put o.dst _) w;rw [h1];exact hn _ E _ _ h (Ya hs q2 (λ_ _=>Ele.rfl) (Nat.le_refl _) q1)
 . simp only [Z0] at hb;rcases hb with ⟨his,⟨q0,a1,q1⟩ | ⟨b,cap',cs,q1,q2,q3,q4,q5,q6,q7⟩⟩
   . rw [q0] at hL;simp at hL;omega
   rw [q1] at g1;cases g1;have hrep:((List.replicate L zl).flatten).length=L * m:=by simp [hzm]
   have hiN:i * m+L * m<=xs.length * m:=by rw [<- Nat.add_mul];exact Nat.mul_le_mul_right m (by omega)
   have hcap:xs.length * m<=cap * m:=Nat.mul_le_mul_right m q4.1;have q3':cs.toList.length=cap * m:=by rw [Array.length_toList];exact q3
   obtain ⟨w',s1,s2⟩:=Yx (P:=P) ((List.replicate L zl).flatten) (w:=w) (b:=b) (o:=i * m) (i:=0) (cs:=cs.toList) (T:=T) (by simpa using q2) (by rw [hrep,q3'];omega) (λu hu'=>by
    obtain ⟨l',hl1,hl2⟩:=List.mem_flatten.1 hu'
    rw [List.eq_of_mem_replicate hl1] at hl2;exact hz1 u hl2)
   have hrun:(Builtin.clear_ #[t] ty #[a.tmps.getD u undef]).run P w = .ok (.tuple #[]) w':=by
    rw [g3,if_neg (by omega)];have e:(Builtin.zeroCells z.cells L).toList=(List.replicate L zl).flatten:=by rw [<- hzl];exact Zd6 _ _
    obtain ⟨L',rfl⟩:∃ L',L=L'+1:=⟨L - 1,by omega⟩
    simp only [Builtin.clear_,Option.map_some,Yu,Nat.zero_add];simp [Sem.run_bind,run_underlying ht,Xg hz,e,s1]
   have hlens:∀ r ∈ xs.take i ++ (List.replicate L (zl.map SV.v) ++ xs.drop (i+L)),r.length=m:=λr hr=>by
    rcases List.mem_append.1 hr with hr | hr
    . exact q6 r (List.mem_of_mem_take hr)
    . rcases List.mem_append.1 hr with hr | hr
      . rw [List.eq_of_mem_replicate hr,List.length_map];exact hzm
      . exact q6 r (List.mem_of_mem_drop hr)
   have hlen:(xs.take i ++ (List.replicate L (zl.map SV.v) ++ xs.drop (i+L))).length=xs.length:=by
    simp only [List.length_append,List.length_take,List.length_drop,List.length_replicate];omega
   have hocc:∀ b',occ E k (.row v m (xs.take i ++ (List.replicate L (zl.map SV.v) ++ xs.drop (i+L))) T) b'↔occ E k (lkh k σ.hp) b':=λb'=>by rw [hk];rfl
   obtain ⟨p1,p2⟩:=YP hs.hs (hb:=.row v m (xs.take i ++ (List.replicate L (zl.map SV.v) ++ xs.drop (i+L))) T) hocc (by rw [hk];exact ⟨_,_,q1,q4.2⟩) s2 (λhst=>by
    simp only [Z0];refine ⟨his,.inr ⟨b,cap,_,by rw [hlen];exact q1,s2.here,by simp [ZI,q3],by rw [hlen];exact q4,by rw [hlen];exact q5,hlens,?_⟩⟩;rw [hlen,List.flatten_append,List.flatten_append,Wl i q6,Vg (i+L) q6];rw [List.toList_toArray,Nat.add_zero,YE (by rw [hrep];omega) (by rw [q3'];omega),Wz _ _ _ (by rw [hrep,List.length_take,q3'];omega),hrep,<- Nat.add_mul];have hzz:(List.replicate L (zl.map SV.v)).flatten=((List.replicate L zl).flatten).map SV.v:=by simp
    rw [hzz]
    exact ZZ (Xm _ (ZC hst.c (λ_ _=>Ele.rfl) (λ_ h=>h) _ _ q7)) (ZZ (Zyb _) (XA _ (ZC hst.c (λ_ _=>Ele.rfl) (λ_ h=>h) _ _ q7))))
   refine ZA (hst hrun) (by simp) ?_;show next (a.put o.dst _) w';rw [h1];exact hn _ E _ _ h (Ya hs p2 (λ_ _=>Ele.rfl) (Nat.le_refl _) p1)
theorem w64_0:IntKind.i64.wrap 0=0:=rfl
theorem ZbQ:IntKind.i64.wrap 1=1:=rfl
theorem Zbv:IntKind.i64.wrap 2=2:=rfl
theorem w64_3:IntKind.i64.wrap 3=3:=rfl
theorem w64_4:IntKind.i64.wrap 4=4:=rfl
theorem w64_5:IntKind.i64.wrap 5=5:=rfl
theorem w64_6:IntKind.i64.wrap 6=6:=rfl
theorem VH {a b A B:Int} (h1:0<=a) (h2:a<=A) (h3:0<=b) (h4:b<=B):0<=a * b/\a * b<=A * B:=⟨Int.mul_nonneg h1 h3,Int.mul_le_mul h2 h4 h3 (by omega)⟩
def lkB (b:Bool) (s:SV) (t:Nat) (r:List (Nat × SV)):SV:=bif b then s else lk t r
def lkhB (b:Bool) (s:HB) (t:Nat) (r:List (Nat × HB)):HB:=bif b then s else lkh t r
def Zsb (b:Bool) (t:Nat) (r:List Nat):Bool:=bif b then true else YT t r
def blkE (b:Bool) (i:Nat) (K:Ex->St->Prop) (σ : St):Prop:=bif b then K .n σ else K (.ex i) σ
def Zqz (b:Bool) (s:SV):Option (List SV):=bif b then some [s] else none
def ZxD (c:Bool) (b:BinOp) (k:IntKind) (x y:Int):Option SV:=bif c then Ze9 b k x y else none
def ZyK (b:Bool) (l:List SV) (o m:Nat):Option SV:=bif b then some (.agg ((l.drop o).take m)) else none
theorem lkB_t (s:SV) (t:Nat) (r:List (Nat × SV)):lkB true s t r=s:=rfl
theorem lkB_f (s:SV) (t:Nat) (r:List (Nat × SV)):lkB false s t r=lk t r:=rfl
theorem Zx4 (s:HB) (t:Nat) (r:List (Nat × HB)):lkhB true s t r=s:=rfl
theorem Zwx (s:HB) (t:Nat) (r:List (Nat × HB)):lkhB false s t r=lkh t r:=rfl
theorem ZtO (t:Nat) (r:List Nat):Zsb true t r=true:=rfl
theorem Ztm (t:Nat) (r:List Nat):Zsb false t r=YT t r:=rfl
theorem Zwq (i:Nat) (K:Ex->St->Prop) (σ : St):blkE true i K σ = K .n σ:=rfl
theorem ZxX (i:Nat) (K:Ex->St->Prop) (σ : St):blkE false i K σ = K (.ex i) σ:=rfl
theorem Zo9 (s:SV):Zqz true s=some [s]:=rfl
theorem Zts (b:BinOp) (k:IntKind) (x y:Int):ZxD true b k x y=Ze9 b k x y:=rfl
theorem ZtC (l:List SV) (o m:Nat):ZyK true l o m=some (.agg ((l.drop o).take m)):=rfl
def mmE (k:IntKind):Option Int->Option SV
 | some z=>some (.v (.int k z))
 | none=>none
def chkB (b:Bool) (l:List SV) (ls:List (List SV)):Option (List (List SV)):=bif b then some (l :: ls) else none
theorem ZwP (l:List SV) (ls:List (List SV)):chkB true l ls=some (l :: ls):=rfl
theorem Zx7 (b:Bool):WQ true b=b:=rfl
theorem Zxd (b:Bool):WQ false b=false:=rfl
def vwP (g:SV->SV) (o:Nat):HB->SV
 | .cells l _=>.ps (ZaW g l) o
 | _=>.any
def vwM (v:Nat):HB->SV
 | .row v' m xs _=>vwN (Nat.beq v v') m xs
 | .rws v' m xs _ o m' inn _=>vwR (Nat.beq v v') (Nat.ble (v'+1) v) m m' (ZdO o m' inn xs) (inn[v - (v'+1)]?)
 | _=>.any
def cvtM (v:Nat):HB->SV
 | .row v' m xs _=>vwN (Nat.beq v v') m xs
 | _=>.any
def rvH (o m:Nat) (ag:Bool):HB->Option SV
 | .cells l _=>Xs l o m ag
 | _=>none
def rvX (hp:List (Nat × HB)) (m:Nat) (ag:Bool):SV->Option SV
 | .p k o=>rvH o m ag (lkh k hp)
 | _=>none
def pvF (o m:Nat) (ag:Bool):SV->Option SV
 | .agg l=>Xs l o m ag
 | _=>none
def pvC (k:IntKind):SV->Option SV
 | .v (.int _ n)=>some (.v (.int k (k.wrap n)))
 | _=>none
def pvE (i:Nat):SV->Option SV
 | .tup l=>nth l i
 | _=>none
theorem e_lk (t u:Nat) (s:SV) (r:List (Nat × SV)):lk t ((u,s) :: r)=lkB (Nat.beq t u) s t r:=rfl
theorem e_lk0 (t:Nat):lk t [] = .any:=rfl
theorem e_lkh (t u:Nat) (s:HB) (r:List (Nat × HB)):lkh t ((u,s) :: r)=lkhB (Nat.beq t u) s t r:=rfl
theorem ZwA (t:Nat):lkh t [] = .gone:=rfl
theorem Zx9 (t u:Nat) (r:List Nat):YT t (u :: r)=Zsb (Nat.beq t u) t r:=rfl
theorem ZsC (t:Nat):YT t []=false:=rfl
theorem e_blk (id i:Nat) (K:Ex->St->Prop) (σ : St):Zqh id K (.ex i) σ = blkE (Nat.beq i id) i K σ:=rfl
theorem Zgu (g:Option (Nat × Bool)) (fr:List (Nat × SV)) (x:Value):YG g fr (.v x)=(.v x):=rfl
theorem ZkH (t:Nat) (r:List (Nat × SV)) (x:Value):Yi ((t,(.v x)) :: r)=(t,(.v x)) :: Yi r:=rfl
theorem Ztt (hp:List (Nat × HB)) (x:Value):cvt hp (.v x)=(.v x):=rfl
theorem Zq0 (hp:List (Nat × HB)) (g:SV->SV) (x:Value):vwS hp g (.v x)=(.v x):=rfl
theorem ZqO (x:Value):vw0 (.v x)=(.v x):=rfl
theorem ZjJ (x:Value):Ye (.v x)=Zqz (Zi7 x) (.v x):=rfl
theorem Zo2 (x:Value):UD (.v x)=Zi7 x:=rfl
theorem ZgZ (g:Option (Nat × Bool)) (fr:List (Nat × SV)) (k o:Nat):YG g fr (.p k o)=(.p k o):=rfl
theorem ZmG (t:Nat) (r:List (Nat × SV)) (k o:Nat):Yi ((t,(.p k o)) :: r)=(t,(.p k o)) :: Yi r:=rfl
theorem ZrX (hp:List (Nat × HB)) (k o:Nat):cvt hp (.p k o)=(.p k o):=rfl
theorem ZrE (hp:List (Nat × HB)) (g:SV->SV) (k o:Nat):vwS hp g (.p k o)=vwP g o (lkh k hp):=rfl
theorem Zu2 (k o:Nat):vw0 (.p k o) = .any:=rfl
theorem Zie (k o:Nat):Ye (.p k o)=some [(.p k o)]:=rfl
theorem Zn5 (k o:Nat):UD (.p k o)=true:=rfl
theorem ZdQ (g:Option (Nat × Bool)) (fr:List (Nat × SV)) (l:List SV):YG g fr (.agg l)=(.agg l):=rfl
theorem Zf8 (t:Nat) (r:List (Nat × SV)) (l:List SV):Yi ((t,(.agg l)) :: r)=(t,(.agg l)) :: Yi r:=rfl
theorem Zi6 (hp:List (Nat × HB)) (l:List SV):cvt hp (.agg l) = .agg (Zj8 hp l):=rfl
theorem ZhE (hp:List (Nat × HB)) (g:SV->SV) (l:List SV):vwS hp g (.agg l) = .agg (ZaW g l):=rfl
theorem Zg6 (l:List SV):vw0 (.agg l) = .any:=rfl
theorem ZdR (l:List SV):Ye (.agg l)=some l:=rfl
theorem Ze0 (l:List SV):UD (.agg l)=false:=rfl
theorem ZeI (g:Option (Nat × Bool)) (fr:List (Nat × SV)) (c:Bool) (m:Nat) (xs:List (List SV)):YG g fr (.sl c m xs)=(.sl c m xs):=rfl
theorem ZjQ (t:Nat) (r:List (Nat × SV)) (c:Bool) (m:Nat) (xs:List (List SV)):Yi ((t,(.sl c m xs)) :: r)=(t,(.sl c m xs)) :: Yi r:=rfl
theorem ZnV (hp:List (Nat × HB)) (c:Bool) (m:Nat) (xs:List (List SV)):cvt hp (.sl c m xs)=(.sl c m xs):=rfl
theorem Zm4 (hp:List (Nat × HB)) (g:SV->SV) (c:Bool) (m:Nat) (xs:List (List SV)):vwS hp g (.sl c m xs)=(.sl c m xs):=rfl
theorem ZoS (c:Bool) (m:Nat) (xs:List (List SV)):vw0 (.sl c m xs)=(.sl c m xs):=rfl
theorem ZeY (c:Bool) (m:Nat) (xs:List (List SV)):Ye (.sl c m xs)=some [(.sl c m xs)]:=rfl
theorem ZiA (c:Bool) (m:Nat) (xs:List (List SV)):UD (.sl c m xs)=true:=rfl
theorem ZqW (l:List SV):pmS [] l=[]:=rfl
theorem ZfS (g:Option (Nat × Bool)) (fr:List (Nat × SV)) (k v:Nat):YG g fr (.mr k v)=(.mr k v):=rfl
theorem ZiO (t:Nat) (r:List (Nat × SV)) (k v:Nat):Yi ((t,(.mr k v)) :: r)=(t,(.mr k v)) :: Yi r:=rfl
theorem ZnF (hp:List (Nat × HB)) (k v:Nat):cvt hp (.mr k v)=cvtM v (lkh k hp):=rfl
theorem Zle (hp:List (Nat × HB)) (g:SV->SV) (k v:Nat):vwS hp g (.mr k v)=vwM v (lkh k hp):=rfl
theorem Zlg (k v:Nat):vw0 (.mr k v) = .any:=rfl
theorem Zfc (k v:Nat):Ye (.mr k v)=some [(.mr k v)]:=rfl
theorem ZgF (k v:Nat):UD (.mr k v)=true:=rfl
theorem Zf3 (g:Option (Nat × Bool)) (fr:List (Nat × SV)) (k v m i o:Nat):YG g fr (.pr k v m i o)=(.pr k v m i o):=rfl
theorem ZfR (g:Option (Nat × Bool)) (fr:List (Nat × SV)) (k v m i o:Nat):YG g fr (.ms k v m i o)=(.ms k v m i o):=rfl
theorem Zhj (t:Nat) (r:List (Nat × SV)) (k v m i o:Nat):Yi ((t,(.pr k v m i o)) :: r)=(t,(.pr k v m i o)) :: Yi r:=rfl
theorem ZhT (t:Nat) (r:List (Nat × SV)) (k v m i o:Nat):Yi ((t,(.ms k v m i o)) :: r)=(t,(.ms k v m i o)) :: Yi r:=rfl
theorem Zpi (hp:List (Nat × HB)) (k v m i o:Nat):cvt hp (.pr k v m i o)=(.pr k v m i o):=rfl
theorem ZnU (hp:List (Nat × HB)) (k v m i o:Nat):cvt hp (.ms k v m i o)=(.ms k v m i o):=rfl
theorem Zlv (hp:List (Nat × HB)) (g:SV->SV) (k v m i o:Nat):vwS hp g (.pr k v m i o)=(.pr k v m i o):=rfl
theorem ZnZ (hp:List (Nat × HB)) (g:SV->SV) (k v m i o:Nat):vwS hp g (.ms k v m i o)=(.ms k v m i o):=rfl
theorem Zla (k v m i o:Nat):vw0 (.pr k v m i o) = .any:=rfl
theorem Zlk (k v m i o:Nat):vw0 (.ms k v m i o) = .any:=rfl
theorem ZeX (k v m i o:Nat):Ye (.pr k v m i o)=some [(.pr k v m i o)]:=rfl
theorem Zgg (k v m i o:Nat):Ye (.ms k v m i o)=some [(.ms k v m i o)]:=rfl
theorem Zi0 (k v m i o:Nat):UD (.pr k v m i o)=true:=rfl
theorem Zjr (k v m i o:Nat):UD (.ms k v m i o)=true:=rfl
theorem ZfZ (g:Option (Nat × Bool)) (fr:List (Nat × SV)) (row:List SV) (o:Nat):YG g fr (.ps row o)=(.ps row o):=rfl
theorem ZhB (t:Nat) (r:List (Nat × SV)) (row:List SV) (o:Nat):Yi ((t,(.ps row o)) :: r)=(t,(.ps row o)) :: Yi r:=rfl
theorem Zob (hp:List (Nat × HB)) (row:List SV) (o:Nat):cvt hp (.ps row o)=(.ps row o):=rfl
theorem Zpp (hp:List (Nat × HB)) (g:SV->SV) (l:List SV) (o:Nat):vwS hp g (.ps l o) = .ps (ZaW g l) o:=rfl
theorem Zms (row:List SV) (o:Nat):vw0 (.ps row o) = .any:=rfl
theorem Zfj (row:List SV) (o:Nat):Ye (.ps row o)=some [(.ps row o)]:=rfl
theorem Zi1 (row:List SV) (o:Nat):UD (.ps row o)=true:=rfl
theorem ZeZ (g:Option (Nat × Bool)) (fr:List (Nat × SV)) (f:FuncId) (l:List SV):YG g fr (.cl f l)=(.cl f l):=rfl
theorem ZhR (t:Nat) (r:List (Nat × SV)) (f:FuncId) (l:List SV):Yi ((t,(.cl f l)) :: r)=(t,(.cl f l)) :: Yi r:=rfl
theorem ZoR (hp:List (Nat × HB)) (f:FuncId) (l:List SV):cvt hp (.cl f l)=(.cl f l):=rfl
theorem ZpC (hp:List (Nat × HB)) (g:SV->SV) (f:FuncId) (l:List SV):vwS hp g (.cl f l) = .cl f (ZaW g l):=rfl
theorem ZpB (f:FuncId) (l:List SV):vw0 (.cl f l) = .any:=rfl
theorem ZfW (f:FuncId) (l:List SV):Ye (.cl f l)=some [(.cl f l)]:=rfl
theorem ZiK (f:FuncId) (l:List SV):UD (.cl f l)=true:=rfl
theorem ZdA (g:Option (Nat × Bool)) (fr:List (Nat × SV)) (l:List SV):YG g fr (.tup l)=(.tup l):=rfl
theorem Zf9 (t:Nat) (r:List (Nat × SV)) (l:List SV):Yi ((t,(.tup l)) :: r)=(t,(.tup l)) :: Yi r:=rfl
theorem Zju (hp:List (Nat × HB)) (l:List SV):cvt hp (.tup l) = .tup (Zj8 hp l):=rfl
theorem ZjE (hp:List (Nat × HB)) (g:SV->SV) (l:List SV):vwS hp g (.tup l) = .tup (ZaW g l):=rfl
theorem ZiW (l:List SV):vw0 (.tup l) = .any:=rfl
theorem ZeN (l:List SV):UD (.tup l)=false:=rfl
theorem Zj9 (g:Option (Nat × Bool)) (fr:List (Nat × SV)) (φ : VP):YG g fr (.q φ)=(.q φ):=rfl
theorem Znj (t:Nat) (r:List (Nat × SV)) (φ : VP):Yi ((t,(.q φ)) :: r)=(t,(.q φ)) :: Yi r:=rfl
theorem ZuT (hp:List (Nat × HB)) (φ : VP):cvt hp (.q φ)=(.q φ):=rfl
theorem Zuh (hp:List (Nat × HB)) (g:SV->SV) (φ : VP):vwS hp g (.q φ)=(.q φ):=rfl
theorem ZsY (φ : VP):vw0 (.q φ)=(.q φ):=rfl
theorem Zh1 (φ : VP):Ye (.q φ)=some [(.q φ)]:=rfl
theorem Zoo (φ : VP):UD (.q φ)=true:=rfl
theorem Zfg (g:Option (Nat × Bool)) (fr:List (Nat × SV)) (k:Nat):YG g fr (.mp k)=(.mp k):=rfl
theorem Zh2 (t:Nat) (r:List (Nat × SV)) (k:Nat):Yi ((t,(.mp k)) :: r)=(t,(.mp k)) :: Yi r:=rfl
theorem Zm8 (hp:List (Nat × HB)) (k:Nat):cvt hp (.mp k)=(.mp k):=rfl
theorem Zpt (hp:List (Nat × HB)) (g:SV->SV) (k:Nat):vwS hp g (.mp k) = .any:=rfl
theorem Zk3 (k:Nat):vw0 (.mp k) = .any:=rfl
theorem ZfO (k:Nat):Ye (.mp k)=some [(.mp k)]:=rfl
theorem ZjK (k:Nat):UD (.mp k)=true:=rfl
theorem ZfH (g:Option (Nat × Bool)) (fr:List (Nat × SV)) (k:Nat):YG g fr (.yl k)=(.yl k):=rfl
theorem ZgJ (t:Nat) (r:List (Nat × SV)) (k:Nat):Yi ((t,(.yl k)) :: r)=(t,(.yl k)) :: Yi r:=rfl
theorem Zfw (k:Nat):Ye (.yl k)=some [(.yl k)]:=rfl
theorem Zik (k:Nat):UD (.yl k)=true:=rfl
theorem Zdo (g:Option (Nat × Bool)) (fr:List (Nat × SV)) (T:TypeId) (s:SV):YG g fr (.ifc T s)=(.ifc T s):=rfl
theorem Zga (t:Nat) (r:List (Nat × SV)) (T:TypeId) (s:SV):Yi ((t,(.ifc T s)) :: r)=(t,(.ifc T s)) :: Yi r:=rfl
theorem Zhq (hp:List (Nat × HB)) (T:TypeId) (s:SV):cvt hp (.ifc T s) = .ifc T (cvt hp s):=rfl
theorem Zim (hp:List (Nat × HB)) (g:SV->SV) (T:TypeId) (s:SV):vwS hp g (.ifc T s) = .ifc T (g s):=rfl
theorem Zke (T:TypeId) (s:SV):vw0 (.ifc T s) = .any:=rfl
theorem Zdv (T:TypeId) (s:SV):Ye (.ifc T s)=some [(.ifc T s)]:=rfl
theorem ZfY (T:TypeId) (s:SV):UD (.ifc T s)=true:=rfl
theorem Zc8 (P:Program) (Y:Hd) (d:Option Nat) (σ : St) (r:KT) (K:RK) (f:FuncId) (as:List X):stp P Y d (.callm f as) σ r K=ZcM P f (VN (rdG none σ.fr) as) d σ r K:=rfl
theorem Zc7 (P:Program) (Y:Hd) (d:Option Nat) (σ : St) (r:KT) (K:RK) (x:X) (as:List X):stp P Y d (.calvm x as) σ r K=ZfB P Y (rdG none σ.fr x) (VN (rdG none σ.fr) as) d σ r K:=rfl
theorem e_yld (asg body:Nat->CT) (ps:List Nat) (kl:Nat) (rec:Loop) (fr:List (Nat × SV)) (N k:Nat) (args:List SV) (d:Option Nat) (σ : St) (r:KT) (K:RK):YLD (hdR asg body ps kl rec fr N) k args d σ r K =
 rfB (Nat.beq k kl) (Zp7 rec (lkh kl σ.hp)/\rfB (Zkm args ps) (asg σ.n ⟨pmS ps args ++ fr,σ.hp,σ.n,N,[]⟩ (asE kl rec (body σ.n) (bdE kl rec λo=>cmK o.pn o.res o.hp o.n d σ r K)))):=rfl
theorem e_exR (ρ : Nat->Nat) (n0 n k:Nat):exR ρ n0 n k=exB (Nat.blt k n0) (ρ k) (n+(k - n0)):=rfl
theorem e_hpM (ρ : Nat->Nat) (n0 n:Nat) (o:Ot) (hp:List (Nat × HB)):hpM ρ n0 n o hp=rnP (exR ρ n0 n) o.hp ++ (ZaN ρ n0 ++ hp):=rfl
theorem Zhv (P:Program) (Y:Hd) (m:Nat) (g:X) (ps:List Nat) (asg body:SC) (σ : St) (K:Ex->St->Prop):sx P Y m (.rfun g ps asg body) σ K=rfK P (λn=>sx P Y0 n asg) (λn=>sx P Y0 n body) (rdG none σ.fr g) ps σ K:=rfl
theorem ZdF (g:Option (Nat × Bool)) (fr:List (Nat × SV))  : YG g fr (.any)=(.any):=rfl
theorem Zf2 (t:Nat) (r:List (Nat × SV))  : Yi ((t,(.any)) :: r)=(t,(.any)) :: Yi r:=rfl
theorem ZiL (hp:List (Nat × HB))  : cvt hp (.any)=(.any):=rfl
theorem Ziz (hp:List (Nat × HB)) (g:SV->SV)  : vwS hp g (.any)=(.any):=rfl
theorem Zi3  : vw0 (.any) = .any:=rfl
theorem ZfE  : UD (.any)=false:=rfl
theorem Zit (t j:Nat) (w:Bool) (s:SV) (r:List (Nat × SV)):Yi ((t,.gd j w s) :: r)=(t,.any) :: Yi r:=rfl
theorem Zr0  : Yi []=[]:=rfl
theorem Zc9 (fr:List (Nat × SV)) (j:Nat) (w:Bool) (s:SV):YG none fr (.gd j w s) = .any:=rfl
theorem Zf4 (fr:List (Nat × SV)) (j j0:Nat) (w w0:Bool) (s:SV):YG (some (j0,w0)) fr (.gd j w s)=Zdq (alw 8 fr j0 w0 j w) s:=rfl
theorem ZdJ (b:Bool):Zi7 (.bool b)=true:=rfl
theorem Ze4 (k:IntKind) (n:Int):Zi7 (.int k n)=true:=rfl
theorem ZbF (s:ByteArray):Zi7 (.string s)=true:=rfl
theorem ZaY (p:Option Addr):Zi7 (.pointer p)=true:=rfl
theorem Zct (a:Option Addr) (l c:Nat):Zi7 (.slice a l c)=true:=rfl
theorem ZaU  : Zi7 .nilFunc=true:=rfl
theorem Zaq  : Zi7 .nilIface=true:=rfl
theorem e_rdG (g:Option (Nat × Bool)) (fr:List (Nat × SV)) (x:X):rdG g fr x=YG g fr (rd fr x):=rfl
theorem ZyL (fr:List (Nat × SV)) (n:Nat):rd fr (.t n)=lk n fr:=rfl
theorem Zx8 (fr:List (Nat × SV)) (x:Value):rd fr (.c x) = .v x:=rfl
theorem ZxL (fr:List (Nat × SV)) (i:Nat):rd fr (.f i) = .cl i []:=rfl
theorem Zwu (fr:List (Nat × SV)) (i:Nat):rd fr (.g i)=gtS (GT i):=rfl
theorem ZrH (l:List SV):gtS (some l) = .ps l 0:=rfl
theorem e_alw (f:Nat) (fr:List (Nat × SV)) (j0:Nat) (w0:Bool) (j:Nat) (w:Bool):alw (f+1) fr j0 w0 j w=Zv8 (Zfb (Nat.beq j0 j) w0 w) (lk j0 fr) (alw f fr) j w:=rfl
theorem Zwl (fr:List (Nat × SV)) (j0:Nat) (w0:Bool) (j:Nat) (w:Bool):alw 0 fr j0 w0 j w=false:=rfl
theorem e_vw1 (hp:List (Nat × HB)) (s:SV):vw1 hp s=vwS hp vw0 s:=rfl
theorem e_vw2 (hp:List (Nat × HB)) (s:SV):vw2 hp s=vwS hp (vw1 hp) s:=rfl
theorem e_vw3 (hp:List (Nat × HB)) (s:SV):vw3 hp s=vwS hp (vw2 hp) s:=rfl
theorem e_vw4 (hp:List (Nat × HB)) (s:SV):vw4 hp s=vwS hp (vw3 hp) s:=rfl
theorem Zlu (fr:List (Nat × SV)) (hp:List (Nat × HB)) (n N:Nat):WT ⟨fr,hp,n,N,[]⟩=⟨fr,hp,n,N,[]⟩:=rfl
theorem ZlV (fr:List (Nat × SV)) (hp:List (Nat × HB)) (n N j:Nat) (l:List Nat):WT ⟨fr,hp,n,N,j :: l⟩=⟨Yi fr,hp,n,N,[]⟩:=rfl
theorem Zww (b:BinOp) (k j:IntKind) (x y:Int):ZvN b (.v (.int k x)) (.v (.int j y))=ZxD (Zce k j) b k x y:=rfl
theorem Zg8 (b:Bool):uni .not (.v (.bool b))=some (.v (.bool (!b))):=rfl
theorem Ziw (k:IntKind) (n:Int):uni .neg (.v (.int k n))=some (.v (.int k (k.wrap (0 - n)))):=rfl
theorem Zfu (k:IntKind) (x y:Int):Ze9 .add k x y=some (.v (.int k (k.wrap (x+y)))):=rfl
theorem ZfU (k:IntKind) (x y:Int):Ze9 .sub k x y=some (.v (.int k (k.wrap (x - y)))):=rfl
theorem ZeT (k:IntKind) (x y:Int):Ze9 .mul k x y=some (.v (.int k (k.wrap (x * y)))):=rfl
theorem ZfP (k:IntKind) (x y:Int):Ze9 .eql k x y=some (.v (.bool (x == y))):=rfl
theorem Ze8 (k:IntKind) (x y:Int):Ze9 .neq k x y=some (.v (.bool (x != y))):=rfl
theorem ZfT (k:IntKind) (x y:Int):Ze9 .lss k x y=some (.v (.bool (decide (x < y)))):=rfl
theorem ZfF (k:IntKind) (x y:Int):Ze9 .leq k x y=some (.v (.bool (decide (x<=y)))):=rfl
theorem Zfh (k:IntKind) (x y:Int):Ze9 .gtr k x y=some (.v (.bool (decide (x > y)))):=rfl
theorem ZeK (k:IntKind) (x y:Int):Ze9 .geq k x y=some (.v (.bool (decide (x ≥ y)))):=rfl
theorem ZiJ  : Zce .i8 .i8=true:=rfl
theorem Ze3  : Zce .i16 .i16=true:=rfl
theorem Zfx  : Zce .i32 .i32=true:=rfl
theorem ZeM  : Zce .i64 .i64=true:=rfl
theorem Zhw  : Zce .u8 .u8=true:=rfl
theorem Ze1  : Zce .u16 .u16=true:=rfl
theorem Zf6  : Zce .u32 .u32=true:=rfl
theorem Zgb  : Zce .u64 .u64=true:=rfl
theorem Zoy (o:Nat) (k q:Nat):VG o (.p k q)=some (.p k (q+o)):=rfl
theorem ZoH (k q:Nat):ZcR (.p k q)=some (.p k q):=rfl
theorem Zha (o:Nat) (k v m i q:Nat):VG o (.pr k v m i q)=some (.pr k v m i (q+o)):=rfl
theorem Ziv (k v m i q:Nat):ZcR (.pr k v m i q)=some (.pr k v m i q):=rfl
theorem Zih (o:Nat) (row:List SV) (q:Nat):VG o (.ps row q)=some (.ps row (q+o)):=rfl
theorem Zkb (row:List SV) (q:Nat):ZcR (.ps row q)=some (.ps row q):=rfl
theorem ZoQ (l:List SV) (o m:Nat):Xs l o m true=ZyK (Nat.ble (o+m) l.length) l o m:=rfl
theorem Zlf (l:List SV) (o m:Nat):Xs l o m false=nth l o:=rfl
theorem ZxZ (mx:Bool) (x:Int):mmf mx x []=some x:=rfl
theorem Zuv (k:IntKind) (x y:Int) (r:List SV):mmf true x (.v (.int k y) :: r)=mmf true (max x y) r:=rfl
theorem Zsn (k:IntKind) (x y:Int) (r:List SV):mmf false x (.v (.int k y) :: r)=mmf false (min x y) r:=rfl
theorem e_mm (mx:Bool) (k:IntKind) (x:Int) (r:List SV):mmS mx (.v (.int k x) :: r)=mmE k (mmf mx x r):=rfl
theorem e_bld (ρ : X->SV) (z:List SV) (ps:List (Nat × Nat × X)):bld ρ z ps=Zkh z (Zpf ρ ps):=rfl
theorem ZfC (ρ : X->SV) (z:List Value) (ps:List (Nat × Nat × X)):pv ρ (.build z ps)=Zyl (bld ρ (lit z) ps):=rfl
theorem ZwU (l:List SV) (m:Nat) (ls:List (List SV)):ZvL (some l) m (some ls)=chkB (chk l m) l ls:=rfl
theorem ZlY (s:SV) (l:List SV):Ys (s :: l)=WQ (UD s) (Ys l):=rfl
theorem ZgT  : Ys []=true:=rfl
theorem ZoG (fr:List (Nat × SV)) (g:Option (Nat × Bool)) (t:Nat) (b:X):Zff fr g (.t t) (.c (.bool true)) b=ZfI (rdG g fr (.t t)) (rdG (some (t,false)) fr b):=rfl
theorem Zmy (fr:List (Nat × SV)) (g:Option (Nat × Bool)) (t n:Nat):Zff fr g (.t t) (.t n) (.c (.bool false))=ZdC (rdG g fr (.t t)) (rdG (some (t,true)) fr (.t n)):=rfl
theorem ZoI (fr:List (Nat × SV)) (g:Option (Nat × Bool)) (t:Nat):Zff fr g (.t t) (.c (.bool false)) (.c (.bool false))=ZdC (rdG g fr (.t t)) (rdG (some (t,true)) fr (.c (.bool false))):=rfl
theorem Zhc:ZdC (.v (.bool false)) (.v undef)=some (.v (.bool false)):=rfl
theorem Zgv:ZfI (.v (.bool true)) (.v undef)=some (.v (.bool true)):=rfl
theorem e_rvR (rs:List RV) (σ : St):rvR rs σ = rvE (rvs σ rs):=rfl
theorem ZyJ (σ : St):rvs σ []=some []:=rfl
theorem ZsL (σ : St) (t:Nat):rv1 σ (.tmp t)=some (rdG none σ.fr (.t t)):=rfl
theorem Zsh (σ : St) (t m:Nat) (ag:Bool):rv1 σ (.cell t m ag)=rvX σ.hp m ag (rdG none σ.fr (.t t)):=rfl
theorem ZpI (P:Program) (Y:Hd) (d:Option Nat) (σ : St) (r:KT) (K:RK) (x:X):stp P Y d (.mv x) σ r K=Z8 P none d (.mv x) σ r K:=rfl
theorem Zf1 (P:Program) (Y:Hd) (d:Option Nat) (σ : St) (r:KT) (K:RK) (c a b:X):stp P Y d (.pick c a b) σ r K=Z8 P none d (.pick c a b) σ r K:=rfl
theorem Zdd (P:Program) (Y:Hd) (d:Option Nat) (σ : St) (r:KT) (K:RK) (z:List Value) (ps:List (Nat × Nat × X)):stp P Y d (.build z ps) σ r K=Z8 P none d (.build z ps) σ r K:=rfl
theorem Zgw (P:Program) (Y:Hd) (d:Option Nat) (σ : St) (r:KT) (K:RK) (m:Nat) (T:TypeId) (ps:List X):stp P Y d (.bsl m T ps) σ r K=Z8 P none d (.bsl m T ps) σ r K:=rfl
theorem ZmH (P:Program) (Y:Hd) (d:Option Nat) (σ : St) (r:KT) (K:RK) (x:X) (m:Nat) (ag:Bool):stp P Y d (.ld x m ag) σ r K=Z8 P none d (.ld x m ag) σ r K:=rfl
theorem ZfV (P:Program) (Y:Hd) (d:Option Nat) (σ : St) (r:KT) (K:RK) (x:X):stp P Y d (.nilc x) σ r K=Z8 P none d (.nilc x) σ r K:=rfl
theorem ZhS (P:Program) (Y:Hd) (d:Option Nat) (σ : St) (r:KT) (K:RK) (b:BinOp) (x y:X):stp P Y d (.bin b x y) σ r K=Z8 P none d (.bin b x y) σ r K:=rfl
theorem Ziy (P:Program) (Y:Hd) (d:Option Nat) (σ : St) (r:KT) (K:RK) (b:BinOp) (x y:X):stp P Y d (.div b x y) σ r K=Z8 P none d (.div b x y) σ r K:=rfl
theorem Znq (P:Program) (Y:Hd) (d:Option Nat) (σ : St) (r:KT) (K:RK) (u:UnOp) (x:X):stp P Y d (.un u x) σ r K=Z8 P none d (.un u x) σ r K:=rfl
theorem Ze6 (P:Program) (Y:Hd) (d:Option Nat) (σ : St) (r:KT) (K:RK) (x:X) (o:Nat):stp P Y d (.addo x o) σ r K=Z8 P none d (.addo x o) σ r K:=rfl
theorem Zii (P:Program) (Y:Hd) (d:Option Nat) (σ : St) (r:KT) (K:RK) (x:X) (o m:Nat) (ag:Bool):stp P Y d (.fld x o m ag) σ r K=Z8 P none d (.fld x o m ag) σ r K:=rfl
theorem Zil (P:Program) (Y:Hd) (d:Option Nat) (σ : St) (r:KT) (K:RK) (x i:X) (len m:Nat) (ag:Bool):stp P Y d (.idx x i len m ag) σ r K=Z8 P none d (.idx x i len m ag) σ r K:=rfl
theorem ZiH (P:Program) (Y:Hd) (d:Option Nat) (σ : St) (r:KT) (K:RK) (x i:X) (len m:Nat):stp P Y d (.ixa x i len m) σ r K=Z8 P none d (.ixa x i len m) σ r K:=rfl
theorem ZgK (P:Program) (Y:Hd) (d:Option Nat) (σ : St) (r:KT) (K:RK) (x i:X) (m:Nat):stp P Y d (.ixs x i m) σ r K=Z8 P none d (.ixs x i m) σ r K:=rfl
theorem Zhn (P:Program) (Y:Hd) (d:Option Nat) (σ : St) (r:KT) (K:RK) (x:X):stp P Y d (.len x) σ r K=Z8 P none d (.len x) σ r K:=rfl
theorem Zne (P:Program) (Y:Hd) (d:Option Nat) (σ : St) (r:KT) (K:RK) (mx:Bool) (xs:List X):stp P Y d (.mm mx xs) σ r K=Z8 P none d (.mm mx xs) σ r K:=rfl
theorem Zfd (P:Program) (Y:Hd) (d:Option Nat) (σ : St) (r:KT) (K:RK) (f:FuncId) (as:List X):stp P Y d (.call f as) σ r K=Z8 P none d (.call f as) σ r K:=rfl
theorem ZfG (P:Program) (Y:Hd) (d:Option Nat) (σ : St) (r:KT) (K:RK) (x:X) (as:List X):stp P Y d (.calv x as) σ r K=Z8 P none d (.calv x as) σ r K:=rfl
theorem ZjC (P:Program) (Y:Hd) (d:Option Nat) (σ : St) (r:KT) (K:RK) (f:FuncId) (cs:List X):stp P Y d (.mkf f cs) σ r K=Z8 P none d (.mkf f cs) σ r K:=rfl
theorem ZfJ (P:Program) (Y:Hd) (d:Option Nat) (σ : St) (r:KT) (K:RK) (k:IntKind) (x:X):stp P Y d (.conv k x) σ r K=Z8 P none d (.conv k x) σ r K:=rfl
theorem Zjl (P:Program) (Y:Hd) (d:Option Nat) (σ : St) (r:KT) (K:RK) (x:X) (i:Nat):stp P Y d (.ext x i) σ r K=Z8 P none d (.ext x i) σ r K:=rfl
theorem e_rvs (σ : St) (r:RV) (rs:List RV):rvs σ (r :: rs)=rvC σ.hp (rv1 σ r) (rvs σ rs):=rfl
theorem ZlM (ρ : X->SV) (x:X) (o m:Nat) (ag:Bool):pv ρ (.fld x o m ag)=pvF o m ag (ρ x):=rfl
theorem ZhU (ρ : X->SV) (k:IntKind) (x:X):pv ρ (.conv k x)=pvC k (ρ x):=rfl
theorem Zna (ρ : X->SV) (x:X) (i:Nat):pv ρ (.ext x i)=pvE i (ρ x):=rfl
theorem ZqK (fr:List (Nat × SV)):Zv0 [] fr=True:=rfl
theorem Zyy (t:Nat) (s:SV) (r fr:List (Nat × SV)):Zv0 ((t,s) :: r) fr=(lk t fr=s/\Zv0 r fr):=rfl
theorem Zjy (P:Program) (Y:Hd) (d:Option Nat) (σ : St) (r:KT) (K:RK) (ng ag:Bool) (cls:List Nat) (x y:X):stp P Y d (.eqs ng ag cls x y) σ r K=Z8 P none d (.eqs ng ag cls x y) σ r K:=rfl
theorem Zjb (P:Program) (Y:Hd) (d:Option Nat) (σ : St) (r:KT) (K:RK) (x h k:X):stp P Y d (.slc x h k) σ r K=Z8 P none d (.slc x h k) σ r K:=rfl
theorem ZhG (P:Program) (Y:Hd) (d:Option Nat) (σ : St) (r:KT) (K:RK) (m:Nat) (x:X) (lo hi:Option X):stp P Y d (.sub m x lo hi) σ r K=Z8 P none d (.sub m x lo hi) σ r K:=rfl
theorem Zjv (P:Program) (Y:Hd) (d:Option Nat) (σ : St) (r:KT) (K:RK) (m b:Nat) (T:TypeId) (x y:X):stp P Y d (.app m b T x y) σ r K=Z8 P none d (.app m b T x y) σ r K:=rfl
theorem Zo8 (l):Zyl (some l)=some (SV.agg l):=rfl
theorem Znw: Zyl none=none:=rfl
theorem Zsl (k z):mmE k (some z)=some (SV.v (Value.int k z)):=rfl
theorem ZrI (k):mmE k none=none:=rfl
theorem Zvt (g o l T):vwP g o (HB.cells l T)=SV.ps (ZaW g l) o:=rfl
theorem ZsX (m a):vwN true m a=SV.sl false m a:=rfl
theorem ZrV (m a):vwN false m a=SV.any:=rfl
theorem ZuI (v a m b T):vwM v (HB.row a m b T)=vwN (Nat.beq v a) m b:=rfl
theorem Zua (c m a b q):vwR true c m a b q=SV.sl false m b:=rfl
theorem Zsz (m a b r):vwR false true m a b (some r)=SV.sl false a r:=rfl
theorem Zrv (m a b):vwR false true m a b none=SV.any:=rfl
theorem Zq1 (m a b q):vwR false false m a b q=SV.any:=rfl
theorem ZsD (v a m b T o c d e):vwM v (HB.rws a m b T o c d e)=vwR (Nat.beq v a) (Nat.ble (a+1) v) m c (ZdO o c d b) d[v - (a+1)]?:=rfl
theorem Zlq (v a m b T):cvtM v (HB.row a m b T)=vwN (Nat.beq v a) m b:=rfl
theorem ZmQ (m v a b c T):Zgm m v (HB.row a b c T)=Zfq c (WQ (Nat.beq m b) (Nat.beq v a)):=rfl
theorem ZkT (m v l T):Zgm m v (HB.cells l T)=none:=rfl
theorem ZlO (m v φ):Zgm m v (HB.ob φ)=none:=rfl
theorem Zo4 (m v a b):Zgm m v (HB.map a b)=none:=rfl
theorem ZoJ (m v a b c d):Zgm m v (HB.it a b c d)=none:=rfl
theorem Zny (m v a b):Zgm m v (HB.lp a b)=none:=rfl
theorem ZlD (m v a):Zgm m v (HB.lb a)=none:=rfl
theorem ZpM (m v a b c T o d e f):Zgm m v (HB.rws a b c T o d e f)=none:=rfl
theorem Zl7 (m v):Zgm m v HB.gone=none:=rfl
theorem Zno (a):Zfq a true=some a:=rfl
theorem ZnY (a):Zfq a false=none:=rfl
theorem ZuL: rvE (some [])=some (SV.tup []):=rfl
theorem Ztp (s):rvE (some [s])=some s:=rfl
theorem Zt9 (a b l):rvE (some (a :: b :: l))=some (SV.tup (a :: b :: l)):=rfl
theorem Zsq: rvE none=none:=rfl
theorem ZtQ (s l):rvD s (some l)=some (s :: l):=rfl
theorem Zss (s):rvD s none=none:=rfl
theorem Zva (hp x s):rvC hp (some s) x=rvD (cvt hp s) x:=rfl
theorem Zr1 (hp x):rvC hp none x=none:=rfl
theorem Ztj (o m a l T):rvH o m a (HB.cells l T)=Xs l o m a:=rfl
theorem ZtU (hp m a k o):rvX hp m a (SV.p k o)=rvH o m a (lkh k hp):=rfl
theorem ZrR (o m a l):pvF o m a (SV.agg l)=Xs l o m a:=rfl
theorem ZsW (k a n):pvC k (SV.v (Value.int a n))=some (SV.v (Value.int k (IntKind.wrap k n))):=rfl
theorem ZsE (i l):pvE i (SV.tup l)=nth l i:=rfl
theorem ZnD (x a b c d):Zwo false true false x a b c d=c { fr:=(x,a) :: St.fr b,hp:=St.hp b,n:=St.n b,N:=St.N b,gs:=St.gs b } d:=rfl
theorem Zn6 (x a b c d e f):ZyU false true false x a b c d e f=e { fr:=(x,SV.gd a b c) :: St.fr d,hp:=St.hp d,n:=St.n d,N:=St.N d,gs:=a :: St.gs d } f:=rfl
theorem ZoP (s σ r K):Yh none s none σ r K=r σ K:=rfl
theorem Zma (s σ r K a):Yh none s (some a) σ r K=False:=rfl
theorem Znt (s σ r K t):Yh (some t) s none σ r K=Zwo (YT t (St.gs σ)) (Nat.blt t (St.N σ)) (gdS s) t s σ r K:=rfl
theorem ZmT (s σ r K t j w):Yh (some t) s (some (j,w)) σ r K=ZyU (YT t (St.gs σ)) (Nat.blt t (St.N σ)) (Nat.beq t j) t j w s σ r K:=rfl
theorem Zop (d g σ r K s):XE (some s) d g σ r K=Yh d s g σ r K:=rfl
theorem ZnO (d g σ r K):XE none d g σ r K=False:=rfl
theorem Zjq (x):Zdq true x=x:=rfl
theorem ZiR (x):Zdq false x=SV.any:=rfl
theorem ZlE (x a b c):Zv8 true x a b c=true:=rfl
theorem Zks (x a b c d s):Zv8 false (SV.gd c d s) x a b=x c d a b:=rfl
theorem Zhk (x a):Zfb true x a=bbq x a:=rfl
theorem Zhe (x a):Zfb false x a=false:=rfl
theorem Zs4: bbq true true=true:=rfl
theorem ZuR: bbq false false=true:=rfl
theorem Zjm (x y):ZfI (SV.v (Value.bool x)) (SV.v (Value.bool y))=some (SV.v (Value.bool (x || y))):=rfl
theorem Zhu (x a):ZfI (SV.v (Value.bool x)) (SV.v (Value.tuple a))=bif x then some (SV.v (Value.bool true)) else none:=rfl
theorem Zgq (x y):ZdC (SV.v (Value.bool x)) (SV.v (Value.bool y))=some (SV.v (Value.bool (x && y))):=rfl
theorem ZgE (x a):ZdC (SV.v (Value.bool x)) (SV.v (Value.tuple a))=bif x then none else some (SV.v (Value.bool false)):=rfl
theorem Zot (m r):Zv7 m (some r)=some (SV.sl true m r):=rfl
theorem Zlz (m):Zv7 m none=none:=rfl
theorem Zhm (P g d σ r K a f b):Zkz P g d σ r K (SV.cl f b) a=ZvM P g f (a ++ b) d σ r K:=rfl
theorem Znh (g d σ r K k v m a j):Zyn g d σ r K true k v m a j=IXR g k v m a j d σ r K:=rfl
theorem Zn8 (g d σ r K k v m a j):Zyn g d σ r K false k v m a j=False:=rfl
theorem ZoW (g d σ r K k v m j a b c T):Zwb g d σ r K (HB.row a b c T) k v m j=Zyn g d σ r K (WQ (Nat.beq m b) (Nat.beq v a)) k v m (List.length c) j:=rfl
theorem Zmv (g d σ r K k v m j a b c T o e f l):Zwb g d σ r K (HB.rws a b c T o e f l) k v m j = ∃ i rows TT,v=a+i/\YL k a b c T o e f l i=some (m,rows,TT)/\IXR g k v m (List.length rows) j d σ r K:=rfl
theorem ZpP (g d σ r K a j):ZwQ g d σ r K true a j=IXS g a j d σ r K:=rfl
theorem ZpO (g d σ r K a j):ZwQ g d σ r K false a j=False:=rfl
theorem Zo6 (g d σ r K m k j c a b):ZxH g d σ r K (SV.v (Value.int k j)) (SV.sl c a b) m=ZwQ g d σ r K (Nat.beq m a) b j:=rfl
theorem Zmg (g d σ r K m k j a v):ZxH g d σ r K (SV.v (Value.int k j)) (SV.mr a v) m=Zwb g d σ r K (lkh a (St.hp σ)) a v m j:=rfl
theorem Zok (g d σ r K x a m k n):Zy6 g d σ r K (SV.v (Value.int k n)) x a m=IXA g a n (λn=>VG (n * m) x) d σ r K:=rfl
theorem ZkK (g d σ r K a m b k j l):Zy3 g d σ r K (SV.v (Value.int k j)) (SV.agg l) a m b=IXA g a j (λn=>Xs l (n * m) m b) d σ r K:=rfl
theorem Zt6 (g d σ r K o m a l T):ldC g d σ r K (HB.cells l T) o m a=XE (Xs l o m a) d g σ r K:=rfl
theorem ZqH (g d σ r K a i o m b):ldB g d σ r K true a i o m b=LDR g a i o m b d σ r K:=rfl
theorem ZrU (g d σ r K a i o m b):ldB g d σ r K false a i o m b=False:=rfl
theorem ZqP (g d σ r K k v a i o m b c e f T):ldR g d σ r K k (HB.row c e f T) v a i o m b=ldB g d σ r K (WQ (Nat.beq a e) (Nat.beq v c)) f i o m b:=rfl
theorem Zrd (g d σ r K k v b i o m c e f j T l p q s):ldR g d σ r K k (HB.rws e f j T l p q s) v b i o m c = ∃ a rows TT,v=e+a/\YL k e f j T l p q s a=some (b,rows,TT)/\LDR g rows i o m c d σ r K:=rfl
theorem Zt5 (g d σ r K m a k o):ldK g d σ r K (SV.p k o) m a=ldC g d σ r K (lkh k (St.hp σ)) o m a:=rfl
theorem Zrb (g d σ r K m a b o):ldK g d σ r K (SV.ps b o) m a=XE (Xs b o m a) d g σ r K:=rfl
theorem Zr9 (g d σ r K m a k v b i o):ldK g d σ r K (SV.pr k v b i o) m a=ldR g d σ r K k (lkh k (St.hp σ)) v b i o m a:=rfl
theorem ZnA (g d σ r K b k u v):Zx5 g d σ r K true b k u v=DIV g b k u v d σ r K:=rfl
theorem ZlH (g d σ r K b k u v):Zx5 g d σ r K false b k u v=False:=rfl
theorem ZlR (g d σ r K b k a j c):ZyT g d σ r K b (SV.v (Value.int k a)) (SV.v (Value.int j c))=Zx5 g d σ r K (Zce k j) b k a c:=rfl
theorem Zog (g d σ r K a):Zyf g d σ r K true a=Yh d (SV.v (Value.int IntKind.i64 ↑(List.length a))) g σ r K:=rfl
theorem Zk7 (g d σ r K a):Zyf g d σ r K false a=False:=rfl
theorem Zm7 (g d σ r K k v a m b T):ZxS g d σ r K k (HB.row a m b T) v=Zyf g d σ r K (Nat.beq v a) b:=rfl
theorem Zpo (g d σ r K k v b m c T o e f i):ZxS g d σ r K k (HB.rws b m c T o e f i) v = ∃ a mm rows TT,v=b+a/\YL k b m c T o e f i a=some (mm,rows,TT)/\Yh d (SV.v (Value.int IntKind.i64 ↑(List.length rows))) g σ r K:=rfl
theorem Zoe (g d σ r K k v):Zv5 g d σ r K (SV.mr k v)=ZxS g d σ r K k (lkh k (St.hp σ)) v:=rfl
theorem Zkt (g d σ r K k v m i l):Zv5 g d σ r K (SV.ms k v m i l)=Yh d (SV.v (Value.int IntKind.i64 ↑l)) g σ r K:=rfl
theorem Zol (g d σ r K c m a):Zv5 g d σ r K (SV.sl c m a)=Yh d (SV.v (Value.int IntKind.i64 ↑(List.length a))) g σ r K:=rfl
theorem Zls (P g d σ r K f a):Z8 P g d (SI.call f a) σ r K=ZvM P g f (VN (rdG g (St.fr σ)) a) d σ r K:=rfl
theorem ZoF (P g d σ r K x a):Z8 P g d (SI.calv x a) σ r K=Zkz P g d σ r K (rdG g (St.fr σ) x) (VN (rdG g (St.fr σ)) a):=rfl
theorem Zoi (P g d σ r K f a):Z8 P g d (SI.callm f a) σ r K=False:=rfl
theorem ZmX (P g d σ r K x a):Z8 P g d (SI.calvm x a) σ r K=False:=rfl
theorem Zm5 (P g d σ r K c a b):Z8 P g d (SI.pick c a b) σ r K=XE (Zff (St.fr σ) g c a b) d g σ r K:=rfl
theorem Znz (P g d σ r K m T a):Z8 P g d (SI.bsl m T a) σ r K=XE (Zv7 m (Zgh (rdG g (St.fr σ)) m a)) d g σ r K:=rfl
theorem Zou (P g d σ r K x a m):Z8 P g d (SI.ixs x a m) σ r K=ZxH g d σ r K (rdG g (St.fr σ) a) (rdG g (St.fr σ) x) m:=rfl
theorem Zpj (P g d σ r K x a b m):Z8 P g d (SI.ixa x a b m) σ r K=Zy6 g d σ r K (rdG g (St.fr σ) a) (rdG g (St.fr σ) x) b m:=rfl
theorem ZlI (P g d σ r K x a b m c):Z8 P g d (SI.idx x a b m c) σ r K=Zy3 g d σ r K (rdG g (St.fr σ) a) (rdG g (St.fr σ) x) b m c:=rfl
theorem Zh5 (P g d σ r K x m a):Z8 P g d (SI.ld x m a) σ r K=ldK g d σ r K (rdG g (St.fr σ) x) m a:=rfl
theorem ZgU (P g d σ r K b x y):Z8 P g d (SI.div b x y) σ r K=ZyT g d σ r K b (rdG g (St.fr σ) x) (rdG g (St.fr σ) y):=rfl
theorem Zjh (P g d σ r K x):Z8 P g d (SI.len x) σ r K=Zv5 g d σ r K (rdG g (St.fr σ) x):=rfl
theorem Zhb (P g d σ r K x):Z8 P g d (SI.mv x) σ r K=Yh d (rdG g (St.fr σ) x) g σ r K:=rfl
theorem Zjt (P g d σ r K z a):Z8 P g d (SI.build z a) σ r K=XE (pv (rdG g (St.fr σ)) (SI.build z a)) d g σ r K:=rfl
theorem Zkf (P g d σ r K x):Z8 P g d (SI.nilc x) σ r K=XE (ZcR (rdG g (St.fr σ) x)) d g σ r K:=rfl
theorem Zif (P g d σ r K b x y):Z8 P g d (SI.bin b x y) σ r K=XE (ZvN b (rdG g (St.fr σ) x) (rdG g (St.fr σ) y)) d g σ r K:=rfl
theorem Zh6 (P g d σ r K u x):Z8 P g d (SI.un u x) σ r K=XE (uni u (rdG g (St.fr σ) x)) d g σ r K:=rfl
theorem Zgx (P g d σ r K x o):Z8 P g d (SI.addo x o) σ r K=XE (VG o (rdG g (St.fr σ) x)) d g σ r K:=rfl
theorem ZjX (P g d σ r K x o m a):Z8 P g d (SI.fld x o m a) σ r K=XE (pv (rdG g (St.fr σ)) (SI.fld x o m a)) d g σ r K:=rfl
theorem ZhL (P g d σ r K a b):Z8 P g d (SI.mm a b) σ r K=XE (mmS a (VN (rdG g (St.fr σ)) b)) d g σ r K:=rfl
theorem ZgN (P g d σ r K f a):Z8 P g d (SI.mkf f a) σ r K=Yh d (SV.cl f (VN (rdG g (St.fr σ)) a)) g σ r K:=rfl
theorem ZhF (P g d σ r K k x):Z8 P g d (SI.conv k x) σ r K=XE (pv (rdG g (St.fr σ)) (SI.conv k x)) d g σ r K:=rfl
theorem Zho (P g d σ r K x a):Z8 P g d (SI.ext x a) σ r K=XE (pv (rdG g (St.fr σ)) (SI.ext x a)) d g σ r K:=rfl
theorem Zh9 (P g d σ r K x h k):Z8 P g d (SI.slc x h k) σ r K=ZyZ g (rdG g (St.fr σ) x) (rdG g (St.fr σ) h) (rdG g (St.fr σ) k) d σ r K:=rfl
theorem ZgO (P g d σ r K m x a b):Z8 P g d (SI.sub m x a b) σ r K=Zyh g m (rdG g (St.fr σ)) a b (rdG g (St.fr σ) x) d σ r K:=rfl
theorem ZgV (P g d σ r K m b T x y):Z8 P g d (SI.cln m b T x y) σ r K=False:=rfl
theorem ZjN (P g d σ r K m b T x y):Z8 P g d (SI.appm m b T x y) σ r K=False:=rfl
theorem Zjc (P g d σ r K m x y):Z8 P g d (SI.cpy m x y) σ r K=False:=rfl
theorem ZjP (P g d σ r K m b z T x):Z8 P g d (SI.mks m b z T x) σ r K=False:=rfl
theorem Zg0 (P g d σ r K x):Z8 P g d (SI.isn x) σ r K=False:=rfl
theorem Zj7 (P g d σ r K m b T x y):Z8 P g d (SI.app m b T x y) σ r K=ZvR g m b (Zjo m (rdG g (St.fr σ) x)) (ZsV m (St.hp σ) (rdG g (St.fr σ) y)) d σ r K:=rfl
theorem Zgy (P g d σ r K x m T):Z8 P g d (SI.box x m T) σ r K=False:=rfl
theorem ZiU (P g d σ r K z T):Z8 P g d (SI.alloc z T) σ r K=False:=rfl
theorem Zg5 (P g d σ r K x y m):Z8 P g d (SI.st x y m) σ r K=False:=rfl
theorem Zia (P g d σ r K a b c x y):Z8 P g d (SI.eqs a b c x y) σ r K=XE (eqR a (Zpy c b (rdG g (St.fr σ) x) (rdG g (St.fr σ) y))) d g σ r K:=rfl
theorem ZhV (P g d σ r K a b):Z8 P g d (SI.raw a b) σ r K=False:=rfl
theorem Zj0 (P g d σ r K a b):Z8 P g d (SI.rv a b) σ r K=False:=rfl
theorem ZhW (P g d σ r K a x b):Z8 P g d (SI.rb a x b) σ r K=False:=rfl
theorem ZlN (x a b c d e):Zy0 false true x a b c d e=d { fr:=(x,SV.p (St.n c) 0) :: St.fr c,hp:=(St.n c,HB.cells a b) :: St.hp c,n:=St.n c+1,N:=St.N c,gs:=St.gs c } e:=rfl
theorem Zml (T σ r K t a):Zgk (some t) (some a) T σ r K=Zy0 (YT t (St.gs σ)) (Nat.blt t (St.N σ)) t a T σ r K:=rfl
theorem ZiS (x a b c d e f g i j):Zt8 false true x a b c d e f g i j=i { fr:=(x,SV.v (Value.int IntKind.i64 ↑e)) :: St.fr g,hp:=(a,HB.row b c d f) :: St.hp g,n:=St.n g,N:=St.N g,gs:=St.gs g } j:=rfl
theorem Zpv (k v m a N T σ r K b):ZxM (some b) k v m a N T σ r K=Zt8 (YT b (St.gs σ)) (Nat.blt b (St.N σ)) b k v m a N T σ r K:=rfl
theorem Zod (k v m a N T σ r K):ZxM none k v m a N T σ r K=r { fr:=St.fr σ,hp:=(k,HB.row v m a T) :: St.hp σ,n:=St.n σ,N:=St.N σ,gs:=St.gs σ } K:=rfl
theorem Zoz (d k v m i L a T σ r K c b e):Zp8 d k v m i L a T (SV.sl c b e) σ r K=Zc6 (Nat.beq m b) (CPY d k v m i L a e T σ r K):=rfl
theorem Zng (d k v m i L a T σ r K):Zp8 d k v m i L a T (SV.v (Value.slice none 0 0)) σ r K=CPY d k v m i L a [] T σ r K:=rfl
theorem Zmr (d k v m i L a T σ r K b c):Zp8 d k v m i L a T (SV.mr b c) σ r K=Zc6 (WQ (Nat.beq k b) (Nat.beq v c)) (CPY d k v m i L a a T σ r K):=rfl
theorem Zmd (d k v m i L a T σ r K b c e f g):Zp8 d k v m i L a T (SV.ms b c e f g) σ r K=Zc6 (WQ (WQ (Nat.beq k b) (Nat.beq v c)) (Nat.beq m e)) (f+g<=List.length a/\CPY d k v m i L a (List.take g (List.drop f a)) T σ r K):=rfl
theorem Zwv (n m):lO (some m) n=m:=rfl
theorem ZwJ (n):lO none n=n:=rfl
theorem Zpz (d m k v i a s σ r K b c e T):ZrY d m k v i a (HB.row b c e T) s σ r K=Zc6 (WQ (Nat.beq m c) (Nat.beq v b)) (Zp8 d k v m i (lO a (List.length e)) e T s σ r K):=rfl
theorem Zl6 (d m a σ r K k v):ZvS d m (SV.mr k v) a σ r K=ZrY d m k v 0 none (lkh k (St.hp σ)) a σ r K:=rfl
theorem ZlU (d m a σ r K k v b i l):ZvS d m (SV.ms k v b i l) a σ r K=Zc6 (Nat.beq m b) (ZrY d m k v i (some l) (lkh k (St.hp σ)) a σ r K):=rfl
theorem Zm6 (g k v m a d σ r K i j):Zv4 g k v m a (some i) (some j) d σ r K=SBM g i j k v m a d σ r K:=rfl
theorem Zo3 (g k v m a d σ r K b):Zv4 g k v m a (some b) none d σ r K=False:=rfl
theorem Zn1 (g k v m a b d σ r K):Zv4 g k v m a none b d σ r K=False:=rfl
theorem Zkr (p):Zc6 true p=p:=rfl
theorem Zmx (p):Zc6 false p=False:=rfl
theorem ZkY (g m ρ a b k v d σ r K c e f T):Zy1 g m ρ a b k v (HB.row c e f T) d σ r K=Zc6 (WQ (Nat.beq m e) (Nat.beq v c)) (Zv4 g k v m f (Zbf 0 ρ a) (Zbf (↑(List.length f)) ρ b) d σ r K):=rfl
theorem ZoV (g m ρ a b d σ r K c e f):Zyh g m ρ a b (SV.sl c e f) d σ r K=bif Nat.beq m e then ZvK g m f (Zbf 0 ρ a) (Zbf (↑(List.length f)) ρ b) d σ r K else False:=rfl
theorem ZmV (g m ρ a b d σ r K k v):Zyh g m ρ a b (SV.mr k v) d σ r K=Zy1 g m ρ a b k v (lkh k (St.hp σ)) d σ r K:=rfl
theorem Zkw (x a b c d e f g i):verB false true x a b c d e f g i=g { fr:=(x,SV.mr a b) :: St.fr f,hp:=(a,HB.row b c d e) :: St.hp f,n:=St.n f,N:=St.N f,gs:=St.gs f } i:=rfl
theorem Zmt (k v m a T σ r K b):Zxr (some b) k v m a T σ r K=verB (YT b (St.gs σ)) (Nat.blt b (St.N σ)) b k v m a T σ r K:=rfl
theorem Znd (k v m a T σ r K):Zxr none k v m a T σ r K=False:=rfl
theorem Zpm (b d k v m a c T σ r K):ZxT true b d k v m a c T σ r K=APM b d k v m a c T σ r K:=rfl
theorem ZnH (b d k v m a c T σ r K):ZxT false b d k v m a c T σ r K=False:=rfl
theorem ZkB (b d k v m a T σ r K c e f g):Zy2 b d k v m (HB.row c e f g) a T σ r K=ZxT (WQ (Nat.beq m e) (WQ (Nat.beq v c) (Nat.beq T g))) b d k v m f a T σ r K:=rfl
theorem ZmS (b d m a T σ r K k v):Zy7 b d m (SV.mr k v) a T σ r K=Zy2 b d k v m (lkh k (St.hp σ)) a T σ r K:=rfl
theorem Zmf (b d m s T σ r K a):ZvZ b d m s (some a) T σ r K=Zy7 b d m s a T σ r K:=rfl
theorem Zko (b d m s T σ r K):ZvZ b d m s none T σ r K=False:=rfl
theorem ZkA (x a b c d e f g):ZvQ true x a b c d e f g=f { fr:=St.fr e,hp:=(x,HB.cells (Zm b a d) c) :: St.hp e,n:=St.n e,N:=St.N e,gs:=St.gs e } g:=rfl
theorem Znr (x a b c d e f g):ZvQ false x a b c d e f g=False:=rfl
theorem Zr3 (k o m c σ r K l T):stC k o m (HB.cells l T) c σ r K=ZvQ (Nat.ble (o+m) (List.length l)) k o l T c σ r K:=rfl
theorem Zni (x a b c d e f g i j k):Zv6 true x a b c d e f g i j k=STR x a b c d e f g i j k:=rfl
theorem Zlr (x a b c d e f g i j k):Zv6 false x a b c d e f g i j k=False:=rfl
theorem Zsm (k v a j o c σ r K b m d T):stR k v a j o (HB.row b m d T) c σ r K=Zv6 (WQ (Nat.beq a m) (Nat.beq v b)) b d j o k a c T σ r K:=rfl
theorem Ztr (k v a j o c σ r K b m d T e f g i):stR k v a j o (HB.rws b m d T e f g i) c σ r K=STW b m d T e f g i v a j o k c σ r K:=rfl
theorem Zt4 (m c σ r K k o):stX (SV.p k o) m c σ r K=stC k o m (lkh k (St.hp σ)) c σ r K:=rfl
theorem Ztf (m c σ r K k v a j o):stX (SV.pr k v a j o) m c σ r K=stR k v a j o (lkh k (St.hp σ)) c σ r K:=rfl
theorem ZfA (x a b c d e):ZcE true true x a b c d e=stX x a b c d e:=rfl
theorem ZfD (m x σ r K a):ZcX none (some a) m x σ r K=ZcE (chk a m) (Ys a) x m a σ r K:=rfl
theorem ZrA (P Y d σ r K x y m):stp P Y d (SI.st x y m) σ r K=ZcX d (Ye (rdG none (St.fr σ) y)) m (rdG none (St.fr σ) x) σ r K:=rfl
theorem Zrc (P Y d σ r K x m T):stp P Y d (SI.box x m T) σ r K=Zgk d (Ye (rdG none (St.fr σ) x)) T σ r K:=rfl
theorem ZsU (P Y d σ r K z T):stp P Y d (SI.alloc z T) σ r K=Zgk d (some (lit z)) T σ r K:=rfl
theorem ZtB (P Y d σ r K m b T x y):stp P Y d (SI.cln m b T x y) σ r K=Zqj b d m (Zjo m (rdG none (St.fr σ) x)) (Zea m (rdG none (St.fr σ) y)) T σ r K:=rfl
theorem Zr8 (P Y d σ r K m b z T x):stp P Y d (SI.mks m b z T x) σ r K=Zwt b d m z (rdG none (St.fr σ) x) T σ r K:=rfl
theorem Zq9 (P Y d σ r K m x y):stp P Y d (SI.cpy m x y) σ r K=ZvS d m (rdG none (St.fr σ) x) (rdG none (St.fr σ) y) σ r K:=rfl
theorem Zvm (P Y d σ r K m b T x y):stp P Y d (SI.appm m b T x y) σ r K=ZvZ b d m (rdG none (St.fr σ) x) (Zea m (rdG none (St.fr σ) y)) T σ r K:=rfl
theorem Zr2 (P Y d σ r K f a):stp P Y d (SI.callm f a) σ r K=ZcM P f (VN (rdG none (St.fr σ)) a) d σ r K:=rfl
theorem Zum (P Y d σ r K x a):stp P Y d (SI.calvm x a) σ r K=ZfB P Y (rdG none (St.fr σ) x) (VN (rdG none (St.fr σ)) a) d σ r K:=rfl
theorem ZnE (P Y d σ r K x):stp P Y d (SI.isn x) σ r K=Zy8 d (rdG none (St.fr σ) x) σ r K:=rfl
theorem ZnK (P Y d σ r K a b):stp P Y d (SI.raw a b) σ r K=RAW P d a b σ r K:=rfl
theorem Zlp (P Y d σ r K a b):stp P Y d (SI.rv a b) σ r K = ∃ s,RBE P a b σ s/\Yh d s none σ r K:=rfl
theorem Zpl (P Y d σ r K a x b):stp P Y d (SI.rb a x b) σ r K = ∃ k h1 s,rdG none (St.fr σ) x=SV.mp k/\WK (lkh k (St.hp σ)) h1/\RBB P a (x :: b) k (lkh k (St.hp σ)) h1 σ s/\Yh d s none { fr:=St.fr σ,hp:=(k,h1) :: St.hp σ,n:=St.n σ,N:=St.N σ,gs:=St.gs σ } r K:=rfl
theorem Zg3 (d σ r K):Zsk d σ r K=Yh d (SV.v undef) none σ r K:=rfl
theorem ZxQ (P Y j w d i σ r K b):gK P Y (SV.v (Value.bool b)) j w d i σ r K=GB P Y b j w d i σ r K:=rfl
theorem Zwh (P Y j w d i σ r K a c b):gK P Y (SV.gd a c (SV.v (Value.bool b))) j w d i σ r K=Z8 P (some (j,w)) d i σ r K:=rfl
theorem Zvk (P Y σ r K d i af):st1 P Y { d:=d,i:=i,g:=none,af:=af } σ r K=stp P Y d i σ r K:=rfl
theorem ZuX (P Y σ r K d i j w af):st1 P Y { d:=d,i:=i,g:=some (j,w),af:=af } σ r K=gK P Y (lk j (St.fr σ)) j w d i σ r K:=rfl
theorem Zoa (f g σ K b):ZyQ (SV.v (Value.bool b)) f g σ K=BR b f g σ K:=rfl
theorem Zmq (k x y):ZwB BinOp.quo k x y=IntKind.wrap k (Int.tdiv x y):=rfl
theorem ZrC (a N):st0 a N={ fr:=YF 0 a,hp:=[],n:=0,N:=N,gs:=[] }:=rfl
theorem ZlA (ρ):VN ρ []=[]:=rfl
theorem ZlB (ρ a r):VN ρ (a :: r) = ρ a :: VN ρ r:=rfl
theorem Zmk (g):ZaW g []=[]:=rfl
theorem Znb (g s l):ZaW g (s :: l)=g s :: ZaW g l:=rfl
theorem Zmm (ρ m):Zgh ρ m []=some []:=rfl
theorem ZkV (ρ m a r):Zgh ρ m (a :: r)=ZvL (Ye (ρ a)) m (Zgh ρ m r):=rfl
theorem Zk8 (hp):Zj8 hp []=[]:=rfl
theorem Zld (hp s l):Zj8 hp (s :: l)=cvt hp s :: Zj8 hp l:=rfl
theorem ZrZ: lit []=[]:=rfl
theorem Zs1 (a r):lit (a :: r)=SV.v a :: lit r:=rfl
theorem ZuY: chk [] 0=true:=rfl
theorem Zul (a l n):chk (a :: l) (Nat.succ n)=chk l n:=rfl
theorem ZsK (x):nth [] x=none:=rfl
theorem ZuJ (s a):nth (s :: a) 0=some s:=rfl
theorem ZsN (a l n):nth (a :: l) (Nat.succ n)=nth l n:=rfl
theorem Zgc (a l c b):Zm (a :: l) 0 (c :: b)=c :: Zm l 0 b:=rfl
theorem ZfX (x a l o):Zm (a :: l) (Nat.succ o) x=a :: Zm l o x:=rfl
theorem Zmj (o l t):Zwa o l t true=some ((o,l) :: t):=rfl
theorem Zmp (o l t):Zwa o l t false=none:=rfl
theorem Zlc (o m l t):Zv3 o m (some l) (some t)=Zwa o l t (chk l m):=rfl
theorem ZnP (ρ):Zpf ρ []=some []:=rfl
theorem Znp (ρ o m a r):Zpf ρ ((o,m,a) :: r)=Zv3 o m (Ye (ρ a)) (Zpf ρ r):=rfl
theorem Ztc (x):spl x []=x:=rfl
theorem Zrz (x o l r):spl x ((o,l) :: r)=spl (Zm x o l) r:=rfl
theorem Zl0 (z t):Zkh z (some t)=some (spl z t):=rfl
theorem Zlm (z):Zkh z none=none:=rfl
theorem Zn2 (x):YF x []=[]:=rfl
theorem Zlh (x s l):YF x (s :: l)=(x,s) :: YF (x+1) l:=rfl
theorem Ztw (j w s):gdS (SV.gd j w s)=true:=rfl
theorem Zsa (a):gdS (SV.v a)=false:=rfl
theorem Zsd (k o):gdS (SV.p k o)=false:=rfl
theorem ZrB (l):gdS (SV.agg l)=false:=rfl
theorem ZqY (c m a):gdS (SV.sl c m a)=false:=rfl
theorem Zto (k v):gdS (SV.mr k v)=false:=rfl
theorem ZvC (k v m i o):gdS (SV.pr k v m i o)=false:=rfl
theorem Zu1 (k v m i l):gdS (SV.ms k v m i l)=false:=rfl
theorem Zsu (a o):gdS (SV.ps a o)=false:=rfl
theorem ZoT (f a):gdS (SV.cl f a)=false:=rfl
theorem ZoE (l):gdS (SV.tup l)=false:=rfl
theorem ZoM (φ):gdS (SV.q φ)=false:=rfl
theorem ZmR (k):gdS (SV.mp k)=false:=rfl
theorem Zoc (k):gdS (SV.yl k)=false:=rfl
theorem Zlx (T s):gdS (SV.ifc T s)=false:=rfl
theorem ZmD: gdS SV.any=false:=rfl
theorem Zu7 (ρ k o):rnS ρ (SV.p k o)=SV.p (ρ k) o:=rfl
theorem Zve (ρ k v):rnS ρ (SV.mr k v)=SV.mr (ρ k) v:=rfl
theorem Zup (ρ k v m i o):rnS ρ (SV.pr k v m i o)=SV.pr (ρ k) v m i o:=rfl
theorem Zrt (ρ k v m i o):rnS ρ (SV.ms k v m i o)=SV.ms (ρ k) v m i o:=rfl
theorem ZvB (ρ k):rnS ρ (SV.mp k)=SV.mp (ρ k):=rfl
theorem Zq4 (ρ k):rnS ρ (SV.yl k)=SV.yl (ρ k):=rfl
theorem ZqL (ρ l):rnS ρ (SV.agg l)=SV.agg (rnL ρ l):=rfl
theorem ZqD (ρ l):rnS ρ (SV.tup l)=SV.tup (rnL ρ l):=rfl
theorem Ztd (ρ f l):rnS ρ (SV.cl f l)=SV.cl f (rnL ρ l):=rfl
theorem ZkD (ρ T s):rnS ρ (SV.ifc T s)=SV.ifc T (rnS ρ s):=rfl
theorem Zm2 (ρ a):rnS ρ (SV.v a)=SV.v a:=rfl
theorem ZlX (ρ c m a):rnS ρ (SV.sl c m a)=SV.sl c m a:=rfl
theorem ZoC (ρ l o):rnS ρ (SV.ps l o)=SV.ps l o:=rfl
theorem Zpn (ρ φ):rnS ρ (SV.q φ)=SV.q φ:=rfl
theorem Zlw (ρ j w s):rnS ρ (SV.gd j w s)=SV.gd j w s:=rfl
theorem Zoj (ρ):rnS ρ SV.any=SV.any:=rfl
theorem ZrK (ρ):rnL ρ []=[]:=rfl
theorem Ztz (ρ s l):rnL ρ (s :: l)=rnS ρ s :: rnL ρ l:=rfl
theorem Zra (ρ l T):rnH ρ (HB.cells l T)=HB.cells (rnL ρ l) T:=rfl
theorem ZtV (ρ v m a T):rnH ρ (HB.row v m a T)=HB.row v m a T:=rfl
theorem Zun (ρ φ):rnH ρ (HB.ob φ)=HB.ob φ:=rfl
theorem ZsO (ρ a c):rnH ρ (HB.map a c)=HB.map a c:=rfl
theorem Zr5 (ρ a b c d):rnH ρ (HB.it a b c d)=HB.it (ρ a) b c d:=rfl
theorem Zs5 (ρ a b):rnH ρ (HB.lp a b)=HB.lp a b:=rfl
theorem Zq3 (ρ a):rnH ρ (HB.lb a)=HB.lb a:=rfl
theorem Zrp (ρ v m a T o b c d):rnH ρ (HB.rws v m a T o b c d)=HB.rws v m a T o b c d:=rfl
theorem ZvA (ρ):rnH ρ HB.gone=HB.gone:=rfl
theorem Zrw (ρ):rnP ρ []=[]:=rfl
theorem Zq6 (ρ u s r):rnP ρ ((u,s) :: r)=(ρ u,rnH ρ s) :: rnP ρ r:=rfl
theorem ZgX (ρ):ZaN ρ 0=[]:=rfl
theorem Zi9 (ρ j):ZaN ρ (Nat.succ j)=(ρ j,HB.gone) :: ZaN ρ j:=rfl
theorem Zt3 (b x y):exB b x y=bif b then x else y:=rfl
theorem Zry (a hp n d σ r K):cmK false a hp n d σ r K=Yh d a none { fr:=St.fr σ,hp:=hp,n:=n,N:=St.N σ,gs:=St.gs σ } r K:=rfl
theorem ZtJ (a hp n d σ r K):cmK true a hp n d σ r K=K (Ex.pan a) { fr:=St.fr σ,hp:=hp,n:=n,N:=St.N σ,gs:=St.gs σ }:=rfl
theorem Zid (P Y a d σ r K f b):ZfB P Y (SV.cl f b) a d σ r K=ZcM P f (a ++ b) d σ r K:=rfl
theorem Zg7 (P Y a d σ r K k):ZfB P Y (SV.yl k) a d σ r K=YLD Y k a d σ r K:=rfl
theorem ZsH (p T a s):mtI p T (SV.ifc a s)=(a=T/\p s):=rfl
theorem ZrT (p l):mtO p (some l)=p l:=rfl
theorem Zui (p):mtO p none=False:=rfl
theorem ZsS (σ K hp n a):itE σ K hp n (HB.lp a none)=K Ex.n { fr:=St.fr σ,hp:=(St.n σ,HB.gone) :: hp,n:=n,N:=St.N σ,gs:=[] }:=rfl
theorem Zuz (σ K hp n a i):itE σ K hp n (HB.lp a (some (Ex.ex i)))=K (Ex.ex i) { fr:=St.fr σ,hp:=(St.n σ,HB.gone) :: hp,n:=n,N:=St.N σ,gs:=[] }:=rfl
theorem Zrr (σ K hp n a):itE σ K hp n (HB.lp a (some Ex.ret))=K Ex.ret { fr:=St.fr σ,hp:=(St.n σ,HB.gone) :: hp,n:=n,N:=St.N σ,gs:=[] }:=rfl
theorem ZrS (σ K o):itP σ K o=match Ot.pn o with | false=>itE σ K (Ot.hp o) (Ot.n o) (lkh (St.n σ) (Ot.hp o)) | true=>K (Ex.pan (Ot.res o)) { fr:=St.fr σ,hp:=Ot.hp o,n:=Ot.n o,N:=St.N σ,gs:=[] }:=rfl
theorem ZmB (a r):Zp7 a (HB.lp r none)=(r=a):=rfl
theorem ZlL (a r):Zkj a (HB.lb r)=(r=a):=rfl
theorem Zub (p a s l):pmS (p :: a) (s :: l)=(p,s) :: pmS a l:=rfl
theorem ZkP: Zkm [] []=true:=rfl
theorem Zkq (a l b m):Zkm (a :: l) (b :: m)=Zkm l m:=rfl
theorem ZhQ (N):Us N []=true:=rfl
theorem ZjA (N j r):Us N (j :: r)=bif Nat.blt j N then Us N r else false:=rfl
theorem Zuc (p):rfB true p=p:=rfl
theorem Zsf (p):rfB false p=False:=rfl
theorem Zvw (P a b c σ K f d):rfK P a b (SV.cl f d) c σ K=gs0 (St.gs σ) (rfB (Us (St.N σ) c) (RFUN P a b f d c σ K)):=rfl
theorem Zkx (a hp n s):Zqt a hp n (some s)=a { pn:=false,res:=s,hp:=hp,n:=n }:=rfl
theorem Zkp (a hp n):Zqt a hp n none=False:=rfl
theorem ZoU (x s):ZvJ (some s) x=rvD s x:=rfl
theorem ZoL (x):ZvJ none x=none:=rfl
theorem Zpb (σ):Zc5 σ []=some []:=rfl
theorem ZoZ (σ r a):Zc5 σ (r :: a)=ZvJ (rv1 σ r) (Zc5 σ a):=rfl
theorem ZkF (a b x):Wa a b Ex.n x=Zqt b (St.hp x) (St.n x) (rvE (Zc5 x a)):=rfl
theorem Zl1 (a b x):Wa a b Ex.ret x=Zqt b (St.hp x) (St.n x) (rvE (Zc5 x a)):=rfl
theorem ZkX (a b x s):Wa a b (Ex.pan s) x=b { pn:=true,res:=s,hp:=St.hp x,n:=St.n x }:=rfl
theorem Zl4 (a b x c):Wa a b (Ex.ex c) x=False:=rfl
theorem Zu3 (a b Φ x):bdE a b Φ Ex.n x=(Zkj b (lkh a (St.hp x))/\Φ { pn:=false,res:=SV.v (Value.bool true),hp:=(a,HB.lp b none) :: St.hp x,n:=St.n x }):=rfl
theorem ZrJ (a b Φ x i):bdE a b Φ (Ex.ex i) x=(Zkj b (lkh a (St.hp x))/\Φ { pn:=false,res:=SV.v (Value.bool false),hp:=(a,HB.lp b (some (Ex.ex i))) :: St.hp x,n:=St.n x }):=rfl
theorem ZrG (a b Φ x):bdE a b Φ Ex.ret x=(Zkj b (lkh a (St.hp x))/\Φ { pn:=false,res:=SV.v (Value.bool false),hp:=(a,HB.lp b (some Ex.ret)) :: St.hp x,n:=St.n x }):=rfl
theorem ZsF (a b Φ x s):bdE a b Φ (Ex.pan s) x = Φ { pn:=true,res:=s,hp:=St.hp x,n:=St.n x }:=rfl
theorem Zrk (a b c K x):asE a b c K Ex.n x=(Zp7 b (lkh a (St.hp x))/\c { fr:=St.fr x,hp:=(a,HB.lb b) :: St.hp x,n:=St.n x,N:=St.N x,gs:=St.gs x } K):=rfl
theorem ZqX (a b c K x i):asE a b c K (Ex.ex i) x=False:=rfl
theorem ZuH (a b c K x):asE a b c K Ex.ret x=False:=rfl
theorem Ztb (a b c K x s):asE a b c K (Ex.pan s) x=False:=rfl
theorem Ztk (x):rho [] x=0:=rfl
theorem Zrq (a b):rho (a :: b) 0=a:=rfl
theorem ZqS (a l k):rho (a :: l) (Nat.succ k)=rho l k:=rfl
theorem ZrO (ρ a x):mtS ρ a SV.any x=True:=rfl
theorem Ztx (ρ a x k o):mtS ρ a (SV.p k o) x=(k < a/\x=SV.p (ρ k) o):=rfl
theorem Zsy (ρ a x k v):mtS ρ a (SV.mr k v) x=(k < a/\x=SV.mr (ρ k) v):=rfl
theorem Zvb (ρ a x k v m i o):mtS ρ a (SV.pr k v m i o) x=(k < a/\x=SV.pr (ρ k) v m i o):=rfl
theorem Zut (ρ a x k v m i o):mtS ρ a (SV.ms k v m i o) x=(k < a/\x=SV.ms (ρ k) v m i o):=rfl
theorem Zsw (ρ a x l):mtS ρ a (SV.agg l) x=mtO (mtL ρ a l) (ZvX x):=rfl
theorem ZtI (ρ a x l):mtS ρ a (SV.tup l) x=mtO (mtL ρ a l) (ZvW x):=rfl
theorem Zrg (ρ a x f l):mtS ρ a (SV.cl f l) x=mtO (mtL ρ a l) (clL f x):=rfl
theorem Zt7 (ρ a x b):mtS ρ a (SV.v b) x=(x=SV.v b):=rfl
theorem Znl (ρ a x c m b):mtS ρ a (SV.sl c m b) x=(x=SV.sl c m b/\KFR b):=rfl
theorem Zli (ρ a x l o):mtS ρ a (SV.ps l o) x=(x=SV.ps l o/\KFL l):=rfl
theorem Zon (ρ a x k):mtS ρ a (SV.mp k) x=(k < a/\x=SV.mp (ρ k)):=rfl
theorem Zmo (ρ a x k):mtS ρ a (SV.yl k) x=(k < a/\x=SV.yl (ρ k)):=rfl
theorem ZpG (ρ a x T t):mtS ρ a (SV.ifc T t) x=mtI (mtS ρ a t) T x:=rfl
theorem ZkO (ρ a x φ):mtS ρ a (SV.q φ) x=(x=SV.q φ):=rfl
theorem ZpA (ρ a x j w s):mtS ρ a (SV.gd j w s) x=False:=rfl
theorem Zu8 (ρ a x):mtL ρ a [] x=(x=[]):=rfl
theorem Zuo (ρ a x s l):mtL ρ a (s :: l) x=mtB (mtS ρ a s) (mtL ρ a l) x:=rfl
theorem Zsr (ρ a x):mtH ρ a HB.gone x=True:=rfl
theorem ZuF (ρ a l T b c):mtH ρ a (HB.cells l T) (HB.cells b c)=(c=T/\mtL ρ a l b):=rfl
theorem ZuU (ρ a x v m b T):mtH ρ a (HB.row v m b T) x=(x=HB.row v m b T/\KFR b):=rfl
theorem ZqR (ρ a x φ):mtH ρ a (HB.ob φ) x=(x=HB.ob φ):=rfl
theorem Zur (ρ a x b c):mtH ρ a (HB.map b c) x=(x=HB.map b c/\∀ (e:Nat × Value × SV),e ∈ b->KF (Prod.snd (Prod.snd e))):=rfl
theorem Zvp (ρ d x e a b c):mtH ρ d (HB.it e a b c) x=(e < d/\x=HB.it (ρ e) a b c):=rfl
theorem Zsg (ρ a x r b):mtH ρ a (HB.lp r b) x=(x=HB.lp r b):=rfl
theorem Zr7 (ρ a x r):mtH ρ a (HB.lb r) x=(x=HB.lb r):=rfl
theorem ZsT (ρ a x v m b T o c d e):mtH ρ a (HB.rws v m b T o c d e) x=(x=HB.rws v m b T o c d e/\KFR b/\∀ (r:List (List SV)),r ∈ d->KFR r):=rfl
theorem ZmC (ρ a l T v m b c):mtH ρ a (HB.cells l T) (HB.row v m b c)=False:=rfl
theorem Zm3 (ρ a l T φ):mtH ρ a (HB.cells l T) (HB.ob φ)=False:=rfl
theorem Zky (ρ a l T b c):mtH ρ a (HB.cells l T) (HB.map b c)=False:=rfl
theorem ZnC (ρ a l T b c d e):mtH ρ a (HB.cells l T) (HB.it b c d e)=False:=rfl
theorem Zoq (ρ a l T b c):mtH ρ a (HB.cells l T) (HB.lp b c)=False:=rfl
theorem Zmn (ρ a l T b):mtH ρ a (HB.cells l T) (HB.lb b)=False:=rfl
theorem Zku (ρ a l T v m b c o d e f):mtH ρ a (HB.cells l T) (HB.rws v m b c o d e f)=False:=rfl
theorem ZmY (ρ a l T):mtH ρ a (HB.cells l T) HB.gone=False:=rfl
theorem Zr6 (p):mtM true p=True:=rfl
theorem Zvj (p):mtM false p=p:=rfl
theorem ZuP (ρ a x b):mtF ρ a x [] b=True:=rfl
theorem ZtA (ρ a x b t s r):mtF ρ a x ((t,s) :: r) b=(mtM (YT t x) (mtS ρ a s (lk t b))/\mtF ρ a (t :: x) r b):=rfl
theorem ZtK (ρ a hp b):mtP ρ a hp b 0=True:=rfl
theorem ZrP (ρ a hp b j):mtP ρ a hp b (Nat.succ j)=(mtH ρ b (lkh j a) (lkh (ρ j) hp)/\mtP ρ a hp b j):=rfl
theorem Zth (a):hpb a []=True:=rfl
theorem Zse (a u s r):hpb a ((u,s) :: r)=(u < a/\hpb a r):=rfl
theorem ZuS (a b):eqC 0 (SV.v (Value.bool a)) (SV.v (Value.bool b))=some (a == b):=rfl
theorem Zuj (k a j b):eqC 1 (SV.v (Value.int k a)) (SV.v (Value.int j b))=bif Zce k j then some (a == b) else none:=rfl
theorem ZvD (a b):eqC 2 (SV.v (Value.string a)) (SV.v (Value.string b))=some (ByteArray.toList a == ByteArray.toList b):=rfl
theorem ZuE (a b):eqA (some a) (some b)=some (a && b):=rfl
theorem Zn7: Ze2 [] [] []=some true:=rfl
theorem Zof (c a b d y e):Ze2 (c :: a) (b :: d) (y :: e)=eqA (eqC c b y) (Ze2 a d e):=rfl
theorem Zl5 (c a b):Zpy c true (SV.agg a) (SV.agg b)=Ze2 c a b:=rfl
theorem ZpJ (c a b):Zpy c false (SV.v (Value.bool a)) (SV.v (Value.bool b))=some (a == b):=rfl
theorem ZtD (a b):eqR a (some b)=some (SV.v (Value.bool (ngB a b))):=rfl
theorem ZqF (a):eqR a none=none:=rfl
theorem ZuO (x):ngB true x = !x:=rfl
theorem ZtX (x):ngB false x=x:=rfl
theorem Zlb (m hp c a b):ZsV m hp (SV.sl c a b)=Zfq b (Nat.beq m a):=rfl
theorem ZmU (m hp):ZsV m hp (SV.v (Value.slice none 0 0))=some []:=rfl
theorem ZmM (m hp k v):ZsV m hp (SV.mr k v)=Zgm m v (lkh k hp):=rfl
theorem ZpN (m a b):Zjo m (SV.sl true a b)=Zfq b (Nat.beq m a):=rfl
theorem ZoB (m):Zjo m (SV.v (Value.slice none 0 0))=some []:=rfl
theorem Zpg (g m b d σ r K a c):ZvR g m b (some a) (some c) d σ r K=APP g m b a c d σ r K:=rfl
theorem Zow (g m b d σ r K a):ZvR g m b (some a) none d σ r K=False:=rfl
theorem Zln (g m b y d σ r K):ZvR g m b none y d σ r K=False:=rfl
theorem Zn0 (l):ZvX (SV.agg l)=some l:=rfl
theorem ZlZ (l):ZvW (SV.tup l)=some l:=rfl
theorem ZvF (f a b):clL f (SV.cl a b)=bif Nat.beq a f then some b else none:=rfl
theorem Zuw (p q):mtB p q []=False:=rfl
theorem ZuG (p q s l):mtB p q (s :: l)=(p s/\q l):=rfl
theorem ZiI (x a b c d e f):Zoh false true x a b c d e f=e { fr:=(x,SV.mr (St.n d) 0) :: St.fr d,hp:=(St.n d,HB.row 0 a b c) :: St.hp d,n:=St.n d+1,N:=St.N d,gs:=St.gs d } f:=rfl
theorem ZpD (m a T σ r K b):Zn3 (some b) m a T σ r K=Zoh (YT b (St.gs σ)) (Nat.blt b (St.N σ)) b m a T σ r K:=rfl
theorem Zpd (m a T σ r K):Zn3 none m a T σ r K=False:=rfl
theorem ZlW (b d m T σ r K a):Zqj b d m (some []) (some a) T σ r K=CLN b d m a T σ r K:=rfl
theorem Zov (b d m y T σ r K a c):Zqj b d m (some (a :: c)) y T σ r K=False:=rfl
theorem ZkG (b d m T σ r K):Zqj b d m (some []) none T σ r K=False:=rfl
theorem ZmI (b d m y T σ r K):Zqj b d m none y T σ r K=False:=rfl
theorem ZoK (b d m z T σ r K k n):Zwt b d m z (SV.v (Value.int k n)) T σ r K=MKS b d m (lit z) n T σ r K:=rfl
theorem ZkQ (d σ r K c m a):Zy8 d (SV.sl c m a) σ r K=ISN d a σ r K:=rfl
theorem ZpL (g d σ r K c m a b n e j):ZyZ g (SV.sl c m a) (SV.v (Value.int b n)) (SV.v (Value.int e j)) d σ r K=SLC g n j m a d σ r K:=rfl
theorem Zn4 (g m a d σ r K i j):ZvK g m a (some i) (some j) d σ r K=SUB g i j m a d σ r K:=rfl
theorem ZmA (g m a d σ r K b):ZvK g m a (some b) none d σ r K=False:=rfl
theorem Zm1 (g m a b d σ r K):ZvK g m a none b d σ r K=False:=rfl
theorem ZmZ (a ρ):Zbf a ρ none=some a:=rfl
theorem ZnG (a ρ b):Zbf a ρ (some b)=match ρ b with | SV.v (Value.int k n)=>some n | x=>none:=rfl
theorem Znx (m c a b):Zea m (SV.sl c a b)=Zfq b (Nat.beq m a):=rfl
theorem Zl2 (m):Zea m (SV.v (Value.slice none 0 0))=some []:=rfl
theorem ZoD (x h j w):Zv8 false (.v x) h j w=false:=rfl
theorem ZeQ (x l):Zm (x :: l) 0 []=x :: l:=rfl
theorem ZfL:Zm [] 0 []=[]:=rfl
attribute [go_sem] ZoX ZpQ ZpE Zmi w64_0 ZbQ Zbv w64_3 w64_4 w64_5 w64_6 e_stO ZxP Zvv Znc Zsj ZyH Zom ZlF ZqE Zo7 ZkM ZlK Zw9 ZsI Zyt Zti Zre phx_1 phx_2 phK_n Zte ZwG Ztn Zxm ZoA ZtH Zvg ZuQ Zpx sx_gh Zps Zt0 ZxI ZqN Zo0 Zxv ZnJ ZyE ZpF Zxz Zty ZnB lkB_t lkB_f Zx4 Zwx ZtO Ztm Zwq ZxX Zo9 Zts ZtC ZwP Zx7 Zxd e_lk e_lk0 e_lkh ZwA Zx9 ZsC e_blk Zgu ZkH Ztt Zq0 ZqO ZjJ Zo2 ZgZ ZmG ZrX ZrE Zu2 Zie Zn5 ZdQ Zf8 Zi6 ZhE Zg6 ZdR Ze0 ZeI ZjQ ZnV Zm4 ZoS ZeY ZiA ZqW ZfS ZiO ZnF Zle Zlg Zfc ZgF Zf3 ZfR Zhj ZhT Zpi ZnU Zlv ZnZ Zla Zlk ZeX Zgg Zi0 Zjr ZfZ ZhB Zob Zpp Zms Zfj Zi1 ZeZ ZhR ZoR ZpC ZpB ZfW ZiK ZdA Zf9 Zju ZjE ZiW ZeN Zj9 Znj ZuT Zuh ZsY Zh1 Zoo Zfg Zh2 Zm8 Zpt Zk3 ZfO ZjK ZfH ZgJ Zfw Zik Zdo Zga Zhq Zim Zke Zdv ZfY Zc8 Zc7 e_yld e_exR e_hpM Zhv ZdF Zf2 ZiL Ziz Zi3 ZfE Zit Zr0 Zc9 Zf4 ZdJ Ze4 ZbF ZaY Zct ZaU Zaq e_rdG ZyL Zx8 ZxL e_alw Zwl e_vw1 e_vw2 e_vw3 e_vw4 Zlu ZlV Zww Zg8 Ziw Zfu ZfU ZeT ZfP Ze8 ZfT ZfF Zfh ZeK ZiJ Ze3 Zfx ZeM Zhw Ze1 Zf6 Zgb Zoy ZoH Zha Ziv Zih Zkb ZoQ Zlf ZxZ Zuv Zsn e_mm e_bld ZfC ZwU ZlY ZgT ZoG Zmy ZoI Zhc Zgv e_rvR ZyJ ZsL Zsh ZpI Zf1 Zdd Zgw ZmH ZfV ZhS Ziy Znq Ze6 Zii Zil ZiH ZgK Zhn Zne Zfd ZfG ZjC ZfJ Zjl e_rvs ZlM ZhU Zna ZqK Zyy Zjy Zjb ZhG Zjv Zo8 Znw Zsl ZrI Zvt ZsX ZrV Zua Zsz Zrv Zq1 ZuI ZsD Zlq ZmQ ZkT ZlO Zo4 ZoJ Zny ZlD ZpM Zl7 Zno ZnY ZuL Ztp Zt9 Zsq ZtQ Zss Zva Zr1 Ztj ZtU ZrR ZsW ZsE ZnD Zn6 ZoP Zma Znt ZmT Zop ZnO Zjq ZiR ZlE Zks Zhk Zhe Zs4 ZuR Zjm Zhu Zgq ZgE Zot Zlz Zhm Znh Zn8 ZoW Zmv ZpP ZpO Zo6 Zmg Zok ZkK Zt6 ZqH ZrU ZqP Zrd Zt5 Zrb Zr9 ZnA ZlH ZlR Zog Zk7 Zm7 Zpo Zoe Zkt Zol Zls ZoF Zoi ZmX Zm5 Znz Zou Zpj ZlI Zh5 ZgU Zjh Zhb Zjt Zkf Zif Zh6 Zgx ZjX ZhL ZgN ZhF Zho Zh9 ZgO ZgV ZjN Zjc ZjP Zg0 Zj7 Zgy ZiU Zg5 Zia ZhV Zj0 ZhW ZlN Zml ZiS Zpv Zod Zoz Zng Zmr Zmd Zwv ZwJ Zpz Zl6 ZlU Zm6 Zo3 Zn1 Zkr Zmx ZkY ZoV ZmV Zkw Zmt Znd Zpm ZnH ZkB ZmS Zmf Zko ZkA Znr Zr3 Zni Zlr Zsm Ztr Zt4 Ztf ZfA ZfD ZrA Zrc ZsU ZtB Zr8 Zq9 Zvm Zr2 Zum ZnE ZnK Zlp Zpl Zg3 ZxQ Zwh Zvk ZuX Zoa Zmq ZrC ZlA ZlB Zmk Znb Zmm ZkV Zk8 Zld ZrZ Zs1 ZuY Zul ZsK ZuJ ZsN Zgc ZfX Zmj Zmp Zlc ZnP Znp Ztc Zrz Zl0 Zlm Zn2 Zlh Ztw Zsa Zsd ZrB ZqY Zto ZvC Zu1 Zsu ZoT ZoE ZoM ZmR Zoc Zlx ZmD Zu7 Zve Zup Zrt ZvB Zq4 ZqL ZqD Ztd ZkD Zm2 ZlX ZoC Zpn Zlw Zoj ZrK Ztz Zra ZtV Zun ZsO Zr5 Zs5 Zq3 Zrp ZvA Zrw Zq6 ZgX Zi9 Zt3 Zry ZtJ Zid Zg7 ZsH ZrT Zui ZsS Zuz Zrr ZrS ZmB ZlL Zub ZkP Zkq ZhQ ZjA Zuc Zsf Zvw Zkx Zkp ZoU ZoL Zpb ZoZ ZkF Zl1 ZkX Zl4 Zu3 ZrJ ZrG ZsF Zrk ZqX ZuH Ztb Ztk Zrq ZqS ZrO Ztx Zsy Zvb Zut Zsw ZtI Zrg Zt7 Znl Zli Zon Zmo ZpG ZkO ZpA Zu8 Zuo Zsr ZuF ZuU ZqR Zur Zvp Zsg Zr7 ZsT ZmC Zm3 Zky ZnC Zoq Zmn Zku ZmY Zr6 Zvj ZuP ZtA ZtK ZrP Zth Zse ZuS Zuj ZvD ZuE Zn7 Zof Zl5 ZpJ ZtD ZqF ZuO ZtX Zlb ZmU ZmM ZpN ZoB Zpg Zow Zln Zn0 ZlZ ZvF Zuw ZuG ZiI ZpD Zpd ZlW Zov ZkG ZmI ZoK ZkQ ZpL Zn4 ZmA Zm1 ZmZ ZnG Znx Zl2 ZoD ZeQ ZfL List.drop List.take List.length List.cons_append List.nil_append Nat.beq Nat.blt Nat.ble Nat.zero_add Nat.add_zero Nat.mul_one Nat.zero_mul Nat.one_mul cond_true cond_false List.set
attribute [go_sem] Zwu ZrH
theorem Zw5:GT 0=some [.v (.int .i64 0),.v (.int .i64 0)]:=rfl
attribute [go_sem] Zw5
end Go.Sx
