/- Walks and plain laws that lead to the given statement, part 4 of 10. -/
import Derived.Test.YtkpkgafhfakpdaaGreatDoorQC
import Derived.MapKept
import Derived.WideKeyRuns
import Derived.Recover
set_option linter.all false
open Nat renaming beq_refl->nbr
namespace Go.Sx
open Go Go.RowKit
variable {Y:Hd}
section
variable (P:Program) (m:Nat) (σ : St) (K:Ex->St->Prop) (L:RK)
theorem Zyi:rx P Y [] σ L=L .n σ:=rfl
theorem ZtL (io:Ins) (r:List Ins):rx P Y (io :: r) σ L=st1 P Y io σ (rx P Y r) L:=rfl
theorem ZzI (ops:List Ins):sx P Y m (.reg ops) σ K=rx P Y ops σ (Zbv K):=rfl
theorem Zsf (ord:List Nat) (p:Ph) (ps:List Ph):sx P Y m (.regs ord p ps) σ K=phx P Y p ps σ (Zbv K):=rfl
theorem phx_1 (vs:List VI) (nA nB:Nat) (rest:List Ins):phx P Y ⟨vs,nA,nB,rest⟩ [] σ L=gs0 σ.gs (rxv P Y (Zb8 σ.hp (rx P Y rest)) vs σ L):=rfl
theorem phx_2 (vs:List VI) (nA nB:Nat) (rest:List Ins) (q:Ph) (ps:List Ph):phx P Y ⟨vs,nA,nB,rest⟩ (q :: ps) σ L=gs0 σ.gs (rxv P Y (Zb8 σ.hp (rx P Y rest)) vs σ (phK (phx P Y q ps) L)):=rfl
theorem phK_n (f:St->RK->Prop):phK f L .n σ = f σ L:=rfl
theorem Zul (ord:List Nat) (vs:List VI) (nA nB:Nat) (rest:List Ins):sx P Y m (.regd ord vs nA nB rest) σ K=gs0 σ.gs (rxv P Y (Zb8 σ.hp (rx P Y rest)) vs σ (Zbv K)):=rfl
theorem Ztn (r:KT):rxv P Y r [] σ L=r σ L:=rfl
theorem ZzX (r:KT) (io:Ins) (l:List VI):rxv P Y r (.op io :: l) σ L=st1 P Y io σ (rxv P Y r l) L:=rfl
theorem Zpe (r:KT) (x:X) (l:List VI):rxv P Y r (.hide x :: l) σ L=ZcY (rdG none σ.fr x) σ (rxv P Y r l) L:=rfl
theorem Zmk (hp:List (Nat × HB)) (r:KT):Zb8 hp r σ L=r ⟨σ.fr,hp,σ.n,σ.N,σ.gs⟩ L:=rfl
theorem ZrE (k o:Nat) (r:KT):ZcY (.p k o) σ r L=r ⟨σ.fr,(k,.gone) :: σ.hp,σ.n,σ.N,σ.gs⟩ L:=rfl
theorem Zlt (k v:Nat) (r:KT):ZcY (.mr k v) σ r L=r ⟨σ.fr,(k,.gone) :: σ.hp,σ.n,σ.N,σ.gs⟩ L:=rfl
theorem Zp0 (k v m i o:Nat) (r:KT):ZcY (.pr k v m i o) σ r L=r ⟨σ.fr,(k,.gone) :: σ.hp,σ.n,σ.N,σ.gs⟩ L:=rfl
theorem Zmq (k v m i o:Nat) (r:KT):ZcY (.ms k v m i o) σ r L=r ⟨σ.fr,(k,.gone) :: σ.hp,σ.n,σ.N,σ.gs⟩ L:=rfl
theorem Zuh (p:Prop):gs0 [] p=p:=rfl
theorem ZxO (a b:SC):sx P Y m (.seq a b) σ K=sx P Y m a σ (ZtU (sx P Y m b) K):=rfl
theorem Zup (c:X) (a b:SC):sx P Y m (.cond c a b) σ K=Zz4 (rdG none σ.fr c) (sx P Y m a) (sx P Y m b) σ K:=rfl
theorem Zps (id:Nat) (c:SC):sx P Y m (.block id c) σ K=sx P Y m c σ (Zrf id K):=rfl
theorem ZuK (c:SC):sx P Y m (.loop c) σ K=ZrV m (sx P Y m c) σ K:=rfl
theorem Zwj (id:Nat):sx P Y m (.exit id) σ K=K (.ex id) σ:=rfl
theorem Zyw:sx P Y m .ret σ K=K .ret σ:=rfl
theorem ZvU:sx P Y m .skip σ K=K .n σ:=rfl
theorem Zqs (c:SC):sx P Y m (.scope c) σ K=sx P Y m c σ K:=rfl
theorem sx_gh (c:SC):sx P Y m (.gh c) σ K=GH m (sx P Y m c) σ K:=rfl
theorem Zqm (l:Nat):sx P Y m (.label l) σ K=K .n σ:=rfl
theorem Zu4 (e:Ex):Zbv K e σ = K e (W7 σ):=rfl
theorem ZyQ (f:CT):ZtU f K .n σ = f σ K:=rfl
theorem ZrN (f:CT) (i:Nat):ZtU f K (.ex i) σ = K (.ex i) σ:=rfl
theorem ZpR (f:CT) (s:SV):ZtU f K (.pan s) σ = K (.pan s) σ:=rfl
theorem ZpU (f:CT):ZtU f K .ret σ = K .ret σ:=rfl
theorem ZyF (id:Nat):Zrf id K .n σ = K .n σ:=rfl
theorem ZqL (id:Nat) (s:SV):Zrf id K (.pan s) σ = K (.pan s) σ:=rfl
theorem ZoB (id:Nat):Zrf id K .ret σ = K .ret σ:=rfl
theorem ZzT (rs:List RV) (res:SV):Zz6 rs res .n σ = (rvR rs σ = some res):=rfl
theorem ZqA (rs:List RV) (res:SV):Zz6 rs res .ret σ = (rvR rs σ = some res):=rfl
theorem ZyI {S:Type} (st:S->St) (rel:S->Prop) (μ : S->Nat) (s:S):Zmy m st rel μ s K .n σ = ∃ s',rel s'/\μ s' < μ s/\Ent m σ (st s'):=rfl
theorem ZuB {S:Type} (st:S->St) (rel:S->Prop) (μ : S->Nat) (s:S) (i:Nat):Zmy m st rel μ s K (.ex i) σ = K (.ex i) σ:=rfl
theorem Zm2 {S:Type} (st:S->St) (rel:S->Prop) (μ : S->Nat) (s:S) (x:SV):Zmy m st rel μ s K (.pan x) σ = K (.pan x) σ:=rfl
theorem Zos {S:Type} (st:S->St) (rel:S->Prop) (μ : S->Nat) (s:S):Zmy m st rel μ s K .ret σ = K .ret σ:=rfl
end
section
variable {P:Program} {m:Nat} {σ : St} {K:Ex->St->Prop} {L:RK} {r:KT} {d:Option Nat} {g:Option (Nat × Bool)}
theorem br {b:Bool} {f h:CT} (h1:b=true->f σ K) (h2:b=false->h σ K):BR b f h σ K:=⟨h1,h2⟩
theorem Zt {b:Bool} {f h:CT} (hb:b=true) (h1:f σ K):BR b f h σ K:=⟨λ_=>h1,λe=>by rw [hb] at e;cases e⟩
theorem Zn {b:Bool} {f h:CT} (hb:b=false) (h1:h σ K):BR b f h σ K:=⟨λe=>by (rw [hb] at e;cases e),λ_=>h1⟩
theorem gb {b w:Bool} {j:Nat} {i:SI} (h:Yf P (some (j,w)) d i σ r L):GB P Y b j w d i σ r L:=.inr (.inr h)
theorem ZO {b w:Bool} {j:Nat} {i:SI} (hb:b=w) (h:stp P Y d i σ r L):GB P Y b j w d i σ r L:=.inl ⟨hb,h⟩
theorem XB {b w:Bool} {j:Nat} {i:SI} (hb:b≠w) (h:Zto d σ r L):GB P Y b j w d i σ r L:=.inr (.inl ⟨hb,h⟩)
theorem call {f:FuncId} {args:List SV} {res:SV} (h:Ct P f args res) (hk:Yo d res g σ r L):ZwQ P g f args d σ r L:=⟨res,.inl (ZP.2 λ_=>h),hk⟩
theorem Xi {f:FuncId} {args:List SV} {res:SV} (hf:FLT res) (h:Ct P f (Za1 (vw4 σ.hp) args) res) (hk:Yo d res g σ r L):ZwQ P g f args d σ r L:=⟨res,.inr ⟨hf,ZP.2 λ_=>h⟩,hk⟩
theorem Zcq {b:BinOp} {k:IntKind} {x y:Int} (h:y≠0) (hk:Yo d (.v (.int k (ZxK b k x y))) g σ r L):DIV g b k x y d σ r L:=⟨ZP.2 λ_=>h,hk⟩
theorem ixs {xs:List (List SV)} {i:Int} (n:Nat) (row:List SV) (hi:i=(n:Int)) (hr:xs[n]? = some row) (hk:Yo d (.ps row 0) g σ r L):IXS g xs i d σ r L:=⟨row,ZP.2 λ_=>⟨n,hi,hr⟩,hk⟩
theorem Zx {α : Type} {l:List α} {f:α->List SV} {i:Int} (n:Nat) (hn:n < l.length) (hi:i=(n:Int)) (hk:Yo d (.ps (f l[n]) 0) g σ r L):IXS g (l.map f) i d σ r L :=
 ixs n _ hi (by simp [hn]) hk
theorem ixa {len:Nat} {i:Int} {F:Nat->Option SV} (n:Nat) (hi:i=(n:Int)) (hn:n < len) (hk:XR (F n) d g σ r L):IXA g len i F d σ r L:=⟨n,ZP.2 λ_=>⟨hi,hn⟩,hk⟩
theorem loop {f:CT} {S:Type} (st:S->St) (rel:S->Prop) (μ : S->Nat) (s:S) (h0:rel s) (he:Ent m σ (st s)) (hb:∀ s,rel s->f (st s) (Zmy m st rel μ s K)):ZrV m f σ K :=
 .inr ⟨S,st,rel,μ,⟨s,h0,he⟩,hb⟩
theorem ZU {f:CT} (n:Nat) (h:ZwK f K n σ):ZrV m f σ K:=.inl ⟨n,h⟩
theorem Zc {f:CT} (n:Nat):ZwK f K (n+1) σ = f σ (ZwL (ZwK f K n) K):=rfl
theorem Zy1 (p:St->Prop):ZwL p K .n σ = p σ:=rfl
theorem Zwy (p:St->Prop) (i:Nat):ZwL p K (.ex i) σ = K (.ex i) σ:=rfl
theorem Zqz (p:St->Prop) (s:SV):ZwL p K (.pan s) σ = K (.pan s) σ:=rfl
theorem ZnZ (p:St->Prop):ZwL p K .ret σ = K .ret σ:=rfl
def Zw6:List (Nat × SV)->List (Nat × SV)->Prop
 | [],_=>True
 | (t,s) :: r,fr=>lk t fr=s/\Zw6 r fr
def Zw8:List (Nat × SV)->Bool
 | []=>true
 | (_,.gd _ _ _) :: _=>false
 | _ :: r=>Zw8 r
theorem Ziu:∀ {r fr:List (Nat × SV)},Zw6 r fr->∀ t,lk t r = .any\/lk t r=lk t fr
 | [],_,_,t=>.inl rfl
 | (u,s) :: r,fr,h,t=>by
  rw [ZB];by_cases ht:t=u
  . subst ht;rw [if_pos rfl];exact .inr h.1.symm
  . rw [if_neg ht];exact Ziu h.2 t
theorem Zdt:∀ {r:List (Nat × SV)},Zw8 r=true->∀ t j b s,lk t r≠.gd j b s
 | [],_,t,j,b,s=>by simp [lk]
 | (u,s') :: r,h,t,j,b,s=>by
  rw [ZB];by_cases ht:t=u
  . rw [if_pos ht];rintro rfl;simp [Zw8] at h
  . rw [if_neg ht];exact Zdt (by cases s'<;>first | exact h | simp [Zw8] at h) t j b s
end
section
variable {w:World} {E:Env} {ok ok':Nat->Prop} {ρ : Nat->Nat} {n':Nat} {n:Nat->Prop}
theorem ent {σ σ':St} (ρ : Nat->Nat) (hf:mtF ρ σ'.n [] σ'.fr σ.fr) (hp:mtP ρ σ'.hp σ.hp σ'.n σ'.n) (hb:hpb σ'.n σ'.hp) (hρ : ∀ i,i < σ'.n->∀ j,j < σ'.n->ρ i = ρ j->i=j) (hN:Nat.beq σ'.N σ.N=true) {m0:Nat} (hm:Nat.ble m0 σ'.n=true) (hfix:∀ i,i < m0->ρ i=i):Ent m0 σ σ':=by
 intro C E a w hm0 h;have hN:=Nat.eq_of_beq_eq_true hN;have hgone:=Zb2 hb;have hH:=Zh1 hp;have hocc:∀ k b,occ (rnE E ρ) k (lkh k σ'.hp) b->k < σ'.n/\occ E (ρ k) (lkh (ρ k) σ.hp) b:=λk b ho=>by
  by_cases hk:k < σ'.n
  . refine ⟨hk,?_⟩;have:=hH k hk;cases h1:lkh k σ'.hp<;>rw [h1] at ho this
    . cases h2:lkh (ρ k) σ.hp<;>rw [h2] at this<;>simp only [mtH] at this
      exact ho
    . simp only [mtH] at this;rw [this.1];exact ho
    . simp only [mtH] at this;rw [this];exact ho
    . simp only [mtH] at this;rw [this.1];exact ho
    . simp only [mtH] at this;rw [this.2];exact ho
    . simp only [mtH] at this;rw [this];exact ho
    . simp only [mtH] at this;rw [this];exact ho
    . simp only [mtH] at this;rw [this.1];exact ho
    . exact ho.elim
  . rw [hgone k hk] at ho;exact ho.elim
 have hst:ZF w w (okS C E σ.hp) (okS C (rnE E ρ) σ'.hp):=λb hb _=>⟨⟨hb.1,λk ho=>hb.2 _ (hocc k b ho).2⟩,rfl⟩;refine ⟨rnE E ρ,λt=>?_,by rw [hN];exact h.sz,Xp hst h.df,λt j b s ht=>?_,⟨hgone,λk=>?_,λk k' b h1 h2=>?_,λk b h1=>?_,h.hs.kp,λk hk=>?_⟩⟩
 . rcases Ziv hf t rfl with h1 | h1
   . rw [h1];exact trivial
   . have:=mtS_R hst h1 (h.fr t);have hng:=Zb3 h1;cases hs:lk t σ'.fr<;>rw [hs] at this hng<;>first | exact this | exact absurd rfl (hng _ _ _)
 . rcases Ziv hf t rfl with h1 | h1
   . rw [h1] at ht;cases ht
   . exact absurd ht (Zb3 h1 j b s)
 . by_cases hk:k < σ'.n
   . have:=hH k hk;have hbk:=h.hs.bk (ρ k);cases h1:lkh k σ'.hp<;>rw [h1] at this
     . cases h2:lkh (ρ k) σ.hp<;>rw [h2] at this hbk<;>simp only [mtH] at this
       obtain ⟨rfl,this⟩:=this;simp only [Z1] at hbk ⊢;obtain ⟨cs,k1,k2⟩:=hbk;exact ⟨cs,k1,Zaj hst _ _ _ this k2⟩
     . simp only [mtH] at this;rw [this.1] at hbk;simp only [Z1] at hbk ⊢;obtain ⟨hi0,hbk⟩:=hbk;refine ⟨hi0,?_⟩;rcases hbk with q | ⟨b,cap,cs,q1,q2,q3,q4,q5,q6,q7⟩
       . exact .inl q
       . exact .inr ⟨b,cap,cs,q1,q2,q3,q4,q5,q6,ZC hst (λ_ h=>Ele.rfl) (λ_ h=>h.elim) _ _ (ZaU (E':=rnE E ρ) (n':=λ_=>False) _ _ (WW this.2) q7)⟩
     . rename_i φ;simp only [mtH] at this;rw [this] at hbk;simp only [Z1] at hbk ⊢;obtain ⟨o,k1,k2⟩:=hbk;exact ⟨o,k1,φ.mono _ _ _ _ _ hst k2⟩
     . simp only [mtH] at this;obtain ⟨this,hkf⟩:=this;rw [this] at hbk;simp only [Z1] at hbk ⊢;obtain ⟨ys,k1,k2⟩:=hbk;exact ⟨ys,k1,Zpk hst _ _ hkf k2⟩
     . simp only [mtH] at this;rw [this.2] at hbk;simp only [Z1] at hbk ⊢;exact ⟨this.1,hbk.2⟩
     . simp only [mtH] at this;rw [this] at hbk;simp only [Z1] at hbk ⊢;exact hbk
     . simp only [mtH] at this;rw [this] at hbk;simp only [Z1] at hbk ⊢;exact hbk
     . simp only [mtH] at this;obtain ⟨this,k1,k2⟩:=this;rw [this] at hbk;exact Vj (E:=E) (k:=ρ k) (E':=rnE E ρ) hst.c (λ_ _=>rfl) rfl hk k1 k2 hbk
     . trivial
   . rw [hgone k hk];trivial
 . have e1:=hocc k b h1;have e2:=hocc k' b h2;exact hρ k e1.1 k' e2.1 (h.hs.dj _ _ b e1.2 e2.2)
 . obtain ⟨e1,e2⟩:=hocc k b h1;rcases h.hs.lo _ b e2 with q | q
   . exact .inl q
   . have q1:=Nat.lt_of_lt_of_le (hm0.2 _ _ q) hm0.1;have q2:ρ k=k:=hρ _ (Nat.lt_of_lt_of_le q1 (Nat.le_of_ble_eq_true hm)) k e1 (hfix _ q1);rw [q2] at q;exact .inr q
 . have hk':k < m0:=Nat.lt_of_lt_of_le hk hm0.1;obtain ⟨p1,p2,p3,p4⟩:=h.hs.pin k hk;exact ⟨Nat.lt_of_lt_of_le hk' (Nat.le_of_ble_eq_true hm),by simp only [rnE,hfix k hk'];exact p2,by simp only [rnE,hfix k hk'];exact p3,by simp only [rnE,hfix k hk'];exact p4⟩
end
theorem Zmw {ρ : Nat->Nat} {n':Nat}:∀ {s:SV},KF s->mtS ρ n' s s:=by
 intro s;exact SV.rec (motive_1:=λs=>KF s->mtS ρ n' s s) (motive_2:=λl=>KFL l->mtL ρ n' l l) (motive_3:=λ_=>True)
  (λx _=>by simp [mtS]) (λk o h=>by simp [KF] at h) (λl ih h=>by simp only [KF] at h;simp only [mtS,Zw3,mtO];exact ih h)
  (λc m xs _ h=>by simp only [KF] at h;simp [mtS,h]) (λk v h=>by simp [KF] at h) (λk v m i o h=>by simp [KF] at h) (λk v m i o h=>by simp [KF] at h)
  (λl o _ h=>by simp only [KF] at h;simp [mtS,h]) (λf l ih h=>by simp only [KF] at h;simp only [mtS,clL,nbr,cond_true,mtO];exact ih h)
  (λl ih h=>by simp only [KF] at h;simp only [mtS,Zw1,mtO];exact ih h) (λk h=>by simp [KF] at h) (λk h=>by simp [KF] at h) (λT s ih h=>by simp only [KF] at h;simp only [mtS,mtI];exact ⟨trivial,ih h⟩) (λφ _=>by simp [mtS]) (λj w s _ h=>by simp [KF] at h) (λ_=>by simp [mtS])
  (λ_=>by simp [mtL]) (λs l h1 h2 h=>by simp only [KFL] at h;simp only [mtL,mtB];exact ⟨h1 h.1,h2 h.2⟩)
  trivial (λ_ _ _ _=>trivial) s
theorem Zb {ρ : Nat->Nat} {n':Nat}:∀ {l:List SV},KFL l->mtL ρ n' l l
 | [],_=>by simp [mtL]
 | s :: l,h=>by simp only [mtL,mtB];exact ⟨Zmw h.1,Zb h.2⟩
abbrev I (n:Int):SV:=.v (.int .i64 n)
abbrev B (b:Bool):SV:=.v (.bool b)
theorem Zd:∀ {xs ys:List (List SV)},KFR (xs ++ ys)↔KFR xs/\KFR ys
 | [],ys=>by simp [KFR]
 | x :: xs,ys=>by simp [KFR,Zd (xs:=xs) (ys:=ys),and_assoc]
theorem Za {α : Type} {f:α->List SV} {l:List α}:KFR (l.map f)↔∀ x ∈ l,KFL (f x):=by
 induction l with
 | nil=>simp [KFR]
 | cons x l ih=>simp [KFR,ih]
attribute [simp] Zd KFR KFL KF Zb mtO Nat.beq_refl
theorem Zf {n:Int} (h1:-9223372036854775808<=n) (h2:n<=9223372036854775807):IntKind.i64.wrap n=n:=IntWalk.i64_in n ⟨h1,h2⟩
def stO {S:Type} (σ : St) (ov:S->List (Nat × SV)) (hv:S->List (Nat × HB)) (s:S):St:=⟨ov s ++ σ.fr,hv s ++ σ.hp,σ.n,σ.N,[]⟩
theorem e_stO {S:Type} (fr:List (Nat × SV)) (hp:List (Nat × HB)) (n N:Nat) (gs:List Nat) (ov:S->List (Nat × SV)) (hv:S->List (Nat × HB)) (s:S):stO ⟨fr,hp,n,N,gs⟩ ov hv s=⟨ov s ++ fr,hv s ++ hp,n,N,[]⟩:=rfl
theorem Yb {m:Nat} {f:CT} {σ : St} {K:Ex->St->Prop} {S:Type} (ov:S->List (Nat × SV)) (hv:S->List (Nat × HB)) (rel:S->Prop) (μ : S->Nat) (s0:S) (h0:rel s0) (he:Ent m σ (stO σ ov hv s0))
 (hb:∀ s,rel s->f (stO σ ov hv s) (Zmy m (stO σ ov hv) rel μ s K)):ZrV m f σ K :=
 loop (stO σ ov hv) rel μ s0 h0 he hb
theorem ZmU {m:Nat} {f:CT} {σ σ1:St} {K:Ex->St->Prop} {S:Type} (hg:Ent m σ σ1) (ov:S->List (Nat × SV)) (hv:S->List (Nat × HB)) (rel:S->Prop) (μ : S->Nat) (s0:S) (h0:rel s0) (he:Ent m σ1 (stO σ1 ov hv s0))
 (hb:∀ s,rel s->f (stO σ1 ov hv s) (Zmy m (stO σ1 ov hv) rel μ s K)):ZrV m f σ K :=
 loop (stO σ1 ov hv) rel μ s0 h0 (WD hg he) hb
theorem gh {m:Nat} {r:CT} {σ σ1:St} {K:Ex->St->Prop} (hg:Ent m σ σ1) (h:r σ1 K):GH m r σ K:=.inl ⟨σ1,hg,h⟩
theorem gh2 {m:Nat} {r:CT} {σ σ1 σ2:St} {K:Ex->St->Prop} (hg:EntD m σ σ1 σ2) (h1:r σ1 K) (h2:r σ2 K):GH m r σ K:=.inr ⟨σ1,σ2,hg,h1,h2⟩
theorem ZjW {C:Cx} {E:Env} {hp:List (Nat × HB)} {n:Nat->Prop} {w:World} {m k v m':Nat} {xs:List (List SV)} {T:TypeId} (hmc:MC C m) (hm:m<=k) (h:HSim C E hp n w) (hk:lkh k hp = .row v m' xs T) :
 (xs=[]/\∃ a,E.hv k v = .slice a 0 0)\/∃ b cap,E.hv k v = .slice (some ⟨b,0,none⟩) xs.length cap/\xs.length<=cap/\cap≠0/\xs.length<=9223372036854775807/\RR w E n (okS C E ((k,.gone) :: hp)) b m' xs 0:=by
 have hb:=h.bk k;rw [hk] at hb;simp only [Z1] at hb;rcases hb with ⟨_,h1 | ⟨b,cap,cs,h1,h2,h3,⟨h4,h4'⟩,h5,h6,h7⟩⟩
 . exact .inl h1
 . have hoc:occ E k (lkh k hp) b:=by rw [hk];exact ⟨_,_,h1,h4'⟩
   have hok:okS C E ((k,.gone) :: hp) b:=by
    refine ⟨?_,λj ho=>?_⟩
    . rcases h.lo k b hoc with q | q
      . exact .inr q
      . have:=hmc.2 k b q;have:=hmc.1;omega
    . rw [Zj] at ho;split at ho
      . exact ho.elim
      . exact absurd (h.dj j k b ho hoc).symm (by omega)
   exact .inr ⟨b,cap,h1,h4,h4',h5,Xm (cs:=cs) (ok:=okS C E hp) hok (λj c hj=>by rw [cell_of_row _ _ _ _ _ _ h2];simpa using hj) (XP h k).2 xs 0 h6 (by simpa using h7)⟩
theorem ZbP {m:Nat} {σ : St} (t k:Nat) (s:SV) (hg:σ.gs=[]) (hs:∀ j b u,s≠.gd j b u) (hR:∀ C E w y,MC C m->HSim C E σ.hp (ltn σ.n) w->R w E (ltn σ.n) (okS C E σ.hp) (lk t σ.fr) y->R w E (ltn σ.n) (okS C E ((k,.gone) :: σ.hp)) s y) :
 Ent m σ ⟨(t,s) :: σ.fr,(k,.gone) :: σ.hp,σ.n,σ.N,σ.gs⟩:=λC E a w hmc h=>by
 obtain ⟨g1,g2⟩:=XP h.hs k;have hR0:∀ u,R w E (ltn σ.n) (okS C E σ.hp) (lk u σ.fr) (a.tmps.getD u undef):=λu=>ZqQ (h.fr u) (λj b u' e=>by have:=h.gs u j b u' e;rw [hg] at this;simp at this);refine ⟨E,λu=>?_,h.sz,Xp g2 h.df,λu j b s' hu=>?_,g1⟩
 . rw [ZB];split
   . rename_i hu;subst hu;have:=hR C E w _ hmc h.hs (hR0 _);cases s<;>first | exact this | exact absurd rfl (hs _ _ _)
   . refine Xv g2 (λ_ _=>Ele.rfl) (λk hk=>hk) (λj b s hs=>?_) (h.fr u);have:=h.gs u j b s hs;rw [hg] at this;simp at this
 . rw [ZB] at hu;split at hu
   . exact absurd hu (hs _ _ _)
   . exact h.gs u j b s' hu
theorem Zjw {m:Nat} {σ : St} (t k v:Nat) {m':Nat} {xs:List (List SV)} {T:TypeId} (hm:Nat.ble m k=true) (hg:σ.gs=[]) (hl:lk t σ.fr = .mr k v) (hk:lkh k σ.hp = .row v m' xs T) :
 Ent m σ ⟨(t,.sl false m' xs) :: σ.fr,(k,.gone) :: σ.hp,σ.n,σ.N,σ.gs⟩ :=
 ZbP t k _ hg (λ_ _ _ e=>by cases e) λC E w y hmc hh hR=>by
  rw [hl] at hR;simp only [R] at hR ⊢;rcases ZjW hmc (Nat.le_of_ble_eq_true hm) hh hk with ⟨h1,a0,h2⟩ | ⟨b,cap,h1,h4,h4',h5,h7⟩
  . exact ⟨a0,0,0,by rw [hR.2.2.1,h2],by simp [h1],⟨Nat.le_refl _,λh=>by cases h⟩,by simp [h1],.inl h1⟩
  . exact ⟨_,_,_,hR.2.2.1.trans h1,rfl,⟨h4,λh=>by cases h⟩,h5,.inr ⟨b,0,rfl,h7⟩⟩
theorem Zv4 {m:Nat} {σ : St} (k v:Nat) {mm:Nat} {xs:List (List SV)} {T:TypeId} (o m':Nat) (T':TypeId) (hg:σ.gs=[]) (hk:lkh k σ.hp = .row v mm xs T) :
 Ent m σ ⟨σ.fr,(k,.rws v mm xs T o m' [] T') :: σ.hp,σ.n,σ.N,σ.gs⟩:=λC E a w hmc h=>by
 have hocc:∀ b,occ E k (.rws v mm xs T o m' [] T') b↔occ E k (lkh k σ.hp) b:=λb=>by
  rw [hk];simp only [occ,Zre,List.length_nil,Nat.le_zero];exact ⟨λ⟨i,hi,h⟩=>by subst hi;exact h,λh=>⟨0,rfl,h⟩⟩
 have hst:ZF w w (okS C E σ.hp) (okS C E ((k,.rws v mm xs T o m' [] T') :: σ.hp)):=λb hb _=>⟨(Zey hocc b).2 hb,rfl⟩;have hH:HSim C E ((k,.rws v mm xs T o m' [] T') :: σ.hp) (ltn σ.n) w:=by
  have hkn:k < σ.n:=by
   rcases Classical.em (k < σ.n) with h' | h'
   . exact h'
   . have:=h.hs.kn k h';rw [hk] at this;cases this
  refine ⟨λj hj=>?_,λj=>?_,λj j' b h1 h2=>h.hs.dj j j' b ((Wi hocc j b).1 h1) ((Wi hocc j' b).1 h2),λj b h1=>h.hs.lo j b ((Wi hocc j b).1 h1),h.hs.kp,h.hs.pin⟩
  . rw [Zj,if_neg (by rintro rfl;exact hj hkn)];exact h.hs.kn j hj
  . rw [Zj];by_cases hj:j=k
    . subst hj;rw [if_pos rfl];have hb:=Yi (n:=ltn σ.n) (n':=ltn σ.n) hst (λ_ _=>Ele.rfl) (λ_ h=>h) (.inr (show ltn σ.n j from hkn)) (λ_ _=>rfl) rfl (h.hs.bk j);rw [hk] at hb;simp only [Z1] at hb ⊢;refine ⟨hb.1,Nat.zero_le _,λi m1 rows TT hr=>?_,λi j b hi hj _ _=>by simp at hi hj;omega⟩;cases i with
      | zero =>
       simp only [YL,Uu,List.length_nil,Option.some.injEq,Prod.mk.injEq] at hr;obtain ⟨rfl,rfl,rfl⟩:=hr;exact hb.2
      | succ i=>simp [YL] at hr
    . rw [if_neg hj];refine Yi hst (λ_ _=>Ele.rfl) (λ_ h=>h) ?_ (λ_ _=>rfl) rfl (h.hs.bk j);rcases Classical.em (j < σ.n) with h' | h'
      . exact .inr h'
      . exact .inl (h.hs.kn j h')
 exact ⟨E,Z3 h hst (λ_ _=>Ele.rfl) (Nat.le_refl _) hH⟩
theorem ZnA {m:Nat} {σ : St} (t k v l:Nat) {m':Nat} {xs:List (List SV)} {T:TypeId} (hm:Nat.ble m k=true) (hg:σ.gs=[]) (hl:lk t σ.fr = .ms k v m' 0 l) (hk:lkh k σ.hp = .row v m' xs T) (hle:l<=xs.length) :
 Ent m σ ⟨(t,.sl false m' (xs.take l)) :: σ.fr,(k,.gone) :: σ.hp,σ.n,σ.N,σ.gs⟩ :=
 ZbP t k _ hg (λ_ _ _ e=>by cases e) λC E w y hmc hh hR=>by
  rw [hl] at hR;simp only [R] at hR ⊢;obtain ⟨_,_,a,len,cap,e1,e2,e3⟩:=hR;have hlen:l=(xs.take l).length:=by rw [List.length_take];omega
  rcases ZjW hmc (Nat.le_of_ble_eq_true hm) hh hk with ⟨h1,a0,h2⟩ | ⟨b,cap',h1,h4,h4',h5,h7⟩
  . rw [h2] at e1;cases e1;refine ⟨_,l,_,e3,hlen,⟨by omega,λh=>by cases h⟩,by rw [<- hlen];simp [h1] at hle;omega,.inl (by simp [h1])⟩
  . rw [h1] at e1;cases e1;refine ⟨_,l,_,e3,hlen,⟨by omega,λh=>by cases h⟩,by omega,.inr ⟨b,0,?_,Zdq l h7⟩⟩;rw [if_neg (by omega)];simp [Addr.add]
theorem ZdF {m:Nat} {b:Bool} {s s':SV} {hp hp':List (Nat × HB)} {n n':Nat} (h:Ent m ⟨[(0,s)],hp,n,1,[]⟩ ⟨[(0,s')],hp',n',1,[]⟩) (hg:∀ j b u,s'≠.gd j b u):XV m ⟨b,s,hp,n⟩ ⟨b,s',hp',n'⟩:=by
 refine ⟨rfl,λC E w y hm hH hR=>?_⟩;have hng:=VG hR;have hS:Sim C E ⟨[(0,s)],hp,n,1,[]⟩ { tmps:=#[y],defers:=C.ds } w:=by
  refine ⟨λt=>?_,rfl,Uh,λt j b u ht=>?_,hH⟩
  . simp only [ZB];split
    . rename_i ht;subst ht;show FR w E (ltn n) _ _ s y;cases s<;>first | exact hR | exact absurd rfl (hng _ _ _)
    . exact trivial
  . simp only [ZB] at ht;split at ht
    . exact absurd ht (hng _ _ _)
    . cases ht
 obtain ⟨E',h'⟩:=h C E _ w hm hS;refine ⟨E',h'.hs,?_⟩;have:=h'.fr 0;exact ZqQ this (λj b u e=>hg j b u (by simpa [lk] using e))
theorem entO {m:Nat} {b:Bool} {s s':SV} {hp hp':List (Nat × HB)} {n n':Nat} (ρ : Nat->Nat) (hf:mtS ρ n' s' s) (hp0:mtP ρ hp' hp n' n') (hb:hpb n' hp') (hρ : ∀ i,i < n'->∀ j,j < n'->ρ i = ρ j->i=j) (hm:Nat.ble m n'=true) (hfix:∀ i,i < m->ρ i=i):XV m ⟨b,s,hp,n⟩ ⟨b,s',hp',n'⟩ :=
 ZdF (ent ρ (show mtF ρ n' [] [(0,s')] [(0,s)] from ⟨hf,trivial⟩) hp0 hb hρ rfl hm hfix) (Zb3 hf)
theorem Zp {m:Nat} {b:Bool} {s s':SV} {hp hp':List (Nat × HB)} {n n':Nat} (hf:mtS id n' s' s) (hp0:mtP id hp' hp n' n') (hb:hpb n' hp') (hm:Nat.ble m n'=true):XV m ⟨b,s,hp,n⟩ ⟨b,s',hp',n'⟩ :=
 entO id hf hp0 hb (λ_ _ _ _ h=>h) hm (λ_ _=>rfl)
theorem callm {P:Program} {f:FuncId} {args args0:List SV} {d:Option Nat} {σ : St} {r:KT} {K:RK} {hp0:List (Nat × HB)} {n0:Nat} {o:Ot} (ρ : Nat->Nat) (hc:CtM P f hp0 n0 args0 (· = o)) (h1:mtL ρ n0 args0 args) (h2:mtP ρ hp0 σ.hp n0 n0) (h3:ZAn ρ n0) (h4:∀ i,i < n0->ρ i < σ.n)
 (h5:cmK o.pn (rnS (exR ρ n0 σ.n) o.res) (hpM ρ n0 σ.n o σ.hp) (σ.n+(o.n - n0)) d σ r K):Zaw P f args d σ r K :=
 ⟨hp0,n0,args0,_,ρ,hc,h1,h2,h3,h4,λ_ e=>e ▸ h5⟩
def rho:List Nat->Nat->Nat
 | [],_=>0
 | a :: _,0=>a
 | _ :: l,k+1=>rho l k
theorem Zcl:∀ (l:List Nat) (k:Nat) (h:k < l.length),rho l k=l[k]
 | a :: _,0,_=>rfl
 | _ :: l,k+1,h=>by simpa [rho] using Zcl l k (by simpa using h)
theorem Zi {m0:Nat} {σ σ':St} (hf:mtF id σ'.n [] σ'.fr σ.fr) (hp:mtP id σ'.hp σ.hp σ'.n σ'.n) (hb:hpb σ'.n σ'.hp) (hN:Nat.beq σ'.N σ.N=true) (hm:Nat.ble m0 σ'.n=true):Ent m0 σ σ':=ent id hf hp hb (λ_ _ _ _ h=>h) hN hm (λ_ _=>rfl)
theorem Zqq {fr:List (Nat × SV)} {j:Nat} {w b:Bool} {p:Prop} (hl:lk j fr = .v (.bool b)) (h:b=w->p):ZeT (some (j,w)) fr p:=λhg=>h (Zzw hg hl)
theorem Zzs {xs:List (List SV)} {i:Int} {σ : St} {r:KT} {L:RK} {d:Option Nat} {j:Nat} {w b:Bool} (n:Nat) (row:List SV) (hl:lk j σ.fr = .v (.bool b)) (h:b=w->i=(n:Int)/\xs[n]? = some row) (hk:Yo d (.ps row 0) (some (j,w)) σ r L) :
 IXS (some (j,w)) xs i d σ r L:=⟨row,Zqq hl λe=>⟨n,(h e).1,(h e).2⟩,hk⟩
theorem UB {g:Option (Nat × Bool)} {m b:Nat} {xs ys:List (List SV)} {d:Option Nat} {σ : St} {r:KT} {L:RK} (h:(xs.length+ys.length) * b<=140737488355328) (hk:Yo d (.sl false m (xs ++ ys)) g σ r L):APP g m b xs ys d σ r L:=⟨ZP.2 λ_=>h,hk⟩
theorem XC {g:Option (Nat × Bool)} {k v m len:Nat} {i:Int} {d:Option Nat} {σ : St} {r:KT} {L:RK} (n:Nat) (hi:i=(n:Int)) (hn:n < len) (hk:Yo d (.pr k v m n 0) g σ r L):IXR g k v m len i d σ r L:=⟨n,ZP.2 λ_=>⟨hi,hn⟩,hk⟩
theorem VX {α : Type} {l:List α} {f:α->List SV} {g:Option (Nat × Bool)} {i o m:Nat} {ag:Bool} {d:Option Nat} {σ : St} {r:KT} {L:RK} (hn:i < l.length) (hk:XR (XE (f l[i]) o m ag) d g σ r L):LDR g (l.map f) i o m ag d σ r L:=⟨f l[i],ZP.2 λ_=>by simp [hn],hk⟩
theorem Zc2 {α : Type} {l:List α} {f:α->List SV} {j o k v m:Nat} {c:List SV} {T:TypeId} {σ : St} {r:KT} {L:RK} (y:α) (hn:j < l.length) (ho:o+c.length<=(f l[j]).length) (he:Zq (f l[j]) o c=f y)
 (h:r ⟨σ.fr,(k,.row v m ((l.set j y).map f) T) :: σ.hp,σ.n,σ.N,σ.gs⟩ L):STR v (l.map f) j o k m c T σ r L :=
 ⟨f l[j],by simp [hn],ho,by rw [he,<- List.map_set];exact h⟩
theorem Zrs {k v m len:Nat} {i:Int} {d:Option Nat} {σ : St} {r:KT} {L:RK} {j:Nat} {w b:Bool} (n:Nat) (hl:lk j σ.fr = .v (.bool b)) (h:b=w->i=(n:Int)/\n < len) (hk:Yo d (.pr k v m n 0) (some (j,w)) σ r L):IXR (some (j,w)) k v m len i d σ r L:=⟨n,Zqq hl h,hk⟩
theorem WN {r:List SV} (h:KFL r):∀ n,KFR (List.replicate n r)
 | 0=>trivial
 | n+1=>⟨h,WN h n⟩
theorem Zl {P:Program} {f:FuncId} {args args0:List SV} {d:Option Nat} {σ : St} {r:KT} {K:RK} {hp0:List (Nat × HB)} {n0:Nat} {Zw:Ot->Prop} (l:List Nat) (hc:CtM P f hp0 n0 args0 Zw) (hn:Nat.beq l.length n0=true) (hi:Zdc l=true) (hl:Ug σ.n l=true)
 (h1:mtL (rho l) n0 args0 args) (h2:mtP (rho l) hp0 σ.hp n0 n0) (h5:∀ o,Zw o->cmK o.pn (rnS (exR (rho l) n0 σ.n) o.res) (hpM (rho l) n0 σ.n o σ.hp) (σ.n+(o.n - n0)) d σ r K):Zaw P f args d σ r K:=by
 have hn:=Nat.eq_of_beq_eq_true hn;refine ⟨hp0,n0,args0,Zw,rho l,hc,h1,h2,λi hi' j hj e=>?_,λi hi'=>?_,h5⟩
 . rw [Zcl l i (by omega),Zcl l j (by omega)] at e;have hp:=List.pairwise_iff_getElem.1 (WO hi);rcases Nat.lt_trichotomy i j with h | h | h
   . exact absurd e (hp i j _ _ h)
   . exact h
   . exact absurd e.symm (hp j i _ _ h)
 . rw [Zcl l i (by omega)];exact U5 hl _ (List.getElem_mem _)
theorem YZ {P:Program} {d:Option Nat} {op:BinOp} {t t' ty u:Nat} {c x v:Value} {σ : St} {r:KT} {K:RK} (hl:lk u σ.fr = .v x) (hop:op = .and\/op = .shr) (hr:∀ w:World,(binOp op t x c).run P w = .ok v w) (hv:v.oneCell'=true) (hk:Yo d (.v v) none σ r K) :
 RAW P d (.binOp op t (.tmp u) (.const c) t') ty σ r K:=by
 intro o C E a w next Q h1 h2 h3 hs hn hq;have hx:a.eval (.tmp u)=x:=by
  have:=hs.fr u;rw [hl] at this;simp only [FR,R] at this;exact this
 have hrun:(execOp a.eval o).run P w = .ok (.value v) w:=by
  obtain ⟨dst,op',ty',pos,after,guard⟩:=o;simp only at h2;subst h2;have hc:a.eval (.const c)=c:=rfl;simp only [execOp,hx,hc];rcases hop with rfl | rfl<;>simp [Sem.run_bind,eqGuard,hr]
 refine Zz hrun (by simp) ?_;show next (a.put o.dst v) w;rcases Wx hk with ⟨g1,g2⟩ | ⟨t,g1,g2,g3,g4,g5⟩
 . have hS:=hs;rw [h1,g1];exact hn _ E _ _ g2 hS
 . rw [h1,g1];exact hn _ E _ _ g5 (YT hs (λb hb _=>⟨hb,rfl⟩) (λ_ _=>Ele.rfl) (Nat.le_refl _) hs.hs g2 g3 (λj b u e=>by rw [e] at g4;cases g4) (by simp only [R]))
theorem ZiJ {P:Program} {k v m u i L t ty:Nat} {xs:List (List SV)} {T:TypeId} {z:Value} {zl:List Value} {σ : St} {r:KT} {K:RK} (hl:lk u σ.fr = .ms k v m i L) (hk:lkh k σ.hp = .row v m xs T) (hL:i+L<=xs.length)
 (ht:P.underlying t=some (.slice T)) (hz:Yk P T=some z) (hzl:z.cells.toList=zl) (hzm:Nat.beq zl.length m=true) (hz1:∀ v ∈ zl,v.oneCell'=true)
 (h:r ⟨σ.fr,(k,.row v m (xs.take i ++ (List.replicate L (zl.map SV.v) ++ xs.drop (i+L))) T) :: σ.hp,σ.n,σ.N,σ.gs⟩ K) :
 RAW P none (.call { callee:=.builtin .clear,args:=#[.tmp u],argTypes:=#[t] }) ty σ r K:=by
 have hzm:=Nat.eq_of_beq_eq_true hzm;intro o C E a w next Q h1 h2 h3 hs hn hq;have hv:=ZqQ (hs.fr u) (λj b u' e=>by rw [hl] at e;cases e);rw [hl] at hv;have hb:=hs.hs.bk k;rw [hk] at hb;simp only [R] at hv;obtain ⟨_,_,a0,len,cap,g1,g2,g3⟩:=hv;have hst:∀ {w'},(Builtin.clear_ #[t] ty #[a.tmps.getD u undef]).run P w = .ok (.tuple #[]) w'->(execOp a.eval o).run P w = .ok (.value (.tuple #[])) w':=λh=>by
  obtain ⟨dst,op',ty',pos,after,guard⟩:=o;simp only at h2 h3;subst h2;subst h3;simp only [Array.getD_eq_getD_getElem?] at h;simp [execOp,resolve,invoke,builtin,Act.eval,h]
 by_cases hL0:L=0
 . subst hL0;have hre:∀ j,lkh j ((k,.row v m (xs.take i ++ (List.replicate 0 (zl.map SV.v) ++ xs.drop (i+0))) T) :: σ.hp)=lkh j σ.hp:=λj=>by
    rw [Zj];split
    . rename_i hj;subst hj;rw [hk];simp
    . rfl
   obtain ⟨q1,q2⟩:=Zat hs.hs hre;have hrun:(Builtin.clear_ #[t] ty #[a.tmps.getD u undef]).run P w = .ok (.tuple #[]) w:=by
    rw [g3];generalize (if cap - i=0 then a0 else a0.map (·.add (i * m)))=ad;cases ad<;>simp [Builtin.clear_,Sem.run_bind,run_underlying ht]
   refine Zz (hst hrun) (by simp) ?_;show next (a.put o.dst _) w;rw [h1];exact hn _ E _ _ h (Z3 hs q2 (λ_ _=>Ele.rfl) (Nat.le_refl _) q1)
 . simp only [Z1] at hb;rcases hb with ⟨his,⟨q0,a1,q1⟩ | ⟨b,cap',cs,q1,q2,q3,q4,q5,q6,q7⟩⟩
   . rw [q0] at hL;simp at hL;omega
   rw [q1] at g1;cases g1;have hrep:((List.replicate L zl).flatten).length=L * m:=by simp [hzm]
   have hiN:i * m+L * m<=xs.length * m:=by rw [<- Nat.add_mul];exact Nat.mul_le_mul_right m (by omega)
   have hcap:xs.length * m<=cap * m:=Nat.mul_le_mul_right m q4.1;have q3':cs.toList.length=cap * m:=by rw [Array.length_toList];exact q3
   obtain ⟨w',s1,s2⟩:=Yx (P:=P) ((List.replicate L zl).flatten) (w:=w) (b:=b) (o:=i * m) (i:=0) (cs:=cs.toList) (T:=T) (by simpa using q2) (by rw [hrep,q3'];omega) (λu hu'=>by
    obtain ⟨l',hl1,hl2⟩:=List.mem_flatten.1 hu'
    rw [List.eq_of_mem_replicate hl1] at hl2;exact hz1 u hl2)
   have hrun:(Builtin.clear_ #[t] ty #[a.tmps.getD u undef]).run P w = .ok (.tuple #[]) w':=by
    rw [g3,if_neg (by omega)];have e:(Builtin.zeroCells z.cells L).toList=(List.replicate L zl).flatten:=by rw [<- hzl];exact Zeq _ _
    obtain ⟨L',rfl⟩:∃ L',L=L'+1:=⟨L - 1,by omega⟩
    simp only [Builtin.clear_,Option.map_some,Yz,Nat.zero_add];simp [Sem.run_bind,run_underlying ht,Xn hz,e,s1]
   have hlens:∀ r ∈ xs.take i ++ (List.replicate L (zl.map SV.v) ++ xs.drop (i+L)),r.length=m:=λr hr=>by
    rcases List.mem_append.1 hr with hr | hr
    . exact q6 r (List.mem_of_mem_take hr)
    . rcases List.mem_append.1 hr with hr | hr
      . rw [List.eq_of_mem_replicate hr,List.length_map];exact hzm
      . exact q6 r (List.mem_of_mem_drop hr)
   have hlen:(xs.take i ++ (List.replicate L (zl.map SV.v) ++ xs.drop (i+L))).length=xs.length:=by
    simp only [List.length_append,List.length_take,List.length_drop,List.length_replicate];omega
   have hocc:∀ b',occ E k (.row v m (xs.take i ++ (List.replicate L (zl.map SV.v) ++ xs.drop (i+L))) T) b'↔occ E k (lkh k σ.hp) b':=λb'=>by rw [hk];rfl
   obtain ⟨p1,p2⟩:=YO hs.hs (hb:=.row v m (xs.take i ++ (List.replicate L (zl.map SV.v) ++ xs.drop (i+L))) T) hocc (by rw [hk];exact ⟨_,_,q1,q4.2⟩) s2 (λhst=>by
    simp only [Z1];refine ⟨his,.inr ⟨b,cap,_,by rw [hlen];exact q1,s2.here,by simp [ZI,q3],by rw [hlen];exact q4,by rw [hlen];exact q5,hlens,?_⟩⟩;rw [hlen,List.flatten_append,List.flatten_append,XW i q6,Vs (i+L) q6];rw [List.toList_toArray,Nat.add_zero,YC (by rw [hrep];omega) (by rw [q3'];omega),XU _ _ _ (by rw [hrep,List.length_take,q3'];omega),hrep,<- Nat.add_mul];have hzz:(List.replicate L (zl.map SV.v)).flatten=((List.replicate L zl).flatten).map SV.v:=by simp
    rw [hzz]
    exact Z0 (Xc _ (ZC hst.c (λ_ _=>Ele.rfl) (λ_ h=>h) _ _ q7)) (Z0 (Zzq _) (XM _ (ZC hst.c (λ_ _=>Ele.rfl) (λ_ h=>h) _ _ q7))))
   refine Zz (hst hrun) (by simp) ?_;show next (a.put o.dst _) w';rw [h1];exact hn _ E _ _ h (Z3 hs p2 (λ_ _=>Ele.rfl) (Nat.le_refl _) p1)
theorem w64_0:IntKind.i64.wrap 0=0:=rfl
theorem Zb0:IntKind.i64.wrap 1=1:=rfl
theorem ZbC:IntKind.i64.wrap 2=2:=rfl
theorem w64_3:IntKind.i64.wrap 3=3:=rfl
theorem w64_4:IntKind.i64.wrap 4=4:=rfl
theorem w64_5:IntKind.i64.wrap 5=5:=rfl
theorem w64_6:IntKind.i64.wrap 6=6:=rfl
theorem VT {a b A B:Int} (h1:0<=a) (h2:a<=A) (h3:0<=b) (h4:b<=B):0<=a * b/\a * b<=A * B:=⟨Int.mul_nonneg h1 h3,Int.mul_le_mul h2 h4 h3 (by omega)⟩
def lkB (b:Bool) (s:SV) (t:Nat) (r:List (Nat × SV)):SV:=bif b then s else lk t r
def lkhB (b:Bool) (s:HB) (t:Nat) (r:List (Nat × HB)):HB:=bif b then s else lkh t r
def Ztf (b:Bool) (t:Nat) (r:List Nat):Bool:=bif b then true else Y3 t r
def blkE (b:Bool) (i:Nat) (K:Ex->St->Prop) (σ : St):Prop:=bif b then K .n σ else K (.ex i) σ
def Zrx (b:Bool) (s:SV):Option (List SV):=bif b then some [s] else none
def ZyL (c:Bool) (b:BinOp) (k:IntKind) (x y:Int):Option SV:=bif c then ZfA b k x y else none
def Zz0 (b:Bool) (l:List SV) (o m:Nat):Option SV:=bif b then some (.agg ((l.drop o).take m)) else none
theorem lkB_t (s:SV) (t:Nat) (r:List (Nat × SV)):lkB true s t r=s:=rfl
theorem lkB_f (s:SV) (t:Nat) (r:List (Nat × SV)):lkB false s t r=lk t r:=rfl
theorem Zzj (s:HB) (t:Nat) (r:List (Nat × HB)):lkhB true s t r=s:=rfl
theorem ZxG (s:HB) (t:Nat) (r:List (Nat × HB)):lkhB false s t r=lkh t r:=rfl
theorem ZuS (t:Nat) (r:List Nat):Ztf true t r=true:=rfl
theorem Zuo (t:Nat) (r:List Nat):Ztf false t r=Y3 t r:=rfl
theorem Zxz (i:Nat) (K:Ex->St->Prop) (σ : St):blkE true i K σ = K .n σ:=rfl
theorem Zzc (i:Nat) (K:Ex->St->Prop) (σ : St):blkE false i K σ = K (.ex i) σ:=rfl
theorem Zp2 (s:SV):Zrx true s=some [s]:=rfl
theorem Zuu (b:BinOp) (k:IntKind) (x y:Int):ZyL true b k x y=ZfA b k x y:=rfl
theorem ZuF (l:List SV) (o m:Nat):Zz0 true l o m=some (.agg ((l.drop o).take m)):=rfl
def mmE (k:IntKind):Option Int->Option SV
 | some z=>some (.v (.int k z))
 | none=>none
def chkB (b:Bool) (l:List SV) (ls:List (List SV)):Option (List (List SV)):=bif b then some (l :: ls) else none
theorem ZxX (l:List SV) (ls:List (List SV)):chkB true l ls=some (l :: ls):=rfl
theorem Zzm (b:Bool):XD true b=b:=rfl
theorem Zyo (b:Bool):XD false b=false:=rfl
def vwP (g:SV->SV) (o:Nat):HB->SV
 | .cells l _=>.ps (Za1 g l) o
 | _=>.any
def vwM (v:Nat):HB->SV
 | .row v' m xs _=>vwN (Nat.beq v v') m xs
 | .rws v' m xs _ o m' inn _=>vwR (Nat.beq v v') (Nat.ble (v'+1) v) m m' (Zbs o m' inn xs) (inn[v - (v'+1)]?)
 | _=>.any
def cvtM (v:Nat):HB->SV
 | .row v' m xs _=>vwN (Nat.beq v v') m xs
 | _=>.any
def rvH (o m:Nat) (ag:Bool):HB->Option SV
 | .cells l _=>XE l o m ag
 | _=>none
def rvX (hp:List (Nat × HB)) (m:Nat) (ag:Bool):SV->Option SV
 | .p k o=>rvH o m ag (lkh k hp)
 | _=>none
def pvF (o m:Nat) (ag:Bool):SV->Option SV
 | .agg l=>XE l o m ag
 | _=>none
def pvC (k:IntKind):SV->Option SV
 | .v (.int _ n)=>some (.v (.int k (k.wrap n)))
 | _=>none
def pvE (i:Nat):SV->Option SV
 | .tup l=>nth l i
 | _=>none
theorem e_lk (t u:Nat) (s:SV) (r:List (Nat × SV)):lk t ((u,s) :: r)=lkB (Nat.beq t u) s t r:=rfl
theorem e_lk0 (t:Nat):lk t [] = .any:=rfl
theorem e_lkh (t u:Nat) (s:HB) (r:List (Nat × HB)):lkh t ((u,s) :: r)=lkhB (Nat.beq t u) s t r:=rfl
theorem ZxJ (t:Nat):lkh t [] = .gone:=rfl
theorem Zzo (t u:Nat) (r:List Nat):Y3 t (u :: r)=Ztf (Nat.beq t u) t r:=rfl
theorem ZtE (t:Nat):Y3 t []=false:=rfl
theorem e_blk (id i:Nat) (K:Ex->St->Prop) (σ : St):Zrf id K (.ex i) σ = blkE (Nat.beq i id) i K σ:=rfl
theorem ZgV (g:Option (Nat × Bool)) (fr:List (Nat × SV)) (x:Value):YG g fr (.v x)=(.v x):=rfl
theorem Zlo (t:Nat) (r:List (Nat × SV)) (x:Value):Yt ((t,(.v x)) :: r)=(t,(.v x)) :: Yt r:=rfl
theorem Zuv (hp:List (Nat × HB)) (x:Value):cvt hp (.v x)=(.v x):=rfl
theorem Zr0 (hp:List (Nat × HB)) (g:SV->SV) (x:Value):vwS hp g (.v x)=(.v x):=rfl
theorem ZrO (x:Value):vw0 (.v x)=(.v x):=rfl
theorem Zkl (x:Value):Yl (.v x)=Zrx (ZjK x) (.v x):=rfl
theorem ZpV (x:Value):UK (.v x)=ZjK x:=rfl
theorem Zhs (g:Option (Nat × Bool)) (fr:List (Nat × SV)) (k o:Nat):YG g fr (.p k o)=(.p k o):=rfl
theorem Znr (t:Nat) (r:List (Nat × SV)) (k o:Nat):Yt ((t,(.p k o)) :: r)=(t,(.p k o)) :: Yt r:=rfl
theorem Zs1 (hp:List (Nat × HB)) (k o:Nat):cvt hp (.p k o)=(.p k o):=rfl
theorem ZsE (hp:List (Nat × HB)) (g:SV->SV) (k o:Nat):vwS hp g (.p k o)=vwP g o (lkh k hp):=rfl
theorem Zv6 (k o:Nat):vw0 (.p k o) = .any:=rfl
theorem ZiN (k o:Nat):Yl (.p k o)=some [(.p k o)]:=rfl
theorem ZoV (k o:Nat):UK (.p k o)=true:=rfl
theorem Zd5 (g:Option (Nat × Bool)) (fr:List (Nat × SV)) (l:List SV):YG g fr (.agg l)=(.agg l):=rfl
theorem ZgA (t:Nat) (r:List (Nat × SV)) (l:List SV):Yt ((t,(.agg l)) :: r)=(t,(.agg l)) :: Yt r:=rfl
theorem ZjJ (hp:List (Nat × HB)) (l:List SV):cvt hp (.agg l) = .agg (ZkL hp l):=rfl
theorem Zh7 (hp:List (Nat × HB)) (g:SV->SV) (l:List SV):vwS hp g (.agg l) = .agg (Za1 g l):=rfl
theorem Zhz (l:List SV):vw0 (.agg l) = .any:=rfl
theorem Zd6 (l:List SV):Yl (.agg l)=some l:=rfl
theorem Zfr (l:List SV):UK (.agg l)=false:=rfl
theorem Ze8 (g:Option (Nat × Bool)) (fr:List (Nat × SV)) (c:Bool) (m:Nat) (xs:List (List SV)):YG g fr (.sl c m xs)=(.sl c m xs):=rfl
theorem Zks (t:Nat) (r:List (Nat × SV)) (c:Bool) (m:Nat) (xs:List (List SV)):Yt ((t,(.sl c m xs)) :: r)=(t,(.sl c m xs)) :: Yt r:=rfl
theorem ZoM (hp:List (Nat × HB)) (c:Bool) (m:Nat) (xs:List (List SV)):cvt hp (.sl c m xs)=(.sl c m xs):=rfl
theorem ZnR (hp:List (Nat × HB)) (g:SV->SV) (c:Bool) (m:Nat) (xs:List (List SV)):vwS hp g (.sl c m xs)=(.sl c m xs):=rfl
theorem ZpM (c:Bool) (m:Nat) (xs:List (List SV)):vw0 (.sl c m xs)=(.sl c m xs):=rfl
theorem Zfp (c:Bool) (m:Nat) (xs:List (List SV)):Yl (.sl c m xs)=some [(.sl c m xs)]:=rfl
theorem Zjb (c:Bool) (m:Nat) (xs:List (List SV)):UK (.sl c m xs)=true:=rfl
theorem ZrW (l:List SV):pmS [] l=[]:=rfl
theorem Zgi (g:Option (Nat × Bool)) (fr:List (Nat × SV)) (k v:Nat):YG g fr (.mr k v)=(.mr k v):=rfl
theorem Zjr (t:Nat) (r:List (Nat × SV)) (k v:Nat):Yt ((t,(.mr k v)) :: r)=(t,(.mr k v)) :: Yt r:=rfl
theorem Zow (hp:List (Nat × HB)) (k v:Nat):cvt hp (.mr k v)=cvtM v (lkh k hp):=rfl
theorem ZlT (hp:List (Nat × HB)) (g:SV->SV) (k v:Nat):vwS hp g (.mr k v)=vwM v (lkh k hp):=rfl
theorem ZlV (k v:Nat):vw0 (.mr k v) = .any:=rfl
theorem ZfD (k v:Nat):Yl (.mr k v)=some [(.mr k v)]:=rfl
theorem Zg9 (k v:Nat):UK (.mr k v)=true:=rfl
theorem Zgw (g:Option (Nat × Bool)) (fr:List (Nat × SV)) (k v m i o:Nat):YG g fr (.pr k v m i o)=(.pr k v m i o):=rfl
theorem Zgh (g:Option (Nat × Bool)) (fr:List (Nat × SV)) (k v m i o:Nat):YG g fr (.ms k v m i o)=(.ms k v m i o):=rfl
theorem ZhM (t:Nat) (r:List (Nat × SV)) (k v m i o:Nat):Yt ((t,(.pr k v m i o)) :: r)=(t,(.pr k v m i o)) :: Yt r:=rfl
theorem Zip (t:Nat) (r:List (Nat × SV)) (k v m i o:Nat):Yt ((t,(.ms k v m i o)) :: r)=(t,(.ms k v m i o)) :: Yt r:=rfl
theorem Zqc (hp:List (Nat × HB)) (k v m i o:Nat):cvt hp (.pr k v m i o)=(.pr k v m i o):=rfl
theorem ZoL (hp:List (Nat × HB)) (k v m i o:Nat):cvt hp (.ms k v m i o)=(.ms k v m i o):=rfl
theorem Zma (hp:List (Nat × HB)) (g:SV->SV) (k v m i o:Nat):vwS hp g (.pr k v m i o)=(.pr k v m i o):=rfl
theorem ZoQ (hp:List (Nat × HB)) (g:SV->SV) (k v m i o:Nat):vwS hp g (.ms k v m i o)=(.ms k v m i o):=rfl
theorem ZlO (k v m i o:Nat):vw0 (.pr k v m i o) = .any:=rfl
theorem ZlZ (k v m i o:Nat):vw0 (.ms k v m i o) = .any:=rfl
theorem Zfo (k v m i o:Nat):Yl (.pr k v m i o)=some [(.pr k v m i o)]:=rfl
theorem ZgJ (k v m i o:Nat):Yl (.ms k v m i o)=some [(.ms k v m i o)]:=rfl
theorem ZjF (k v m i o:Nat):UK (.pr k v m i o)=true:=rfl
theorem Zj3 (k v m i o:Nat):UK (.ms k v m i o)=true:=rfl
theorem Zgq (g:Option (Nat × Bool)) (fr:List (Nat × SV)) (row:List SV) (o:Nat):YG g fr (.ps row o)=(.ps row o):=rfl
theorem Zh4 (t:Nat) (r:List (Nat × SV)) (row:List SV) (o:Nat):Yt ((t,(.ps row o)) :: r)=(t,(.ps row o)) :: Yt r:=rfl
theorem Zo1 (hp:List (Nat × HB)) (row:List SV) (o:Nat):cvt hp (.ps row o)=(.ps row o):=rfl
theorem Zqj (hp:List (Nat × HB)) (g:SV->SV) (l:List SV) (o:Nat):vwS hp g (.ps l o) = .ps (Za1 g l) o:=rfl
theorem Znc (row:List SV) (o:Nat):vw0 (.ps row o) = .any:=rfl
theorem ZfK (row:List SV) (o:Nat):Yl (.ps row o)=some [(.ps row o)]:=rfl
theorem ZjG (row:List SV) (o:Nat):UK (.ps row o)=true:=rfl
theorem Zfq (g:Option (Nat × Bool)) (fr:List (Nat × SV)) (f:FuncId) (l:List SV):YG g fr (.cl f l)=(.cl f l):=rfl
theorem Zin (t:Nat) (r:List (Nat × SV)) (f:FuncId) (l:List SV):Yt ((t,(.cl f l)) :: r)=(t,(.cl f l)) :: Yt r:=rfl
theorem ZpL (hp:List (Nat × HB)) (f:FuncId) (l:List SV):cvt hp (.cl f l)=(.cl f l):=rfl
theorem Zqx (hp:List (Nat × HB)) (g:SV->SV) (f:FuncId) (l:List SV):vwS hp g (.cl f l) = .cl f (Za1 g l):=rfl
theorem Zqw (f:FuncId) (l:List SV):vw0 (.cl f l) = .any:=rfl
theorem Zgm (f:FuncId) (l:List SV):Yl (.cl f l)=some [(.cl f l)]:=rfl
theorem Zjn (f:FuncId) (l:List SV):UK (.cl f l)=true:=rfl
theorem ZdN (g:Option (Nat × Bool)) (fr:List (Nat × SV)) (l:List SV):YG g fr (.tup l)=(.tup l):=rfl
theorem ZgB (t:Nat) (r:List (Nat × SV)) (l:List SV):Yt ((t,(.tup l)) :: r)=(t,(.tup l)) :: Yt r:=rfl
theorem Zj6 (hp:List (Nat × HB)) (l:List SV):cvt hp (.tup l) = .tup (ZkL hp l):=rfl
theorem Zkf (hp:List (Nat × HB)) (g:SV->SV) (l:List SV):vwS hp g (.tup l) = .tup (Za1 g l):=rfl
theorem ZjC (l:List SV):vw0 (.tup l) = .any:=rfl
theorem Zfe (l:List SV):UK (.tup l)=false:=rfl
theorem ZkM (g:Option (Nat × Bool)) (fr:List (Nat × SV)) (φ : VP):YG g fr (.q φ)=(.q φ):=rfl
theorem Zn7 (t:Nat) (r:List (Nat × SV)) (φ : VP):Yt ((t,(.q φ)) :: r)=(t,(.q φ)) :: Yt r:=rfl
theorem ZvX (hp:List (Nat × HB)) (φ : VP):cvt hp (.q φ)=(.q φ):=rfl
theorem Zvl (hp:List (Nat × HB)) (g:SV->SV) (φ : VP):vwS hp g (.q φ)=(.q φ):=rfl
theorem Zt1 (φ : VP):vw0 (.q φ)=(.q φ):=rfl
theorem Ziy (φ : VP):Yl (.q φ)=some [(.q φ)]:=rfl
theorem Zpg (φ : VP):UK (.q φ)=true:=rfl
theorem ZfH (g:Option (Nat × Bool)) (fr:List (Nat × SV)) (k:Nat):YG g fr (.mp k)=(.mp k):=rfl
theorem Ziz (t:Nat) (r:List (Nat × SV)) (k:Nat):Yt ((t,(.mp k)) :: r)=(t,(.mp k)) :: Yt r:=rfl
theorem ZnV (hp:List (Nat × HB)) (k:Nat):cvt hp (.mp k)=(.mp k):=rfl
theorem Zqn (hp:List (Nat × HB)) (g:SV->SV) (k:Nat):vwS hp g (.mp k) = .any:=rfl
theorem ZlJ (k:Nat):vw0 (.mp k) = .any:=rfl
theorem Zgd (k:Nat):Yl (.mp k)=some [(.mp k)]:=rfl
theorem Zkm (k:Nat):UK (.mp k)=true:=rfl
theorem Zf5 (g:Option (Nat × Bool)) (fr:List (Nat × SV)) (k:Nat):YG g fr (.yl k)=(.yl k):=rfl
theorem Zhd (t:Nat) (r:List (Nat × SV)) (k:Nat):Yt ((t,(.yl k)) :: r)=(t,(.yl k)) :: Yt r:=rfl
theorem ZfT (k:Nat):Yl (.yl k)=some [(.yl k)]:=rfl
theorem ZiT (k:Nat):UK (.yl k)=true:=rfl
theorem ZdA (g:Option (Nat × Bool)) (fr:List (Nat × SV)) (T:TypeId) (s:SV):YG g fr (.ifc T s)=(.ifc T s):=rfl
theorem ZgC (t:Nat) (r:List (Nat × SV)) (T:TypeId) (s:SV):Yt ((t,(.ifc T s)) :: r)=(t,(.ifc T s)) :: Yt r:=rfl
theorem ZhT (hp:List (Nat × HB)) (T:TypeId) (s:SV):cvt hp (.ifc T s) = .ifc T (cvt hp s):=rfl
theorem ZiV (hp:List (Nat × HB)) (g:SV->SV) (T:TypeId) (s:SV):vwS hp g (.ifc T s) = .ifc T (g s):=rfl
theorem ZkR (T:TypeId) (s:SV):vw0 (.ifc T s) = .any:=rfl
theorem ZdI (T:TypeId) (s:SV):Yl (.ifc T s)=some [(.ifc T s)]:=rfl
theorem Zgp (T:TypeId) (s:SV):UK (.ifc T s)=true:=rfl
theorem Zdh (P:Program) (Y:Hd) (d:Option Nat) (σ : St) (r:KT) (K:RK) (f:FuncId) (as:List X):stp P Y d (.callm f as) σ r K=Zaw P f (VZ (rdG none σ.fr) as) d σ r K:=rfl
theorem Zdg (P:Program) (Y:Hd) (d:Option Nat) (σ : St) (r:KT) (K:RK) (x:X) (as:List X):stp P Y d (.calvm x as) σ r K=ZfY P Y (rdG none σ.fr x) (VZ (rdG none σ.fr) as) d σ r K:=rfl
theorem e_yld (asg body:Nat->CT) (ps:List Nat) (kl:Nat) (rec:Loop) (fr:List (Nat × SV)) (N k:Nat) (args:List SV) (d:Option Nat) (σ : St) (r:KT) (K:RK):YLD (hdR asg body ps kl rec fr N) k args d σ r K =
 rfB (Nat.beq k kl) (Zq4 rec (lkh kl σ.hp)/\rfB (Zk0 args ps) (asg σ.n ⟨pmS ps args ++ fr,σ.hp,σ.n,N,[]⟩ (asE kl rec (body σ.n) (bdE kl rec λo=>cmK o.pn o.res o.hp o.n d σ r K)))):=rfl
theorem e_exR (ρ : Nat->Nat) (n0 n k:Nat):exR ρ n0 n k=exB (Nat.blt k n0) (ρ k) (n+(k - n0)):=rfl
theorem e_hpM (ρ : Nat->Nat) (n0 n:Nat) (o:Ot) (hp:List (Nat × HB)):hpM ρ n0 n o hp=rnP (exR ρ n0 n) o.hp ++ (ZaV ρ n0 ++ hp):=rfl
theorem ZhY (P:Program) (Y:Hd) (m:Nat) (g:X) (ps:List Nat) (asg body:SC) (σ : St) (K:Ex->St->Prop):sx P Y m (.rfun g ps asg body) σ K=rfK P (λn=>sx P Y0 n asg) (λn=>sx P Y n body) (rdG none σ.fr g) ps σ K:=rfl
theorem ZdS (g:Option (Nat × Bool)) (fr:List (Nat × SV))  : YG g fr (.any)=(.any):=rfl
theorem Zgv (t:Nat) (r:List (Nat × SV))  : Yt ((t,(.any)) :: r)=(t,(.any)) :: Yt r:=rfl
theorem Zjo (hp:List (Nat × HB))  : cvt hp (.any)=(.any):=rfl
theorem Zja (hp:List (Nat × HB)) (g:SV->SV)  : vwS hp g (.any)=(.any):=rfl
theorem ZjI  : vw0 (.any) = .any:=rfl
theorem Zf1  : UK (.any)=false:=rfl
theorem Zi4 (t j:Nat) (w:Bool) (s:SV) (r:List (Nat × SV)):Yt ((t,.gd j w s) :: r)=(t,.any) :: Yt r:=rfl
theorem Zs4  : Yt []=[]:=rfl
theorem Zdi (fr:List (Nat × SV)) (j:Nat) (w:Bool) (s:SV):YG none fr (.gd j w s) = .any:=rfl
theorem Zgx (fr:List (Nat × SV)) (j j0:Nat) (w w0:Bool) (s:SV):YG (some (j0,w0)) fr (.gd j w s)=ZdD (alw 8 fr j0 w0 j w) s:=rfl
theorem ZdW (b:Bool):ZjK (.bool b)=true:=rfl
theorem Zfv (k:IntKind) (n:Int):ZjK (.int k n)=true:=rfl
theorem ZbO (s:ByteArray):ZjK (.string s)=true:=rfl
theorem Za3 (p:Option Addr):ZjK (.pointer p)=true:=rfl
theorem ZcC (a:Option Addr) (l c:Nat):ZjK (.slice a l c)=true:=rfl
theorem ZaZ  : ZjK .nilFunc=true:=rfl
theorem Zav  : ZjK .nilIface=true:=rfl
theorem e_rdG (g:Option (Nat × Bool)) (fr:List (Nat × SV)) (x:X):rdG g fr x=YG g fr (rd fr x):=rfl
theorem Zz1 (fr:List (Nat × SV)) (n:Nat):rd fr (.t n)=lk n fr:=rfl
theorem Zzn (fr:List (Nat × SV)) (x:Value):rd fr (.c x) = .v x:=rfl
theorem ZyT (fr:List (Nat × SV)) (i:Nat):rd fr (.f i) = .cl i []:=rfl
theorem ZxD (fr:List (Nat × SV)) (i:Nat):rd fr (.g i)=gtS (GT i):=rfl
theorem ZsH (l:List SV):gtS (some l) = .ps l 0:=rfl
theorem e_alw (f:Nat) (fr:List (Nat × SV)) (j0:Nat) (w0:Bool) (j:Nat) (w:Bool):alw (f+1) fr j0 w0 j w=Zxe (ZfC (Nat.beq j0 j) w0 w) (lk j0 fr) (alw f fr) j w:=rfl
theorem Zxu (fr:List (Nat × SV)) (j0:Nat) (w0:Bool) (j:Nat) (w:Bool):alw 0 fr j0 w0 j w=false:=rfl
theorem e_vw1 (hp:List (Nat × HB)) (s:SV):vw1 hp s=vwS hp vw0 s:=rfl
theorem e_vw2 (hp:List (Nat × HB)) (s:SV):vw2 hp s=vwS hp (vw1 hp) s:=rfl
theorem e_vw3 (hp:List (Nat × HB)) (s:SV):vw3 hp s=vwS hp (vw2 hp) s:=rfl
theorem e_vw4 (hp:List (Nat × HB)) (s:SV):vw4 hp s=vwS hp (vw3 hp) s:=rfl
theorem Zl9 (fr:List (Nat × SV)) (hp:List (Nat × HB)) (n N:Nat):W7 ⟨fr,hp,n,N,[]⟩=⟨fr,hp,n,N,[]⟩:=rfl
theorem ZmB (fr:List (Nat × SV)) (hp:List (Nat × HB)) (n N j:Nat) (l:List Nat):W7 ⟨fr,hp,n,N,j :: l⟩=⟨Yt fr,hp,n,N,[]⟩:=rfl
theorem ZxF (b:BinOp) (k j:IntKind) (x y:Int):ZwR b (.v (.int k x)) (.v (.int j y))=ZyL (Zcp k j) b k x y:=rfl
theorem ZhC (b:Bool):uni .not (.v (.bool b))=some (.v (.bool (!b))):=rfl
theorem Zi7 (k:IntKind) (n:Int):uni .neg (.v (.int k n))=some (.v (.int k (k.wrap (0 - n)))):=rfl
theorem ZfR (k:IntKind) (x y:Int):ZfA .add k x y=some (.v (.int k (k.wrap (x+y)))):=rfl
theorem Zgk (k:IntKind) (x y:Int):ZfA .sub k x y=some (.v (.int k (k.wrap (x - y)))):=rfl
theorem Zfk (k:IntKind) (x y:Int):ZfA .mul k x y=some (.v (.int k (k.wrap (x * y)))):=rfl
theorem Zge (k:IntKind) (x y:Int):ZfA .eql k x y=some (.v (.bool (x == y))):=rfl
theorem Zfz (k:IntKind) (x y:Int):ZfA .neq k x y=some (.v (.bool (x != y))):=rfl
theorem Zgj (k:IntKind) (x y:Int):ZfA .lss k x y=some (.v (.bool (decide (x < y)))):=rfl
theorem Zf3 (k:IntKind) (x y:Int):ZfA .leq k x y=some (.v (.bool (decide (x<=y)))):=rfl
theorem ZfI (k:IntKind) (x y:Int):ZfA .gtr k x y=some (.v (.bool (decide (x > y)))):=rfl
theorem Zfb (k:IntKind) (x y:Int):ZfA .geq k x y=some (.v (.bool (decide (x ≥ y)))):=rfl
theorem Zjl  : Zcp .i8 .i8=true:=rfl
theorem Zfu  : Zcp .i16 .i16=true:=rfl
theorem ZfU  : Zcp .i32 .i32=true:=rfl
theorem Zfd  : Zcp .i64 .i64=true:=rfl
theorem ZhZ  : Zcp .u8 .u8=true:=rfl
theorem Zfs  : Zcp .u16 .u16=true:=rfl
theorem Zgz  : Zcp .u32 .u32=true:=rfl
theorem ZgD  : Zcp .u64 .u64=true:=rfl
theorem Zpq (o:Nat) (k q:Nat):VS o (.p k q)=some (.p k (q+o)):=rfl
theorem Zpz (k q:Nat):ZcZ (.p k q)=some (.p k q):=rfl
theorem ZhE (o:Nat) (k v m i q:Nat):VS o (.pr k v m i q)=some (.pr k v m i (q+o)):=rfl
theorem Zi6 (k v m i q:Nat):ZcZ (.pr k v m i q)=some (.pr k v m i q):=rfl
theorem ZiQ (o:Nat) (row:List SV) (q:Nat):VS o (.ps row q)=some (.ps row (q+o)):=rfl
theorem ZkO (row:List SV) (q:Nat):ZcZ (.ps row q)=some (.ps row q):=rfl
theorem ZpK (l:List SV) (o m:Nat):XE l o m true=Zz0 (Nat.ble (o+m) l.length) l o m:=rfl
theorem ZlU (l:List SV) (o m:Nat):XE l o m false=nth l o:=rfl
theorem Zzf (mx:Bool) (x:Int):mmf mx x []=some x:=rfl
theorem ZvA (k:IntKind) (x y:Int) (r:List SV):mmf true x (.v (.int k y) :: r)=mmf true (max x y) r:=rfl
theorem Ztr (k:IntKind) (x y:Int) (r:List SV):mmf false x (.v (.int k y) :: r)=mmf false (min x y) r:=rfl
theorem e_mm (mx:Bool) (k:IntKind) (x:Int) (r:List SV):mmS mx (.v (.int k x) :: r)=mmE k (mmf mx x r):=rfl
theorem e_bld (ρ : X->SV) (z:List SV) (ps:List (Nat × Nat × X)):bld ρ z ps=ZkU z (Zqa ρ ps):=rfl
theorem ZfZ (ρ : X->SV) (z:List Value) (ps:List (Nat × Nat × X)):pv ρ (.build z ps)=ZzA (bld ρ (lit z) ps):=rfl
theorem Zx2 (l:List SV) (m:Nat) (ls:List (List SV)):ZwP (some l) m (some ls)=chkB (chk l m) l ls:=rfl
theorem ZmE (s:SV) (l:List SV):Yr (s :: l)=XD (UK s) (Yr l):=rfl
theorem Zhm  : Yr []=true:=rfl
theorem Zpy (fr:List (Nat × SV)) (g:Option (Nat × Bool)) (t:Nat) (b:X):ZfG fr g (.t t) (.c (.bool true)) b=Zf6 (rdG g fr (.t t)) (rdG (some (t,false)) fr b):=rfl
theorem Zni (fr:List (Nat × SV)) (g:Option (Nat × Bool)) (t n:Nat):ZfG fr g (.t t) (.t n) (.c (.bool false))=ZdP (rdG g fr (.t t)) (rdG (some (t,true)) fr (.t n)):=rfl
theorem ZpA (fr:List (Nat × SV)) (g:Option (Nat × Bool)) (t:Nat):ZfG fr g (.t t) (.c (.bool false)) (.c (.bool false))=ZdP (rdG g fr (.t t)) (rdG (some (t,true)) fr (.c (.bool false))):=rfl
theorem ZhH:ZdP (.v (.bool false)) (.v undef)=some (.v (.bool false)):=rfl
theorem ZgW:Zf6 (.v (.bool true)) (.v undef)=some (.v (.bool true)):=rfl
theorem e_rvR (rs:List RV) (σ : St):rvR rs σ = rvE (rvs σ rs):=rfl
theorem ZzZ (σ : St):rvs σ []=some []:=rfl
theorem ZtO (σ : St) (t:Nat):rv1 σ (.tmp t)=some (rdG none σ.fr (.t t)):=rfl
theorem Ztl (σ : St) (t m:Nat) (ag:Bool):rv1 σ (.cell t m ag)=rvX σ.hp m ag (rdG none σ.fr (.t t)):=rfl
theorem ZqD (P:Program) (Y:Hd) (d:Option Nat) (σ : St) (r:KT) (K:RK) (x:X):stp P Y d (.mv x) σ r K=Yf P none d (.mv x) σ r K:=rfl
theorem Zgu (P:Program) (Y:Hd) (d:Option Nat) (σ : St) (r:KT) (K:RK) (c a b:X):stp P Y d (.pick c a b) σ r K=Yf P none d (.pick c a b) σ r K:=rfl
theorem Zdo (P:Program) (Y:Hd) (d:Option Nat) (σ : St) (r:KT) (K:RK) (z:List Value) (ps:List (Nat × Nat × X)):stp P Y d (.build z ps) σ r K=Yf P none d (.build z ps) σ r K:=rfl
theorem ZgY (P:Program) (Y:Hd) (d:Option Nat) (σ : St) (r:KT) (K:RK) (m:Nat) (T:TypeId) (ps:List X):stp P Y d (.bsl m T ps) σ r K=Yf P none d (.bsl m T ps) σ r K:=rfl
theorem Zns (P:Program) (Y:Hd) (d:Option Nat) (σ : St) (r:KT) (K:RK) (x:X) (m:Nat) (ag:Bool):stp P Y d (.ld x m ag) σ r K=Yf P none d (.ld x m ag) σ r K:=rfl
theorem Zgl (P:Program) (Y:Hd) (d:Option Nat) (σ : St) (r:KT) (K:RK) (x:X):stp P Y d (.nilc x) σ r K=Yf P none d (.nilc x) σ r K:=rfl
theorem Zio (P:Program) (Y:Hd) (d:Option Nat) (σ : St) (r:KT) (K:RK) (b:BinOp) (x y:X):stp P Y d (.bin b x y) σ r K=Yf P none d (.bin b x y) σ r K:=rfl
theorem Zi9 (P:Program) (Y:Hd) (d:Option Nat) (σ : St) (r:KT) (K:RK) (b:BinOp) (x y:X):stp P Y d (.div b x y) σ r K=Yf P none d (.div b x y) σ r K:=rfl
theorem Zof (P:Program) (Y:Hd) (d:Option Nat) (σ : St) (r:KT) (K:RK) (u:UnOp) (x:X):stp P Y d (.un u x) σ r K=Yf P none d (.un u x) σ r K:=rfl
theorem Zfx (P:Program) (Y:Hd) (d:Option Nat) (σ : St) (r:KT) (K:RK) (x:X) (o:Nat):stp P Y d (.addo x o) σ r K=Yf P none d (.addo x o) σ r K:=rfl
theorem ZiR (P:Program) (Y:Hd) (d:Option Nat) (σ : St) (r:KT) (K:RK) (x:X) (o m:Nat) (ag:Bool):stp P Y d (.fld x o m ag) σ r K=Yf P none d (.fld x o m ag) σ r K:=rfl
theorem ZiU (P:Program) (Y:Hd) (d:Option Nat) (σ : St) (r:KT) (K:RK) (x i:X) (len m:Nat) (ag:Bool):stp P Y d (.idx x i len m ag) σ r K=Yf P none d (.idx x i len m ag) σ r K:=rfl
theorem Zji (P:Program) (Y:Hd) (d:Option Nat) (σ : St) (r:KT) (K:RK) (x i:X) (len m:Nat):stp P Y d (.ixa x i len m) σ r K=Yf P none d (.ixa x i len m) σ r K:=rfl
theorem Zhe (P:Program) (Y:Hd) (d:Option Nat) (σ : St) (r:KT) (K:RK) (x i:X) (m:Nat):stp P Y d (.ixs x i m) σ r K=Yf P none d (.ixs x i m) σ r K:=rfl
theorem ZhR (P:Program) (Y:Hd) (d:Option Nat) (σ : St) (r:KT) (K:RK) (x:X):stp P Y d (.len x) σ r K=Yf P none d (.len x) σ r K:=rfl
theorem Zn1 (P:Program) (Y:Hd) (d:Option Nat) (σ : St) (r:KT) (K:RK) (mx:Bool) (xs:List X):stp P Y d (.mm mx xs) σ r K=Yf P none d (.mm mx xs) σ r K:=rfl
theorem ZfE (P:Program) (Y:Hd) (d:Option Nat) (σ : St) (r:KT) (K:RK) (f:FuncId) (as:List X):stp P Y d (.call f as) σ r K=Yf P none d (.call f as) σ r K:=rfl
theorem Zf4 (P:Program) (Y:Hd) (d:Option Nat) (σ : St) (r:KT) (K:RK) (x:X) (as:List X):stp P Y d (.calv x as) σ r K=Yf P none d (.calv x as) σ r K:=rfl
theorem Zkc (P:Program) (Y:Hd) (d:Option Nat) (σ : St) (r:KT) (K:RK) (f:FuncId) (cs:List X):stp P Y d (.mkf f cs) σ r K=Yf P none d (.mkf f cs) σ r K:=rfl
theorem Zf7 (P:Program) (Y:Hd) (d:Option Nat) (σ : St) (r:KT) (K:RK) (k:IntKind) (x:X):stp P Y d (.conv k x) σ r K=Yf P none d (.conv k x) σ r K:=rfl
theorem ZjY (P:Program) (Y:Hd) (d:Option Nat) (σ : St) (r:KT) (K:RK) (x:X) (i:Nat):stp P Y d (.ext x i) σ r K=Yf P none d (.ext x i) σ r K:=rfl
theorem e_rvs (σ : St) (r:RV) (rs:List RV):rvs σ (r :: rs)=rvC σ.hp (rv1 σ r) (rvs σ rs):=rfl
theorem Zms (ρ : X->SV) (x:X) (o m:Nat) (ag:Bool):pv ρ (.fld x o m ag)=pvF o m ag (ρ x):=rfl
theorem Ziq (ρ : X->SV) (k:IntKind) (x:X):pv ρ (.conv k x)=pvC k (ρ x):=rfl
theorem ZnX (ρ : X->SV) (x:X) (i:Nat):pv ρ (.ext x i)=pvE i (ρ x):=rfl
theorem ZrK (fr:List (Nat × SV)):Zw6 [] fr=True:=rfl
theorem ZzM (t:Nat) (s:SV) (r fr:List (Nat × SV)):Zw6 ((t,s) :: r) fr=(lk t fr=s/\Zw6 r fr):=rfl
theorem Zka (P:Program) (Y:Hd) (d:Option Nat) (σ : St) (r:KT) (K:RK) (ng ag:Bool) (cls:List Nat) (x y:X):stp P Y d (.eqs ng ag cls x y) σ r K=Yf P none d (.eqs ng ag cls x y) σ r K:=rfl
theorem ZjO (P:Program) (Y:Hd) (d:Option Nat) (σ : St) (r:KT) (K:RK) (x h k:X):stp P Y d (.slc x h k) σ r K=Yf P none d (.slc x h k) σ r K:=rfl
theorem Zia (P:Program) (Y:Hd) (d:Option Nat) (σ : St) (r:KT) (K:RK) (m:Nat) (x:X) (lo hi:Option X):stp P Y d (.sub m x lo hi) σ r K=Yf P none d (.sub m x lo hi) σ r K:=rfl
theorem Zj7 (P:Program) (Y:Hd) (d:Option Nat) (σ : St) (r:KT) (K:RK) (m b:Nat) (T:TypeId) (x y:X):stp P Y d (.app m b T x y) σ r K=Yf P none d (.app m b T x y) σ r K:=rfl
theorem Zp1 (l):ZzA (some l)=some (SV.agg l):=rfl
theorem Zom: ZzA none=none:=rfl
theorem Ztp (k z):mmE k (some z)=some (SV.v (Value.int k z)):=rfl
theorem ZsI (k):mmE k none=none:=rfl
theorem Zww (g o l T):vwP g o (HB.cells l T)=SV.ps (Za1 g l) o:=rfl
theorem Zt0 (m a):vwN true m a=SV.sl false m a:=rfl
theorem ZsZ (m a):vwN false m a=SV.any:=rfl
theorem ZvN (v a m b T):vwM v (HB.row a m b T)=vwN (Nat.beq v a) m b:=rfl
theorem Zve (c m a b q):vwR true c m a b q=SV.sl false m b:=rfl
theorem ZtC (m a b r):vwR false true m a b (some r)=SV.sl false a r:=rfl
theorem Zsv (m a b):vwR false true m a b none=SV.any:=rfl
theorem Zr1 (m a b q):vwR false false m a b q=SV.any:=rfl
theorem ZtG (v a m b T o c d e):vwM v (HB.rws a m b T o c d e)=vwR (Nat.beq v a) (Nat.ble (a+1) v) m c (Zbs o c d b) d[v - (a+1)]?:=rfl
theorem Zl5 (v a m b T):cvtM v (HB.row a m b T)=vwN (Nat.beq v a) m b:=rfl
theorem ZnB (m v a b c T):ZgP m v (HB.row a b c T)=ZfQ c (XD (Nat.beq m b) (Nat.beq v a)):=rfl
theorem ZlA (m v l T):ZgP m v (HB.cells l T)=none:=rfl
theorem Zmu (m v φ):ZgP m v (HB.ob φ)=none:=rfl
theorem ZpX (m v a b):ZgP m v (HB.map a b)=none:=rfl
theorem ZpB (m v a b c d):ZgP m v (HB.it a b c d)=none:=rfl
theorem Zoo (m v a b):ZgP m v (HB.lp a b)=none:=rfl
theorem Zmi (m v a):ZgP m v (HB.lb a)=none:=rfl
theorem ZqH (m v a b c T o d e f):ZgP m v (HB.rws a b c T o d e f)=none:=rfl
theorem ZmQ (m v):ZgP m v HB.gone=none:=rfl
theorem Zod (a):ZfQ a true=some a:=rfl
theorem ZoP (a):ZfQ a false=none:=rfl
theorem ZvQ: rvE (some [])=some (SV.tup []):=rfl
theorem Zur (s):rvE (some [s])=some s:=rfl
theorem Zvd (a b l):rvE (some (a :: b :: l))=some (SV.tup (a :: b :: l)):=rfl
theorem Ztu: rvE none=none:=rfl
theorem ZuU (s l):rvD s (some l)=some (s :: l):=rfl
theorem Ztw (s):rvD s none=none:=rfl
theorem Zwe (hp x s):rvC hp (some s) x=rvD (cvt hp s) x:=rfl
theorem Zs5 (hp x):rvC hp none x=none:=rfl
theorem Zum (o m a l T):rvH o m a (HB.cells l T)=XE l o m a:=rfl
theorem ZuY (hp m a k o):rvX hp m a (SV.p k o)=rvH o m a (lkh k hp):=rfl
theorem ZsV (o m a l):pvF o m a (SV.agg l)=XE l o m a:=rfl
theorem ZtZ (k a n):pvC k (SV.v (Value.int a n))=some (SV.v (Value.int k (IntKind.wrap k n))):=rfl
theorem ZtH (i l):pvE i (SV.tup l)=nth l i:=rfl
theorem Zou (x a b c d):Zxw false true false x a b c d=c { fr:=(x,a) :: St.fr b,hp:=St.hp b,n:=St.n b,N:=St.N b,gs:=St.gs b } d:=rfl
theorem ZoW (x a b c d e f):Zz8 false true false x a b c d e f=e { fr:=(x,SV.gd a b c) :: St.fr d,hp:=St.hp d,n:=St.n d,N:=St.N d,gs:=a :: St.gs d } f:=rfl
theorem ZpJ (s σ r K):Yo none s none σ r K=r σ K:=rfl
theorem ZmS (s σ r K a):Yo none s (some a) σ r K=False:=rfl
theorem Zoi (s σ r K t):Yo (some t) s none σ r K=Zxw (Y3 t (St.gs σ)) (Nat.blt t (St.N σ)) (gdS s) t s σ r K:=rfl
theorem ZnG (s σ r K t j w):Yo (some t) s (some (j,w)) σ r K=Zz8 (Y3 t (St.gs σ)) (Nat.blt t (St.N σ)) (Nat.beq t j) t j w s σ r K:=rfl
theorem Zph (d g σ r K s):XR (some s) d g σ r K=Yo d s g σ r K:=rfl
theorem ZoF (d g σ r K):XR none d g σ r K=False:=rfl
theorem Zj2 (x):ZdD true x=x:=rfl
theorem Zju (x):ZdD false x=SV.any:=rfl
theorem Zmj (x a b c):Zxe true x a b c=true:=rfl
theorem Zk7 (x a b c d s):Zxe false (SV.gd c d s) x a b=x c d a b:=rfl
theorem ZhO (x a):ZfC true x a=bbq x a:=rfl
theorem ZhJ (x a):ZfC false x a=false:=rfl
theorem Zt7: bbq true true=true:=rfl
theorem ZvV: bbq false false=true:=rfl
theorem ZjZ (x y):Zf6 (SV.v (Value.bool x)) (SV.v (Value.bool y))=some (SV.v (Value.bool (x || y))):=rfl
theorem ZhX (x a):Zf6 (SV.v (Value.bool x)) (SV.v (Value.tuple a))=bif x then some (SV.v (Value.bool true)) else none:=rfl
theorem ZgR (x y):ZdP (SV.v (Value.bool x)) (SV.v (Value.bool y))=some (SV.v (Value.bool (x && y))):=rfl
theorem Zg8 (x a):ZdP (SV.v (Value.bool x)) (SV.v (Value.tuple a))=bif x then none else some (SV.v (Value.bool false)):=rfl
theorem Zpl (m r):Zxd m (some r)=some (SV.sl true m r):=rfl
theorem Zme (m):Zxd m none=none:=rfl
theorem ZhQ (P g d σ r K a f b):Zlf P g d σ r K (SV.cl f b) a=ZwQ P g f (a ++ b) d σ r K:=rfl
theorem Zn5 (g d σ r K k v m a j):ZzC g d σ r K true k v m a j=IXR g k v m a j d σ r K:=rfl
theorem ZoY (g d σ r K k v m a j):ZzC g d σ r K false k v m a j=False:=rfl
theorem ZpQ (g d σ r K k v m j a b c T):Zxh g d σ r K (HB.row a b c T) k v m j=ZzC g d σ r K (XD (Nat.beq m b) (Nat.beq v a)) k v m (List.length c) j:=rfl
theorem Znf (g d σ r K k v m j a b c T o e f l):Zxh g d σ r K (HB.rws a b c T o e f l) k v m j = ∃ i rows TT,v=a+i/\YL k a b c T o e f l i=some (m,rows,TT)/\IXR g k v m (List.length rows) j d σ r K:=rfl
theorem ZqK (g d σ r K a j):ZxY g d σ r K true a j=IXS g a j d σ r K:=rfl
theorem ZqJ (g d σ r K a j):ZxY g d σ r K false a j=False:=rfl
theorem ZpZ (g d σ r K m k j c a b):ZyP g d σ r K (SV.v (Value.int k j)) (SV.sl c a b) m=ZxY g d σ r K (Nat.beq m a) b j:=rfl
theorem Zm0 (g d σ r K m k j a v):ZyP g d σ r K (SV.v (Value.int k j)) (SV.mr a v) m=Zxh g d σ r K (lkh a (St.hp σ)) a v m j:=rfl
theorem Zpc (g d σ r K x a m k n):ZAl g d σ r K (SV.v (Value.int k n)) x a m=IXA g a n (λn=>VS (n * m) x) d σ r K:=rfl
theorem Zlr (g d σ r K a m b k j l):ZAh g d σ r K (SV.v (Value.int k j)) (SV.agg l) a m b=IXA g a j (λn=>XE l (n * m) m b) d σ r K:=rfl
theorem Zva (g d σ r K o m a l T):ldC g d σ r K (HB.cells l T) o m a=XR (XE l o m a) d g σ r K:=rfl
theorem ZrG (g d σ r K a i o m b):ldB g d σ r K true a i o m b=LDR g a i o m b d σ r K:=rfl
theorem ZsY (g d σ r K a i o m b):ldB g d σ r K false a i o m b=False:=rfl
theorem ZrP (g d σ r K k v a i o m b c e f T):ldR g d σ r K k (HB.row c e f T) v a i o m b=ldB g d σ r K (XD (Nat.beq a e) (Nat.beq v c)) f i o m b:=rfl
theorem Zsd (g d σ r K k v b i o m c e f j T l p q s):ldR g d σ r K k (HB.rws e f j T l p q s) v b i o m c = ∃ a rows TT,v=e+a/\YL k e f j T l p q s a=some (b,rows,TT)/\LDR g rows i o m c d σ r K:=rfl
theorem Zu9 (g d σ r K m a k o):ldK g d σ r K (SV.p k o) m a=ldC g d σ r K (lkh k (St.hp σ)) o m a:=rfl
theorem Zsb (g d σ r K m a b o):ldK g d σ r K (SV.ps b o) m a=XR (XE b o m a) d g σ r K:=rfl
theorem Ztd (g d σ r K m a k v b i o):ldK g d σ r K (SV.pr k v b i o) m a=ldR g d σ r K k (lkh k (St.hp σ)) v b i o m a:=rfl
theorem Zor (g d σ r K b k u v):Zzk g d σ r K true b k u v=DIV g b k u v d σ r K:=rfl
theorem Zmm (g d σ r K b k u v):Zzk g d σ r K false b k u v=False:=rfl
theorem Zmx (g d σ r K b k a j c):Zz7 g d σ r K b (SV.v (Value.int k a)) (SV.v (Value.int j c))=Zzk g d σ r K (Zcp k j) b k a c:=rfl
theorem Zo8 (g d σ r K a):Zzt g d σ r K true a=Yo d (SV.v (Value.int IntKind.i64 ↑(List.length a))) g σ r K:=rfl
theorem ZlM (g d σ r K a):Zzt g d σ r K false a=False:=rfl
theorem ZnU (g d σ r K k v a m b T):Zy7 g d σ r K k (HB.row a m b T) v=Zzt g d σ r K (Nat.beq v a) b:=rfl
theorem Zqi (g d σ r K k v b m c T o e f i):Zy7 g d σ r K k (HB.rws b m c T o e f i) v = ∃ a mm rows TT,v=b+a/\YL k b m c T o e f i a=some (mm,rows,TT)/\Yo d (SV.v (Value.int IntKind.i64 ↑(List.length rows))) g σ r K:=rfl
theorem Zo6 (g d σ r K k v):Zxb g d σ r K (SV.mr k v)=Zy7 g d σ r K k (lkh k (St.hp σ)) v:=rfl
theorem Zk8 (g d σ r K k v m i l):Zxb g d σ r K (SV.ms k v m i l)=Yo d (SV.v (Value.int IntKind.i64 ↑l)) g σ r K:=rfl
theorem Zpd (g d σ r K c m a):Zxb g d σ r K (SV.sl c m a)=Yo d (SV.v (Value.int IntKind.i64 ↑(List.length a))) g σ r K:=rfl
theorem Zl7 (P g d σ r K f a):Yf P g d (SI.call f a) σ r K=ZwQ P g f (VZ (rdG g (St.fr σ)) a) d σ r K:=rfl
theorem Zpx (P g d σ r K x a):Yf P g d (SI.calv x a) σ r K=Zlf P g d σ r K (rdG g (St.fr σ) x) (VZ (rdG g (St.fr σ)) a):=rfl
theorem Zpa (P g d σ r K f a):Yf P g d (SI.callm f a) σ r K=False:=rfl
theorem ZnK (P g d σ r K x a):Yf P g d (SI.calvm x a) σ r K=False:=rfl
theorem ZnS (P g d σ r K c a b):Yf P g d (SI.pick c a b) σ r K=XR (ZfG (St.fr σ) g c a b) d g σ r K:=rfl
theorem Zop (P g d σ r K m T a):Yf P g d (SI.bsl m T a) σ r K=XR (Zxd m (ZgK (rdG g (St.fr σ)) m a)) d g σ r K:=rfl
theorem Zpm (P g d σ r K x a m):Yf P g d (SI.ixs x a m) σ r K=ZyP g d σ r K (rdG g (St.fr σ) a) (rdG g (St.fr σ) x) m:=rfl
theorem Zqd (P g d σ r K x a b m):Yf P g d (SI.ixa x a b m) σ r K=ZAl g d σ r K (rdG g (St.fr σ) a) (rdG g (St.fr σ) x) b m:=rfl
theorem Zmn (P g d σ r K x a b m c):Yf P g d (SI.idx x a b m c) σ r K=ZAh g d σ r K (rdG g (St.fr σ) a) (rdG g (St.fr σ) x) b m c:=rfl
theorem ZiD (P g d σ r K x m a):Yf P g d (SI.ld x m a) σ r K=ldK g d σ r K (rdG g (St.fr σ) x) m a:=rfl
theorem Zhn (P g d σ r K b x y):Yf P g d (SI.div b x y) σ r K=Zz7 g d σ r K b (rdG g (St.fr σ) x) (rdG g (St.fr σ) y):=rfl
theorem ZjU (P g d σ r K x):Yf P g d (SI.len x) σ r K=Zxb g d σ r K (rdG g (St.fr σ) x):=rfl
theorem ZhF (P g d σ r K x):Yf P g d (SI.mv x) σ r K=Yo d (rdG g (St.fr σ) x) g σ r K:=rfl
theorem Zj5 (P g d σ r K z a):Yf P g d (SI.build z a) σ r K=XR (pv (rdG g (St.fr σ)) (SI.build z a)) d g σ r K:=rfl
theorem ZkS (P g d σ r K x):Yf P g d (SI.nilc x) σ r K=XR (ZcZ (rdG g (St.fr σ) x)) d g σ r K:=rfl
theorem ZiO (P g d σ r K b x y):Yf P g d (SI.bin b x y) σ r K=XR (ZwR b (rdG g (St.fr σ) x) (rdG g (St.fr σ) y)) d g σ r K:=rfl
theorem ZiE (P g d σ r K u x):Yf P g d (SI.un u x) σ r K=XR (uni u (rdG g (St.fr σ) x)) d g σ r K:=rfl
theorem ZgZ (P g d σ r K x o):Yf P g d (SI.addo x o) σ r K=XR (VS o (rdG g (St.fr σ) x)) d g σ r K:=rfl
theorem ZkA (P g d σ r K x o m a):Yf P g d (SI.fld x o m a) σ r K=XR (pv (rdG g (St.fr σ)) (SI.fld x o m a)) d g σ r K:=rfl
theorem Zif (P g d σ r K a b):Yf P g d (SI.mm a b) σ r K=XR (mmS a (VZ (rdG g (St.fr σ)) b)) d g σ r K:=rfl
theorem Zhh (P g d σ r K f a):Yf P g d (SI.mkf f a) σ r K=Yo d (SV.cl f (VZ (rdG g (St.fr σ)) a)) g σ r K:=rfl
theorem Zh8 (P g d σ r K k x):Yf P g d (SI.conv k x) σ r K=XR (pv (rdG g (St.fr σ)) (SI.conv k x)) d g σ r K:=rfl
theorem ZhS (P g d σ r K x a):Yf P g d (SI.ext x a) σ r K=XR (pv (rdG g (St.fr σ)) (SI.ext x a)) d g σ r K:=rfl
theorem ZiH (P g d σ r K x h k):Yf P g d (SI.slc x h k) σ r K=ZAc g (rdG g (St.fr σ) x) (rdG g (St.fr σ) h) (rdG g (St.fr σ) k) d σ r K:=rfl
theorem Zhi (P g d σ r K m x a b):Yf P g d (SI.sub m x a b) σ r K=Zzv g m (rdG g (St.fr σ)) a b (rdG g (St.fr σ) x) d σ r K:=rfl
theorem Zho (P g d σ r K m b T x y):Yf P g d (SI.cln m b T x y) σ r K=False:=rfl
theorem Zkp (P g d σ r K m b T x y):Yf P g d (SI.appm m b T x y) σ r K=False:=rfl
theorem ZjP (P g d σ r K m x y):Yf P g d (SI.cpy m x y) σ r K=False:=rfl
theorem Zkr (P g d σ r K m b z T x):Yf P g d (SI.mks m b z T x) σ r K=False:=rfl
theorem Zht (P g d σ r K x):Yf P g d (SI.isn x) σ r K=False:=rfl
theorem ZkJ (P g d σ r K m b T x y):Yf P g d (SI.app m b T x y) σ r K=ZwV g m b (Zgo m (rdG g (St.fr σ) x)) (ZtY m (St.hp σ) (rdG g (St.fr σ) y)) d σ r K:=rfl
theorem Zg0 (P g d σ r K x m T):Yf P g d (SI.box x m T) σ r K=False:=rfl
theorem ZjA (P g d σ r K z T):Yf P g d (SI.alloc z T) σ r K=False:=rfl
theorem Zhy (P g d σ r K x y m):Yf P g d (SI.st x y m) σ r K=False:=rfl
theorem ZiI (P g d σ r K a b c x y):Yf P g d (SI.eqs a b c x y) σ r K=XR (eqR a (Zqt c b (rdG g (St.fr σ) x) (rdG g (St.fr σ) y))) d g σ r K:=rfl
theorem Zis (P g d σ r K a b):Yf P g d (SI.raw a b) σ r K=False:=rfl
theorem ZkD (P g d σ r K a b):Yf P g d (SI.rv a b) σ r K=False:=rfl
theorem Zit (P g d σ r K a x b):Yf P g d (SI.rb a x b) σ r K=False:=rfl
theorem Zmt (x a b c d e):ZAd false true x a b c d e=d { fr:=(x,SV.p (St.n c) 0) :: St.fr c,hp:=(St.n c,HB.cells a b) :: St.hp c,n:=St.n c+1,N:=St.N c,gs:=St.gs c } e:=rfl
theorem Zm5 (T σ r K t a):ZgN (some t) (some a) T σ r K=ZAd (Y3 t (St.gs σ)) (Nat.blt t (St.N σ)) t a T σ r K:=rfl
theorem Zjv (x a b c d e f g i j):Zvc false true x a b c d e f g i j=i { fr:=(x,SV.v (Value.int IntKind.i64 ↑e)) :: St.fr g,hp:=(a,HB.row b c d f) :: St.hp g,n:=St.n g,N:=St.N g,gs:=St.gs g } j:=rfl
theorem Zqp (k v m a N T σ r K b):ZyU (some b) k v m a N T σ r K=Zvc (Y3 b (St.gs σ)) (Nat.blt b (St.N σ)) b k v m a N T σ r K:=rfl
theorem Zo5 (k v m a N T σ r K):ZyU none k v m a N T σ r K=r { fr:=St.fr σ,hp:=(k,HB.row v m a T) :: St.hp σ,n:=St.n σ,N:=St.N σ,gs:=St.gs σ } K:=rfl
theorem Zpr (d k v m i L a T σ r K c b e):Zq5 d k v m i L a T (SV.sl c b e) σ r K=Zdf (Nat.beq m b) (CPY d k v m i L a e T σ r K):=rfl
theorem Zn3 (d k v m i L a T σ r K):Zq5 d k v m i L a T (SV.v (Value.slice none 0 0)) σ r K=CPY d k v m i L a [] T σ r K:=rfl
theorem Znb (d k v m i L a T σ r K b c):Zq5 d k v m i L a T (SV.mr b c) σ r K=Zdf (XD (Nat.beq k b) (Nat.beq v c)) (CPY d k v m i L a a T σ r K):=rfl
theorem ZmW (d k v m i L a T σ r K b c e f g):Zq5 d k v m i L a T (SV.ms b c e f g) σ r K=Zdf (XD (XD (Nat.beq k b) (Nat.beq v c)) (Nat.beq m e)) (f+g<=List.length a/\CPY d k v m i L a (List.take g (List.drop f a)) T σ r K):=rfl
theorem ZxE (n m):lO (some m) n=m:=rfl
theorem ZxR (n):lO none n=n:=rfl
theorem Zqu (d m k v i a s σ r K b c e T):Zs2 d m k v i a (HB.row b c e T) s σ r K=Zdf (XD (Nat.beq m c) (Nat.beq v b)) (Zq5 d k v m i (lO a (List.length e)) e T s σ r K):=rfl
theorem ZmP (d m a σ r K k v):ZwW d m (SV.mr k v) a σ r K=Zs2 d m k v 0 none (lkh k (St.hp σ)) a σ r K:=rfl
theorem ZmA (d m a σ r K k v b i l):ZwW d m (SV.ms k v b i l) a σ r K=Zdf (Nat.beq m b) (Zs2 d m k v i (some l) (lkh k (St.hp σ)) a σ r K):=rfl
theorem ZnT (g k v m a d σ r K i j):Zxa g k v m a (some i) (some j) d σ r K=SBM g i j k v m a d σ r K:=rfl
theorem ZpW (g k v m a d σ r K b):Zxa g k v m a (some b) none d σ r K=False:=rfl
theorem ZoS (g k v m a b d σ r K):Zxa g k v m a none b d σ r K=False:=rfl
theorem Zk6 (p):Zdf true p=p:=rfl
theorem Znh (p):Zdf false p=False:=rfl
theorem ZlF (g m ρ a b k v d σ r K c e f T):ZAe g m ρ a b k v (HB.row c e f T) d σ r K=Zdf (XD (Nat.beq m e) (Nat.beq v c)) (Zxa g k v m f (Zbl 0 ρ a) (Zbl (↑(List.length f)) ρ b) d σ r K):=rfl
theorem ZpP (g m ρ a b d σ r K c e f):Zzv g m ρ a b (SV.sl c e f) d σ r K=bif Nat.beq m e then ZwO g m f (Zbl 0 ρ a) (Zbl (↑(List.length f)) ρ b) d σ r K else False:=rfl
theorem ZnI (g m ρ a b d σ r K k v):Zzv g m ρ a b (SV.mr k v) d σ r K=ZAe g m ρ a b k v (lkh k (St.hp σ)) d σ r K:=rfl
theorem Zlc (x a b c d e f g i):verB false true x a b c d e f g i=g { fr:=(x,SV.mr a b) :: St.fr f,hp:=(a,HB.row b c d e) :: St.hp f,n:=St.n f,N:=St.N f,gs:=St.gs f } i:=rfl
theorem Znd (k v m a T σ r K b):ZwX (some b) k v m a T σ r K=verB (Y3 b (St.gs σ)) (Nat.blt b (St.N σ)) b k v m a T σ r K:=rfl
theorem Zn0 (k v m a T σ r K):ZwX none k v m a T σ r K=False:=rfl
theorem Zqg (b d k v m a c T σ r K):Zy8 true b d k v m a c T σ r K=APM b d k v m a c T σ r K:=rfl
theorem Zoz (b d k v m a c T σ r K):Zy8 false b d k v m a c T σ r K=False:=rfl
theorem Zlh (b d k v m a T σ r K c e f g):ZAf b d k v m (HB.row c e f g) a T σ r K=Zy8 (XD (Nat.beq m e) (XD (Nat.beq v c) (Nat.beq T g))) b d k v m f a T σ r K:=rfl
theorem ZnF (b d m a T σ r K k v):Zze b d m (SV.mr k v) a T σ r K=ZAf b d k v m (lkh k (St.hp σ)) a T σ r K:=rfl
theorem Zp3 (d k v m i a b T σ r K):ZyW true d k v m i a b T σ r K=APF d k v m i a b T σ r K:=rfl
theorem Zn4 (d k v m i a b T σ r K):ZyW false d k v m i a b T σ r K=False:=rfl
theorem Zol (d k v m a j i b T σ r K c e f g):ZAj d k v m a j i (HB.row c e f g) b T σ r K=ZyW (XD (XD (Nat.beq m a) (Nat.beq j 0)) (XD (Nat.beq m e) (XD (Nat.beq v c) (Nat.beq T g)))) d k v m i f b T σ r K:=rfl
theorem Zqr (b d m a T σ r K k v c j i):Zze b d m (SV.ms k v c j i) a T σ r K=ZAj d k v m c j i (lkh k (St.hp σ)) a T σ r K:=rfl
theorem ZmZ (b d m s T σ r K a):Zw5 b d m s (some a) T σ r K=Zze b d m s a T σ r K:=rfl
theorem Zk3 (b d m s T σ r K):Zw5 b d m s none T σ r K=False:=rfl
theorem Zlg (x a b c d e f g):ZwU true x a b c d e f g=f { fr:=St.fr e,hp:=(x,HB.cells (Zq b a d) c) :: St.hp e,n:=St.n e,N:=St.N e,gs:=St.gs e } g:=rfl
theorem Zog (x a b c d e f g):ZwU false x a b c d e f g=False:=rfl
theorem Zs7 (k o m c σ r K l T):stC k o m (HB.cells l T) c σ r K=ZwU (Nat.ble (o+m) (List.length l)) k o l T c σ r K:=rfl
theorem Zn6 (x a b c d e f g i j k):Zxc true x a b c d e f g i j k=STR x a b c d e f g i j k:=rfl
theorem Zl6 (x a b c d e f g i j k):Zxc false x a b c d e f g i j k=False:=rfl
theorem Ztq (k v a j o c σ r K b m d T):stR k v a j o (HB.row b m d T) c σ r K=Zxc (XD (Nat.beq a m) (Nat.beq v b)) b d j o k a c T σ r K:=rfl
theorem Zut (k v a j o c σ r K b m d T e f g i):stR k v a j o (HB.rws b m d T e f g i) c σ r K=STW b m d T e f g i v a j o k c σ r K:=rfl
theorem Zu8 (m c σ r K k o):stX (SV.p k o) m c σ r K=stC k o m (lkh k (St.hp σ)) c σ r K:=rfl
theorem Zui (m c σ r K k v a j o):stX (SV.pr k v a j o) m c σ r K=stR k v a j o (lkh k (St.hp σ)) c σ r K:=rfl
theorem ZfX (x a b c d e):ZcP true true x a b c d e=stX x a b c d e:=rfl
theorem Zf0 (m x σ r K a):Zc5 none (some a) m x σ r K=ZcP (chk a m) (Yr a) x m a σ r K:=rfl
theorem ZsA (P Y d σ r K x y m):stp P Y d (SI.st x y m) σ r K=Zc5 d (Yl (rdG none (St.fr σ) y)) m (rdG none (St.fr σ) x) σ r K:=rfl
theorem Zsc (P Y d σ r K x m T):stp P Y d (SI.box x m T) σ r K=ZgN d (Yl (rdG none (St.fr σ) x)) T σ r K:=rfl
theorem ZtX (P Y d σ r K z T):stp P Y d (SI.alloc z T) σ r K=ZgN d (some (lit z)) T σ r K:=rfl
theorem ZuE (P Y d σ r K m b T x y):stp P Y d (SI.cln m b T x y) σ r K=Zrh b d m (Zgo m (rdG none (St.fr σ) x)) (Zde m (rdG none (St.fr σ) y)) T σ r K:=rfl
theorem Ztc (P Y d σ r K m b z T x):stp P Y d (SI.mks m b z T x) σ r K=ZxC b d m z (rdG none (St.fr σ) x) T σ r K:=rfl
theorem Zr9 (P Y d σ r K m x y):stp P Y d (SI.cpy m x y) σ r K=ZwW d m (rdG none (St.fr σ) x) (rdG none (St.fr σ) y) σ r K:=rfl
theorem Zwp (P Y d σ r K m b T x y):stp P Y d (SI.appm m b T x y) σ r K=Zw5 b d m (rdG none (St.fr σ) x) (Zde m (rdG none (St.fr σ) y)) T σ r K:=rfl
theorem Zs6 (P Y d σ r K f a):stp P Y d (SI.callm f a) σ r K=Zaw P f (VZ (rdG none (St.fr σ)) a) d σ r K:=rfl
theorem Zvq (P Y d σ r K x a):stp P Y d (SI.calvm x a) σ r K=ZfY P Y (rdG none (St.fr σ) x) (VZ (rdG none (St.fr σ)) a) d σ r K:=rfl
theorem Zov (P Y d σ r K x):stp P Y d (SI.isn x) σ r K=ZAm d (rdG none (St.fr σ) x) σ r K:=rfl
theorem ZoC (P Y d σ r K a b):stp P Y d (SI.raw a b) σ r K=RAW P d a b σ r K:=rfl
theorem Zl4 (P Y d σ r K a b):stp P Y d (SI.rv a b) σ r K = ∃ s,RBE P a b σ s/\Yo d s none σ r K:=rfl
theorem Zqf (P Y d σ r K a x b):stp P Y d (SI.rb a x b) σ r K = ∃ k h1 s,rdG none (St.fr σ) x=SV.mp k/\WK (lkh k (St.hp σ)) h1/\RBB P a (x :: b) k (lkh k (St.hp σ)) h1 σ s/\Yo d s none { fr:=St.fr σ,hp:=(k,h1) :: St.hp σ,n:=St.n σ,N:=St.N σ,gs:=St.gs σ } r K:=rfl
theorem Zhw (d σ r K):Zto d σ r K=Yo d (SV.v undef) none σ r K:=rfl
theorem Zy2 (P Y j w d i σ r K b):gK P Y (SV.v (Value.bool b)) j w d i σ r K=GB P Y b j w d i σ r K:=rfl
theorem Zxo (P Y j w d i σ r K a c b):gK P Y (SV.gd a c (SV.v (Value.bool b))) j w d i σ r K=Yf P (some (j,w)) d i σ r K:=rfl
theorem Zwn (P Y σ r K d i af):st1 P Y { d:=d,i:=i,g:=none,af:=af } σ r K=stp P Y d i σ r K:=rfl
theorem Zv0 (P Y σ r K d i j w af):st1 P Y { d:=d,i:=i,g:=some (j,w),af:=af } σ r K=gK P Y (lk j (St.fr σ)) j w d i σ r K:=rfl
theorem Zo0 (f g σ K b):Zz4 (SV.v (Value.bool b)) f g σ K=BR b f g σ K:=rfl
theorem Zna (k x y):ZxK BinOp.quo k x y=IntKind.wrap k (Int.tdiv x y):=rfl
theorem ZsC (a N):st0 a N={ fr:=YD 0 a,hp:=[],n:=0,N:=N,gs:=[] }:=rfl
theorem Zmf (ρ):VZ ρ []=[]:=rfl
theorem Zmg (ρ a r):VZ ρ (a :: r) = ρ a :: VZ ρ r:=rfl
theorem Zm4 (g):Za1 g []=[]:=rfl
theorem ZnY (g s l):Za1 g (s :: l)=g s :: Za1 g l:=rfl
theorem Zm6 (ρ m):ZgK ρ m []=some []:=rfl
theorem ZlC (ρ m a r):ZgK ρ m (a :: r)=ZwP (Yl (ρ a)) m (ZgK ρ m r):=rfl
theorem ZlN (hp):ZkL hp []=[]:=rfl
theorem ZlS (hp s l):ZkL hp (s :: l)=cvt hp s :: ZkL hp l:=rfl
theorem Zs3: lit []=[]:=rfl
theorem Zt4 (a r):lit (a :: r)=SV.v a :: lit r:=rfl
theorem Zv1: chk [] 0=true:=rfl
theorem Zvp (a l n):chk (a :: l) (Nat.succ n)=chk l n:=rfl
theorem ZtN (x):nth [] x=none:=rfl
theorem ZvO (s a):nth (s :: a) 0=some s:=rfl
theorem ZtQ (a l n):nth (a :: l) (Nat.succ n)=nth l n:=rfl
theorem ZgE (a l c b):Zq (a :: l) 0 (c :: b)=c :: Zq l 0 b:=rfl
theorem Zgn (x a l o):Zq (a :: l) (Nat.succ o) x=a :: Zq l o x:=rfl
theorem Zm3 (o l t):Zxg o l t true=some ((o,l) :: t):=rfl
theorem Zm9 (o l t):Zxg o l t false=none:=rfl
theorem ZlR (o m l t):Zw9 o m (some l) (some t)=Zxg o l t (chk l m):=rfl
theorem ZoG (ρ):Zqa ρ []=some []:=rfl
theorem Zoe (ρ o m a r):Zqa ρ ((o,m,a) :: r)=Zw9 o m (Yl (ρ a)) (Zqa ρ r):=rfl
theorem Zuf (x):spl x []=x:=rfl
theorem Zsz (x o l r):spl x ((o,l) :: r)=spl (Zq x o l) r:=rfl
theorem ZmG (z t):ZkU z (some t)=some (spl z t):=rfl
theorem Zl1 (z):ZkU z none=none:=rfl
theorem ZoT (x):YD x []=[]:=rfl
theorem ZlW (x s l):YD x (s :: l)=(x,s) :: YD (x+1) l:=rfl
theorem Zuy (j w s):gdS (SV.gd j w s)=true:=rfl
theorem Zte (a):gdS (SV.v a)=false:=rfl
theorem Zth (k o):gdS (SV.p k o)=false:=rfl
theorem ZsB (l):gdS (SV.agg l)=false:=rfl
theorem ZrY (c m a):gdS (SV.sl c m a)=false:=rfl
theorem Zuq (k v):gdS (SV.mr k v)=false:=rfl
theorem ZwG (k v m i o):gdS (SV.pr k v m i o)=false:=rfl
theorem Zv5 (k v m i l):gdS (SV.ms k v m i l)=false:=rfl
theorem Zty (a o):gdS (SV.ps a o)=false:=rfl
theorem ZpN (f a):gdS (SV.cl f a)=false:=rfl
theorem Zpw (l):gdS (SV.tup l)=false:=rfl
theorem ZpG (φ):gdS (SV.q φ)=false:=rfl
theorem ZnC (k):gdS (SV.mp k)=false:=rfl
theorem Zo2 (k):gdS (SV.yl k)=false:=rfl
theorem Zmc (T s):gdS (SV.ifc T s)=false:=rfl
theorem Znp: gdS SV.any=false:=rfl
theorem Zwb (ρ k o):rnS ρ (SV.p k o)=SV.p (ρ k) o:=rfl
theorem Zwi (ρ k v):rnS ρ (SV.mr k v)=SV.mr (ρ k) v:=rfl
theorem Zvt (ρ k v m i o):rnS ρ (SV.pr k v m i o)=SV.pr (ρ k) v m i o:=rfl
theorem Zsu (ρ k v m i o):rnS ρ (SV.ms k v m i o)=SV.ms (ρ k) v m i o:=rfl
theorem ZwF (ρ k):rnS ρ (SV.mp k)=SV.mp (ρ k):=rfl
theorem Zr4 (ρ k):rnS ρ (SV.yl k)=SV.yl (ρ k):=rfl
theorem ZrL (ρ l):rnS ρ (SV.agg l)=SV.agg (rnL ρ l):=rfl
theorem ZrC (ρ l):rnS ρ (SV.tup l)=SV.tup (rnL ρ l):=rfl
theorem Zug (ρ f l):rnS ρ (SV.cl f l)=SV.cl f (rnL ρ l):=rfl
theorem Zlk (ρ T s):rnS ρ (SV.ifc T s)=SV.ifc T (rnS ρ s):=rfl
theorem ZnP (ρ a):rnS ρ (SV.v a)=SV.v a:=rfl
theorem ZmD (ρ c m a):rnS ρ (SV.sl c m a)=SV.sl c m a:=rfl
theorem Zpu (ρ l o):rnS ρ (SV.ps l o)=SV.ps l o:=rfl
theorem Zqh (ρ φ):rnS ρ (SV.q φ)=SV.q φ:=rfl
theorem Zmb (ρ j w s):rnS ρ (SV.gd j w s)=SV.gd j w s:=rfl
theorem Zpb (ρ):rnS ρ SV.any=SV.any:=rfl
theorem ZsK (ρ):rnL ρ []=[]:=rfl
theorem ZuC (ρ s l):rnL ρ (s :: l)=rnS ρ s :: rnL ρ l:=rfl
theorem Zsa (ρ l T):rnH ρ (HB.cells l T)=HB.cells (rnL ρ l) T:=rfl
theorem ZuZ (ρ v m a T):rnH ρ (HB.row v m a T)=HB.row v m a T:=rfl
theorem Zvr (ρ φ):rnH ρ (HB.ob φ)=HB.ob φ:=rfl
theorem ZtR (ρ a c):rnH ρ (HB.map a c)=HB.map a c:=rfl
theorem Zs9 (ρ a b c d):rnH ρ (HB.it a b c d)=HB.it (ρ a) b c d:=rfl
theorem Zt8 (ρ a b):rnH ρ (HB.lp a b)=HB.lp a b:=rfl
theorem Zr3 (ρ a):rnH ρ (HB.lb a)=HB.lb a:=rfl
theorem Zsp (ρ v m a T o b c d):rnH ρ (HB.rws v m a T o b c d)=HB.rws v m a T o b c d:=rfl
theorem ZwD (ρ):rnH ρ HB.gone=HB.gone:=rfl
theorem Zsw (ρ):rnP ρ []=[]:=rfl
theorem Zr6 (ρ u s r):rnP ρ ((u,s) :: r)=(ρ u,rnH ρ s) :: rnP ρ r:=rfl
theorem Zhq (ρ):ZaV ρ 0=[]:=rfl
theorem ZjM (ρ j):ZaV ρ (Nat.succ j)=(ρ j,HB.gone) :: ZaV ρ j:=rfl
theorem Zu7 (b x y):exB b x y=bif b then x else y:=rfl
theorem Zsy (a hp n d σ r K):cmK false a hp n d σ r K=Yo d a none { fr:=St.fr σ,hp:=hp,n:=n,N:=St.N σ,gs:=St.gs σ } r K:=rfl
theorem ZuM (a hp n d σ r K):cmK true a hp n d σ r K=K (Ex.pan a) { fr:=St.fr σ,hp:=hp,n:=n,N:=St.N σ,gs:=St.gs σ }:=rfl
theorem ZiM (P Y a d σ r K f b):ZfY P Y (SV.cl f b) a d σ r K=Zaw P f (a ++ b) d σ r K:=rfl
theorem ZhB (P Y a d σ r K k):ZfY P Y (SV.yl k) a d σ r K=YLD Y k a d σ r K:=rfl
theorem ZtK (p T a s):mtI p T (SV.ifc a s)=(a=T/\p s):=rfl
theorem ZsX (p l):mtO p (some l)=p l:=rfl
theorem Zvm (p):mtO p none=False:=rfl
theorem ZtV (σ K hp n a):itE σ K hp n (HB.lp a none)=K Ex.n { fr:=St.fr σ,hp:=(St.n σ,HB.gone) :: hp,n:=n,N:=St.N σ,gs:=[] }:=rfl
theorem ZvE (σ K hp n a i):itE σ K hp n (HB.lp a (some (Ex.ex i)))=K (Ex.ex i) { fr:=St.fr σ,hp:=(St.n σ,HB.gone) :: hp,n:=n,N:=St.N σ,gs:=[] }:=rfl
theorem Zsr (σ K hp n a):itE σ K hp n (HB.lp a (some Ex.ret))=K Ex.ret { fr:=St.fr σ,hp:=(St.n σ,HB.gone) :: hp,n:=n,N:=St.N σ,gs:=[] }:=rfl
theorem ZsW (σ K o):itP σ K o=match Ot.pn o with | false=>itE σ K (Ot.hp o) (Ot.n o) (lkh (St.n σ) (Ot.hp o)) | true=>K (Ex.pan (Ot.res o)) { fr:=St.fr σ,hp:=Ot.hp o,n:=Ot.n o,N:=St.N σ,gs:=[] }:=rfl
theorem Znm (a r):Zq4 a (HB.lp r none)=(r=a):=rfl
theorem Zmr (a r):ZkX a (HB.lb r)=(r=a):=rfl
theorem Zvf (p a s l):pmS (p :: a) (s :: l)=(p,s) :: pmS a l:=rfl
theorem Zlw: Zk0 [] []=true:=rfl
theorem Zk5 (a l b m):Zk0 (a :: l) (b :: m)=Zk0 l m:=rfl
theorem Zil (N):Ug N []=true:=rfl
theorem Zkb (N j r):Ug N (j :: r)=bif Nat.blt j N then Ug N r else false:=rfl
theorem Zvg (p):rfB true p=p:=rfl
theorem Ztj (p):rfB false p=False:=rfl
theorem Zwz (P a b c σ K f d):rfK P a b (SV.cl f d) c σ K=gs0 (St.gs σ) (rfB (Ug (St.N σ) c) (RFUN P a b f d c σ K)):=rfl
theorem Zld (a hp n s):Zrr a hp n (some s)=a { pn:=false,res:=s,hp:=hp,n:=n }:=rfl
theorem Zk4 (a hp n):Zrr a hp n none=False:=rfl
theorem ZpO (x s):ZwN (some s) x=rvD s x:=rfl
theorem ZpF (x):ZwN none x=none:=rfl
theorem Zp5 (σ):Zdd σ []=some []:=rfl
theorem ZpT (σ r a):Zdd σ (r :: a)=ZwN (rv1 σ r) (Zdd σ a):=rfl
theorem Zlm (a b x):Xs a b Ex.n x=Zrr b (St.hp x) (St.n x) (rvE (Zdd x a)):=rfl
theorem ZmJ (a b x):Xs a b Ex.ret x=Zrr b (St.hp x) (St.n x) (rvE (Zdd x a)):=rfl
theorem ZlE (a b x s):Xs a b (Ex.pan s) x=b { pn:=true,res:=s,hp:=St.hp x,n:=St.n x }:=rfl
theorem ZmM (a b x c):Xs a b (Ex.ex c) x=False:=rfl
theorem Zv7 (a b Φ x):bdE a b Φ Ex.n x=(ZkX b (lkh a (St.hp x))/\Φ { pn:=false,res:=SV.v (Value.bool true),hp:=(a,HB.lp b none) :: St.hp x,n:=St.n x }):=rfl
theorem ZsJ (a b Φ x i):bdE a b Φ (Ex.ex i) x=(ZkX b (lkh a (St.hp x))/\Φ { pn:=false,res:=SV.v (Value.bool false),hp:=(a,HB.lp b (some (Ex.ex i))) :: St.hp x,n:=St.n x }):=rfl
theorem ZsG (a b Φ x):bdE a b Φ Ex.ret x=(ZkX b (lkh a (St.hp x))/\Φ { pn:=false,res:=SV.v (Value.bool false),hp:=(a,HB.lp b (some Ex.ret)) :: St.hp x,n:=St.n x }):=rfl
theorem ZtI (a b Φ x s):bdE a b Φ (Ex.pan s) x = Φ { pn:=true,res:=s,hp:=St.hp x,n:=St.n x }:=rfl
theorem Zsk (a b c K x):asE a b c K Ex.n x=(Zq4 b (lkh a (St.hp x))/\c { fr:=St.fr x,hp:=(a,HB.lb b) :: St.hp x,n:=St.n x,N:=St.N x,gs:=St.gs x } K):=rfl
theorem ZrX (a b c K x i):asE a b c K (Ex.ex i) x=False:=rfl
theorem ZvM (a b c K x):asE a b c K Ex.ret x=False:=rfl
theorem Zue (a b c K x s):asE a b c K (Ex.pan s) x=False:=rfl
theorem Zun (x):rho [] x=0:=rfl
theorem Zsq (a b):rho (a :: b) 0=a:=rfl
theorem ZrS (a l k):rho (a :: l) (Nat.succ k)=rho l k:=rfl
theorem ZsQ (ρ a x):mtS ρ a SV.any x=True:=rfl
theorem Zuz (ρ a x k o):mtS ρ a (SV.p k o) x=(k < a/\x=SV.p (ρ k) o):=rfl
theorem ZtB (ρ a x k v):mtS ρ a (SV.mr k v) x=(k < a/\x=SV.mr (ρ k) v):=rfl
theorem Zwf (ρ a x k v m i o):mtS ρ a (SV.pr k v m i o) x=(k < a/\x=SV.pr (ρ k) v m i o):=rfl
theorem Zvy (ρ a x k v m i o):mtS ρ a (SV.ms k v m i o) x=(k < a/\x=SV.ms (ρ k) v m i o):=rfl
theorem Ztz (ρ a x l):mtS ρ a (SV.agg l) x=mtO (mtL ρ a l) (Zw3 x):=rfl
theorem ZuL (ρ a x l):mtS ρ a (SV.tup l) x=mtO (mtL ρ a l) (Zw1 x):=rfl
theorem Zsh (ρ a x f l):mtS ρ a (SV.cl f l) x=mtO (mtL ρ a l) (clL f x):=rfl
theorem Zvb (ρ a x b):mtS ρ a (SV.v b) x=(x=SV.v b):=rfl
theorem Zn9 (ρ a x c m b):mtS ρ a (SV.sl c m b) x=(x=SV.sl c m b/\KFR b):=rfl
theorem ZlX (ρ a x l o):mtS ρ a (SV.ps l o) x=(x=SV.ps l o/\KFL l):=rfl
theorem Zpf (ρ a x k):mtS ρ a (SV.mp k) x=(k < a/\x=SV.mp (ρ k)):=rfl
theorem Zm8 (ρ a x k):mtS ρ a (SV.yl k) x=(k < a/\x=SV.yl (ρ k)):=rfl
theorem ZqB (ρ a x T t):mtS ρ a (SV.ifc T t) x=mtI (mtS ρ a t) T x:=rfl
theorem Zlv (ρ a x φ):mtS ρ a (SV.q φ) x=(x=SV.q φ):=rfl
theorem Zqv (ρ a x j w s):mtS ρ a (SV.gd j w s) x=False:=rfl
theorem Zwc (ρ a x):mtL ρ a [] x=(x=[]):=rfl
theorem Zvs (ρ a x s l):mtL ρ a (s :: l) x=mtB (mtS ρ a s) (mtL ρ a l) x:=rfl
theorem Ztv (ρ a x):mtH ρ a HB.gone x=True:=rfl
theorem ZvK (ρ a l T b c):mtH ρ a (HB.cells l T) (HB.cells b c)=(c=T/\mtL ρ a l b):=rfl
theorem ZvY (ρ a x v m b T):mtH ρ a (HB.row v m b T) x=(x=HB.row v m b T/\KFR b):=rfl
theorem ZrR (ρ a x φ):mtH ρ a (HB.ob φ) x=(x=HB.ob φ):=rfl
theorem Zvv (ρ a x b c):mtH ρ a (HB.map b c) x=(x=HB.map b c/\∀ (e:Nat × Value × SV),e ∈ b->KF (Prod.snd (Prod.snd e))):=rfl
theorem Zws (ρ d x e a b c):mtH ρ d (HB.it e a b c) x=(e < d/\x=HB.it (ρ e) a b c):=rfl
theorem Ztk (ρ a x r b):mtH ρ a (HB.lp r b) x=(x=HB.lp r b):=rfl
theorem Ztb (ρ a x r):mtH ρ a (HB.lb r) x=(x=HB.lb r):=rfl
theorem ZtW (ρ a x v m b T o c d e):mtH ρ a (HB.rws v m b T o c d e) x=(x=HB.rws v m b T o c d e/\KFR b/\∀ (r:List (List SV)),r ∈ d->KFR r):=rfl
theorem Znn (ρ a l T v m b c):mtH ρ a (HB.cells l T) (HB.row v m b c)=False:=rfl
theorem ZnQ (ρ a l T φ):mtH ρ a (HB.cells l T) (HB.ob φ)=False:=rfl
theorem Zle (ρ a l T b c):mtH ρ a (HB.cells l T) (HB.map b c)=False:=rfl
theorem Zot (ρ a l T b c d e):mtH ρ a (HB.cells l T) (HB.it b c d e)=False:=rfl
theorem Zpi (ρ a l T b c):mtH ρ a (HB.cells l T) (HB.lp b c)=False:=rfl
theorem Zm7 (ρ a l T b):mtH ρ a (HB.cells l T) (HB.lb b)=False:=rfl
theorem Zk9 (ρ a l T v m b c o d e f):mtH ρ a (HB.cells l T) (HB.rws v m b c o d e f)=False:=rfl
theorem ZnL (ρ a l T):mtH ρ a (HB.cells l T) HB.gone=False:=rfl
theorem Zta (p):mtM true p=True:=rfl
theorem Zwm (p):mtM false p=p:=rfl
theorem ZvT (ρ a x b):mtF ρ a x [] b=True:=rfl
theorem ZuD (ρ a x b t s r):mtF ρ a x ((t,s) :: r) b=(mtM (Y3 t x) (mtS ρ a s (lk t b))/\mtF ρ a (t :: x) r b):=rfl
theorem ZuN (ρ a hp b):mtP ρ a hp b 0=True:=rfl
theorem ZsR (ρ a hp b j):mtP ρ a hp b (Nat.succ j)=(mtH ρ b (lkh j a) (lkh (ρ j) hp)/\mtP ρ a hp b j):=rfl
theorem Zuk (a):hpb a []=True:=rfl
theorem Zti (a u s r):hpb a ((u,s) :: r)=(u < a/\hpb a r):=rfl
theorem ZvW (a b):eqC 0 (SV.v (Value.bool a)) (SV.v (Value.bool b))=some (a == b):=rfl
theorem Zvn (k a j b):eqC 1 (SV.v (Value.int k a)) (SV.v (Value.int j b))=bif Zcp k j then some (a == b) else none:=rfl
theorem ZwH (a b):eqC 2 (SV.v (Value.string a)) (SV.v (Value.string b))=some (ByteArray.toList a == ByteArray.toList b):=rfl
theorem ZvI (a b):eqA (some a) (some b)=some (a && b):=rfl
theorem ZoX: Zft [] [] []=some true:=rfl
theorem Zo7 (c a b d y e):Zft (c :: a) (b :: d) (y :: e)=eqA (eqC c b y) (Zft a d e):=rfl
theorem ZmO (c a b):Zqt c true (SV.agg a) (SV.agg b)=Zft c a b:=rfl
theorem ZqE (c a b):Zqt c false (SV.v (Value.bool a)) (SV.v (Value.bool b))=some (a == b):=rfl
theorem ZuG (a b):eqR a (some b)=some (SV.v (Value.bool (ngB a b))):=rfl
theorem ZrF (a):eqR a none=none:=rfl
theorem ZvS (x):ngB true x = !x:=rfl
theorem Zu1 (x):ngB false x=x:=rfl
theorem ZlQ (m hp c a b):ZtY m hp (SV.sl c a b)=ZfQ b (Nat.beq m a):=rfl
theorem ZnH (m hp):ZtY m hp (SV.v (Value.slice none 0 0))=some []:=rfl
theorem Zny (m hp k v):ZtY m hp (SV.mr k v)=ZgP m v (lkh k hp):=rfl
theorem ZqI (m a b):Zgo m (SV.sl true a b)=ZfQ b (Nat.beq m a):=rfl
theorem Zpt (m):Zgo m (SV.v (Value.slice none 0 0))=some []:=rfl
theorem Zqb (g m b d σ r K a c):ZwV g m b (some a) (some c) d σ r K=APP g m b a c d σ r K:=rfl
theorem Zpo (g m b d σ r K a):ZwV g m b (some a) none d σ r K=False:=rfl
theorem Zl2 (g m b y d σ r K):ZwV g m b none y d σ r K=False:=rfl
theorem ZoR (l):Zw3 (SV.agg l)=some l:=rfl
theorem ZmF (l):Zw1 (SV.tup l)=some l:=rfl
theorem ZwJ (f a b):clL f (SV.cl a b)=bif Nat.beq a f then some b else none:=rfl
theorem ZvB (p q):mtB p q []=False:=rfl
theorem ZvL (p q s l):mtB p q (s :: l)=(p s/\q l):=rfl
theorem Zjj (x a b c d e f):Zo9 false true x a b c d e f=e { fr:=(x,SV.mr (St.n d) 0) :: St.fr d,hp:=(St.n d,HB.row 0 a b c) :: St.hp d,n:=St.n d+1,N:=St.N d,gs:=St.gs d } f:=rfl
theorem Zqy (m a T σ r K b):Zk1 (some b) m a T σ r K=Zo9 (Y3 b (St.gs σ)) (Nat.blt b (St.N σ)) b m a T σ r K:=rfl
theorem Zp7 (m a T σ r K):Zk1 none m a T σ r K=False:=rfl
theorem ZmC (b d m T σ r K a):Zrh b d m (some []) (some a) T σ r K=CLN b d m a T σ r K:=rfl
theorem Zpn (b d m y T σ r K a c):Zrh b d m (some (a :: c)) y T σ r K=False:=rfl
theorem Zln (b d m T σ r K):Zrh b d m (some []) none T σ r K=False:=rfl
theorem Znt (b d m y T σ r K):Zrh b d m none y T σ r K=False:=rfl
theorem ZpC (b d m z T σ r K k n):ZxC b d m z (SV.v (Value.int k n)) T σ r K=MKS b d m (lit z) n T σ r K:=rfl
theorem Zlx (d σ r K c m a):ZAm d (SV.sl c m a) σ r K=ISN d a σ r K:=rfl
theorem ZqG (g d σ r K c m a b n e j):ZAc g (SV.sl c m a) (SV.v (Value.int b n)) (SV.v (Value.int e j)) d σ r K=SLC g n j m a d σ r K:=rfl
theorem ZoU (g m a d σ r K i j):ZwO g m a (some i) (some j) d σ r K=SUB g i j m a d σ r K:=rfl
theorem Znl (g m a d σ r K b):ZwO g m a (some b) none d σ r K=False:=rfl
theorem ZnO (g m a b d σ r K):ZwO g m a none b d σ r K=False:=rfl
theorem ZnM (a ρ):Zbl a ρ none=some a:=rfl
theorem Zox (a ρ b):Zbl a ρ (some b)=match ρ b with | SV.v (Value.int k n)=>some n | x=>none:=rfl
theorem Zon (m c a b):Zde m (SV.sl c a b)=ZfQ b (Nat.beq m a):=rfl
theorem ZmK (m):Zde m (SV.v (Value.slice none 0 0))=some []:=rfl
theorem Zpv (x h j w):Zxe false (.v x) h j w=false:=rfl
theorem Zfg (x l):Zq (x :: l) 0 []=x :: l:=rfl
theorem Zf9:Zq [] 0 []=[]:=rfl
attribute [go_sem] Zp3 Zn4 Zol Zqr
attribute [go_sem] ZpR ZqL Zqz Zm2 w64_0 Zb0 ZbC w64_3 w64_4 w64_5 w64_6 e_stO Zy1 Zwy ZnZ Ztn ZzX Zpe Zmk ZrE Zp0 Zlt Zmq Zyi ZtL ZzI Zul Zsf phx_1 phx_2 phK_n Zuh ZxO Zup Zyw Zps ZuK Zwj ZvU Zqs sx_gh Zqm Zu4 ZyQ ZrN ZpU ZyF ZoB ZzT ZqA ZyI ZuB Zos lkB_t lkB_f Zzj ZxG ZuS Zuo Zxz Zzc Zp2 Zuu ZuF ZxX Zzm Zyo e_lk e_lk0 e_lkh ZxJ Zzo ZtE e_blk ZgV Zlo Zuv Zr0 ZrO Zkl ZpV Zhs Znr Zs1 ZsE Zv6 ZiN ZoV Zd5 ZgA ZjJ Zh7 Zhz Zd6 Zfr Ze8 Zks ZoM ZnR ZpM Zfp Zjb ZrW Zgi Zjr Zow ZlT ZlV ZfD Zg9 Zgw Zgh ZhM Zip Zqc ZoL Zma ZoQ ZlO ZlZ Zfo ZgJ ZjF Zj3 Zgq Zh4 Zo1 Zqj Znc ZfK ZjG Zfq Zin ZpL Zqx Zqw Zgm Zjn ZdN ZgB Zj6 Zkf ZjC Zfe ZkM Zn7 ZvX Zvl Zt1 Ziy Zpg ZfH Ziz ZnV Zqn ZlJ Zgd Zkm Zf5 Zhd ZfT ZiT ZdA ZgC ZhT ZiV ZkR ZdI Zgp Zdh Zdg e_yld e_exR e_hpM ZhY ZdS Zgv Zjo Zja ZjI Zf1 Zi4 Zs4 Zdi Zgx ZdW Zfv ZbO Za3 ZcC ZaZ Zav e_rdG Zz1 Zzn ZyT e_alw Zxu e_vw1 e_vw2 e_vw3 e_vw4 Zl9 ZmB ZxF ZhC Zi7 ZfR Zgk Zfk Zge Zfz Zgj Zf3 ZfI Zfb Zjl Zfu ZfU Zfd ZhZ Zfs Zgz ZgD Zpq Zpz ZhE Zi6 ZiQ ZkO ZpK ZlU Zzf ZvA Ztr e_mm e_bld ZfZ Zx2 ZmE Zhm Zpy Zni ZpA ZhH ZgW e_rvR ZzZ ZtO Ztl ZqD Zgu Zdo ZgY Zns Zgl Zio Zi9 Zof Zfx ZiR ZiU Zji Zhe ZhR Zn1 ZfE Zf4 Zkc Zf7 ZjY e_rvs Zms Ziq ZnX ZrK ZzM Zka ZjO Zia Zj7 Zp1 Zom Ztp ZsI Zww Zt0 ZsZ Zve ZtC Zsv Zr1 ZvN ZtG Zl5 ZnB ZlA Zmu ZpX ZpB Zoo Zmi ZqH ZmQ Zod ZoP ZvQ Zur Zvd Ztu ZuU Ztw Zwe Zs5 Zum ZuY ZsV ZtZ ZtH Zou ZoW ZpJ ZmS Zoi ZnG Zph ZoF Zj2 Zju Zmj Zk7 ZhO ZhJ Zt7 ZvV ZjZ ZhX ZgR Zg8 Zpl Zme ZhQ Zn5 ZoY ZpQ Znf ZqK ZqJ ZpZ Zm0 Zpc Zlr Zva ZrG ZsY ZrP Zsd Zu9 Zsb Ztd Zor Zmm Zmx Zo8 ZlM ZnU Zqi Zo6 Zk8 Zpd Zl7 Zpx Zpa ZnK ZnS Zop Zpm Zqd Zmn ZiD Zhn ZjU ZhF Zj5 ZkS ZiO ZiE ZgZ ZkA Zif Zhh Zh8 ZhS ZiH Zhi Zho Zkp ZjP Zkr Zht ZkJ Zg0 ZjA Zhy ZiI Zis ZkD Zit Zmt Zm5 Zjv Zqp Zo5 Zpr Zn3 Znb ZmW ZxE ZxR Zqu ZmP ZmA ZnT ZpW ZoS Zk6 Znh ZlF ZpP ZnI Zlc Znd Zn0 Zqg Zoz Zlh ZnF ZmZ Zk3 Zlg Zog Zs7 Zn6 Zl6 Ztq Zut Zu8 Zui ZfX Zf0 ZsA Zsc ZtX ZuE Ztc Zr9 Zwp Zs6 Zvq Zov ZoC Zl4 Zqf Zhw Zy2 Zxo Zwn Zv0 Zo0 Zna ZsC Zmf Zmg Zm4 ZnY Zm6 ZlC ZlN ZlS Zs3 Zt4 Zv1 Zvp ZtN ZvO ZtQ ZgE Zgn Zm3 Zm9 ZlR ZoG Zoe Zuf Zsz ZmG Zl1 ZoT ZlW Zuy Zte Zth ZsB ZrY Zuq ZwG Zv5 Zty ZpN Zpw ZpG ZnC Zo2 Zmc Znp Zwb Zwi Zvt Zsu ZwF Zr4 ZrL ZrC Zug Zlk ZnP ZmD Zpu Zqh Zmb Zpb ZsK ZuC Zsa ZuZ Zvr ZtR Zs9 Zt8 Zr3 Zsp ZwD Zsw Zr6 Zhq ZjM Zu7 Zsy ZuM ZiM ZhB ZtK ZsX Zvm ZtV ZvE Zsr ZsW Znm Zmr Zvf Zlw Zk5 Zil Zkb Zvg Ztj Zwz Zld Zk4 ZpO ZpF Zp5 ZpT Zlm ZmJ ZlE ZmM Zv7 ZsJ ZsG ZtI Zsk ZrX ZvM Zue Zun Zsq ZrS ZsQ Zuz ZtB Zwf Zvy Ztz ZuL Zsh Zvb Zn9 ZlX Zpf Zm8 ZqB Zlv Zqv Zwc Zvs Ztv ZvK ZvY ZrR Zvv Zws Ztk Ztb ZtW Znn ZnQ Zle Zot Zpi Zm7 Zk9 ZnL Zta Zwm ZvT ZuD ZuN ZsR Zuk Zti ZvW Zvn ZwH ZvI ZoX Zo7 ZmO ZqE ZuG ZrF ZvS Zu1 ZlQ ZnH Zny ZqI Zpt Zqb Zpo Zl2 ZoR ZmF ZwJ ZvB ZvL Zjj Zqy Zp7 ZmC Zpn Zln Znt ZpC Zlx ZqG ZoU Znl ZnO ZnM Zox Zon ZmK Zpv Zfg Zf9 List.drop List.take List.length List.cons_append List.nil_append Nat.beq Nat.blt Nat.ble Nat.zero_add Nat.add_zero Nat.mul_one Nat.zero_mul Nat.one_mul cond_true cond_false List.set
attribute [go_sem] ZxD ZsH
theorem Zye:GT 0=some [.v (.int .i64 0),.v (.int .i64 0)]:=rfl
attribute [go_sem] Zye
section typed
variable {K V:Type} [DecidableEq K]
def mpS (key:K->Value) (val:V->SV) (L:List (Nat × K × V)):List (Nat × Value × SV):=L.map λe=>(e.1,key e.2.1,val e.2.2)
def Wt (k:K):List (Nat × K × V)->Option V
 | []=>none
 | e :: l=>if e.2.1=k then some e.2.2 else Wt k l
def UC (c:Nat) (k:K) (v:V):List (Nat × K × V)->List (Nat × K × V)
 | []=>[(c,k,v)]
 | e :: l=>if e.2.1=k then (e.1,k,v) :: l else e :: UC c k v l
def Zkj (k:K):List (Nat × K × V)->List (Nat × K × V)
 | []=>[]
 | e :: l=>if e.2.1=k then l else e :: Zkj k l
def UN (c:Nat) (k:K) (L:List (Nat × K × V)):Nat:=bif (Wt k L).isSome then c else c+1
def fI (k:K):List K->List MapEntry->Nat->Option (Nat × Value)
 | q :: ks,e :: ys,i=>if q=k then some (i,e.val) else fI k ks ys (i+1)
 | _,_,_=>none
structure KeyT (P:Program) (kt:TypeId) (key:K->Value) (sv:K->SV):Prop where
 chk:∀ (em:Bool) (k:K) (w:World),(Instr.checkKey em 10000 kt (key k)).run P w = .ok () w
 fnd:∀ (k:K) (ks:List K) (ys:List MapEntry) (w:World),ys.map (·.key)=ks.map key->(Instr.findKey kt (key k) ys).run P w = .ok (fI k ks ys 0) w
 same:∀ k,Instr.sameBits 10000 (key k) (key k)=true
 svR:∀ {w:World} {E:Env} {n ok:Nat->Prop} (k:K) (y:Value),R w E n ok (sv k) y↔y=key k
theorem Zas {w:World} {E:Env} {n ok:Nat->Prop} {key:K->Value} {val:V->SV} (k:K):∀ (L:List (Nat × K × V)) (ys:List MapEntry) (i:Nat),RM w E n ok (mpS key val L) ys ->
 (Wt k L=none/\fI k (L.map (·.2.1)) ys i=none/\Zkj k L=L/\∀ {w':World} {E':Env} {n' ok':Nat->Prop} c v' y',R w' E' n' ok' (val v') y'->RM w' E' n' ok' (mpS key val L) ys->RM w' E' n' ok' (mpS key val (UC c k v' L)) (ys ++ [⟨key k,y',c⟩])) \/
 ∃ j v e,Wt k L=some v/\fI k (L.map (·.2.1)) ys i=some (i+j,e.val)/\ys[j]? = some e/\e.key=key k/\R w E n ok (val v) e.val /\
  (∀ {w':World} {E':Env} {n' ok':Nat->Prop},RM w' E' n' ok' (mpS key val L) ys->RM w' E' n' ok' (mpS key val (Zkj k L)) (ys.eraseIdx j)/\∀ c v' y',R w' E' n' ok' (val v') y'->RM w' E' n' ok' (mpS key val (UC c k v' L)) (ys.modify j λe=>{ e with key:=key k,val:=y' }))
 | [],ys,i,h=>by
  simp only [mpS,List.map_nil,RM] at h;subst h;exact .inl ⟨rfl,rfl,rfl,λc v' y' hR _=>by simp only [UC,mpS,List.map_cons,List.map_nil,List.nil_append,RM];exact ⟨y',[],rfl,hR,rfl⟩⟩
 | e :: l,ys,i,h=>by
  simp only [mpS,List.map_cons,RM] at h;obtain ⟨y,r,rfl,h1,h2⟩:=h;by_cases hk:e.2.1=k
  . refine .inr ⟨0,e.2.2,⟨key e.2.1,y,e.1⟩,by simp [Wt,hk],by simp [fI,hk],rfl,by simp [hk],h1,λ{w' E' n' ok'} h'=>?_⟩;simp only [mpS,List.map_cons,RM] at h';obtain ⟨y0,r0,e0,h3,h4⟩:=h';cases e0
    refine ⟨by simpa [Zkj,hk,mpS] using h4,λc v' y' hR=>?_⟩;simp only [UC,hk,if_true,mpS,List.map_cons,RM];exact ⟨y',r,by simp,hR,h4⟩
  . rcases Zas k l r (i+1) h2 with ⟨a1,a2,a3,a4⟩ | ⟨j,v,e',b1,b2,b3,b4,b5,b6⟩
    . refine .inl ⟨by simp [Wt,hk,a1],by simp [fI,hk,a2],by simp [Zkj,hk,a3],λ{w' E' n' ok'} c v' y' hR h'=>?_⟩;simp only [mpS,List.map_cons,RM] at h';obtain ⟨y0,r0,e0,h3,h4⟩:=h';cases e0
      simp only [UC,hk,if_false,mpS,List.map_cons,RM];exact ⟨y,_,rfl,h3,a4 c v' y' hR h4⟩
    . refine .inr ⟨j+1,v,e',by simp [Wt,hk,b1],by simp [fI,hk,b2];omega,by simpa using b3,b4,b5,λ{w' E' n' ok'} h'=>?_⟩;simp only [mpS,List.map_cons,RM] at h';obtain ⟨y0,r0,e0,h3,h4⟩:=h';cases e0
      obtain ⟨c1,c2⟩:=b6 h4;refine ⟨?_,λc v' y' hR=>?_⟩
      . simp only [Zkj,hk,if_false,mpS,List.map_cons,RM];exact ⟨y,_,by simp,h3,c1⟩
      . simp only [UC,hk,if_false,mpS,List.map_cons,RM];exact ⟨y,_,by simp,h3,c2 c v' y' hR⟩
omit [DecidableEq K] in
theorem ZaH {w:World} {E:Env} {n ok:Nat->Prop} {key:K->Value} {val:V->SV}:∀ {L:List (Nat × K × V)} {ys:List MapEntry},RM w E n ok (mpS key val L) ys->ys.map (·.key)=(L.map (·.2.1)).map key
 | [],ys,h=>by simp only [mpS,List.map_nil,RM] at h;subst h;rfl
 | e :: l,ys,h=>by
  simp only [mpS,List.map_cons,RM] at h;obtain ⟨y,r,rfl,h1,h2⟩:=h;simp only [List.map_cons,List.cons.injEq,true_and];exact ZaH h2
theorem Zrl {w:World} {E:Env} {n ok:Nat->Prop}:∀ {L:List (Nat × Value × SV)} {ys:List MapEntry},RM w E n ok L ys->ys.length=L.length
 | [],ys,h=>by simp only [RM] at h;subst h;rfl
 | e :: l,ys,h=>by simp only [RM] at h;obtain ⟨y,r,rfl,h1,h2⟩:=h;simp [Zrl h2]
theorem Zrn {P:Program} {kt:TypeId} {kd:IntKind} (hu:P.underlying kt=some (.int kd)):KeyT P kt (λn:Int=>.int kd n) (λn=>.v (.int kd n)):=by
 refine ⟨λem k w=>MapKept.run_checkKey hu (by simp [MapKept.IsKey]) em _,λk ks ys w h=>?_,λk=>by simp [Instr.sameBits],λk y=>by simp only [R]⟩;have:∀ (ks:List Int) (ys:List MapEntry) (i:Nat),ys.map (·.key)=ks.map (λn:Int=>Value.int kd n)->Instr.findNow (.int kd) (.int kd k) ys i=some (fI k ks ys i):=by
  intro ks ys
  induction ys generalizing ks with
  | nil=>intro i h;cases ks with
   | nil=>rfl
   | cons a b=>simp at h
  | cons e ys ih=>intro i h;cases ks with
   | nil=>simp at h
   | cons a b =>
    simp only [List.map_cons,List.cons.injEq] at h;simp only [Instr.findNow,h.1,Instr.sameNow,if_true,fI];by_cases ha:a=k
    . subst ha;simp
    . have:(k == a)=false:=by simpa using λe=>ha e.symm
      simp [this,ha,ih b (i+1) h.2]
 exact MapKept.run_findKey hu (this ks ys 0 h)
end typed
section
variable {P:Program} {C:Cx} {E:Env} {σ : St} {a:Act} {w:World}
def ZaI (σ : St):Operand->SV
 | .tmp u=>lk u σ.fr
 | .const x=>.v x
 | _=>.any
theorem W8 (h:Sim C E σ a w) {o:Operand} {s:SV} (hs:ZaI σ o=s) (hg:∀ j b u,s≠.gd j b u):R w E (ltn σ.n) (okS C E σ.hp) s (a.eval o):=by
 cases o with
 | tmp u =>
  have:=ZqQ (h.fr u) (λj b u' e=>hg j b u' (by rw [<- hs];exact e));simp only [ZaI] at hs;rw [hs] at this;exact this
 | const x=>simp only [ZaI] at hs;subst hs;simp only [R];rfl
 | _=>simp only [ZaI] at hs;subst hs;simp only [R]
theorem Zes (h:Sim C E σ a w) {km c:Nat} {es:List (Nat × Value × SV)} (hk:lkh km σ.hp = .map es c) :
 ltn σ.n km/\∃ ys,w.heap[E.β km]? = some (.map ys c)/\RM w E (ltn σ.n) (okS C E σ.hp) es ys.toList:=by
 have hb:=h.hs.bk km;rw [hk] at hb;refine ⟨?_,hb⟩;rcases Classical.em (ltn σ.n km) with q | q
 . exact q
 . rw [h.hs.kn km q] at hk;cases hk
theorem ZxZ {d:Option Nat} {s:SV} {r:KT} {K:RK} {y:Value} {w':World} {E':Env} {hp':List (Nat × HB)} {n':Nat} {next:Act->World->Prop} (hk:Yo d s none ⟨σ.fr,hp',n',σ.N,σ.gs⟩ r K) (h:Sim C E σ a w)
 (hst:ZF w w' (okS C E σ.hp) (okS C E' hp')) (hE:∀ k,k < σ.n->Ele E E' k k) (hn:σ.n<=n') (hh:HSim C E' hp' (ltn n') w') (hR:R w' E' (ltn n') (okS C E' hp') s y)
 (hnext:∀ σ' E' a' w',r σ' K->Sim C E' σ' a' w'->next a' w'):next (a.put d y) w':=by
 rcases Wx hk with ⟨g1,g2⟩ | ⟨t,g1,g2,g3,g4,g5⟩
 . rw [g1];exact hnext _ E' _ _ g2 (Z3 (σ:=σ) h hst hE hn hh)
 . rw [g1];exact hnext _ E' _ _ g5 (YT (σ:=σ) h hst hE hn hh g2 g3 (λj b u e=>by rw [e] at g4;cases g4) hR)
theorem X5 {d:Option Nat} {s:SV} {r:KT} {K:RK} {y:Value} {next:Act->World->Prop} (hk:Yo d s none σ r K) (h:Sim C E σ a w) (hR:R w E (ltn σ.n) (okS C E σ.hp) s y)
 (hnext:∀ σ' E' a' w',r σ' K->Sim C E' σ' a' w'->next a' w'):next (a.put d y) w :=
 ZxZ (hp':=σ.hp) (n':=σ.n) hk h (λb hb _=>⟨hb,rfl⟩) (λ_ _=>Ele.rfl) (Nat.le_refl _) h.hs hR hnext
theorem Zek {K':Type} [DecidableEq K'] {kt:TypeId} {key:K'->Value} {sv:K'->SV} (hK:KeyT P kt key sv) (k:K'):∀ j b u,sv k≠.gd j b u:=λj b u e=>by
 have:=(hK.svR (w:=default) (E:=⟨λ_=>0,λ_ _=>undef,λ_=>0⟩) (n:=λ_=>True) (ok:=λ_=>True) k (key k)).2 rfl;rw [e] at this;simp only [R] at this
theorem Zh5 {hp:List (Nat × HB)} {n:Nat->Prop} {q:Nat} {hb:HB} {o:Obj} (h:HSim C E hp n w) (hq:¬ n q) (hocc:∀ (E:Env) b,occ E q hb b↔b=E.β q)
 (hok:∀ E',(∀ k,n k->Ele E E' k k)->E'.β q=w.heap.size->Z1 (w.alloc o) E' (λk=>n k\/k=q) (okS C E' ((q,hb) :: hp)) q hb) :
 ∃ E',(∀ k,n k->Ele E E' k k)/\E'.β q=w.heap.size/\HSim C E' ((q,hb) :: hp) (λk=>n k\/k=q) (w.alloc o)/\ZF w (w.alloc o) (okS C E hp) (okS C E' ((q,hb) :: hp)):=by
 let E':Env:=⟨λk=>if k=q then w.heap.size else E.β k,E.hv,E.iss⟩
 have hE:∀ k,n k->Ele E E' k k:=λk hk=>⟨by simp [E',show k≠q from by rintro rfl;exact hq hk],Nat.le_refl _,λ_ _=>rfl⟩;have hEn:E'.β q=w.heap.size:=by simp [E']
 have hbel:Below w.heap.size w (w.alloc o):=(Below.refl _ _).alloc (Nat.le_refl _) _;have hoc:∀ j b,j≠q->(occ E' j (lkh j ((q,hb) :: hp)) b↔occ E j (lkh j hp) b):=λj b hj=>by
  rw [Zj,if_neg hj];cases hl:lkh j hp<;>simp only [occ,E',if_neg hj]
 have hocn:∀ b,occ E' q (lkh q ((q,hb) :: hp)) b↔b=w.heap.size:=λb=>by
  rw [Zj,if_pos rfl,hocc,hEn]
 have hlt:∀ b,b < w.heap.size->(okS C E' ((q,hb) :: hp) b↔okS C E hp b):=λb hb'=>by
  unfold okS;constructor
  . rintro ⟨h1,h2⟩;refine ⟨h1,λj hj=>?_⟩;by_cases hjn:j=q
    . subst hjn;rw [h.kn j hq] at hj;exact hj
    . exact h2 j ((hoc j b hjn).2 hj)
  . rintro ⟨h1,h2⟩;refine ⟨h1,λj hj=>?_⟩;by_cases hjn:j=q
    . subst hjn;rw [hocn] at hj;omega
    . exact h2 j ((hoc j b hjn).1 hj)
 have hst:ZF w (w.alloc o) (okS C E hp) (okS C E' ((q,hb) :: hp)):=λb hb' hs=>by
  have hlt':b < w.heap.size:=by
   obtain ⟨o,ho⟩:=Option.isSome_iff_exists.1 hs;exact (Array.getElem?_eq_some_iff.1 ho).1
  exact ⟨(hlt b hlt').2 hb',hbel.block b hlt'⟩
 refine ⟨E',hE,hEn,⟨λj hj=>?_,λj=>?_,λj j' b h1 h2=>?_,λj b h1=>?_,Wb h.kp hbel,λk hk=>(by obtain ⟨p1,p2⟩:=h.pin k hk;exact ⟨.inl p1,p2.trans (hE k p1)⟩)⟩,hst⟩
 . rw [Zj,if_neg (λe=>hj (.inr e))];exact h.kn j (λe=>hj (.inl e))
 . rw [Zj];by_cases hj:j=q
   . subst hj;rw [if_pos rfl];exact hok E' hE hEn
   . rw [if_neg hj];refine Yi hst hE (λ_ h=>.inl h) ?_ (λb ho=>hbel.block b (Yy h ho)) (by simp [E',hj]) (h.bk j);rcases Classical.em (n j) with h' | h'
     . exact .inr h'
     . exact .inl (h.kn j h')
 . by_cases hj:j=q<;>by_cases hj':j'=q
   . omega
   . subst hj;rw [hocn] at h1;rw [hoc j' b hj'] at h2;have:=Yy h h2;omega
   . subst hj';rw [hocn] at h2;rw [hoc j b hj] at h1;have:=Yy h h1;omega
   . exact h.dj j j' b ((hoc j b hj).1 h1) ((hoc j' b hj').1 h2)
 . by_cases hj:j=q
   . subst hj;rw [hocn] at h1;exact .inl (by rw [h1];exact h.kp.size)
   . exact h.lo j b ((hoc j b hj).1 h1)
end
section
variable {P:Program} {K' V:Type} [DecidableEq K'] {key:K'->Value} {sv:K'->SV} {val:V->SV} {L:List (Nat × K' × V)} {km c:Nat} {kt et t ty:TypeId} {mx ix vx:Operand} {σ : St} {r:KT} {K:RK} {d:Option Nat} {k:K'}
theorem WA {u:Nat} {rs:Option Operand} (hr:rs=none) (h1:Y3 u σ.gs=false) (h2:Nat.blt u σ.N=true) (h:r ⟨(u,.mp σ.n) :: σ.fr,(σ.n,.map [] 0) :: σ.hp,σ.n+1,σ.N,σ.gs⟩ K) :
 RAW P (some u) (.makeMap t rs) ty σ r K:=by
 subst hr;intro o C E a w next Q e1 e2 e3 hS hn hq
 obtain ⟨E',k1,k2,k3,k4⟩:=Zh5 (q:=σ.n) (hb:=.map [] 0) (o:=.map #[] 0) hS.hs (by simp [ltn]) (λE b=>by simp only [occ]) (λE' g1 g2=>by
  simp only [Z1,g2];exact ⟨#[],heap_alloc_new _ _,rfl⟩)
 have hV:(λk=>ltn σ.n k\/k = σ.n)=ltn (σ.n+1):=by funext k;simp only [ltn,eq_iff_iff];omega
 rw [hV] at k3;have hx:(execOp a.eval o).run P w = .ok (.value (.map (some w.heap.size))) (w.alloc (.map #[] 0)):=by
  obtain ⟨dst',op',ty',pos,after,guard⟩:=o;simp only at e2;subst e2;simp [execOp,Sem.run_bind,Instr.makeMap,Ze0,Sem.run_pure]
 refine Zz hx (by simp) ?_;show next (a.put o.dst _) _;rw [e1];refine hn _ E' _ _ h (YT hS k4 k1 (by omega) k3 (λhh=>?_) (by simpa [Nat.blt_eq] using h2) (λ_ _ _ e=>by cases e) ?_)
 . rw [ZS.2 hh] at h1;cases h1
 . simp only [R,k2];exact ⟨by simp [ltn],trivial⟩
theorem V4 {ok:Bool} {zs:SV} {z:Value} (hm:ZaI σ mx = .mp km) (hh:lkh km σ.hp = .map (mpS key val L) c) (ht:P.underlying t=some (.map kt et)) (hK:KeyT P kt key sv) (hi:ZaI σ ix=sv k)
 (hz:Yk P et=some z) (hzR:∀ w E n ok,R w E n ok zs z)
 (h1:∀ v,Wt k L=some v->Yo d (bif ok then .tup [val v,.v (.bool true)] else val v) none σ r K) (h0:Wt k L=none->Yo d (bif ok then .tup [zs,.v (.bool false)] else zs) none σ r K) :
 RAW P d (.lookup t mx ix ok) ty σ r K:=by
 intro o C E a w next Q e1 e2 e3 hS hn hq;have hmv:=W8 hS hm (λ_ _ _=>by simp);have hiv:=(hK.svR k _).1 (W8 hS hi (Zek hK k));simp only [R] at hmv;obtain ⟨g0,ys,g1,g2⟩:=Zes hS hh;have hfn:=λw=>hK.fnd k _ _ w (ZaH g2);have hex:∀ y,(Instr.lookup t (a.eval mx) (a.eval ix) ok).run P w = .ok y w->(execOp a.eval o).run P w = .ok (.value y) w:=λy hy=>by
  obtain ⟨dst',op',ty',pos,after,guard⟩:=o;simp only at e2;subst e2;simp only [execOp,Sem.run_bind,hy,Result.andThen_ok,Sem.run_pure]
 rcases Zas (w:=w) (E:=E) (n:=ltn σ.n) (ok:=okS C E σ.hp) k L ys.toList 0 g2 with ⟨a1,a2,-,-⟩ | ⟨j,v,e,b1,b2,b3,b4,b5,-⟩
 . have hrun:(Instr.lookup t (a.eval mx) (a.eval ix) ok).run P w = .ok (if ok then .tuple #[z,.bool false] else z) w:=by
    rw [hmv.2,hiv];simp only [Instr.lookup,Sem.run_bind,run_underlying ht,Result.andThen_ok,YH g1 rfl,Sem.run_pure,hK.chk,hfn,a2,Xn hz]
   refine Zz (hex _ hrun) (by simp) ?_;show next (a.put o.dst _) _;rw [e1];refine X5 (h0 a1) hS ?_ hn;cases ok
   . exact hzR _ _ _ _
   . simp only [cond_true,if_true,R,RL];exact ⟨_,rfl,_,_,rfl,hzR _ _ _ _,_,_,rfl,rfl,rfl⟩
 . have hrun:(Instr.lookup t (a.eval mx) (a.eval ix) ok).run P w = .ok (if ok then .tuple #[e.val,.bool true] else e.val) w:=by
    rw [hmv.2,hiv];simp only [Instr.lookup,Sem.run_bind,run_underlying ht,Result.andThen_ok,YH g1 rfl,Sem.run_pure,hK.chk,hfn,b2]
   refine Zz (hex _ hrun) (by simp) ?_;show next (a.put o.dst _) _;rw [e1];refine X5 (h1 v b1) hS ?_ hn;cases ok
   . exact b5
   . simp only [cond_true,if_true,R,RL];exact ⟨_,rfl,_,_,rfl,b5,_,_,rfl,rfl,rfl⟩
theorem ZnW {v:V} {s:SV} {ins:Bool} (hm:ZaI σ mx = .mp km) (hh:lkh km σ.hp = .map (mpS key val L) c) (ht:P.underlying t=some (.map kt et)) (hK:KeyT P kt key sv) (hi:ZaI σ ix=sv k)
 (hv:ZaI σ vx=s) (hvg:∀ j b u,s≠.gd j b u) (hsv:∀ w E n ok y,R w E n ok s y->R w E n ok (val v) y) (h:r ⟨σ.fr,(km,.map (mpS key val (UC c k v L)) (UN c k L)) :: σ.hp,σ.n,σ.N,σ.gs⟩ K) :
 RAW P none (bif ins then .insert t mx ix vx else .mapUpdate t mx ix vx) ty σ r K:=by
 intro o C E a w next Q e1 e2 e3 hS hn hq;have hmv:=W8 hS hm (λ_ _ _=>by simp);have hiv:=(hK.svR k _).1 (W8 hS hi (Zek hK k));have hvv:=hsv _ _ _ _ _ (W8 hS hv hvg);simp only [R] at hmv;obtain ⟨g0,ys,g1,g2⟩:=Zes hS hh;have hfn:=λw=>hK.fnd k _ _ w (ZaH g2);have hex:∀ w',(Instr.mapUpdate t (a.eval mx) (a.eval ix) (a.eval vx)).run P w = .ok () w'->(execOp a.eval o).run P w = .ok .skip w':=λw' hy=>by
  obtain ⟨dst',op',ty',pos,after,guard⟩:=o;simp only at e2;subst e2;cases ins<;>simp only [cond_true,cond_false,execOp,Sem.run_bind,hy,Result.andThen_ok,Sem.run_pure]
 have hfin:∀ ys',((ys':Array MapEntry),UN c k L)=(ys',UN c k L)->(∀ {w':World} {ok':Nat->Prop},RM w' E (ltn σ.n) ok' (mpS key val L) ys.toList->R w' E (ltn σ.n) ok' (val v) (a.eval vx)->RM w' E (ltn σ.n) ok' (mpS key val (UC c k v L)) ys'.toList) ->
  next (a.put o.dst undef) (Uk w (E.β km) (.map ys' (UN c k L))):=λys' _ hRM=>by
  obtain ⟨q1,q2⟩:=VR (k:=km) (hb:=.map (mpS key val (UC c k v L)) (UN c k L)) (o:=.map ys' (UN c k L)) hS.hs (λb=>by rw [hh];simp only [occ]) (λb=>by simp only [occ]) (λhlt hst=>by
   simp only [Z1]
   exact ⟨ys',WQ hlt,hRM (V1 hst.c (λ_ _=>Ele.rfl) (λ_ h=>h) _ _ g2) (ZM hst.c (λ_ _=>Ele.rfl) (λ_ h=>h) _ _ hvv)⟩)
  rw [e1];exact hn _ E _ _ h (Z3 hS q2 (λ_ _=>Ele.rfl) (Nat.le_refl _) q1)
 rcases Zas (w:=w) (E:=E) (n:=ltn σ.n) (ok:=okS C E σ.hp) k L ys.toList 0 g2 with ⟨a1,a2,-,a4⟩ | ⟨j,v0,e,b1,b2,b3,b4,b5,b6⟩
 . have hc:UN c k L=c+1:=by simp [UN,a1]
   have hrun:(Instr.mapUpdate t (a.eval mx) (a.eval ix) (a.eval vx)).run P w = .ok () (Uk w (E.β km) (.map (ys.push ⟨key k,a.eval vx,c⟩) (c+1))):=by
    rw [hmv.2,hiv];simp only [Instr.mapUpdate,Sem.run_bind,run_underlying ht,Result.andThen_ok,YH g1 rfl,Sem.run_pure,hK.chk,hfn,a2,Xg _ g1 rfl]
   refine Zz (hex _ hrun) (by simp) ?_;show next (a.put o.dst undef) _;rw [<- hc];exact hfin _ rfl λh1 h2=>by rw [Array.toList_push];exact a4 c v _ h2 h1
 . have hc:UN c k L=c:=by simp [UN,b1]
   rw [Nat.zero_add] at b2;have hek:((ys[j]?).map (·.key)).getD (key k)=key k:=by
    have:ys[j]? = some e:=by simpa using b3
    simp [this,b4]
   have hrun:(Instr.mapUpdate t (a.eval mx) (a.eval ix) (a.eval vx)).run P w = .ok () (Uk w (E.β km) (.map (ys.modify j λe=>{ e with key:=key k,val:=a.eval vx }) c)):=by
    rw [hmv.2,hiv];simp only [Instr.mapUpdate,Sem.run_bind,run_underlying ht,Result.andThen_ok,YH g1 rfl,Sem.run_pure,hK.chk,hfn,b2,hek,Instr.keyThatStays,hK.same,if_true,Xg _ g1 rfl]
   refine Zz (hex _ hrun) (by simp) ?_;show next (a.put o.dst undef) _;have:=hfin (ys.modify j λe=>{ e with key:=key k,val:=a.eval vx }) rfl λ{w' ok'} h1 h2=>by
    rw [Array.toList_modify];exact (b6 h1).2 c v _ h2
   rw [hc] at this;exact this
theorem Ww {v:V} {ins:Bool} (hm:ZaI σ mx = .mp km) (hh:lkh km σ.hp = .map (mpS key val L) c) (ht:P.underlying t=some (.map kt et)) (hK:KeyT P kt key sv) (hi:ZaI σ ix=sv k)
 (hv:ZaI σ vx=val v) (hvg:∀ j b u,val v≠.gd j b u) (h:r ⟨σ.fr,(km,.map (mpS key val (UC c k v L)) (UN c k L)) :: σ.hp,σ.n,σ.N,σ.gs⟩ K) :
 RAW P none (bif ins then .insert t mx ix vx else .mapUpdate t mx ix vx) ty σ r K:=ZnW hm hh ht hK hi hv hvg (λ_ _ _ _ _ h=>h) h
theorem ZqC {es:List (Nat × Value × SV)} (hm:ZaI σ mx = .mp km) (hh:lkh km σ.hp = .map es c) (ht:P.underlying t=some (.map kt et)) {ats:Array TypeId} (ha:ats[0]? = some t)
 (h:Yo d (.v (.int .i64 es.length)) none σ r K):RAW P d (.call { callee:=.builtin .len,args:=#[mx],argTypes:=ats }) ty σ r K:=by
 intro o C E a w next Q e1 e2 e3 hS hn hq;have hmv:=W8 hS hm (λ_ _ _=>by simp);simp only [R] at hmv;obtain ⟨g0,ys,g1,g2⟩:=Zes hS hh;have hl:=Zrl g2;have hrun:(Builtin.len_ ats ty #[a.eval mx]).run P w = .ok (.int .i64 es.length) w:=by
  rw [hmv.2];simp [Builtin.len_,Sem.run_bind,ha,run_underlying ht,Result.andThen_ok,YH g1 rfl,Sem.run_pure,goInt,<- hl]
 have hx:(execOp a.eval o).run P w = .ok (.value (.int .i64 es.length)) w:=by
  obtain ⟨dst',op',ty',pos,after,guard⟩:=o;simp only at e2 e3;subst e2;subst e3;simp [execOp,resolve,invoke,builtin,hrun]
 refine Zz hx (by simp) ?_;show next (a.put o.dst _) _;rw [e1];exact X5 h hS (by simp only [R]) hn
end
section
variable {K V:Type} [DecidableEq K] {k k':K} {v:V} {c:Nat} {L:List (Nat × K × V)}
structure MW (L:List (Nat × K × V)) (c:Nat):Prop where
 bn:(L.map (·.1)).Nodup
 bl:∀ e ∈ L,e.1 < c
 kn:(L.map (·.2.1)).Nodup
omit [DecidableEq K] in
theorem MW.nil {c:Nat}:MW ([]:List (Nat × K × V)) c:=⟨List.nodup_nil,(λe h=>by cases h),List.nodup_nil⟩
theorem VO:∀ {L:List (Nat × K × V)},Wt k L=none↔∀ e ∈ L,e.2.1≠k
 | []=>by simp [Wt]
 | e :: l=>by
  simp only [Wt];split
  . rename_i hk;simp [hk]
  . rename_i hk;rw [VO];simp [hk]
theorem ZbE:∀ {L:List (Nat × K × V)},Wt k L=none->UC c k v L=L ++ [(c,k,v)]
 | [],_=>rfl
 | e :: l,h=>by
  simp only [Wt] at h;split at h
  . cases h
  . rename_i he;simp only [UC,if_neg he,ZbE h,List.cons_append]
theorem ZeQ:∀ {L:List (Nat × K × V)},(Wt k L).isSome->(UC c k v L).map (λe=>(e.1,e.2.1))=L.map λe=>(e.1,e.2.1)
 | [],h=>by simp [Wt] at h
 | e :: l,h=>by
  simp only [Wt] at h;simp only [UC];split
  . rename_i he;simp [he]
  . rename_i he;rw [if_neg he] at h;simp [ZeQ h]
theorem MW.set (h:MW L c) (v:V):MW (UC c k v L) (UN c k L):=by
 cases hg:Wt k L with
 | none =>
  have hc:UN c k L=c+1:=by simp [UN,hg]
  rw [ZbE hg,hc];have hk:=VO.1 hg;refine ⟨?_,λe he=>?_,?_⟩
  . rw [List.map_append,List.nodup_append];refine ⟨h.bn,by simp,λa ha b hb=>?_⟩;obtain ⟨e,he,rfl⟩:=List.mem_map.1 ha;simp only [List.map_cons,List.map_nil,List.mem_singleton] at hb;have:=h.bl e he;omega
  . rcases List.mem_append.1 he with he | he
    . have:=h.bl e he;omega
    . simp only [List.mem_singleton] at he;subst he;simp
  . rw [List.map_append,List.nodup_append];refine ⟨h.kn,by simp,λa ha b hb=>?_⟩;obtain ⟨e,he,rfl⟩:=List.mem_map.1 ha;simp only [List.map_cons,List.map_nil,List.mem_singleton] at hb;rw [hb];exact hk e he
 | some v0 =>
  have hc:UN c k L=c:=by simp [UN,hg]
  have hm:=ZeQ (c:=c) (v:=v) (k:=k) (L:=L) (by rw [hg];rfl);have e1:(UC c k v L).map (·.1)=L.map (·.1):=by
   have:=congrArg (List.map Prod.fst) hm;simpa [List.map_map,Function.comp_def] using this
  have e2:(UC c k v L).map (·.2.1)=L.map (·.2.1):=by
   have:=congrArg (List.map Prod.snd) hm;simpa [List.map_map,Function.comp_def] using this
  rw [hc];refine ⟨by rw [e1];exact h.bn,λe he=>?_,by rw [e2];exact h.kn⟩;have:e.1 ∈ L.map (·.1):=by rw [<- e1];exact List.mem_map.2 ⟨e,he,rfl⟩
  obtain ⟨x,hx,hxe⟩:=List.mem_map.1 this;rw [<- hxe];exact h.bl x hx
omit [DecidableEq K] in
theorem ZN {key:K->Value} {val:V->SV}:(∀ e ∈ mpS key val L,KF e.2.2)↔∀ v ∈ L.map (·.2.2),KF (val v):=by
 simp only [mpS,List.mem_map];exact ⟨λh v ⟨e,he,hv⟩=>hv ▸ h _ ⟨e,he,rfl⟩,λh _ ⟨e,he,hx⟩=>hx ▸ h _ ⟨e,he,rfl⟩⟩
omit [DecidableEq K] in
theorem ZA {key:K->Value} {val:V->SV}:(∀ (a:Nat) (b:Value) (c:SV),(a,b,c) ∈ mpS key val L->KF c)↔∀ v ∈ L.map (·.2.2),KF (val v):=by
 rw [<- ZN (key:=key)];exact ⟨λh e he=>h e.1 e.2.1 e.2.2 he,λh a b c he=>h _ he⟩
end
end Go.Sx
namespace Go.Sx
open Go Go.RowKit
def ZfS (s s':SV):Prop:=∀ (w:World) (E:Env) (n ok:Nat->Prop) (y:Value),R w E n ok s y->R w E n ok s' y
theorem ZfS.rfl {s:SV}:ZfS s s:=λ_ _ _ _ _ h=>h
theorem Wc {c:Bool} {m:Nat}:ZfS (.v (.slice none 0 0)) (.sl c m []):=λw E n ok y h=>by
 simp only [R] at h ⊢;exact ⟨none,0,0,h,by simp,⟨Nat.le_refl _,λ_=>Eq.refl _⟩,by simp,by simp⟩
theorem ZeV {c:Bool} {m:Nat} {xs:List (List SV)}:ZfS (.sl c m xs) (.sl false m xs):=λw E n ok y h=>by
 simp only [R] at h ⊢;obtain ⟨a,len,cap,h1,h2,h3,h4,h5⟩:=h;exact ⟨a,len,cap,h1,h2,⟨h3.1,λh=>by cases h⟩,h4,h5⟩
theorem ZD {s s':SV} {l l':List SV} (h1:ZfS s s') (h2:∀ (w:World) (E:Env) (n ok:Nat->Prop) (ys:List Value),RL w E n ok l ys->RL w E n ok l' ys):∀ (w:World) (E:Env) (n ok:Nat->Prop) (ys:List Value),RL w E n ok (s :: l) ys->RL w E n ok (s' :: l') ys:=λw E n ok ys h=>by
 simp only [RL] at h ⊢;obtain ⟨y,r,q1,q2,q3⟩:=h;exact ⟨y,r,q1,h1 _ _ _ _ _ q2,h2 _ _ _ _ _ q3⟩
def retW (rs:List RV) (res:SV):Ex->St->Prop
 | .ex _,_=>False
 | .n,σ=>∃ s,rvR rs σ = some s/\ZfS s res
 | .ret,σ=>∃ s,rvR rs σ = some s/\ZfS s res
 | .pan _,_=>False
theorem Zy9 (rs:List RV) (res:SV) (σ : St):retW rs res .n σ = ∃ s,rvR rs σ = some s/\ZfS s res:=rfl
theorem ZmX (rs:List RV) (res:SV) (σ : St):retW rs res .ret σ = ∃ s,rvR rs σ = some s/\ZfS s res:=rfl
attribute [go_sem] Zy9 ZmX
section
variable {P:Program}
end
theorem Ct.args {P:Program} {f:FuncId} {args args0:List SV} {res:SV} (h:Ct P f args res) (ka:KFL args0) (hw:∀ (w:World) (E:Env) (n ok:Nat->Prop) (ys:List Value),RL w E n ok args0 ys->RL w E n ok args ys):Ct P f args0 res :=
 ⟨h.1,ka,h.3,λw ok vs hG hR=>h.4 w ok vs hG (hw _ _ _ _ _ hR)⟩
inductive FB where
 | tail (c:SC)
 | seq (a:SC) (b:FB)
 | dfr (ops:List Ins) (mx kx:X) (t:TypeId) (b:FB)
 | rcv (ops:List Ins) (cx:X) (b:FB)
def ZxV (mx kx:X) (t:TypeId) (o:Oper):Bool :=
 match o.op,o.dst,o.guard with
 | .defer c,none,none=>(match c.callee with | .builtin .delete=>true | _=>false) && (match c.args.toList with | [m,k]=>YK mx m && YK kx k | _=>false) && (match c.argTypes[0]? with | some u=>u == t | none=>false)
 | _,_,_=>false
def ZqW (cx:X) (o:Oper):Bool :=
 match o.op,o.dst,o.guard with
 | .defer c,none,none=>(match c.callee with | .value y=>YK cx y | _=>false) && c.args.isEmpty
 | _,_,_=>false
def UU (P:Program):FB->Code->Bool
 | .tail c,code=>YA P c code
 | .seq a b,code=>(match code with | .seq x y=>YA P a x && UU P b y | _=>false)
 | .dfr ops mx kx t b,code=>(match code with
  | .seq (.region _ os false) y=>Zgc P os ops (os.toList.take ops.length) && (match os.toList.drop ops.length with | [o]=>ZxV mx kx t o | _=>false) && UU P b y
  | _=>false)
 | .rcv ops cx b,code=>(match code with
  | .seq (.region _ os false) y=>Zgc P os ops (os.toList.take ops.length) && (match os.toList.drop ops.length with | [o]=>ZqW cx o | _=>false) && UU P b y
  | _=>false)
def ZwS (P:Program) (t:TypeId) (kv:Value) (hb hb':HB):Prop :=
 ∃ (K V:Type) (_:DecidableEq K) (key:K->Value) (val:V->SV) (sv:K->SV) (L:List (Nat × K × V)) (k:K) (kt et:TypeId) (c:Nat),
  hb = .map (mpS key val L) c/\hb' = .map (mpS key val (Zkj k L)) c/\kv=key k/\P.underlying t=some (.map kt et)/\KeyT P kt key sv
def dK (P:Program) (t:TypeId) (km:Nat) (kv:Value) (K:Ex->St->Prop):Ex->St->Prop
 | .n,σ=>∃ hb',ZwS P t kv (lkh km σ.hp) hb'/\K .n ⟨σ.fr,(km,hb') :: σ.hp,σ.n,σ.N,σ.gs⟩
 | .ret,σ=>∃ hb',ZwS P t kv (lkh km σ.hp) hb'/\K .ret ⟨σ.fr,(km,hb') :: σ.hp,σ.n,σ.N,σ.gs⟩
 | _,_=>False
def fxS (f:St->(Ex->St->Prop)->Prop) (K:Ex->St->Prop):Ex->St->Prop
 | .n,σ=>f σ K
 | .ex _,_=>False
 | .ret,σ=>K .ret σ
 | .pan s,σ=>K (.pan s) σ
def mpO:SV->Option Nat
 | .mp k=>some k
 | _=>none
def vO:SV->Option Value
 | .v x=>some x
 | _=>none
def ZzE (P:Program) (t:TypeId) (f:Nat->St->(Ex->St->Prop)->Prop) (km:Option Nat) (kv:Option Value) (σ : St) (K:Ex->St->Prop):Prop :=
 match km,kv with
 | some km,some kv=>Nat.blt km σ.n=true/\f σ.n σ (dK P t km kv K)
 | _,_=>False
def Zlu (t:Nat) (o:Oper):Bool :=
 match o.op,o.dst,o.guard with
 | .call c,some u,none=>u == t && (match c.callee with | .builtin .recover=>true | _=>false) && c.args.isEmpty
 | _,_,_=>false
structure RcF (P:Program) (g:FuncId) (t:Nat) (l:List Ins) (c:SC) (N:Nat):Prop where
 ex:∃ fn id os y0 o1,P.funcs[g]? = some fn/\fn.body=some (.seq (.region id os false) y0)/\os[0]? = some o1/\Zlu t o1=true/\Zgc P os l (os.toList.drop 1)=true/\YA P c y0=true/\fn.ntmps=N/\t < N/\fn.results = #[]
 bd:ZV P g=true
def rcK (σ : St) (k:St->Prop):Ex->St->Prop
 | .n,σ'=>k ⟨σ.fr,σ'.hp,σ'.n,σ.N,σ.gs⟩
 | .ret,σ'=>k ⟨σ.fr,σ'.hp,σ'.n,σ.N,σ.gs⟩
 | _,_=>False
def rcR (P:Program) (t:Nat) (l:List Ins) (c:SC) (N:Nat) (caps:List SV) (s:SV) (σ : St) (k:St->Prop):Prop :=
 Nat.ble caps.length N=true/\rx P Y0 l ⟨(t,s) :: YD 0 caps,σ.hp,σ.n,N,[]⟩ (Zbv (fxS (λσ' K=>sx P Y0 σ.n c σ' K) (rcK σ k)))
def Zxp (P:Program) (f:Nat->St->(Ex->St->Prop)->Prop) (rk:FuncId->List SV->Ex->St->Prop) (s:SV) (σ : St):Prop :=
 match s with
 | .cl g caps=>f σ.n σ (rk g caps)
 | _=>False
def rK (P:Program) (K:Ex->St->Prop) (g:FuncId) (caps:List SV):Ex->St->Prop
 | .n,σ=>∃ t l c N,RcF P g t l c N/\rcR P t l c N caps (.v .nilIface) σ (K .n)
 | .ret,σ=>∃ t l c N,RcF P g t l c N/\rcR P t l c N caps (.v .nilIface) σ (K .ret)
 | .pan s,σ=>∃ t l c N,RcF P g t l c N/\rcR P t l c N caps s σ (K .ret)
 | .ex _,_=>False
def fx (P:Program):Nat->FB->St->(Ex->St->Prop)->Prop
 | m,.tail c,σ,K=>sx P Y0 m c σ K
 | m,.seq a b,σ,K=>sx P Y0 m a σ (fxS (fx P m b) K)
 | _,.dfr ops mx kx t b,σ,K=>rx P Y0 ops σ (Zbv (fxS (λσ K=>ZzE P t (λn=>fx P n b) (mpO (rdG none σ.fr mx)) (vO (rdG none σ.fr kx)) σ K) K))
 | _,.rcv ops cx b,σ,K=>rx P Y0 ops σ (Zbv (fxS (λσ K=>Zxp P (λn=>fx P n b) (rK P K) (rdG none σ.fr cx) σ) K))
theorem ZuR (P:Program) (m:Nat) (c:SC) (σ : St) (K:Ex->St->Prop):fx P m (.tail c) σ K=sx P Y0 m c σ K:=rfl
theorem ZzL (P:Program) (m:Nat) (a:SC) (b:FB) (σ : St) (K:Ex->St->Prop):fx P m (.seq a b) σ K=sx P Y0 m a σ (fxS (fx P m b) K):=rfl
theorem Zyj (P:Program) (m:Nat) (ops:List Ins) (mx kx:X) (t:TypeId) (b:FB) (σ : St) (K:Ex->St->Prop):fx P m (.dfr ops mx kx t b) σ K=rx P Y0 ops σ (Zbv (fxS (λσ K=>ZzE P t (λn=>fx P n b) (mpO (rdG none σ.fr mx)) (vO (rdG none σ.fr kx)) σ K) K)):=rfl
theorem ZzH (P:Program) (m:Nat) (ops:List Ins) (cx:X) (b:FB) (σ : St) (K:Ex->St->Prop):fx P m (.rcv ops cx b) σ K=rx P Y0 ops σ (Zbv (fxS (λσ K=>Zxp P (λn=>fx P n b) (rK P K) (rdG none σ.fr cx) σ) K)):=rfl
theorem Zvh (P:Program) (f:Nat->St->(Ex->St->Prop)->Prop) (rk:FuncId->List SV->Ex->St->Prop) (g:FuncId) (caps:List SV) (σ : St):Zxp P f rk (.cl g caps) σ = f σ.n σ (rk g caps):=rfl
theorem rK_n (P:Program) (K:Ex->St->Prop) (g:FuncId) (caps:List SV) (σ : St):rK P K g caps .n σ = ∃ t l c N,RcF P g t l c N/\rcR P t l c N caps (.v .nilIface) σ (K .n):=rfl
theorem Zxl (P:Program) (K:Ex->St->Prop) (g:FuncId) (caps:List SV) (σ : St):rK P K g caps .ret σ = ∃ t l c N,RcF P g t l c N/\rcR P t l c N caps (.v .nilIface) σ (K .ret):=rfl
theorem Zx4 (P:Program) (K:Ex->St->Prop) (g:FuncId) (caps:List SV) (s:SV) (σ : St):rK P K g caps (.pan s) σ = ∃ t l c N,RcF P g t l c N/\rcR P t l c N caps s σ (K .ret):=rfl
theorem e_rcR (P:Program) (t:Nat) (l:List Ins) (c:SC) (N:Nat) (caps:List SV) (s:SV) (σ : St) (k:St->Prop):rcR P t l c N caps s σ k=(Nat.ble caps.length N=true/\rx P Y0 l ⟨(t,s) :: YD 0 caps,σ.hp,σ.n,N,[]⟩ (Zbv (fxS (λσ' K=>sx P Y0 σ.n c σ' K) (rcK σ k)))):=rfl
theorem rcK_n (σ : St) (k:St->Prop) (σ':St):rcK σ k .n σ'=k ⟨σ.fr,σ'.hp,σ'.n,σ.N,σ.gs⟩:=rfl
theorem ZuT (σ : St) (k:St->Prop) (σ':St):rcK σ k .ret σ'=k ⟨σ.fr,σ'.hp,σ'.n,σ.N,σ.gs⟩:=rfl
attribute [go_sem] ZzH Zvh rK_n Zxl Zx4 e_rcR rcK_n ZuT
theorem fxS_n (f:St->(Ex->St->Prop)->Prop) (K:Ex->St->Prop) (σ : St):fxS f K .n σ = f σ K:=rfl
theorem Zsl (f:St->(Ex->St->Prop)->Prop) (K:Ex->St->Prop) (σ : St):fxS f K .ret σ = K .ret σ:=rfl
theorem Zyt (P:Program) (t:TypeId) (f:Nat->St->(Ex->St->Prop)->Prop) (km:Nat) (kv:Value) (σ : St) (K:Ex->St->Prop):ZzE P t f (some km) (some kv) σ K=(Nat.blt km σ.n=true/\f σ.n σ (dK P t km kv K)):=rfl
theorem Zxi (k:Nat):mpO (.mp k)=some k:=rfl
theorem vO_v (x:Value):vO (.v x)=some x:=rfl
theorem dK_n (P:Program) (t:TypeId) (km:Nat) (kv:Value) (K:Ex->St->Prop) (σ : St):dK P t km kv K .n σ = ∃ hb',ZwS P t kv (lkh km σ.hp) hb'/\K .n ⟨σ.fr,(km,hb') :: σ.hp,σ.n,σ.N,σ.gs⟩:=rfl
theorem Zxm (P:Program) (t:TypeId) (km:Nat) (kv:Value) (K:Ex->St->Prop) (σ : St):dK P t km kv K .ret σ = ∃ hb',ZwS P t kv (lkh km σ.hp) hb'/\K .ret ⟨σ.fr,(km,hb') :: σ.hp,σ.n,σ.N,σ.gs⟩:=rfl
attribute [go_sem] ZuR ZzL Zyj fxS_n Zsl Zyt Zxi vO_v dK_n Zxm
section
variable {P:Program}
theorem Zhf {C:Cx} {Y:Hd} (hY:ZaX P C Y) {ops:Array Oper} {Q:Exit->Act->World->Prop} {K:RK} {os2:List Oper} (hn:∀ σ E a w,K .n σ->Sim C E σ a w->Vw C.rd P ops Q os2 a w)
 (hp:∀ s σ' E a w y,K (.pan s) σ'->Sim C E σ' a w->R w E (ltn σ'.n) (okS C E σ'.hp) s y->Q (.panic [{ v:=y,recovered:=false }]) a w):∀ (l:List Ins) (os:List Oper),Zgc P ops l os=true ->
 ∀ (σ : St) E a w,rx P Y l σ K->Sim C E σ a w->Vw C.rd P ops Q (os ++ os2) a w
 | [],[],_,σ,E,a,w,hr,h=>hn σ E a w hr h
 | io :: l,o :: os,hc,σ,E,a,w,hr,h=>by
  simp only [Zgc,Bool.and_eq_true] at hc;have ih:=Zhf hY hn hp l os hc.2;exact VQ (next:=Vw C.rd P ops Q (os ++ os2)) hc.1 hr h (λσ' E' a' w' h1 h2=>ih σ' E' a' w' h1 h2) (λs σ' E' w' y h1 h2 h3=>hp s σ' E' a w' y h1 h2 h3) hY
 | [],_ :: _,h,_,_,_,_,_,_=>by simp [Zgc] at h
 | _ :: _,[],h,_,_,_,_,_,_=>by simp [Zgc] at h
theorem Zvw {C:Cx} {E:Env} {σ : St} {a:Act} {w:World} (h:Sim C E σ a w) {t:TypeId} {km:Nat} {kv:Value} {hb':HB} {ats:Array TypeId} {ty:TypeId} {cc:Array Bool} (ha:ats[0]? = some t) (hd:ZwS P t kv (lkh km σ.hp) hb') :
 ∃ x w',(invoke (.builtin .delete ats ty cc) #[.map (some (E.β km)),kv]).run P w = .ok (.value x) w'/\Sim C E ⟨σ.fr,(km,hb') :: σ.hp,σ.n,σ.N,σ.gs⟩ a w'/\ZF w w' (okS C E σ.hp) (okS C E ((km,hb') :: σ.hp)):=by
 obtain ⟨K,V,_,key,val,sv,L,k,kt,et,c,hh,rfl,rfl,ht,hK⟩:=hd;obtain ⟨g0,ys,g1,g2⟩:=Zes h hh;have hfn:=λw=>hK.fnd k _ _ w (ZaH g2);have hex:∀ w',(Builtin.delete_ ats ty #[.map (some (E.β km)),key k]).run P w = .ok (.tuple #[]) w'->(invoke (.builtin .delete ats ty cc) #[.map (some (E.β km)),key k]).run P w = .ok (.value (.tuple #[])) w':=λw' hy=>by
  simp [invoke,builtin,hy]
 have hfin:∀ ys':Array MapEntry,(∀ {w':World} {ok':Nat->Prop},RM w' E (ltn σ.n) ok' (mpS key val L) ys.toList->RM w' E (ltn σ.n) ok' (mpS key val (Zkj k L)) ys'.toList) ->
  Sim C E ⟨σ.fr,(km,.map (mpS key val (Zkj k L)) c) :: σ.hp,σ.n,σ.N,σ.gs⟩ a (Uk w (E.β km) (.map ys' c))/\ZF w (Uk w (E.β km) (.map ys' c)) (okS C E σ.hp) (okS C E ((km,.map (mpS key val (Zkj k L)) c) :: σ.hp)):=λys' hRM=>by
  obtain ⟨q1,q2⟩:=VR (k:=km) (hb:=.map (mpS key val (Zkj k L)) c) (o:=.map ys' c) h.hs (λb=>by rw [hh];simp only [occ]) (λb=>by simp only [occ]) (λhlt hst=>by
   simp only [Z1]
   exact ⟨ys',WQ hlt,hRM (V1 hst.c (λ_ _=>Ele.rfl) (λ_ h=>h) _ _ g2)⟩)
  exact ⟨Z3 h q2 (λ_ _=>Ele.rfl) (Nat.le_refl _) q1,q2⟩
 rcases Zas (w:=w) (E:=E) (n:=ltn σ.n) (ok:=okS C E σ.hp) k L ys.toList 0 g2 with ⟨a1,a2,a3,-⟩ | ⟨j,v0,e,b1,b2,b3,b4,b5,b6⟩
 . have hrun:(Builtin.delete_ ats ty #[.map (some (E.β km)),key k]).run P w = .ok (.tuple #[]) (Uk w (E.β km) (.map ys c)):=by
    simp [Builtin.delete_,Sem.run_bind,ha,run_underlying ht,Result.andThen_ok,YH g1 rfl,Sem.run_pure,hK.chk,hfn,a2,Xg _ g1 rfl]
   exact ⟨_,_,hex _ hrun,hfin _ λh1=>by rw [a3];exact h1⟩
 . rw [Nat.zero_add] at b2;have hlt:j < ys.size:=by
    have:ys[j]? = some e:=by simpa using b3
    exact (Array.getElem?_eq_some_iff.1 this).1
   have hrun:(Builtin.delete_ ats ty #[.map (some (E.β km)),key k]).run P w = .ok (.tuple #[]) (Uk w (E.β km) (.map (ys.eraseIdxIfInBounds j) c)):=by
    simp [Builtin.delete_,Sem.run_bind,ha,run_underlying ht,Result.andThen_ok,YH g1 rfl,Sem.run_pure,hK.chk,hfn,b2,Xg _ g1 rfl]
   exact ⟨_,_,hex _ hrun,hfin _ λ{w' ok'} h1=>by
    have:(ys.eraseIdxIfInBounds j).toList=ys.toList.eraseIdx j:=by simp [Array.eraseIdxIfInBounds,hlt]
    rw [this];exact (b6 h1).1⟩
theorem Zdk {C C':Cx} {E E':Env} {σ σ':St} {a a':Act} {w w':World} (h:Sim C E σ a w) (h':Sim C' E' σ' a' w') (c1:C'.w0=w) (c2:C'.okp=okS C E σ.hp) (c3:C'.pass=λk b=>occ E k (lkh k σ.hp) b) (c4:C'.e0=E) (c5:C'.m0 = σ.n) (hm:C.m0<=σ.n) :
 Sim { C with ds:=a'.defers } E' σ' a' w':=by
 have hok:∀ b,okS C' E' σ'.hp b->okS C E' σ'.hp b:=λb hb=>by
  obtain ⟨g1,g2⟩:=hb;refine ⟨?_,g2⟩;rw [c1,c2] at g1;rcases g1 with g1 | g1
  . exact g1.1
  . exact .inr (Nat.le_trans h.hs.kp.size g1)
 have hst:YF w' w' (okS C' E' σ'.hp) (okS C E' σ'.hp):=λb hb _=>⟨hok b hb,rfl⟩;refine ⟨λt=>?_,h'.sz,Uh,h'.gs,⟨h'.hs.kn,λk=>?_,h'.hs.dj,λk b ho=>?_,⟨?_,?_,?_,?_,λb h1 h2=>?_⟩,λk hk=>?_⟩⟩
 . have:=h'.fr t;cases hq:lk t σ'.fr<;>rw [hq] at this<;>try exact ZM hst (λ_ _=>Ele.rfl) (λ_ h=>h) _ _ this
   exact ⟨λhg=>ZM hst (λ_ _=>Ele.rfl) (λ_ h=>h) _ _ (this.1 hg),this.2⟩
 . refine Xk hst (λ_ _=>Ele.rfl) (λ_ h=>h) ?_ (λb ho=>rfl) rfl (h'.hs.bk k);rcases Classical.em (ltn σ'.n k) with hk | hk
   . exact .inr hk
   . exact .inl (h'.hs.kn k hk)
 . rcases h'.hs.lo k b ho with g | g
   . rw [c1] at g;exact .inl (Nat.le_trans h.hs.kp.size g)
   . rw [c3] at g;exact h.hs.lo k b g
 . have:=h'.hs.kp.os;rw [c1] at this;exact this.trans h.hs.kp.os
 . have:=h'.hs.kp.tape;rw [c1] at this;exact this.trans h.hs.kp.tape
 . have:=h'.hs.kp.output;rw [c1] at this;exact this.trans h.hs.kp.output
 . have:=h'.hs.kp.size;rw [c1] at this;exact Nat.le_trans h.hs.kp.size this
 . have h1':b < C.w0.heap.size:=h1;have h2':∀ k,¬ C.pass k b:=h2
   have hb:=h'.hs.kp.block b (by rw [c1];exact Nat.lt_of_lt_of_le h1' h.hs.kp.size) (λk hk=>by
    rw [c3] at hk;rcases h.hs.lo k b hk with g | g
    . exact absurd h1' (Nat.not_lt.2 g)
    . exact h2' k g)
   rw [c1] at hb;exact hb.trans (h.hs.kp.block b h1' h2')
 . have hk':k < C.m0:=hk;have p1:=h.hs.pin k hk';have p2:=h'.hs.pin k (by rw [c5];exact Nat.lt_of_lt_of_le hk' hm);rw [c4] at p2;exact ⟨p2.1,p1.2.trans p2.2⟩
theorem VD {fn:Func} {R':Ending->World->Prop} {C:Cx} {K:Ex->St->Prop}
 (hK:∀ e σ',K e σ'->∀ (C':Cx) E' a' w',C'.w0=C.w0->C'.okp=C.okp->C'.pass=C.pass->C'.e0=C.e0->C'.m0=C.m0->Sim C' E' σ' a' w'->match e with
  | .n | .ret=>Lv P fn a'.tmps R' C.ds .returning w'
  | .ex _=>False
  | .pan s=>∀ y,R w' E' (ltn σ'.n) (okS C' E' σ'.hp) s y->Lv P fn a'.tmps R' C.ds (.panicking [{ v:=y,recovered:=false }]) w')
 (e:Ex) (σ':St) (hk:K e σ') (E':Env) (a':Act) (w':World) (hs:Sim C E' σ' a' w'):ExQ C (Yn P fn R') e σ' E' a' w':=by
 obtain ⟨ms,d1,d2,d3⟩:=hs.df;have key:=hK e σ' hk;cases e with
 | ex i=>exact (key C E' a' w' rfl rfl rfl rfl rfl hs).elim
 | n =>
  show Lv P fn a'.tmps R' a'.defers .returning w';rw [d1];refine Xe ms _ _ (by simp) d2.1 (λm hm=>(d3 m hm).2.2) λw'' hu=>?_;exact key { C with ds:=a'.defers } E' a' w'' rfl rfl rfl rfl rfl (XN hs d3 hu)
 | ret =>
  show Lv P fn a'.tmps R' a'.defers .returning w';rw [d1];refine Xe ms _ _ (by simp) d2.1 (λm hm=>(d3 m hm).2.2) λw'' hu=>?_;exact key { C with ds:=a'.defers } E' a' w'' rfl rfl rfl rfl rfl (XN hs d3 hu)
 | pan s =>
  intro y hy;show Lv P fn a'.tmps R' a'.defers (.panicking _) w';rw [d1];refine Xe ms _ _ (by simp) d2.1 (λm hm=>(d3 m hm).2.2) λw'' hu=>?_;have hst:YF w' w'' (okS C E' σ'.hp) (okS C E' σ'.hp):=λb hb q=>⟨hb,hu.other b λhm'=>by rcases q with ⟨cs,T,fz,e⟩ | ⟨es,c,e⟩<;>(rw [(d3 b hm').2.2] at e;cases e)⟩;exact key { C with ds:=a'.defers } E' a' w'' rfl rfl rfl rfl rfl (XN hs d3 hu) y (ZM hst (λ_ _=>Ele.rfl) (λ_ h=>h) _ _ hy)
theorem Zhv {C:Cx} {E:Env} {σ : St} {a:Act} {w:World} (h:Sim C E σ a w) (ds:List Deferred):Sim ⟨w,okS C E σ.hp,λk b=>occ E k (lkh k σ.hp) b,ds,none,E,σ.n,Zs h.hs,λ_ _ hg k=>Wv h.hs hg k⟩ E σ { a with defers:=ds } w:=by
 have hst:YF w w (okS C E σ.hp) (okS ⟨w,okS C E σ.hp,λk b=>occ E k (lkh k σ.hp) b,ds,none,E,σ.n,Zs h.hs,λ_ _ hg k=>Wv h.hs hg k⟩ E σ.hp):=λb hb _=>⟨⟨.inl hb,hb.2⟩,rfl⟩;refine ⟨λt=>?_,h.sz,Uh,h.gs,⟨h.hs.kn,λk=>?_,h.hs.dj,λk b ho=>.inr ho,⟨rfl,rfl,rfl,Nat.le_refl _,λ_ _ _=>rfl⟩,λk hk=>⟨hk,Ele.rfl⟩⟩⟩
 . have:=h.fr t;show FR w E (ltn σ.n) _ σ.fr (lk t σ.fr) (a.tmps.getD t undef);cases hq:lk t σ.fr<;>rw [hq] at this<;>try exact ZM hst (λ_ _=>Ele.rfl) (λ_ h=>h) _ _ this
   exact ⟨λhg=>ZM hst (λ_ _=>Ele.rfl) (λ_ h=>h) _ _ (this.1 hg),this.2⟩
 . refine Xk hst (λ_ _=>Ele.rfl) (λ_ h=>h) ?_ (λb ho=>rfl) rfl (h.hs.bk k);rcases Classical.em (ltn σ.n k) with hk | hk
   . exact .inr hk
   . exact .inl (h.hs.kn k hk)
def ZAb (v:Value) (u u':FrameMode):Prop:=(u = .returning/\v = .nilIface/\u' = .returning)\/(u = .panicking [{ v:=v,recovered:=false }]/\u' = .panicking [{ v:=v,recovered:=true }])
theorem ZoE {b c₀:Frame} {a:Act} {k:List Item} {cs:List Frame} {w:World} {os:Array Oper} {o:Oper} {rest:List Nat} {t:Nat} {v:Value} {u u':FrameMode} (hb:b.kind = .deferred) (h0:os[0]? = some o) (hr:Zlu t o=true)
 (hc:c₀.mode=u) (hu:ZAb v u u'):step P (lone (b.at a (.inRegion os (0 :: rest) :: k)) (c₀ :: cs) w) = .next (lone (b.at (a.put (some t) v) (.inRegion os rest :: k)) ({ c₀ with mode:=u' } :: cs) w):=by
 obtain ⟨dst,op,ty,pos,after,guard⟩:=o;unfold Zlu at hr;split at hr
 case h_2=>cases hr
 rename_i c x e1 e2 e3;simp only at e1 e2 e3;subst e1;subst e2;subst e3;simp only [Bool.and_eq_true,beq_iff_eq] at hr;obtain ⟨⟨rfl,hr1⟩,hr2⟩:=hr;split at hr1
 case h_2=>cases hr1
 rename_i hcal;have hw:Region.wanted (⟨some x,.call c,ty,pos,after,none⟩:Oper) (yielded os a.tmps)=true:=rfl;have hg:=stepG_op (P:=P) (b:=b) (k:=k) (cs:=c₀ :: cs) (w:=w) (rest:=rest) h0 hw;have hfin:∀ v,(b.at a (.inRegion os (0 :: rest) :: k)).finish v=b.at (a.put (some x) v) (.inRegion os rest :: k):=by
  intro v;rw [Frame.finish_at,h0];rfl
 have hrun:(execOp a.eval (⟨some x,.call c,ty,pos,after,none⟩:Oper)).run P w = .ok .recover w:=by
  simp [execOp,resolve,hcal,invoke,builtin,Sem.run_bind,Sem.run_pure]
 have hk:(b.at a (.inRegion os (0 :: rest) :: k)).kind = .deferred:=hb;have htr:=tryRecover_deferred hk (c₀ :: cs);refine step_lone_go ?_;rw [hg,<- hfin];rcases hu with ⟨rfl,rfl,rfl⟩ | ⟨rfl,rfl⟩
 . have hrd:recoverD (c₀ :: cs)=none:=by simp [recoverD,hc]
   have hcc:({ c₀ with mode:=.returning }:Frame)=c₀:=by rw [<- hc]
   simp only [Frame.at] at htr ⊢;simp [stepG.apply,hrun,htr,hrd,hcc]
 . have hrd:recoverD (c₀ :: cs)=some (v,{ c₀ with mode:=.panicking [{ v:=v,recovered:=true }] } :: cs):=by simp [recoverD,hc]
   simp only [Frame.at] at htr ⊢;simp [stepG.apply,hrun,htr,hrd]
theorem ZqP {fr:Frame} {cs:List Frame}:∀ (ms:List Nat) (w:World),fr.mode≠.run->fr.defers=ms.map Zb9->ms.Nodup->(∀ m ∈ ms,w.heap[m]? = some (.deferred (some []))) ->
 ∃ w',Unm ms w w'/\Steps P (lone fr cs w) (lone { fr with defers:=[] } cs w')
 | [],w,_,hd,_,_=>⟨w,Unm.refl w,by rw [show ({ fr with defers:=[] }:Frame)=fr by rw [<- show fr.defers=[] from hd]];exact Steps.refl P _⟩
 | m :: ms,w,hm,hd,hnd,hh=>by
  rw [List.nodup_cons] at hnd;have hm0:=hh m (by simp);have hlt:=(Array.getElem?_eq_some_iff.1 hm0).1;have h1:step P (lone fr cs w) = .next (lone { fr with defers:=ms.map Zb9 } cs (Uk w m (.deferred none))) :=
   Vd hm hd rfl (by simp only [Instr.takeDeferred,Sem.run_bind,YH hm0 rfl,Result.andThen_ok,Xg _ hm0 rfl,Sem.run_pure])
  obtain ⟨w',g1,g2⟩:=ZqP (fr:={ fr with defers:=ms.map Zb9 }) (cs:=cs) ms (Uk w m (.deferred none)) hm rfl hnd.2 (λk hk=>by
   rw [X2 (by rintro rfl;exact hnd.1 hk)];exact hh k (by simp [hk]))
  refine ⟨w',⟨g1.os,g1.tape,g1.output,by rw [g1.size,ZaN],λb hb=>?_⟩,.head h1 g2⟩;rw [List.mem_cons,not_or] at hb;rw [g1.other b hb.2];exact X2 hb.1
theorem Zkq {g:FuncId} {fn:Func} {id:Nat} {os:Array Oper} {y0:Code} {o1:Oper} {t:Nat} {args:Array Value} {w:World} {u u':FrameMode} {v:Value} {R:Ending->FrameMode->World->Prop} {Q:Exit->Act->World->Prop}
 (hf:P.funcs[g]? = some fn) (hb:fn.body=some (.seq (.region id os false) y0)) (h0:os[0]? = some o1) (hrec:Zlu t o1=true) (hu:ZAb v u u')
 (h:Vw none P os (Exit.then (wpX none P y0 Q) Q) (os.toList.drop 1) (({ tmps:=args ++ Array.replicate (fn.ntmps - args.size) undef,defers:=[] }:Act).put (some t) v) w)
 (hQ:∀ e a w,Q e a w->(e = .normal\/e = .ret)/\∃ ms:List Nat,a.defers=ms.map Zb9/\ms.Nodup/\(∀ m ∈ ms,w.heap[m]? = some (.deferred (some [])))/\∀ w',Unm ms w w'->∃ val,(results fn a.tmps).run P w' = .ok val w'/\R (.returned val) u' w') :
 CallsD P g args u w R:=by
 intro c₀ cs hc
 let b:Frame:={ (default:Frame) with fn:=g,kind:=.deferred }
 let a0:Act:={ tmps:=args ++ Array.replicate (fn.ntmps - args.size) undef,defers:=[] }
 have henter:Frame.enter P g args .deferred=b.at a0 [.code (.seq (.region id os false) y0)]:=by
  simp [Frame.enter,Frame.at,hf,hb,b,a0]
 have hsz:0 < os.size:=(Array.getElem?_eq_some_iff.1 h0).1;have hrange:List.range os.size=0 :: List.range' 1 (os.size - 1):=by
  rw [List.range_eq_range',show os.size=(os.size - 1)+1 from by omega,List.range'_succ];simp
 have h1:=Zam (r:=none) (P:=P) (ops:=os) (os.toList.drop 1) 1 (λj hj=>by simp [List.getElem?_drop,Nat.add_comm]) _ w h;rw [List.length_drop,Array.length_toList] at h1;obtain ⟨e,a1,w1,q,s⟩:=UM _ _ w h1 b [.code y0] ({ c₀ with mode:=u' } :: cs) rfl (by simp [b,hf]);have s:=(arrivesIn_iff (b:=b) (λ_ _=>steps_iff.symm) rfl).1 s;rw [Frame.atR_of_none (b:=b) rfl] at s;have hpre:Steps P (lone (Frame.enter P g args .deferred) (c₀ :: cs) w) (lone (b.at (a0.put (some t) v) (.inRegion os (List.range' 1 (os.size - 1)) :: [.code y0])) ({ c₀ with mode:=u' } :: cs) w):=by
  rw [henter];refine .head step_seq (.head step_region ?_);rw [hrange];exact .one (ZoE rfl h0 hrec hc hu)
 have fin:∀ (e:Exit) (a:Act) (w2:World) (todo:List Item),Q e a w2->Steps P (lone (Frame.enter P g args .deferred) (c₀ :: cs) w) (lone ({ b.at a todo with mode:=.returning }:Frame) ({ c₀ with mode:=u' } :: cs) w2) ->
  ∃ e u'' w' fr,R e u'' w'/\Comes P (lone (Frame.enter P g args .deferred) (c₀ :: cs) w) (lone fr ({ c₀ with mode:=u'' } :: cs) w') e/\fr.kind = .deferred/\fr.going P w' e:=λe a w2 todo hq hs=>by
  obtain ⟨_,ms,d1,d2,d3,d4⟩:=hQ e a w2 hq;obtain ⟨w3,g1,g2⟩:=ZqP (P:=P) (fr:={ b.at a todo with mode:=.returning }) (cs:={ c₀ with mode:=u' } :: cs) ms w2 (by simp) d1 d2 d3;obtain ⟨val,hr,hR⟩:=d4 w3 g1;exact ⟨.returned val,u',w3,_,hR,Steps.trans hs g2,rfl,rfl,rfl,fn,hf,hr⟩
 have tl:∀ (a:Act) (w2:World),wpX none P y0 Q a w2->Steps P (lone (Frame.enter P g args .deferred) (c₀ :: cs) w) (lone (b.at a [.code y0]) ({ c₀ with mode:=u' } :: cs) w2) ->
  ∃ e u'' w' fr,R e u'' w'/\Comes P (lone (Frame.enter P g args .deferred) (c₀ :: cs) w) (lone fr ({ c₀ with mode:=u'' } :: cs) w') e/\fr.kind = .deferred/\fr.going P w' e:=λa w2 hy hs=>by
  obtain ⟨e2,a2,w3,q2,s2⟩:=hy b [] ({ c₀ with mode:=u' } :: cs) rfl (by simp [b,hf]);have s2:=(arrivesIn_iff (b:=b) (λ_ _=>steps_iff.symm) rfl).1 s2;rw [Frame.atR_of_none (b:=b) rfl] at s2;rcases (hQ e2 a2 w3 q2).1 with rfl | rfl
  . exact fin _ a2 w3 [] q2 (Steps.trans hs (Steps.trans s2 (.one step_end)))
  . obtain ⟨todo,s3⟩:=s2;exact fin _ a2 w3 todo q2 (Steps.trans hs s3)
 cases e with
 | normal=>exact tl a1 w1 q (Steps.trans hpre s)
 | ret =>
  obtain ⟨todo,s3⟩:=s;exact fin _ a1 w1 todo q (Steps.trans hpre s3)
 | panic chain=>rcases (hQ _ a1 w1 q).1 with h | h<;>cases h
 | exit id=>rcases (hQ _ a1 w1 q).1 with h | h<;>cases h
 | goto l=>rcases (hQ _ a1 w1 q).1 with h | h<;>cases h
 | outgrown=>rcases (hQ _ a1 w1 q).1 with h | h<;>cases h
theorem Zku {C:Cx} {E:Env} {hp0:List (Nat × HB)} {n0 N:Nat} {args:List SV} {vs:List Value} {w:World} (hN:args.length<=N) (hds:C.ds=[]) (hH:HSim C E hp0 (ltn n0) w) (hR:RL w E (ltn n0) (okS C E hp0) args vs) :
 Sim C E ⟨YD 0 args,hp0,n0,N,[]⟩ { tmps:=vs.toArray ++ Array.replicate (N - vs.toArray.size) undef,defers:=[] } w:=by
 have hlen:=ZE hR;have hng:∀ t j b s,lk t (YD 0 args)≠.gd j b s:=by
  intro t j b s ht;simp only [Vg,Nat.zero_le,if_true,Nat.sub_zero] at ht;by_cases htl:t < args.length
  . have e1:args.getD t .any=args[t]:=by simp [htl]
    obtain ⟨y,h1,h2⟩:=WE hR (List.getElem?_eq_getElem htl);rw [e1] at ht;rw [ht] at h2;simp only [R] at h2
  . have e1:args.getD t .any = .any:=by simp [List.getElem?_eq_none (Nat.le_of_not_lt htl)]
    rw [e1] at ht;cases ht
 refine ⟨λt=>?_,by simp;omega,by rw [<- hds];exact Uh,λt j b s ht=>absurd ht (hng t j b s),hH⟩;have hng:=hng t;have hFR:R w E (ltn n0) (okS C E hp0) (lk t (YD 0 args)) ((vs.toArray ++ Array.replicate (N - vs.toArray.size) undef).getD t undef):=by
  simp only [Vg,Nat.zero_le,if_true,Nat.sub_zero];by_cases ht:t < args.length
  . have e1:args.getD t .any=args[t]:=by simp [ht]
    obtain ⟨y,h1,h2⟩:=WE hR (List.getElem?_eq_getElem ht);have e2:(vs.toArray ++ Array.replicate (N - vs.toArray.size) undef).getD t undef=y:=by
     have:t < vs.length:=by omega
     have h1':=(List.getElem?_eq_some_iff.1 h1).2;simp [Array.getElem?_append,this,h1']
    rw [e1,e2];exact h2
  . have e1:args.getD t .any = .any:=by simp [List.getElem?_eq_none (Nat.le_of_not_lt ht)]
    rw [e1];simp only [R]
 simp only;cases hq:lk t (YD 0 args)<;>rw [hq] at hFR hng<;>first | exact hFR | exact absurd rfl (hng _ _ _)
theorem Zyy {g:FuncId} {t N:Nat} {l:List Ins} {c:SC} (hF:RcF P g t l c N) {C:Cx} {E:Env} {σ : St} {a:Act} {w:World} (hS:Sim C E σ a w) (hm:C.m0<=σ.n) {caps:List SV} {vs:List Value} (hR:RL w E (ltn σ.n) (okS C E σ.hp) caps vs)
 {s:SV} {v:Value} (hv:R w E (ltn σ.n) (okS C E σ.hp) s v) {k:St->Prop} (hrun:rcR P t l c N caps s σ k) {u u':FrameMode} (hu:ZAb v u u') {R':Ending->FrameMode->World->Prop}
 (hk:∀ hp' n' E' w',k ⟨σ.fr,hp',n',σ.N,σ.gs⟩->Sim C E' ⟨σ.fr,hp',n',σ.N,σ.gs⟩ a w'->R' (.returned (.tuple #[])) u' w'):CallsD P g vs.toArray u w R':=by
 obtain ⟨fn,id,os,y0,o1,f1,f2,f3,f4,f5,f6,f7,f8,f9⟩:=hF.ex;obtain ⟨hcl,hrun⟩:=hrun;have hcl:=Nat.le_of_ble_eq_true hcl
 let C2:Cx:=⟨w,okS C E σ.hp,λk b=>occ E k (lkh k σ.hp) b,[],none,E,σ.n,Zs hS.hs,λ_ _ hg k=>Wv hS.hs hg k⟩
 have hst:YF w w (okS C E σ.hp) (okS C2 E σ.hp):=λb hb _=>⟨⟨.inl hb,hb.2⟩,rfl⟩;have hin:=Zhv hS [];have hR2:RL w E (ltn σ.n) (okS C2 E σ.hp) caps vs:=ZC hst (λ_ _=>Ele.rfl) (λ_ h=>h) _ _ hR;have hv2:R w E (ltn σ.n) (okS C2 E σ.hp) s v:=ZM hst (λ_ _=>Ele.rfl) (λ_ h=>h) _ _ hv;have h0:Sim C2 E ⟨YD 0 caps,σ.hp,σ.n,N,[]⟩ { tmps:=vs.toArray ++ Array.replicate (N - vs.toArray.size) undef,defers:=[] } w:=Zku hcl rfl hin.hs hR2
 have h1:Sim C2 E ⟨(t,s) :: YD 0 caps,σ.hp,σ.n,N,[]⟩ (Act.put { tmps:=vs.toArray ++ Array.replicate (N - vs.toArray.size) undef,defers:=[] } (some t) v) w :=
  YT h0 (λb hb _=>⟨hb,rfl⟩) (λ_ _=>Ele.rfl) (Nat.le_refl _) hin.hs (by simp) f8 (VG hv) hv2
 let Q:Exit->Act->World->Prop:=λe a2 w2=>(e = .normal\/e = .ret)/\∃ σ' E',k ⟨σ.fr,σ'.hp,σ'.n,σ.N,σ.gs⟩/\Sim C2 E' σ' a2 w2
 have hKQ:LkQ C2 (rcK σ k) Q:=λe σ' hk' E' a' w' hs=>by
  cases e with
  | n=>exact ⟨.inl rfl,σ',E',hk',hs⟩
  | ret=>exact ⟨.inr rfl,σ',E',hk',hs⟩
  | ex i=>exact hk'.elim
  | pan s=>exact hk'.elim
 have hmc:MC C2 σ.n:=⟨Nat.le_refl _,λj b ho=>by
  rcases Classical.em (ltn σ.n j) with hj | hj
  . exact hj
  . have ho':occ E j (lkh j σ.hp) b:=ho
    rw [hS.hs.kn j hj] at ho';exact ho'.elim⟩
 have hlist:=Zb6 (P:=P) (C:=C2) (Y:=Y0) Za6 (ops:=os) (Q:=Exit.then (wpX none P y0 Q) Q) (K:=Zbv (fxS (λσ' K=>sx P Y0 σ.n c σ' K) (rcK σ k))) (λe σ' hk' E' a' w' hs0=>by
  have hs:=YV hs0;cases e with
  | n =>
   have hwp:=Ye c C2 Y0 σ.n y0 (W7 σ') (rcK σ k) Q E' a' w' hmc Za6 (.inl rfl) f6 hk' hKQ hs;exact hwp
  | ret=>exact hKQ .ret _ hk' E' a' w' hs
  | ex i=>exact hk'.elim
  | pan s=>exact hk'.elim) l _ f5 _ E _ w hrun h1
 refine Zkq (u':=u') (v:=v) f1 f2 f3 f4 hu (Q:=Q) (by rw [f7];exact hlist) (λe a2 w2 hq=>⟨hq.1,?_⟩);obtain ⟨_,σ',E',hk',hs'⟩:=hq;obtain ⟨ms,d1,d2,d3⟩:=hs'.df;refine ⟨ms,by rw [d1];simp [C2],d2.1,λm hm'=>(d3 m hm').2.2,λw3 hu3=>?_⟩;refine ⟨.tuple #[],by simp [results,f9],?_⟩;have hs3:=XN hs' d3 hu3;have hout:=Zdk hS hs3 rfl rfl rfl rfl rfl hm;obtain ⟨g1,g2⟩:=ZdM (C:=C) hout.hs rfl rfl rfl rfl rfl
 have hpin:∀ j,j < σ.n->j < σ'.n/\Ele E E' j j:=λj hj=>hs3.hs.pin j hj;refine hk σ'.hp σ'.n E' w3 hk' (Z3 hS (λb hb hsome=>?_) (λj hj=>(hpin j hj).2) ?_ g1)
 . obtain ⟨b1,b2⟩:=hb;have hlt:b < w.heap.size:=by
    rcases Nat.lt_or_ge b w.heap.size with q | q
    . exact q
    . rw [Array.getElem?_eq_none q] at hsome;cases hsome
   refine ⟨⟨b1,λj ho=>?_⟩,?_⟩
   . rcases hs3.hs.lo j b ho with q | q
     . exact absurd hlt (Nat.not_lt.2 q)
     . exact b2 j q
   . exact hs3.hs.kp.block b hlt (λj q=>b2 j q)
 . rcases Nat.lt_or_ge σ'.n σ.n with q | q
   . exact absurd (hpin σ'.n q).1 (Nat.lt_irrefl _)
   . exact q
theorem UH {fn:Func} {R':Ending->World->Prop}:∀ (b:FB) (C:Cx) (m:Nat) (code:Code) (σ : St) (K:Ex->St->Prop) (E:Env) (a:Act) (w:World),MC C m->C.rd=none->UU P b code=true->fx P m b σ K->Sim C E σ a w ->
 (∀ e σ',K e σ'->∀ (C':Cx) E' a' w',C'.w0=C.w0->C'.okp=C.okp->C'.pass=C.pass->C'.e0=C.e0->C'.m0=C.m0->Sim C' E' σ' a' w'->match e with
  | .n | .ret=>Lv P fn a'.tmps R' C.ds .returning w'
  | .ex _=>False
  | .pan s=>∀ y,R w' E' (ltn σ'.n) (okS C' E' σ'.hp) s y->Lv P fn a'.tmps R' C.ds (.panicking [{ v:=y,recovered:=false }]) w') ->
 wpX none P code (Yn P fn R') a w
 | .tail c,C,m,code,σ,K,E,a,w,hm,hrd,hc,h,hS,hK=>by
  have hwp:=Ye c C Y0 m code σ K (Yn P fn R') E a w hm Za6 (.inl hrd) hc h (λe σ' hk E' a' w' hs=>VD hK e σ' hk E' a' w' hs) hS;rw [hrd] at hwp;exact hwp
 | .seq x b,C,m,code,σ,K,E,a,w,hm,hrd,hc,h,hS,hK=>by
  cases code<;>simp [UU] at hc
  rename_i cx cy;refine ZbW ?_;have hwp:=Ye x C Y0 m cx σ (fxS (fx P m b) K) (Exit.then (wpX none P cy (Yn P fn R')) (Yn P fn R')) E a w hm Za6 (.inl hrd) hc.1 h (λe σ' hk E' a' w' hs=>?_) hS
  . rw [hrd] at hwp;exact hwp
  cases e with
  | n=>exact UH b C m cy σ' K E' a' w' hm hrd hc.2 hk hs hK
  | ex i=>exact hk.elim
  | ret=>exact VD hK .ret σ' hk E' a' w' hs
  | pan s=>exact VD hK (.pan s) σ' hk E' a' w' hs
 | .dfr ops mx kx t b,C,m,code,σ,K,E,a,w,hm,hrd,hc,h,hS,hK=>by
  unfold UU at hc;split at hc
  case h_2=>cases hc
  rename_i id os cy;simp only [Bool.and_eq_true] at hc;obtain ⟨⟨hc1,hc2⟩,hc3⟩:=hc;split at hc2
  case h_2=>cases hc2
  rename_i o ho;have hos:os.toList=os.toList.take ops.length ++ [o]:=by rw [<- ho,List.take_append_drop]
  refine ZbW (Xr ?_);rw [hos,<- hrd];refine Zhf (C:=C) (Q:=Exit.then (wpX C.rd P cy (Yn P fn R')) (Yn P fn R')) (os2:=[o]) Za6 (K:=Zbv (fxS (λσ K=>ZzE P t (λn=>fx P n b) (mpO (rdG none σ.fr mx)) (vO (rdG none σ.fr kx)) σ K) K)) (λσ0 E1 a1 w1 hk0 hs0=>?_)
   (λs σ' E' a' w' y hk hs hy=>VD hK (.pan s) (W7 σ') hk E' a' w' (YV hs) y (by rw [ZdV,Zcj];exact hy)) ops _ hc1 σ E a w h hS
  have hs:=YV hs0;simp only [Zbv,fxS] at hk0;generalize W7 σ0 = σ1 at hs hk0;obtain ⟨ms,d1,d2,d3⟩:=hs.df;unfold ZzE at hk0;split at hk0
  case h_2=>exact hk0.elim
  rename_i km kv hkm hkv;obtain ⟨hlt,hfx⟩:=hk0;have hlt:=Nat.le_of_ble_eq_true hlt;have hmv:a1.tmps=a1.tmps/\evX a1 mx = .map (some (E1.β km)):=by
   have hR:=Ym (Zs hs.hs) hs.fr (g:=none) trivial mx;cases hq:rdG none σ1.fr mx<;>rw [hq] at hkm<;>simp only [mpO,Option.some.injEq,reduceCtorEq] at hkm
   subst hkm;rw [hq] at hR;simp only [R] at hR;exact ⟨rfl,hR.2⟩
  have hkv':evX a1 kx=kv:=by
   have hR:=Ym (Zs hs.hs) hs.fr (g:=none) trivial kx;cases hq:rdG none σ1.fr kx<;>rw [hq] at hkv<;>simp only [vO,Option.some.injEq,reduceCtorEq] at hkv
   subst hkv;rw [hq] at hR;simp only [R] at hR;exact hR
  have hmn:C.m0<=σ1.n:=by
   rcases Nat.lt_or_ge σ1.n C.m0 with q | q
   . exact absurd (hs.hs.pin σ1.n q).1 (Nat.lt_irrefl _)
   . exact q
  unfold ZxV at hc2;split at hc2
  case h_2=>cases hc2
  rename_i c hop hdst hgd;simp only [Bool.and_eq_true] at hc2;obtain ⟨⟨e1,e2⟩,e3⟩:=hc2;split at e1
  case h_2=>cases e1
  rename_i hcal;split at e2
  case h_2=>cases e2
  rename_i om ok hargs;simp only [Bool.and_eq_true] at e2;split at e3
  case h_2=>cases e3
  rename_i u hu;have hut:u=t:=by simpa using e3
  subst hut;have hca:c.args = #[om,ok]:=by apply Array.toList_inj.1;rw [hargs]
  rw [hrd];simp only [Vw,Region.wanted,hgd];simp only [if_true];have hrun:(o.semAt none a1.eval).run P w1 = .ok (.defer { target:=.builtin .delete c.argTypes o.type (c.args.map λ| .const _=>true | _=>false),args:=#[.map (some (E1.β km)),kv] }) w1:=by
   rw [Oper.semAt_none];obtain ⟨dst',op',ty',pos,after,guard⟩:=o;simp only at hop;subst hop;simp only [execOp,Sem.run_bind,resolve,hcal,Sem.run_pure,Result.andThen_ok,hca];simp only [List.map_toArray,List.map_cons,List.map_nil,Ze e2.1 a1,Ze e2.2 a1,hmv.2,hkv'];cases om<;>cases ok<;>rfl
  show o.wpq none P a1 w1 _ _;unfold Oper.wpq;rw [hrun];simp only [Oper.uponX,hdst];show Exit.then _ _ .normal _ w1;simp only [Exit.then];show wpX none P cy (Yn P fn R') { a1 with defers:=_ :: a1.defers } w1;refine UH b _ σ1.n cy σ1 (dK P u km kv K) E1 _ w1 ⟨Nat.le_refl _,λk b ho=>?_⟩ rfl hc3 hfx (Zhv hs _) (λe σ' hk C2 E' a' w' c1 c2 c3 c4 c5 hs'=>?_)
  . rcases Classical.em (ltn σ1.n k) with hk | hk
    . exact hk
    . have ho':occ E1 k (lkh k σ1.hp) b:=ho;rw [hs.hs.kn k hk] at ho';exact ho'.elim
  have main:∀ (hb':HB),ZwS P u kv (lkh km σ'.hp) hb'->(∀ (C':Cx) E' a' w',C'.w0=C.w0->C'.okp=C.okp->C'.pass=C.pass->C'.e0=C.e0->C'.m0=C.m0->Sim C' E' ⟨σ'.fr,(km,hb') :: σ'.hp,σ'.n,σ'.N,σ'.gs⟩ a' w'->Lv P fn a'.tmps R' C.ds .returning w') ->
   Lv P fn a'.tmps R' ({ target:=.builtin .delete c.argTypes o.type (c.args.map λ| .const _=>true | _=>false),args:=#[.map (some (E1.β km)),kv] } :: a1.defers) .returning w':=λhb' hdel hKK=>by
   obtain ⟨x,w2,hrun2,hs2,_⟩:=Zvw hs' (ty:=o.type) (cc:=c.args.map λ| .const _=>true | _=>false) hu hdel;have hβ : E'.β km=E1.β km:=by
    have:=(hs'.hs.pin km (by rw [c5];exact hlt)).2.1;rw [c4] at this;exact this
   rw [hβ] at hrun2;refine ⟨by simp,.inr (.inl ⟨.delete,c.argTypes,o.type,_,w2,x,rfl,hrun2,?_⟩)⟩;rw [d1];have hsim:=Zdk hs hs2 c1 c2 c3 c4 c5 hmn;have hmark:∀ m ∈ ms,C.w0.heap.size<=m/\okS C E' ((km,hb') :: σ'.hp) m/\w2.heap[m]? = some (.deferred (some [])):=λm hm=>by
    obtain ⟨p1,p2,p3⟩:=d3 m hm;have hlt':m < w1.heap.size:=(Array.getElem?_eq_some_iff.1 p3).1;have hnp:∀ k,¬ C2.pass k m:=λk hk=>by rw [c3] at hk;exact p2.2 k hk
    refine ⟨p1,⟨p2.1,λk ho=>?_⟩,?_⟩
    . rcases hs2.hs.lo k m ho with g | g
      . rw [c1] at g;exact absurd hlt' (Nat.not_lt.2 g)
      . exact hnp k g
    . have:=hs2.hs.kp.block m (by rw [c1];exact hlt') hnp;rw [c1] at this;rw [this];exact p3
   refine Xe ms _ _ (by simp) d2.1 (λm hm=>(hmark m hm).2.2) λw3 hu3=>?_;exact hKK { C with ds:=a'.defers } E' a' w3 rfl rfl rfl rfl rfl (XN (C:={ C with ds:=a'.defers }) hsim hmark hu3)
  cases e with
  | ex i=>exact hk.elim
  | pan s=>exact hk.elim
  | n =>
   obtain ⟨hb',h1,h2⟩:=hk;exact main hb' h1 (λC' E' a' w' q1 q2 q3 q4 q5 q6=>hK .n _ h2 C' E' a' w' q1 q2 q3 q4 q5 q6)
  | ret =>
   obtain ⟨hb',h1,h2⟩:=hk;exact main hb' h1 (λC' E' a' w' q1 q2 q3 q4 q5 q6=>hK .ret _ h2 C' E' a' w' q1 q2 q3 q4 q5 q6)
 | .rcv ops cx b,C,m,code,σ,K,E,a,w,hm,hrd,hc,h,hS,hK=>by
  unfold UU at hc;split at hc
  case h_2=>cases hc
  rename_i id os cy;simp only [Bool.and_eq_true] at hc;obtain ⟨⟨hc1,hc2⟩,hc3⟩:=hc;split at hc2
  case h_2=>cases hc2
  rename_i o ho;have hos:os.toList=os.toList.take ops.length ++ [o]:=by rw [<- ho,List.take_append_drop]
  refine ZbW (Xr ?_);rw [hos,<- hrd];refine Zhf (C:=C) (Q:=Exit.then (wpX C.rd P cy (Yn P fn R')) (Yn P fn R')) (os2:=[o]) Za6 (K:=Zbv (fxS (λσ K=>Zxp P (λn=>fx P n b) (rK P K) (rdG none σ.fr cx) σ) K)) (λσ0 E1 a1 w1 hk0 hs0=>?_)
   (λs σ' E' a' w' y hk hs hy=>VD hK (.pan s) (W7 σ') hk E' a' w' (YV hs) y (by rw [ZdV,Zcj];exact hy)) ops _ hc1 σ E a w h hS
  have hs:=YV hs0;simp only [Zbv,fxS] at hk0;generalize W7 σ0 = σ1 at hs hk0;obtain ⟨ms,d1,d2,d3⟩:=hs.df;unfold Zxp at hk0;split at hk0
  case h_2=>exact hk0.elim
  rename_i g caps hcl;have hRx:=Ym (Zs hs.hs) hs.fr (g:=none) trivial cx;rw [hcl] at hRx;simp only [R] at hRx;obtain ⟨cs,k1,k2⟩:=hRx;have hmn:C.m0<=σ1.n:=by
   rcases Nat.lt_or_ge σ1.n C.m0 with q | q
   . exact absurd (hs.hs.pin σ1.n q).1 (Nat.lt_irrefl _)
   . exact q
  unfold ZqW at hc2;split at hc2
  case h_2=>cases hc2
  rename_i cc hop hdst hgd;simp only [Bool.and_eq_true] at hc2;obtain ⟨e1,e2⟩:=hc2;split at e1
  case h_2=>cases e1
  rename_i y hcal;have hca:cc.args = #[]:=by simpa using e2
  rw [hrd];simp only [Vw,Region.wanted,hgd];simp only [if_true];have hrun:(o.semAt none a1.eval).run P w1 = .ok (.defer { target:=.fn (.func g) cs,args:=#[] }) w1:=by
   rw [Oper.semAt_none];obtain ⟨dst',op',ty',pos,after,guard⟩:=o;simp only at hop;subst hop;simp [execOp,resolve,hcal,hca,Ze e1 a1,k1,Deferred.ofValue,Sem.run_bind,Sem.run_pure]
  show o.wpq none P a1 w1 _ _;unfold Oper.wpq;rw [hrun];simp only [Oper.uponX,hdst];show Exit.then _ _ .normal _ w1;simp only [Exit.then];show wpX none P cy (Yn P fn R') { a1 with defers:=_ :: a1.defers } w1;refine UH b _ σ1.n cy σ1 (rK P K g caps) E1 _ w1 ⟨Nat.le_refl _,λk b ho=>?_⟩ rfl hc3 hk0 (Zhv hs _) (λe σ' hk C2 E' a' w' c1 c2 c3 c4 c5 hs'=>?_)
  . rcases Classical.em (ltn σ1.n k) with hk | hk
    . exact hk
    . have ho':occ E1 k (lkh k σ1.hp) b:=ho;rw [hs.hs.kn k hk] at ho';exact ho'.elim
  have hpin:∀ j,j < σ1.n->j < σ'.n/\Ele E1 E' j j:=λj hj=>by
   have:=hs'.hs.pin j (by rw [c5];exact hj);rw [c4] at this;exact this
  have hstC:YF w1 w' (okS C E1 σ1.hp) (okS C2 E' σ'.hp):=λb hb q=>by
   have hlt:b < w1.heap.size:=by rcases q with ⟨cells,T,fz,hcell⟩ | ⟨es,c,hcell⟩<;>exact (Array.getElem?_eq_some_iff.1 hcell).1
   refine ⟨⟨.inl (by rw [c2];exact hb),λj ho=>?_⟩,?_⟩
   . rcases hs'.hs.lo j b ho with q | q
     . rw [c1] at q;exact absurd hlt (Nat.not_lt.2 q)
     . rw [c3] at q;exact hb.2 j q
   . have:=hs'.hs.kp.block b (by rw [c1];exact hlt) (λj q=>by rw [c3] at q;exact hb.2 j q);rw [c1] at this;exact this
  have hcaps:RL w' E' (ltn σ'.n) (okS C2 E' σ'.hp) caps cs.toList:=ZC hstC (λj hj=>(hpin j hj).2) (λj hj=>(hpin j hj).1) _ _ k2;have fin:∀ (kk:St->Prop) (eK:Ex) (heK:eK = .n\/eK = .ret),(∀ σ,kk σ->K eK σ)->∀ hp' n' E3 w3,kk ⟨σ'.fr,hp',n',σ'.N,σ'.gs⟩->Sim C2 E3 ⟨σ'.fr,hp',n',σ'.N,σ'.gs⟩ a' w3->Lv P fn a'.tmps R' a1.defers .returning w3:=λkk eK heK hkk hp' n' E3 w3 hq hs2=>by
   rw [d1];have hsim:=Zdk hs hs2 c1 c2 c3 c4 c5 hmn;have hmark:∀ m ∈ ms,C.w0.heap.size<=m/\okS C E3 hp' m/\w3.heap[m]? = some (.deferred (some [])):=λm hm=>by
    obtain ⟨p1,p2,p3⟩:=d3 m hm;have hlt':m < w1.heap.size:=(Array.getElem?_eq_some_iff.1 p3).1;have hnp:∀ k,¬ C2.pass k m:=λk hk=>by rw [c3] at hk;exact p2.2 k hk
    refine ⟨p1,⟨p2.1,λk ho=>?_⟩,?_⟩
    . rcases hs2.hs.lo k m ho with g | g
      . rw [c1] at g;exact absurd hlt' (Nat.not_lt.2 g)
      . exact hnp k g
    . have:=hs2.hs.kp.block m (by rw [c1];exact hlt') hnp;rw [c1] at this;rw [this];exact p3
   refine Xe ms _ _ (by simp) d2.1 (λm hm=>(hmark m hm).2.2) λw4 hu4=>?_;rcases heK with rfl | rfl
   . exact hK .n _ (hkk _ hq) { C with ds:=a'.defers } E3 a' w4 rfl rfl rfl rfl rfl (XN (C:={ C with ds:=a'.defers }) hsim hmark hu4)
   . exact hK .ret _ (hkk _ hq) { C with ds:=a'.defers } E3 a' w4 rfl rfl rfl rfl rfl (XN (C:={ C with ds:=a'.defers }) hsim hmark hu4)
  have hm2:C2.m0<=σ'.n:=by
   rw [c5];rcases Nat.lt_or_ge σ'.n σ1.n with q | q
   . exact absurd (hpin σ'.n q).1 (Nat.lt_irrefl _)
   . exact q
  have main:∀ (s:SV) (v:Value) (u u':FrameMode) (eK:Ex),(eK = .n\/eK = .ret)->R w' E' (ltn σ'.n) (okS C2 E' σ'.hp) s v->ZAb v u u'->(∃ t l c N,RcF P g t l c N/\rcR P t l c N caps s σ' (K eK)) ->
   Lv P fn a'.tmps R' ({ target:=.fn (.func g) cs,args:=#[] } :: a1.defers) u w':=λs v u u' eK heK hv hu hex=>by
   obtain ⟨t,l,c,N,hF,hrun⟩:=hex;have hset:u≠.run/\settle u' = .returning:=by
    rcases hu with ⟨rfl,rfl,rfl⟩ | ⟨rfl,rfl⟩
    . exact ⟨by simp,rfl⟩
    . exact ⟨by simp,rfl⟩
   refine ⟨hset.1,.inr (.inr ⟨.func g,cs,g,cs,rfl,by simp [invoke,YN hF.bd],?_⟩)⟩
   have hcalls:=Zyy hF hs' hm2 hcaps hv hrun hu (R':=λe u'' w''=>match e with
    | .returned _=>Lv P fn a'.tmps R' a1.defers (settle u'') w''
    | .panicked chain=>Lv P fn a'.tmps R' a1.defers (raised u'' chain) w''
    | .outgrown=>R' .outgrown w'') (λhp' n' E3 w3 hq hs3=>by
    show Lv P fn a'.tmps R' a1.defers (settle u') w3;rw [hset.2]
    exact fin (K eK) eK heK (λ_ h=>h) hp' n' E3 w3 hq hs3)
   rw [show cs.toList.toArray=cs from rfl] at hcalls;intro c₀ cs0 hc0;obtain ⟨e2,u2,w2,fr2,q1,q2,q3,q4⟩:=hcalls c₀ cs0 hc0;refine ⟨e2,u2,w2,fr2,?_,q2,q3,q4⟩;cases e2<;>exact q1
  cases e with
  | ex i=>exact hk.elim
  | n=>exact main _ _ _ _ .n (.inl rfl) (by simp only [R]) (.inl ⟨rfl,rfl,rfl⟩) hk
  | ret=>exact main _ _ _ _ .ret (.inr rfl) (by simp only [R]) (.inl ⟨rfl,rfl,rfl⟩) hk
  | pan s=>intro y hy;exact main s y _ _ .ret (.inr rfl) hy (.inr ⟨rfl,rfl⟩) hk
theorem Zdm {f:FuncId} {fn:Func} {code:Code} {fb:FB} {args:List SV} {N n0 m:Nat} {hp0:List (Nat × HB)} {C:Cx} {E:Env} {w:World} {vs:List Value} {K:Ex->St->Prop} {R':Ending->World->Prop}
 (hf:P.funcs[f]? = some fn) (hb:fn.body=some code) (hc:UU P fb code=true) (hN:fn.ntmps=N) (hA:args.length<=N) (hds:C.ds=[]) (hrd:C.rd=none) (hm:MC C m)
 (hH:HSim C E hp0 (ltn n0) w) (hR:RL w E (ltn n0) (okS C E hp0) args vs) (h:fx P m fb ⟨YD 0 args,hp0,n0,N,[]⟩ K)
 (hK:∀ e σ,K e σ->∀ C' E a w',C'.w0=C.w0->C'.okp=C.okp->C'.pass=C.pass->C'.e0=C.e0->C'.m0=C.m0->Sim C' E σ a w'->match e with
  | .n | .ret=>∃ v,(results fn a.tmps).run P w' = .ok v w'/\R' (.returned v) w'
  | .ex _=>False
  | .pan s=>∀ y,R w' E (ltn σ.n) (okS C' E σ.hp) s y->R' (.panicked [{ v:=y,recovered:=false }]) w'):Calls P f vs.toArray w R':=by
 have hlen:=ZE hR;have hng:∀ t j b s,lk t (YD 0 args)≠.gd j b s:=by
  intro t j b s ht;simp only [Vg,Nat.zero_le,if_true,Nat.sub_zero] at ht;by_cases htl:t < args.length
  . have e1:args.getD t .any=args[t]:=by simp [htl]
    obtain ⟨y,h1,h2⟩:=WE hR (List.getElem?_eq_getElem htl);rw [e1] at ht;rw [ht] at h2;simp only [R] at h2
  . have e1:args.getD t .any = .any:=by simp [List.getElem?_eq_none (Nat.le_of_not_lt htl)]
    rw [e1] at ht;cases ht
 have hS:Sim C E ⟨YD 0 args,hp0,n0,N,[]⟩ { tmps:=vs.toArray ++ Array.replicate (fn.ntmps - vs.toArray.size) undef,defers:=[] } w:=by
  refine ⟨λt=>?_,by simp [hN];omega,by rw [<- hds];exact Uh,λt j b s ht=>absurd ht (hng t j b s),hH⟩;have hng:=hng t;have hFR:R w E (ltn n0) (okS C E hp0) (lk t (YD 0 args)) ((vs.toArray ++ Array.replicate (fn.ntmps - vs.toArray.size) undef).getD t undef):=by
   simp only [Vg,Nat.zero_le,if_true,Nat.sub_zero];by_cases ht:t < args.length
   . have e1:args.getD t .any=args[t]:=by simp [ht]
     obtain ⟨y,h1,h2⟩:=WE hR (List.getElem?_eq_getElem ht);have e2:(vs.toArray ++ Array.replicate (fn.ntmps - vs.toArray.size) undef).getD t undef=y:=by
      have:t < vs.length:=by omega
      have h1':=(List.getElem?_eq_some_iff.1 h1).2;simp [Array.getElem?_append,this,h1']
     rw [e1,e2];exact h2
   . have e1:args.getD t .any = .any:=by simp [List.getElem?_eq_none (Nat.le_of_not_lt ht)]
     rw [e1];simp only [R]
  simp only;cases hq:lk t (YD 0 args)<;>rw [hq] at hFR hng<;>first | exact hFR | exact absurd rfl (hng _ _ _)
 refine Vc hf hb ?_;refine UH fb C m code _ K E _ w hm hrd hc h hS (λe σ hk C' E a w' c1 c2 c3 c4 c5 hs=>?_);have key:=hK e σ hk C' E a w' c1 c2 c3 c4 c5 hs;rw [hds];cases e with
 | ex i=>exact key
 | n=>exact key
 | ret=>exact key
 | pan s=>exact key
theorem ZgF {f:FuncId} {fn:Func} {code:Code} {fb:FB} {args:List SV} {rs:List RV} {N n0:Nat} {hp0:List (Nat × HB)} {Zw:Ot->Prop} (hf:P.funcs[f]? = some fn) (hb:fn.body=some code) (hc:UU P fb code=true)
 (hr:YQ P rs fn.results.toList=true) (hN:fn.ntmps=N) (hA:args.length<=N) (h:fx P n0 fb ⟨YD 0 args,hp0,n0,N,[]⟩ (Xs rs Zw)):CtY P Y0 f hp0 n0 args Zw:=by
 intro C E w vs d1 d2 d3 d4 d5 d6 hY hH hR;refine Zdm hf hb hc hN hA d3 d2 ⟨Nat.le_of_eq d5,d6⟩ hH hR h λe σ hk C' E' a w' c1 c2 c3 c4 c5 hs=>?_;obtain ⟨g1,g2⟩:=ZdM hs.hs c1 c2 c3 c4 c5;have hend:Zrr Zw σ.hp σ.n (rvE (Zdd σ rs))->∃ v,(results fn a.tmps).run P w' = .ok v w'/\∃ o E' y,Zw o/\HSim C E' o.hp (ltn o.n) w'/\R w' E' (ltn o.n) (okS C E' o.hp) o.res y/\Ending.returned v=ZsS o.pn y:=λhrr=>by
  cases hq:rvE (Zdd σ rs) with
  | none=>rw [hq] at hrr;exact hrr.elim
  | some s =>
   rw [hq] at hrr;obtain ⟨v,h1,h2⟩:=Zae (P:=P) (fn:=fn) (a:=a) (w:=w') (E:=E') (n:=ltn σ.n) (ok:=okS C' E' σ.hp) hq λl hl=>ZdT hs rs _ l hr hl;rw [g2] at h2;exact ⟨v,h1,_,E',v,hrr,g1,h2,rfl⟩
 cases e with
 | ex i=>exact hk.elim
 | n=>exact hend hk
 | ret=>exact hend hk
 | pan s=>intro y hy;rw [g2] at hy;exact ⟨_,E',y,hk,g1,hy,rfl⟩
theorem Zfj {f:FuncId} {fn:Func} {code:Code} {fb:FB} {args:List SV} {rs:List RV} {N n0:Nat} {hp0:List (Nat × HB)} {Zw:Ot->Prop} (hf:P.funcs[f]? = some fn) (hb:fn.body=some code) (hnm:ZV P f=true) (hc:UU P fb code=true)
 (hr:YQ P rs fn.results.toList=true) (hN:fn.ntmps=N) (hA:args.length<=N) (hh:hpb n0 hp0) (hx:∀ o,Zw o->KX o.res/\KXP o.hp) (h:fx P n0 fb ⟨YD 0 args,hp0,n0,N,[]⟩ (Xs rs λo=>∃ o',Zw o'/\XV n0 o o')):CtM P f hp0 n0 args Zw :=
 ⟨hnm,hh,hx,(ZgF hf hb hc hr hN hA h).mono λ_ h=>h⟩
end
end Go.Sx
