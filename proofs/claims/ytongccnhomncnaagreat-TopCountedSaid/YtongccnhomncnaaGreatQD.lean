/- Walks and plain laws that lead to the given statement, part 4 of 10. -/
import Derived.Test.YtongccnhomncnaaGreatQC
import Derived.MapKept
import Derived.WideKeyRuns
import Derived.Recover
set_option linter.all false
open Nat renaming beq_refl->nbr
namespace Go.Sx
open Go Go.RowKit
variable {Y:Hd}
section
variable (P:Program) (m:Nat) (σ : St) (K:Ex->St->Prop) (L:RK)
theorem ZzV:rx P Y [] σ L=L .n σ:=rfl
theorem ZvK (io:Ins) (r:List Ins):rx P Y (io :: r) σ L=st1 P Y io σ (rx P Y r) L:=rfl
theorem ZBh (ops:List Ins):sx P Y m (.reg ops) σ K=rx P Y ops σ (Zdx K):=rfl
theorem Zuj (ord:List Nat) (p:Ph) (ps:List Ph):sx P Y m (.regs ord p ps) σ K=phx P Y p ps σ (Zdx K):=rfl
theorem phx_1 (vs:List VI) (nA nB:Nat) (rest:List Ins):phx P Y ⟨vs,nA,nB,rest⟩ [] σ L=gs0 σ.gs (rxv P Y (Zds σ.hp (rx P Y rest)) vs σ L):=rfl
theorem phx_2 (vs:List VI) (nA nB:Nat) (rest:List Ins) (q:Ph) (ps:List Ph):phx P Y ⟨vs,nA,nB,rest⟩ (q :: ps) σ L=gs0 σ.gs (rxv P Y (Zds σ.hp (rx P Y rest)) vs σ (phK (phx P Y q ps) L)):=rfl
theorem phK_n (f:St->RK->Prop):phK f L .n σ = f σ L:=rfl
theorem Zwh (ord:List Nat) (vs:List VI) (nA nB:Nat) (rest:List Ins):sx P Y m (.regd ord vs nA nB rest) σ K=gs0 σ.gs (rxv P Y (Zds σ.hp (rx P Y rest)) vs σ (Zdx K)):=rfl
theorem Zvm (r:KT):rxv P Y r [] σ L=r σ L:=rfl
theorem ZBw (r:KT) (io:Ins) (l:List VI):rxv P Y r (.op io :: l) σ L=st1 P Y io σ (rxv P Y r l) L:=rfl
theorem Zrj (r:KT) (x:X) (l:List VI):rxv P Y r (.hide x :: l) σ L=Zew (rdG none σ.fr x) σ (rxv P Y r l) L:=rfl
theorem Zos (hp:List (Nat × HB)) (r:KT):Zds hp r σ L=r ⟨σ.fr,hp,σ.n,σ.N,σ.gs⟩ L:=rfl
theorem ZtI (k o:Nat) (r:KT):Zew (.p k o) σ r L=r ⟨σ.fr,(k,.gone) :: σ.hp,σ.n,σ.N,σ.gs⟩ L:=rfl
theorem ZnE (k v:Nat) (r:KT):Zew (.mr k v) σ r L=r ⟨σ.fr,(k,.gone) :: σ.hp,σ.n,σ.N,σ.gs⟩ L:=rfl
theorem Zr9 (k v m i o:Nat) (r:KT):Zew (.pr k v m i o) σ r L=r ⟨σ.fr,(k,.gone) :: σ.hp,σ.n,σ.N,σ.gs⟩ L:=rfl
theorem Zox (k v m i o:Nat) (r:KT):Zew (.ms k v m i o) σ r L=r ⟨σ.fr,(k,.gone) :: σ.hp,σ.n,σ.N,σ.gs⟩ L:=rfl
theorem Zwe (p:Prop):gs0 [] p=p:=rfl
theorem Zzt (a b:SC):sx P Y m (.seq a b) σ K=sx P Y m a σ (ZvR (sx P Y m b) K):=rfl
theorem Zwm (c:X) (a b:SC):sx P Y m (.cond c a b) σ K=ZBB (rdG none σ.fr c) (sx P Y m a) (sx P Y m b) σ K:=rfl
theorem Zrz (id:Nat) (c:SC):sx P Y m (.block id c) σ K=sx P Y m c σ (Ztl id K):=rfl
theorem ZwI (c:SC):sx P Y m (.loop c) σ K=ZtZ m (sx P Y m c) σ K:=rfl
theorem Zx5 (id:Nat):sx P Y m (.exit id) σ K=K (.ex id) σ:=rfl
theorem Zz4:sx P Y m .ret σ K=K .ret σ:=rfl
theorem ZxH:sx P Y m .skip σ K=K .n σ:=rfl
theorem Zsx (c:SC):sx P Y m (.scope c) σ K=sx P Y m c σ K:=rfl
theorem sx_gh (c:SC):sx P Y m (.gh c) σ K=GH m (sx P Y m c) σ K:=rfl
theorem Zst (l:Nat):sx P Y m (.label l) σ K=K .n σ:=rfl
theorem ZwW (e:Ex):Zdx K e σ = K e (VW σ):=rfl
theorem ZAl (f:CT):ZvR f K .n σ = f σ K:=rfl
theorem ZtR (f:CT) (i:Nat):ZvR f K (.ex i) σ = K (.ex i) σ:=rfl
theorem ZrZ (f:CT) (s:SV):ZvR f K (.pan s) σ = K (.pan s) σ:=rfl
theorem Zr2 (f:CT):ZvR f K .ret σ = K .ret σ:=rfl
theorem Zz9 (id:Nat):Ztl id K .n σ = K .n σ:=rfl
theorem ZsR (id:Nat) (s:SV):Ztl id K (.pan s) σ = K (.pan s) σ:=rfl
theorem ZqC (id:Nat):Ztl id K .ret σ = K .ret σ:=rfl
theorem ZBs (rs:List RV) (res:SV):ZBD rs res .n σ = (rvR rs σ = some res):=rfl
theorem ZsH (rs:List RV) (res:SV):ZBD rs res .ret σ = (rvR rs σ = some res):=rfl
theorem ZAb {S:Type} (st:S->St) (rel:S->Prop) (μ : S->Nat) (s:S):ZoF m st rel μ s K .n σ = ∃ s',rel s'/\μ s' < μ s/\Ent m σ (st s'):=rfl
theorem Zwy {S:Type} (st:S->St) (rel:S->Prop) (μ : S->Nat) (s:S) (i:Nat):ZoF m st rel μ s K (.ex i) σ = K (.ex i) σ:=rfl
theorem Zo9 {S:Type} (st:S->St) (rel:S->Prop) (μ : S->Nat) (s:S) (x:SV):ZoF m st rel μ s K (.pan x) σ = K (.pan x) σ:=rfl
theorem Zqu {S:Type} (st:S->St) (rel:S->Prop) (μ : S->Nat) (s:S):ZoF m st rel μ s K .ret σ = K .ret σ:=rfl
end
section
variable {P:Program} {m:Nat} {σ : St} {K:Ex->St->Prop} {L:RK} {r:KT} {d:Option Nat} {g:Option (Nat × Bool)}
theorem br {b:Bool} {f h:CT} (h1:b=true->f σ K) (h2:b=false->h σ K):BR b f h σ K:=⟨h1,h2⟩
theorem Zr {b:Bool} {f h:CT} (hb:b=true) (h1:f σ K):BR b f h σ K:=⟨λ_=>h1,λe=>by rw [hb] at e;cases e⟩
theorem Zo {b:Bool} {f h:CT} (hb:b=false) (h1:h σ K):BR b f h σ K:=⟨λe=>by (rw [hb] at e;cases e),λ_=>h1⟩
theorem gb {b w:Bool} {j:Nat} {i:SI} (h:Yl P (some (j,w)) d i σ r L):GB P Y b j w d i σ r L:=.inr (.inr h)
theorem ZR {b w:Bool} {j:Nat} {i:SI} (hb:b=w) (h:stp P Y d i σ r L):GB P Y b j w d i σ r L:=.inl ⟨hb,h⟩
theorem YW {b w:Bool} {j:Nat} {i:SI} (hb:b≠w) (h:Zvn d σ r L):GB P Y b j w d i σ r L:=.inr (.inl ⟨hb,h⟩)
theorem call {f:FuncId} {args:List SV} {res:SV} (h:Ct P f args res) (hk:Yq d res g σ r L):Zyz P g f args d σ r L:=⟨res,.inl (Zx.2 λ_=>h),hk⟩
theorem Vi {f:FuncId} {args:List SV} {res:SV} (hf:FLT res) (h:Ct P f (Zb9 (vw4 σ.hp) args) res) (hk:Yq d res g σ r L):Zyz P g f args d σ r L:=⟨res,.inr ⟨hf,Zx.2 λ_=>h⟩,hk⟩
theorem ZvB {b:BinOp} {k:IntKind} {x y:Int} (h:y≠0) (hk:Yq d (.v (.int k (Zzq b k x y))) g σ r L):DIV g b k x y d σ r L:=⟨Zx.2 λ_=>h,hk⟩
theorem ixs {xs:List (List SV)} {i:Int} (n:Nat) (row:List SV) (hi:i=(n:Int)) (hr:xs[n]? = some row) (hk:Yq d (.ps row 0) g σ r L):IXS g xs i d σ r L:=⟨row,Zx.2 λ_=>⟨n,hi,hr⟩,hk⟩
theorem Zp {α : Type} {l:List α} {f:α->List SV} {i:Int} (n:Nat) (hn:n < l.length) (hi:i=(n:Int)) (hk:Yq d (.ps (f l[n]) 0) g σ r L):IXS g (l.map f) i d σ r L :=
 ixs n _ hi (by simp [hn]) hk
theorem ixa {len:Nat} {i:Int} {F:Nat->Option SV} (n:Nat) (hi:i=(n:Int)) (hn:n < len) (hk:Wv (F n) d g σ r L):IXA g len i F d σ r L:=⟨n,Zx.2 λ_=>⟨hi,hn⟩,hk⟩
theorem loop {f:CT} {S:Type} (st:S->St) (rel:S->Prop) (μ : S->Nat) (s:S) (h0:rel s) (he:Ent m σ (st s)) (hb:∀ s,rel s->f (st s) (ZoF m st rel μ s K)):ZtZ m f σ K :=
 .inr ⟨S,st,rel,μ,⟨s,h0,he⟩,hb⟩
theorem ZY {f:CT} (n:Nat) (h:Zyt f K n σ):ZtZ m f σ K:=.inl ⟨n,h⟩
theorem Zb {f:CT} (n:Nat):Zyt f K (n+1) σ = f σ (Zyu (Zyt f K n) K):=rfl
theorem ZAv (p:St->Prop):Zyu p K .n σ = p σ:=rfl
theorem Zyh (p:St->Prop) (i:Nat):Zyu p K (.ex i) σ = K (.ex i) σ:=rfl
theorem ZsG (p:St->Prop) (s:SV):Zyu p K (.pan s) σ = K (.pan s) σ:=rfl
theorem Zp3 (p:St->Prop):Zyu p K .ret σ = K .ret σ:=rfl
def ZyP:List (Nat × SV)->List (Nat × SV)->Prop
 | [],_=>True
 | (t,s) :: r,fr=>lk t fr=s/\ZyP r fr
def ZyQ:List (Nat × SV)->Bool
 | []=>true
 | (_,.gd _ _ _) :: _=>false
 | _ :: r=>ZyQ r
theorem Zkq:∀ {r fr:List (Nat × SV)},ZyP r fr->∀ t,lk t r = .any\/lk t r=lk t fr
 | [],_,_,t=>.inl rfl
 | (u,s) :: r,fr,h,t=>by
  rw [ZI];by_cases ht:t=u
  . subst ht;rw [if_pos rfl];exact .inr h.1.symm
  . rw [if_neg ht];exact Zkq h.2 t
theorem Ze4:∀ {r:List (Nat × SV)},ZyQ r=true->∀ t j b s,lk t r≠.gd j b s
 | [],_,t,j,b,s=>by simp [lk]
 | (u,s') :: r,h,t,j,b,s=>by
  rw [ZI];by_cases ht:t=u
  . rw [if_pos ht];rintro rfl;simp [ZyQ] at h
  . rw [if_neg ht];exact Ze4 (by cases s'<;>first | exact h | simp [ZyQ] at h) t j b s
end
section
variable {w:World} {E:Env} {ok ok':Nat->Prop} {ρ : Nat->Nat} {n':Nat} {n:Nat->Prop}
theorem ent {σ σ':St} (ρ : Nat->Nat) (hf:mtF ρ σ'.n [] σ'.fr σ.fr) (hp:mtP ρ σ'.hp σ.hp σ'.n σ'.n) (hb:hpb σ'.n σ'.hp) (hρ : ∀ i,i < σ'.n->∀ j,j < σ'.n->ρ i = ρ j->i=j) (hN:Nat.beq σ'.N σ.N=true) {m0:Nat} (hm:Nat.ble m0 σ'.n=true) (hfix:∀ i,i < m0->ρ i=i):Ent m0 σ σ':=by
 intro C E a w hm0 h;have hN:=Nat.eq_of_beq_eq_true hN;have hgone:=Zdj hb;have hH:=Zj0 hp;have hocc:∀ k b,occ (rnE E ρ) k (lkh k σ'.hp) b->k < σ'.n/\occ E (ρ k) (lkh (ρ k) σ.hp) b:=λk b ho=>by
  by_cases hk:k < σ'.n
  . refine ⟨hk,?_⟩;have:=hH k hk;cases h1:lkh k σ'.hp<;>rw [h1] at ho this
    . cases h2:lkh (ρ k) σ.hp<;>rw [h2] at this<;>simp only [mtH] at this
      exact ho
    . simp only [mtH] at this;rw [this.1];exact ho
    . simp only [mtH] at this;rw [this];exact ho
    . simp only [mtH] at this;rw [this.1];exact ho
    . simp only [mtH] at this;rw [this.2];exact ho
    . simp only [mtH] at this;rw [this];exact ho
    . simp only [mtH] at this;rw [this];exact ho
    . simp only [mtH] at this;rw [this.1];exact ho
    . exact ho.elim
  . rw [hgone k hk] at ho;exact ho.elim
 have hst:ZG w w (okS C E σ.hp) (okS C (rnE E ρ) σ'.hp):=λb hb _=>⟨⟨hb.1,λk ho=>hb.2 _ (hocc k b ho).2⟩,rfl⟩;refine ⟨rnE E ρ,λt=>?_,by rw [hN];exact h.sz,XZ hst h.df,λt j b s ht=>?_,⟨hgone,λk=>?_,λk k' b h1 h2=>?_,λk b h1=>?_,h.hs.kp,λk hk=>?_⟩⟩
 . rcases Zks hf t rfl with h1 | h1
   . rw [h1];exact trivial
   . have:=mtS_R hst h1 (h.fr t);have hng:=Zdk h1;cases hs:lk t σ'.fr<;>rw [hs] at this hng<;>first | exact this | exact absurd rfl (hng _ _ _)
 . rcases Zks hf t rfl with h1 | h1
   . rw [h1] at ht;cases ht
   . exact absurd ht (Zdk h1 j b s)
 . by_cases hk:k < σ'.n
   . have:=hH k hk;have hbk:=h.hs.bk (ρ k);cases h1:lkh k σ'.hp<;>rw [h1] at this
     . cases h2:lkh (ρ k) σ.hp<;>rw [h2] at this hbk<;>simp only [mtH] at this
       obtain ⟨rfl,this⟩:=this;simp only [Ya] at hbk ⊢;obtain ⟨cs,k1,k2⟩:=hbk;exact ⟨cs,k1,ZbA hst _ _ _ this k2⟩
     . simp only [mtH] at this;rw [this.1] at hbk;simp only [Ya] at hbk ⊢;obtain ⟨hi0,hbk⟩:=hbk;refine ⟨hi0,?_⟩;rcases hbk with q | ⟨b,cap,cs,q1,q2,q3,q4,q5,q6,q7⟩
       . exact .inl q
       . exact .inr ⟨b,cap,cs,q1,q2,q3,q4,q5,q6,ZE hst (λ_ h=>Ele.rfl) (λ_ h=>h.elim) _ _ (Zb6 (E':=rnE E ρ) (n':=λ_=>False) _ _ (VN this.2) q7)⟩
     . rename_i φ;simp only [mtH] at this;rw [this] at hbk;simp only [Ya] at hbk ⊢;obtain ⟨o,k1,k2⟩:=hbk;exact ⟨o,k1,φ.mono _ _ _ _ _ hst k2⟩
     . simp only [mtH] at this;obtain ⟨this,hkf⟩:=this;rw [this] at hbk;simp only [Ya] at hbk ⊢;obtain ⟨ys,k1,k2⟩:=hbk;exact ⟨ys,k1,Zrp hst _ _ hkf k2⟩
     . simp only [mtH] at this;rw [this.2] at hbk;simp only [Ya] at hbk ⊢;exact ⟨this.1,hbk.2⟩
     . simp only [mtH] at this;rw [this] at hbk;simp only [Ya] at hbk ⊢;exact hbk
     . simp only [mtH] at this;rw [this] at hbk;simp only [Ya] at hbk ⊢;exact hbk
     . simp only [mtH] at this;obtain ⟨this,k1,k2⟩:=this;rw [this] at hbk;exact Ua (E:=E) (k:=ρ k) (E':=rnE E ρ) hst.c (λ_ _=>rfl) rfl hk k1 k2 hbk
     . trivial
   . rw [hgone k hk];trivial
 . have e1:=hocc k b h1;have e2:=hocc k' b h2;exact hρ k e1.1 k' e2.1 (h.hs.dj _ _ b e1.2 e2.2)
 . obtain ⟨e1,e2⟩:=hocc k b h1;rcases h.hs.lo _ b e2 with q | q
   . exact .inl q
   . have q1:=Nat.lt_of_lt_of_le (hm0.2 _ _ q) hm0.1;have q2:ρ k=k:=hρ _ (Nat.lt_of_lt_of_le q1 (Nat.le_of_ble_eq_true hm)) k e1 (hfix _ q1);rw [q2] at q;exact .inr q
 . have hk':k < m0:=Nat.lt_of_lt_of_le hk hm0.1;obtain ⟨p1,p2,p3,p4⟩:=h.hs.pin k hk;exact ⟨Nat.lt_of_lt_of_le hk' (Nat.le_of_ble_eq_true hm),by simp only [rnE,hfix k hk'];exact p2,by simp only [rnE,hfix k hk'];exact p3,by simp only [rnE,hfix k hk'];exact p4⟩
end
theorem ZoD {ρ : Nat->Nat} {n':Nat}:∀ {s:SV},KF s->mtS ρ n' s s:=by
 intro s;exact SV.rec (motive_1:=λs=>KF s->mtS ρ n' s s) (motive_2:=λl=>KFL l->mtL ρ n' l l) (motive_3:=λ_=>True)
  (λx _=>by simp [mtS]) (λk o h=>by simp [KF] at h) (λl ih h=>by simp only [KF] at h;simp only [mtS,ZyL,mtO];exact ih h)
  (λc m xs _ h=>by simp only [KF] at h;simp [mtS,h]) (λk v h=>by simp [KF] at h) (λk v m i o h=>by simp [KF] at h) (λk v m i o h=>by simp [KF] at h)
  (λl o _ h=>by simp only [KF] at h;simp [mtS,h]) (λf l ih h=>by simp only [KF] at h;simp only [mtS,clL,nbr,cond_true,mtO];exact ih h)
  (λl ih h=>by simp only [KF] at h;simp only [mtS,ZyK,mtO];exact ih h) (λk h=>by simp [KF] at h) (λk h=>by simp [KF] at h) (λT s ih h=>by simp only [KF] at h;simp only [mtS,mtI];exact ⟨trivial,ih h⟩) (λφ _=>by simp [mtS]) (λj w s _ h=>by simp [KF] at h) (λ_=>by simp [mtS])
  (λ_=>by simp [mtL]) (λs l h1 h2 h=>by simp only [KFL] at h;simp only [mtL,mtB];exact ⟨h1 h.1,h2 h.2⟩)
  trivial (λ_ _ _ _=>trivial) s
theorem Zc {ρ : Nat->Nat} {n':Nat}:∀ {l:List SV},KFL l->mtL ρ n' l l
 | [],_=>by simp [mtL]
 | s :: l,h=>by simp only [mtL,mtB];exact ⟨ZoD h.1,Zc h.2⟩
abbrev I (n:Int):SV:=.v (.int .i64 n)
abbrev B (b:Bool):SV:=.v (.bool b)
theorem Zd:∀ {xs ys:List (List SV)},KFR (xs ++ ys)↔KFR xs/\KFR ys
 | [],ys=>by simp [KFR]
 | x :: xs,ys=>by simp [KFR,Zd (xs:=xs) (ys:=ys),and_assoc]
theorem Za {α : Type} {f:α->List SV} {l:List α}:KFR (l.map f)↔∀ x ∈ l,KFL (f x):=by
 induction l with
 | nil=>simp [KFR]
 | cons x l ih=>simp [KFR,ih]
attribute [simp] Zd KFR KFL KF Zc mtO Nat.beq_refl
abbrev w64 (n:Int):Int:=IntKind.i64.wrap n
theorem Zg {n:Int} (h1:-9223372036854775808<=n) (h2:n<=9223372036854775807):IntKind.i64.wrap n=n:=IntWalk.i64_in n ⟨h1,h2⟩
def stO {S:Type} (σ : St) (ov:S->List (Nat × SV)) (hv:S->List (Nat × HB)) (s:S):St:=⟨ov s ++ σ.fr,hv s ++ σ.hp,σ.n,σ.N,[]⟩
theorem e_stO {S:Type} (fr:List (Nat × SV)) (hp:List (Nat × HB)) (n N:Nat) (gs:List Nat) (ov:S->List (Nat × SV)) (hv:S->List (Nat × HB)) (s:S):stO ⟨fr,hp,n,N,gs⟩ ov hv s=⟨ov s ++ fr,hv s ++ hp,n,N,[]⟩:=rfl
theorem YF {m:Nat} {f:CT} {σ : St} {K:Ex->St->Prop} {S:Type} (ov:S->List (Nat × SV)) (hv:S->List (Nat × HB)) (rel:S->Prop) (μ : S->Nat) (s0:S) (h0:rel s0) (he:Ent m σ (stO σ ov hv s0))
 (hb:∀ s,rel s->f (stO σ ov hv s) (ZoF m (stO σ ov hv) rel μ s K)):ZtZ m f σ K :=
 loop (stO σ ov hv) rel μ s0 h0 he hb
theorem Zfa {m:Nat} {f:CT} {σ σ1:St} {K:Ex->St->Prop} {S:Type} (hg:Ent m σ σ1) (ov:S->List (Nat × SV)) (hv:S->List (Nat × HB)) (rel:S->Prop) (μ : S->Nat) (s0:S) (h0:rel s0) (he:Ent m σ1 (stO σ1 ov hv s0))
 (hb:∀ s,rel s->f (stO σ1 ov hv s) (ZoF m (stO σ1 ov hv) rel μ s K)):ZtZ m f σ K :=
 loop (stO σ1 ov hv) rel μ s0 h0 (YI hg he) hb
theorem gh {m:Nat} {r:CT} {σ σ1:St} {K:Ex->St->Prop} (hg:Ent m σ σ1) (h:r σ1 K):GH m r σ K:=.inl ⟨σ1,hg,h⟩
theorem ZAJ {C:Cx} {E:Env} {hp:List (Nat × HB)} {n:Nat->Prop} {w:World} {m k v m':Nat} {xs:List (List SV)} {T:TypeId} (hmc:MC C m) (hm:m<=k) (h:HSim C E hp n w) (hk:lkh k hp = .row v m' xs T) :
 (xs=[]/\∃ a,E.hv k v = .slice a 0 0)\/∃ b cap,E.hv k v = .slice (some ⟨b,0,none⟩) xs.length cap/\xs.length<=cap/\cap≠0/\xs.length<=9223372036854775807/\RR w E n (okS C E ((k,.gone) :: hp)) b m' xs 0:=by
 have hb:=h.bk k;rw [hk] at hb;simp only [Ya] at hb;rcases hb with ⟨_,h1 | ⟨b,cap,cs,h1,h2,h3,⟨h4,h4'⟩,h5,h6,h7⟩⟩
 . exact .inl h1
 . have hoc:occ E k (lkh k hp) b:=by rw [hk];exact ⟨_,_,h1,h4'⟩
   have hok:okS C E ((k,.gone) :: hp) b:=by
    refine ⟨?_,λj ho=>?_⟩
    . rcases h.lo k b hoc with q | q
      . exact .inr q
      . have:=hmc.2 k b q;have:=hmc.1;omega
    . rw [Zs] at ho;split at ho
      . exact ho.elim
      . exact absurd (h.dj j k b ho hoc).symm (by omega)
   exact .inr ⟨b,cap,h1,h4,h4',h5,XS (cs:=cs) (ok:=okS C E hp) hok (λj c hj=>by rw [cell_of_row _ _ _ _ _ _ h2];simpa using hj) (Za0 h k).2 xs 0 h6 (by simpa using h7)⟩
theorem ZpB {m:Nat} {σ : St} (t k:Nat) (s:SV) (hg:σ.gs=[]) (hs:∀ j b u,s≠.gd j b u) (hR:∀ C E w y,MC C m->HSim C E σ.hp (ltn σ.n) w->R w E (ltn σ.n) (okS C E σ.hp) (lk t σ.fr) y->R w E (ltn σ.n) (okS C E ((k,.gone) :: σ.hp)) s y) :
 Ent m σ ⟨(t,s) :: σ.fr,(k,.gone) :: σ.hp,σ.n,σ.N,σ.gs⟩:=λC E a w hmc h=>by
 obtain ⟨g1,g2⟩:=Za0 h.hs k;have hR0:∀ u,R w E (ltn σ.n) (okS C E σ.hp) (lk u σ.fr) (a.tmps.getD u undef):=λu=>Zt6 (h.fr u) (λj b u' e=>by have:=h.gs u j b u' e;rw [hg] at this;simp at this);refine ⟨E,λu=>?_,h.sz,XZ g2 h.df,λu j b s' hu=>?_,g1⟩
 . rw [ZI];split
   . rename_i hu;subst hu;have:=hR C E w _ hmc h.hs (hR0 _);cases s<;>first | exact this | exact absurd rfl (hs _ _ _)
   . refine Xs g2 (λ_ _=>Ele.rfl) (λk hk=>hk) (λj b s hs=>?_) (h.fr u);have:=h.gs u j b s hs;rw [hg] at this;simp at this
 . rw [ZI] at hu;split at hu
   . exact absurd hu (hs _ _ _)
   . exact h.gs u j b s' hu
theorem Zdl {m:Nat} {σ : St} (t k v:Nat) {m':Nat} {xs:List (List SV)} {T:TypeId} (hm:Nat.ble m k=true) (hg:σ.gs=[]) (hl:lk t σ.fr = .mr k v) (hk:lkh k σ.hp = .row v m' xs T) :
 Ent m σ ⟨(t,.sl false m' xs) :: σ.fr,(k,.gone) :: σ.hp,σ.n,σ.N,σ.gs⟩ :=
 ZpB t k _ hg (λ_ _ _ e=>by cases e) λC E w y hmc hh hR=>by
  rw [hl] at hR;simp only [R] at hR ⊢;rcases ZAJ hmc (Nat.le_of_ble_eq_true hm) hh hk with ⟨h1,a0,h2⟩ | ⟨b,cap,h1,h4,h4',h5,h7⟩
  . exact ⟨a0,0,0,by rw [hR.2.2.1,h2],by simp [h1],⟨Nat.le_refl _,λh=>by cases h⟩,by simp [h1],.inl h1⟩
  . exact ⟨_,_,_,hR.2.2.1.trans h1,rfl,⟨h4,λh=>by cases h⟩,h5,.inr ⟨b,0,rfl,h7⟩⟩
theorem Ub {m:Nat} {b:Bool} {s s':SV} {hp hp':List (Nat × HB)} {n n':Nat} (h:Ent m ⟨[(0,s)],hp,n,1,[]⟩ ⟨[(0,s')],hp',n',1,[]⟩) (hg:∀ j b u,s'≠.gd j b u):Zbs m ⟨b,s,hp,n⟩ ⟨b,s',hp',n'⟩:=by
 refine ⟨rfl,λC E w y hm hH hR=>?_⟩;have hng:=Ux hR;have hS:Sim C E ⟨[(0,s)],hp,n,1,[]⟩ { tmps:=#[y],defers:=C.ds } w:=by
  refine ⟨λt=>?_,rfl,Zah,λt j b u ht=>?_,hH⟩
  . simp only [ZI];split
    . rename_i ht;subst ht;show FR w E (ltn n) _ _ s y;cases s<;>first | exact hR | exact absurd rfl (hng _ _ _)
    . exact trivial
  . simp only [ZI] at ht;split at ht
    . exact absurd ht (hng _ _ _)
    . cases ht
 obtain ⟨E',h'⟩:=h C E _ w hm hS;refine ⟨E',h'.hs,?_⟩;have:=h'.fr 0;exact Zt6 this (λj b u e=>hg j b u (by simpa [lk] using e))
theorem entO {m:Nat} {b:Bool} {s s':SV} {hp hp':List (Nat × HB)} {n n':Nat} (ρ : Nat->Nat) (hf:mtS ρ n' s' s) (hp0:mtP ρ hp' hp n' n') (hb:hpb n' hp') (hρ : ∀ i,i < n'->∀ j,j < n'->ρ i = ρ j->i=j) (hm:Nat.ble m n'=true) (hfix:∀ i,i < m->ρ i=i):Zbs m ⟨b,s,hp,n⟩ ⟨b,s',hp',n'⟩ :=
 Ub (ent ρ (show mtF ρ n' [] [(0,s')] [(0,s)] from ⟨hf,trivial⟩) hp0 hb hρ rfl hm hfix) (Zdk hf)
theorem ZT {m:Nat} {b:Bool} {s s':SV} {hp hp':List (Nat × HB)} {n n':Nat} (hf:mtS id n' s' s) (hp0:mtP id hp' hp n' n') (hb:hpb n' hp') (hm:Nat.ble m n'=true):Zbs m ⟨b,s,hp,n⟩ ⟨b,s',hp',n'⟩ :=
 entO id hf hp0 hb (λ_ _ _ _ h=>h) hm (λ_ _=>rfl)
theorem callm {P:Program} {f:FuncId} {args args0:List SV} {d:Option Nat} {σ : St} {r:KT} {K:RK} {hp0:List (Nat × HB)} {n0:Nat} {o:Ot} (ρ : Nat->Nat) (hc:CtM P f hp0 n0 args0 (· = o)) (h1:mtL ρ n0 args0 args) (h2:mtP ρ hp0 σ.hp n0 n0) (h3:ZBY ρ n0) (h4:∀ i,i < n0->ρ i < σ.n)
 (h5:cmK o.pn (rnS (exR ρ n0 σ.n) o.res) (hpM ρ n0 σ.n o σ.hp) (σ.n+(o.n - n0)) d σ r K):Zdr P f args d σ r K :=
 ⟨hp0,n0,args0,_,ρ,hc,h1,h2,h3,h4,λ_ e=>e ▸ h5⟩
def rho:List Nat->Nat->Nat
 | [],_=>0
 | a :: _,0=>a
 | _ :: l,k+1=>rho l k
theorem Uh:∀ (l:List Nat) (k:Nat) (h:k < l.length),rho l k=l[k]
 | a :: _,0,_=>rfl
 | _ :: l,k+1,h=>by simpa [rho] using Uh l k (by simpa using h)
theorem Zan {P:Program} {f:FuncId} {args args0:List SV} {d:Option Nat} {σ : St} {r:KT} {K:RK} {hp0:List (Nat × HB)} {n0:Nat} {o:Ot} (l:List Nat) (hc:CtM P f hp0 n0 args0 (· = o)) (hn:Nat.beq l.length n0=true) (hi:ZcQ l=true) (hl:Zag σ.n l=true)
 (h1:mtL (rho l) n0 args0 args) (h2:mtP (rho l) hp0 σ.hp n0 n0) (h5:cmK o.pn (rnS (exR (rho l) n0 σ.n) o.res) (hpM (rho l) n0 σ.n o σ.hp) (σ.n+(o.n - n0)) d σ r K):Zdr P f args d σ r K:=by
 have hn:=Nat.eq_of_beq_eq_true hn;refine callm (rho l) hc h1 h2 (λi hi' j hj e=>?_) (λi hi'=>?_) h5
 . rw [Uh l i (by omega),Uh l j (by omega)] at e;have hp:=List.pairwise_iff_getElem.1 (Wk hi);rcases Nat.lt_trichotomy i j with h | h | h
   . exact absurd e (hp i j _ _ h)
   . exact h
   . exact absurd e.symm (hp j i _ _ h)
 . rw [Uh l i (by omega)];exact Uq hl _ (List.getElem_mem _)
theorem Zj {m0:Nat} {σ σ':St} (hf:mtF id σ'.n [] σ'.fr σ.fr) (hp:mtP id σ'.hp σ.hp σ'.n σ'.n) (hb:hpb σ'.n σ'.hp) (hN:Nat.beq σ'.N σ.N=true) (hm:Nat.ble m0 σ'.n=true):Ent m0 σ σ':=ent id hf hp hb (λ_ _ _ _ h=>h) hN hm (λ_ _=>rfl)
theorem ZBj {fr:List (Nat × SV)} {j j':Nat} {w w' b:Bool} {p:Prop} (hl:lk j fr = .gd j' w' (.v (.bool b))) (h:b=w->p):ZfC (some (j,w)) fr p:=λhg=>h (by have:=(Zil hg hl).2;simpa using this)
theorem imp_v {fr:List (Nat × SV)} {j:Nat} {w b:Bool} {p:Prop} (hl:lk j fr = .v (.bool b)) (h:b=w->p):ZfC (some (j,w)) fr p:=λhg=>h (ZA4 hg hl)
theorem Ztd {xs:List (List SV)} {i:Int} {σ : St} {r:KT} {L:RK} {d:Option Nat} {j j':Nat} {w w' b:Bool} (n:Nat) (row:List SV) (hl:lk j σ.fr = .gd j' w' (.v (.bool b))) (h:b=w->i=(n:Int)/\xs[n]? = some row) (hk:Yq d (.ps row 0) (some (j,w)) σ r L) :
 IXS (some (j,w)) xs i d σ r L:=⟨row,ZBj hl λe=>⟨n,(h e).1,(h e).2⟩,hk⟩
theorem ZBX {g:Option (Nat × Bool)} {m b:Nat} {xs ys:List (List SV)} {d:Option Nat} {σ : St} {r:KT} {L:RK} (h:(xs.length+ys.length) * b<=140737488355328) (hk:Yq d (.sl false m (xs ++ ys)) g σ r L):APP g m b xs ys d σ r L:=⟨Zx.2 λ_=>h,hk⟩
theorem Uu {g:Option (Nat × Bool)} {k v m len:Nat} {i:Int} {d:Option Nat} {σ : St} {r:KT} {L:RK} (n:Nat) (hi:i=(n:Int)) (hn:n < len) (hk:Yq d (.pr k v m n 0) g σ r L):IXR g k v m len i d σ r L:=⟨n,Zx.2 λ_=>⟨hi,hn⟩,hk⟩
theorem ZgX {α : Type} {l:List α} {f:α->List SV} {g:Option (Nat × Bool)} {i o m:Nat} {ag:Bool} {d:Option Nat} {σ : St} {r:KT} {L:RK} (hn:i < l.length) (hk:Wv (Wa (f l[i]) o m ag) d g σ r L):LDR g (l.map f) i o m ag d σ r L:=⟨f l[i],Zx.2 λ_=>by simp [hn],hk⟩
theorem ZxJ {α : Type} {l:List α} {f:α->List SV} {j o k v m:Nat} {c:List SV} {T:TypeId} {σ : St} {r:KT} {L:RK} (y:α) (hn:j < l.length) (ho:o+c.length<=(f l[j]).length) (he:Zv (f l[j]) o c=f y)
 (h:r ⟨σ.fr,(k,.row v m ((l.set j y).map f) T) :: σ.hp,σ.n,σ.N,σ.gs⟩ L):STR v (l.map f) j o k m c T σ r L :=
 ⟨f l[j],by simp [hn],ho,by rw [he,<- List.map_set];exact h⟩
theorem Ztx {k v m len:Nat} {i:Int} {d:Option Nat} {σ : St} {r:KT} {L:RK} {j:Nat} {w b:Bool} (n:Nat) (hl:lk j σ.fr = .v (.bool b)) (h:b=w->i=(n:Int)/\n < len) (hk:Yq d (.pr k v m n 0) (some (j,w)) σ r L):IXR (some (j,w)) k v m len i d σ r L:=⟨n,imp_v hl h,hk⟩
theorem XI {r:List SV} (h:KFL r):∀ n,KFR (List.replicate n r)
 | 0=>trivial
 | n+1=>⟨h,XI h n⟩
theorem Yd {P:Program} {f:FuncId} {args args0:List SV} {d:Option Nat} {σ : St} {r:KT} {K:RK} {hp0:List (Nat × HB)} {n0:Nat} {ZO:Ot->Prop} (l:List Nat) (hc:CtM P f hp0 n0 args0 ZO) (hn:Nat.beq l.length n0=true) (hi:ZcQ l=true) (hl:Zag σ.n l=true)
 (h1:mtL (rho l) n0 args0 args) (h2:mtP (rho l) hp0 σ.hp n0 n0) (h5:∀ o,ZO o->cmK o.pn (rnS (exR (rho l) n0 σ.n) o.res) (hpM (rho l) n0 σ.n o σ.hp) (σ.n+(o.n - n0)) d σ r K):Zdr P f args d σ r K:=by
 have hn:=Nat.eq_of_beq_eq_true hn;refine ⟨hp0,n0,args0,ZO,rho l,hc,h1,h2,λi hi' j hj e=>?_,λi hi'=>?_,h5⟩
 . rw [Uh l i (by omega),Uh l j (by omega)] at e;have hp:=List.pairwise_iff_getElem.1 (Wk hi);rcases Nat.lt_trichotomy i j with h | h | h
   . exact absurd e (hp i j _ _ h)
   . exact h
   . exact absurd e.symm (hp j i _ _ h)
 . rw [Uh l i (by omega)];exact Uq hl _ (List.getElem_mem _)
theorem YO {P:Program} {d:Option Nat} {op:BinOp} {t t' ty u:Nat} {c x v:Value} {σ : St} {r:KT} {K:RK} (hl:lk u σ.fr = .v x) (hop:op = .and\/op = .shr) (hr:∀ w:World,(binOp op t x c).run P w = .ok v w) (hv:v.oneCell'=true) (hk:Yq d (.v v) none σ r K) :
 RAW P d (.binOp op t (.tmp u) (.const c) t') ty σ r K:=by
 intro o C E a w next Q h1 h2 h3 hs hn hq;have hx:a.eval (.tmp u)=x:=by
  have:=hs.fr u;rw [hl] at this;simp only [FR,R] at this;exact this
 have hrun:(execOp a.eval o).run P w = .ok (.value v) w:=by
  obtain ⟨dst,op',ty',pos,after,guard⟩:=o;simp only at h2;subst h2;have hc:a.eval (.const c)=c:=rfl;simp only [execOp,hx,hc];rcases hop with rfl | rfl<;>simp [Sem.run_bind,eqGuard,hr]
 refine Zy hrun (by simp) ?_;show next (a.put o.dst v) w;rcases UU hk with ⟨g1,g2⟩ | ⟨t,g1,g2,g3,g4,g5⟩
 . have hS:=hs;rw [h1,g1];exact hn _ E _ _ g2 hS
 . rw [h1,g1];exact hn _ E _ _ g5 (Xo hs (λb hb _=>⟨hb,rfl⟩) (λ_ _=>Ele.rfl) (Nat.le_refl _) hs.hs g2 g3 (λj b u e=>by rw [e] at g4;cases g4) (by simp only [R]))
theorem w64_0:IntKind.i64.wrap 0=0:=rfl
theorem w64_1:IntKind.i64.wrap 1=1:=rfl
theorem w64_2:IntKind.i64.wrap 2=2:=rfl
theorem w64_3:IntKind.i64.wrap 3=3:=rfl
theorem w64_4:IntKind.i64.wrap 4=4:=rfl
theorem w64_5:IntKind.i64.wrap 5=5:=rfl
theorem w64_6:IntKind.i64.wrap 6=6:=rfl
theorem UP {a b A B:Int} (h1:0<=a) (h2:a<=A) (h3:0<=b) (h4:b<=B):0<=a * b/\a * b<=A * B:=⟨Int.mul_nonneg h1 h3,Int.mul_le_mul h2 h4 h3 (by omega)⟩
def lkB (b:Bool) (s:SV) (t:Nat) (r:List (Nat × SV)):SV:=bif b then s else lk t r
def lkhB (b:Bool) (s:HB) (t:Nat) (r:List (Nat × HB)):HB:=bif b then s else lkh t r
def Zve (b:Bool) (t:Nat) (r:List Nat):Bool:=bif b then true else Xk t r
def blkE (b:Bool) (i:Nat) (K:Ex->St->Prop) (σ : St):Prop:=bif b then K .n σ else K (.ex i) σ
def ZtB (b:Bool) (s:SV):Option (List SV):=bif b then some [s] else none
def ZAg (c:Bool) (b:BinOp) (k:IntKind) (x y:Int):Option SV:=bif c then Zhi b k x y else none
def ZBy (b:Bool) (l:List SV) (o m:Nat):Option SV:=bif b then some (.agg ((l.drop o).take m)) else none
theorem lkB_t (s:SV) (t:Nat) (r:List (Nat × SV)):lkB true s t r=s:=rfl
theorem lkB_f (s:SV) (t:Nat) (r:List (Nat × SV)):lkB false s t r=lk t r:=rfl
theorem ZAO (s:HB) (t:Nat) (r:List (Nat × HB)):lkhB true s t r=s:=rfl
theorem Zzk (s:HB) (t:Nat) (r:List (Nat × HB)):lkhB false s t r=lkh t r:=rfl
theorem ZwP (t:Nat) (r:List Nat):Zve true t r=true:=rfl
theorem Zwl (t:Nat) (r:List Nat):Zve false t r=Xk t r:=rfl
theorem Zzd (i:Nat) (K:Ex->St->Prop) (σ : St):blkE true i K σ = K .n σ:=rfl
theorem ZAF (i:Nat) (K:Ex->St->Prop) (σ : St):blkE false i K σ = K (.ex i) σ:=rfl
theorem Zsb (s:SV):ZtB true s=some [s]:=rfl
theorem Zwt (b:BinOp) (k:IntKind) (x y:Int):ZAg true b k x y=Zhi b k x y:=rfl
theorem ZwC (l:List SV) (o m:Nat):ZBy true l o m=some (.agg ((l.drop o).take m)):=rfl
def mmE (k:IntKind):Option Int->Option SV
 | some z=>some (.v (.int k z))
 | none=>none
def chkB (b:Bool) (l:List SV) (ls:List (List SV)):Option (List (List SV)):=bif b then some (l :: ls) else none
theorem ZzB (l:List SV) (ls:List (List SV)):chkB true l ls=some (l :: ls):=rfl
theorem ZAR (b:Bool):X9 true b=b:=rfl
theorem ZzY (b:Bool):X9 false b=false:=rfl
def vwP (g:SV->SV) (o:Nat):HB->SV
 | .cells l _=>.ps (Zb9 g l) o
 | _=>.any
def vwM (v:Nat):HB->SV
 | .row v' m xs _=>vwN (Nat.beq v v') m xs
 | .rws v' m xs _ o m' inn _=>vwR (Nat.beq v v') (Nat.ble (v'+1) v) m m' (ZfD o m' inn xs) (inn[v - (v'+1)]?)
 | _=>.any
def cvtM (v:Nat):HB->SV
 | .row v' m xs _=>vwN (Nat.beq v v') m xs
 | _=>.any
def rvH (o m:Nat) (ag:Bool):HB->Option SV
 | .cells l _=>Wa l o m ag
 | _=>none
def rvX (hp:List (Nat × HB)) (m:Nat) (ag:Bool):SV->Option SV
 | .p k o=>rvH o m ag (lkh k hp)
 | _=>none
def pvF (o m:Nat) (ag:Bool):SV->Option SV
 | .agg l=>Wa l o m ag
 | _=>none
def pvC (k:IntKind):SV->Option SV
 | .v (.int _ n)=>some (.v (.int k (k.wrap n)))
 | _=>none
def pvE (i:Nat):SV->Option SV
 | .tup l=>nth l i
 | _=>none
theorem e_lk (t u:Nat) (s:SV) (r:List (Nat × SV)):lk t ((u,s) :: r)=lkB (Nat.beq t u) s t r:=rfl
theorem e_lk0 (t:Nat):lk t [] = .any:=rfl
theorem e_lkh (t u:Nat) (s:HB) (r:List (Nat × HB)):lkh t ((u,s) :: r)=lkhB (Nat.beq t u) s t r:=rfl
theorem Zzo (t:Nat):lkh t [] = .gone:=rfl
theorem ZAU (t u:Nat) (r:List Nat):Xk t (u :: r)=Zve (Nat.beq t u) t r:=rfl
theorem ZvC (t:Nat):Xk t []=false:=rfl
theorem e_blk (id i:Nat) (K:Ex->St->Prop) (σ : St):Ztl id K (.ex i) σ = blkE (Nat.beq i id) i K σ:=rfl
theorem ZiR (g:Option (Nat × Bool)) (fr:List (Nat × SV)) (x:Value):Xh g fr (.v x)=(.v x):=rfl
theorem ZnA (t:Nat) (r:List (Nat × SV)) (x:Value):Yy ((t,(.v x)) :: r)=(t,(.v x)) :: Yy r:=rfl
theorem Zwv (hp:List (Nat × HB)) (x:Value):cvt hp (.v x)=(.v x):=rfl
theorem Zt5 (hp:List (Nat × HB)) (g:SV->SV) (x:Value):vwS hp g (.v x)=(.v x):=rfl
theorem ZtS (x:Value):vw0 (.v x)=(.v x):=rfl
theorem Zmv (x:Value):Ys (.v x)=ZtB (ZlO x) (.v x):=rfl
theorem Zr4 (x:Value):ZaO (.v x)=ZlO x:=rfl
theorem Zjn (g:Option (Nat × Bool)) (fr:List (Nat × SV)) (k o:Nat):Xh g fr (.p k o)=(.p k o):=rfl
theorem Zpz (t:Nat) (r:List (Nat × SV)) (k o:Nat):Yy ((t,(.p k o)) :: r)=(t,(.p k o)) :: Yy r:=rfl
theorem Zu0 (hp:List (Nat × HB)) (k o:Nat):cvt hp (.p k o)=(.p k o):=rfl
theorem ZuH (hp:List (Nat × HB)) (g:SV->SV) (k o:Nat):vwS hp g (.p k o)=vwP g o (lkh k hp):=rfl
theorem ZxU (k o:Nat):vw0 (.p k o) = .any:=rfl
theorem ZkI (k o:Nat):Ys (.p k o)=some [(.p k o)]:=rfl
theorem ZqY (k o:Nat):ZaO (.p k o)=true:=rfl
theorem ZfF (g:Option (Nat × Bool)) (fr:List (Nat × SV)) (l:List SV):Xh g fr (.agg l)=(.agg l):=rfl
theorem Zim (t:Nat) (r:List (Nat × SV)) (l:List SV):Yy ((t,(.agg l)) :: r)=(t,(.agg l)) :: Yy r:=rfl
theorem ZlM (hp:List (Nat × HB)) (l:List SV):cvt hp (.agg l) = .agg (ZmX hp l):=rfl
theorem Zj6 (hp:List (Nat × HB)) (g:SV->SV) (l:List SV):vwS hp g (.agg l) = .agg (Zb9 g l):=rfl
theorem Zjy (l:List SV):vw0 (.agg l) = .any:=rfl
theorem ZfG (l:List SV):Ys (.agg l)=some l:=rfl
theorem Zg9 (l:List SV):ZaO (.agg l)=false:=rfl
theorem ZgT (g:Option (Nat × Bool)) (fr:List (Nat × SV)) (c:Bool) (m:Nat) (xs:List (List SV)):Xh g fr (.sl c m xs)=(.sl c m xs):=rfl
theorem ZmD (t:Nat) (r:List (Nat × SV)) (c:Bool) (m:Nat) (xs:List (List SV)):Yy ((t,(.sl c m xs)) :: r)=(t,(.sl c m xs)) :: Yy r:=rfl
theorem ZqP (hp:List (Nat × HB)) (c:Bool) (m:Nat) (xs:List (List SV)):cvt hp (.sl c m xs)=(.sl c m xs):=rfl
theorem ZpV (hp:List (Nat × HB)) (g:SV->SV) (c:Bool) (m:Nat) (xs:List (List SV)):vwS hp g (.sl c m xs)=(.sl c m xs):=rfl
theorem ZrT (c:Bool) (m:Nat) (xs:List (List SV)):vw0 (.sl c m xs)=(.sl c m xs):=rfl
theorem Zg7 (c:Bool) (m:Nat) (xs:List (List SV)):Ys (.sl c m xs)=some [(.sl c m xs)]:=rfl
theorem Zlf (c:Bool) (m:Nat) (xs:List (List SV)):ZaO (.sl c m xs)=true:=rfl
theorem Zt1 (l:List SV):pmS [] l=[]:=rfl
theorem ZhX (g:Option (Nat × Bool)) (fr:List (Nat × SV)) (k v:Nat):Xh g fr (.mr k v)=(.mr k v):=rfl
theorem Zlw (t:Nat) (r:List (Nat × SV)) (k v:Nat):Yy ((t,(.mr k v)) :: r)=(t,(.mr k v)) :: Yy r:=rfl
theorem Zqy (hp:List (Nat × HB)) (k v:Nat):cvt hp (.mr k v)=cvtM v (lkh k hp):=rfl
theorem Zn0 (hp:List (Nat × HB)) (g:SV->SV) (k v:Nat):vwS hp g (.mr k v)=vwM v (lkh k hp):=rfl
theorem Zn2 (k v:Nat):vw0 (.mr k v) = .any:=rfl
theorem Zhl (k v:Nat):Ys (.mr k v)=some [(.mr k v)]:=rfl
theorem ZiZ (k v:Nat):ZaO (.mr k v)=true:=rfl
theorem Zie (g:Option (Nat × Bool)) (fr:List (Nat × SV)) (k v m i o:Nat):Xh g fr (.pr k v m i o)=(.pr k v m i o):=rfl
theorem ZhW (g:Option (Nat × Bool)) (fr:List (Nat × SV)) (k v m i o:Nat):Xh g fr (.ms k v m i o)=(.ms k v m i o):=rfl
theorem ZjL (t:Nat) (r:List (Nat × SV)) (k v m i o:Nat):Yy ((t,(.pr k v m i o)) :: r)=(t,(.pr k v m i o)) :: Yy r:=rfl
theorem Zkk (t:Nat) (r:List (Nat × SV)) (k v m i o:Nat):Yy ((t,(.ms k v m i o)) :: r)=(t,(.ms k v m i o)) :: Yy r:=rfl
theorem Zsk (hp:List (Nat × HB)) (k v m i o:Nat):cvt hp (.pr k v m i o)=(.pr k v m i o):=rfl
theorem ZqO (hp:List (Nat × HB)) (k v m i o:Nat):cvt hp (.ms k v m i o)=(.ms k v m i o):=rfl
theorem Zoh (hp:List (Nat × HB)) (g:SV->SV) (k v m i o:Nat):vwS hp g (.pr k v m i o)=(.pr k v m i o):=rfl
theorem ZqT (hp:List (Nat × HB)) (g:SV->SV) (k v m i o:Nat):vwS hp g (.ms k v m i o)=(.ms k v m i o):=rfl
theorem ZnW (k v m i o:Nat):vw0 (.pr k v m i o) = .any:=rfl
theorem Zn6 (k v m i o:Nat):vw0 (.ms k v m i o) = .any:=rfl
theorem Zg6 (k v m i o:Nat):Ys (.pr k v m i o)=some [(.pr k v m i o)]:=rfl
theorem Ziz (k v m i o:Nat):Ys (.ms k v m i o)=some [(.ms k v m i o)]:=rfl
theorem ZlI (k v m i o:Nat):ZaO (.pr k v m i o)=true:=rfl
theorem Zl9 (k v m i o:Nat):ZaO (.ms k v m i o)=true:=rfl
theorem Zh6 (g:Option (Nat × Bool)) (fr:List (Nat × SV)) (row:List SV) (o:Nat):Xh g fr (.ps row o)=(.ps row o):=rfl
theorem Zj5 (t:Nat) (r:List (Nat × SV)) (row:List SV) (o:Nat):Yy ((t,(.ps row o)) :: r)=(t,(.ps row o)) :: Yy r:=rfl
theorem Zq5 (hp:List (Nat × HB)) (row:List SV) (o:Nat):cvt hp (.ps row o)=(.ps row o):=rfl
theorem Zsr (hp:List (Nat × HB)) (g:SV->SV) (l:List SV) (o:Nat):vwS hp g (.ps l o) = .ps (Zb9 g l) o:=rfl
theorem Zpk (row:List SV) (o:Nat):vw0 (.ps row o) = .any:=rfl
theorem Zhu (row:List SV) (o:Nat):Ys (.ps row o)=some [(.ps row o)]:=rfl
theorem ZlJ (row:List SV) (o:Nat):ZaO (.ps row o)=true:=rfl
theorem Zg8 (g:Option (Nat × Bool)) (fr:List (Nat × SV)) (f:FuncId) (l:List SV):Xh g fr (.cl f l)=(.cl f l):=rfl
theorem Zki (t:Nat) (r:List (Nat × SV)) (f:FuncId) (l:List SV):Yy ((t,(.cl f l)) :: r)=(t,(.cl f l)) :: Yy r:=rfl
theorem ZrS (hp:List (Nat × HB)) (f:FuncId) (l:List SV):cvt hp (.cl f l)=(.cl f l):=rfl
theorem ZsE (hp:List (Nat × HB)) (g:SV->SV) (f:FuncId) (l:List SV):vwS hp g (.cl f l) = .cl f (Zb9 g l):=rfl
theorem ZsC (f:FuncId) (l:List SV):vw0 (.cl f l) = .any:=rfl
theorem Zh2 (f:FuncId) (l:List SV):Ys (.cl f l)=some [(.cl f l)]:=rfl
theorem Zls (f:FuncId) (l:List SV):ZaO (.cl f l)=true:=rfl
theorem Zfm (g:Option (Nat × Bool)) (fr:List (Nat × SV)) (l:List SV):Xh g fr (.tup l)=(.tup l):=rfl
theorem Zin (t:Nat) (r:List (Nat × SV)) (l:List SV):Yy ((t,(.tup l)) :: r)=(t,(.tup l)) :: Yy r:=rfl
theorem Zmc (hp:List (Nat × HB)) (l:List SV):cvt hp (.tup l) = .tup (ZmX hp l):=rfl
theorem Zmn (hp:List (Nat × HB)) (g:SV->SV) (l:List SV):vwS hp g (.tup l) = .tup (Zb9 g l):=rfl
theorem ZlF (l:List SV):vw0 (.tup l) = .any:=rfl
theorem ZgY (l:List SV):ZaO (.tup l)=false:=rfl
theorem ZmY (g:Option (Nat × Bool)) (fr:List (Nat × SV)) (φ : VP):Xh g fr (.q φ)=(.q φ):=rfl
theorem Zqa (t:Nat) (r:List (Nat × SV)) (φ : VP):Yy ((t,(.q φ)) :: r)=(t,(.q φ)) :: Yy r:=rfl
theorem ZxM (hp:List (Nat × HB)) (φ : VP):cvt hp (.q φ)=(.q φ):=rfl
theorem Zxc (hp:List (Nat × HB)) (g:SV->SV) (φ : VP):vwS hp g (.q φ)=(.q φ):=rfl
theorem Zv2 (φ : VP):vw0 (.q φ)=(.q φ):=rfl
theorem Zkv (φ : VP):Ys (.q φ)=some [(.q φ)]:=rfl
theorem Zrl (φ : VP):ZaO (.q φ)=true:=rfl
theorem Zhr (g:Option (Nat × Bool)) (fr:List (Nat × SV)) (k:Nat):Xh g fr (.mp k)=(.mp k):=rfl
theorem Zkx (t:Nat) (r:List (Nat × SV)) (k:Nat):Yy ((t,(.mp k)) :: r)=(t,(.mp k)) :: Yy r:=rfl
theorem ZpZ (hp:List (Nat × HB)) (k:Nat):cvt hp (.mp k)=(.mp k):=rfl
theorem Zsu (hp:List (Nat × HB)) (g:SV->SV) (k:Nat):vwS hp g (.mp k) = .any:=rfl
theorem ZnS (k:Nat):vw0 (.mp k) = .any:=rfl
theorem ZhT (k:Nat):Ys (.mp k)=some [(.mp k)]:=rfl
theorem Zmw (k:Nat):ZaO (.mp k)=true:=rfl
theorem ZhN (g:Option (Nat × Bool)) (fr:List (Nat × SV)) (k:Nat):Xh g fr (.yl k)=(.yl k):=rfl
theorem Zi3 (t:Nat) (r:List (Nat × SV)) (k:Nat):Yy ((t,(.yl k)) :: r)=(t,(.yl k)) :: Yy r:=rfl
theorem Zhz (k:Nat):Ys (.yl k)=some [(.yl k)]:=rfl
theorem ZkS (k:Nat):ZaO (.yl k)=true:=rfl
theorem Ze9 (g:Option (Nat × Bool)) (fr:List (Nat × SV)) (T:TypeId) (s:SV):Xh g fr (.ifc T s)=(.ifc T s):=rfl
theorem Zio (t:Nat) (r:List (Nat × SV)) (T:TypeId) (s:SV):Yy ((t,(.ifc T s)) :: r)=(t,(.ifc T s)) :: Yy r:=rfl
theorem ZjR (hp:List (Nat × HB)) (T:TypeId) (s:SV):cvt hp (.ifc T s) = .ifc T (cvt hp s):=rfl
theorem ZkU (hp:List (Nat × HB)) (g:SV->SV) (T:TypeId) (s:SV):vwS hp g (.ifc T s) = .ifc T (g s):=rfl
theorem Zm4 (T:TypeId) (s:SV):vw0 (.ifc T s) = .any:=rfl
theorem Zfh (T:TypeId) (s:SV):Ys (.ifc T s)=some [(.ifc T s)]:=rfl
theorem Zh5 (T:TypeId) (s:SV):ZaO (.ifc T s)=true:=rfl
theorem ZeS (P:Program) (Y:Hd) (d:Option Nat) (σ : St) (r:KT) (K:RK) (f:FuncId) (as:List X):stp P Y d (.callm f as) σ r K=Zdr P f (UT (rdG none σ.fr) as) d σ r K:=rfl
theorem ZeR (P:Program) (Y:Hd) (d:Option Nat) (σ : St) (r:KT) (K:RK) (x:X) (as:List X):stp P Y d (.calvm x as) σ r K=ZhF P Y (rdG none σ.fr x) (UT (rdG none σ.fr) as) d σ r K:=rfl
theorem e_yld (asg body:Nat->CT) (ps:List Nat) (kl:Nat) (rec:Loop) (fr:List (Nat × SV)) (N k:Nat) (args:List SV) (d:Option Nat) (σ : St) (r:KT) (K:RK):YLD (hdR asg body ps kl rec fr N) k args d σ r K =
 rfB (Nat.beq k kl) (Zs5 rec (lkh kl σ.hp)/\rfB (Znc args ps) (asg σ.n ⟨pmS ps args ++ fr,σ.hp,σ.n,N,[]⟩ (asE kl rec (body σ.n) (bdE kl rec λo=>cmK o.pn o.res o.hp o.n d σ r K)))):=rfl
theorem e_exR (ρ : Nat->Nat) (n0 n k:Nat):exR ρ n0 n k=exB (Nat.blt k n0) (ρ k) (n+(k - n0)):=rfl
theorem e_hpM (ρ : Nat->Nat) (n0 n:Nat) (o:Ot) (hp:List (Nat × HB)):hpM ρ n0 n o hp=rnP (exR ρ n0 n) o.hp ++ (Zb7 ρ n0 ++ hp):=rfl
theorem ZjX (P:Program) (Y:Hd) (m:Nat) (g:X) (ps:List Nat) (asg body:SC) (σ : St) (K:Ex->St->Prop):sx P Y m (.rfun g ps asg body) σ K=rfK P (λn=>sx P Y0 n asg) (λn=>sx P Y n body) (rdG none σ.fr g) ps σ K:=rfl
theorem Zfs (g:Option (Nat × Bool)) (fr:List (Nat × SV))  : Xh g fr (.any)=(.any):=rfl
theorem Zid (t:Nat) (r:List (Nat × SV))  : Yy ((t,(.any)) :: r)=(t,(.any)) :: Yy r:=rfl
theorem Zlt (hp:List (Nat × HB))  : cvt hp (.any)=(.any):=rfl
theorem Zle (hp:List (Nat × HB)) (g:SV->SV)  : vwS hp g (.any)=(.any):=rfl
theorem ZlL  : vw0 (.any) = .any:=rfl
theorem ZhK  : ZaO (.any)=false:=rfl
theorem Zk8 (t j:Nat) (w:Bool) (s:SV) (r:List (Nat × SV)):Yy ((t,.gd j w s) :: r)=(t,.any) :: Yy r:=rfl
theorem Zu3  : Yy []=[]:=rfl
theorem ZeU (fr:List (Nat × SV)) (j:Nat) (w:Bool) (s:SV):Xh none fr (.gd j w s) = .any:=rfl
theorem Zig (fr:List (Nat × SV)) (j j0:Nat) (w w0:Bool) (s:SV):Xh (some (j0,w0)) fr (.gd j w s)=Zfe (alw 8 fr j0 w0 j w) s:=rfl
theorem Zfy (b:Bool):ZlO (.bool b)=true:=rfl
theorem Zhd (k:IntKind) (n:Int):ZlO (.int k n)=true:=rfl
theorem Zc4 (s:ByteArray):ZlO (.string s)=true:=rfl
theorem Zck (p:Option Addr):ZlO (.pointer p)=true:=rfl
theorem Zd3 (a:Option Addr) (l c:Nat):ZlO (.slice a l c)=true:=rfl
theorem Zcc  : ZlO .nilFunc=true:=rfl
theorem ZbL  : ZlO .nilIface=true:=rfl
theorem e_rdG (g:Option (Nat × Bool)) (fr:List (Nat × SV)) (x:X):rdG g fr x=Xh g fr (rd fr x):=rfl
theorem ZBz (fr:List (Nat × SV)) (n:Nat):rd fr (.t n)=lk n fr:=rfl
theorem ZAT (fr:List (Nat × SV)) (x:Value):rd fr (.c x) = .v x:=rfl
theorem ZAn (fr:List (Nat × SV)) (i:Nat):rd fr (.f i) = .cl i []:=rfl
theorem Zzh (fr:List (Nat × SV)) (i:Nat):rd fr (.g i)=gtS (GT i):=rfl
theorem ZuJ (l:List SV):gtS (some l) = .ps l 0:=rfl
theorem e_alw (f:Nat) (fr:List (Nat × SV)) (j0:Nat) (w0:Bool) (j:Nat) (w:Bool):alw (f+1) fr j0 w0 j w=ZyW (Zhj (Nat.beq j0 j) w0 w) (lk j0 fr) (alw f fr) j w:=rfl
theorem Zy7 (fr:List (Nat × SV)) (j0:Nat) (w0:Bool) (j:Nat) (w:Bool):alw 0 fr j0 w0 j w=false:=rfl
theorem e_vw1 (hp:List (Nat × HB)) (s:SV):vw1 hp s=vwS hp vw0 s:=rfl
theorem e_vw2 (hp:List (Nat × HB)) (s:SV):vw2 hp s=vwS hp (vw1 hp) s:=rfl
theorem e_vw3 (hp:List (Nat × HB)) (s:SV):vw3 hp s=vwS hp (vw2 hp) s:=rfl
theorem e_vw4 (hp:List (Nat × HB)) (s:SV):vw4 hp s=vwS hp (vw3 hp) s:=rfl
theorem Zog (fr:List (Nat × SV)) (hp:List (Nat × HB)) (n N:Nat):VW ⟨fr,hp,n,N,[]⟩=⟨fr,hp,n,N,[]⟩:=rfl
theorem ZoI (fr:List (Nat × SV)) (hp:List (Nat × HB)) (n N j:Nat) (l:List Nat):VW ⟨fr,hp,n,N,j :: l⟩=⟨Yy fr,hp,n,N,[]⟩:=rfl
theorem Zzj (b:BinOp) (k j:IntKind) (x y:Int):ZyA b (.v (.int k x)) (.v (.int j y))=ZAg (ZdG k j) b k x y:=rfl
theorem ZjA (b:Bool):uni .not (.v (.bool b))=some (.v (.bool (!b))):=rfl
theorem Zlb (k:IntKind) (n:Int):uni .neg (.v (.int k n))=some (.v (.int k (k.wrap (0 - n)))):=rfl
theorem Zhy (k:IntKind) (x y:Int):Zhi .add k x y=some (.v (.int k (k.wrap (x+y)))):=rfl
theorem ZhZ (k:IntKind) (x y:Int):Zhi .sub k x y=some (.v (.int k (k.wrap (x - y)))):=rfl
theorem Zg3 (k:IntKind) (x y:Int):Zhi .mul k x y=some (.v (.int k (k.wrap (x * y)))):=rfl
theorem ZhU (k:IntKind) (x y:Int):Zhi .eql k x y=some (.v (.bool (x == y))):=rfl
theorem Zhh (k:IntKind) (x y:Int):Zhi .neq k x y=some (.v (.bool (x != y))):=rfl
theorem ZhY (k:IntKind) (x y:Int):Zhi .lss k x y=some (.v (.bool (decide (x < y)))):=rfl
theorem ZhL (k:IntKind) (x y:Int):Zhi .leq k x y=some (.v (.bool (decide (x<=y)))):=rfl
theorem Zhs (k:IntKind) (x y:Int):Zhi .gtr k x y=some (.v (.bool (decide (x > y)))):=rfl
theorem ZgV (k:IntKind) (x y:Int):Zhi .geq k x y=some (.v (.bool (decide (x ≥ y)))):=rfl
theorem Zlr  : ZdG .i8 .i8=true:=rfl
theorem Zhc  : ZdG .i16 .i16=true:=rfl
theorem ZhA  : ZdG .i32 .i32=true:=rfl
theorem ZgW  : ZdG .i64 .i64=true:=rfl
theorem ZjY  : ZdG .u8 .u8=true:=rfl
theorem Zha  : ZdG .u16 .u16=true:=rfl
theorem Zih  : ZdG .u32 .u32=true:=rfl
theorem Ziq  : ZdG .u64 .u64=true:=rfl
theorem Zrw (o:Nat) (k q:Nat):UN o (.p k q)=some (.p k (q+o)):=rfl
theorem ZrH (k q:Nat):Zey (.p k q)=some (.p k q):=rfl
theorem ZjD (o:Nat) (k v m i q:Nat):UN o (.pr k v m i q)=some (.pr k v m i (q+o)):=rfl
theorem Zla (k v m i q:Nat):Zey (.pr k v m i q)=some (.pr k v m i q):=rfl
theorem ZkO (o:Nat) (row:List SV) (q:Nat):UN o (.ps row q)=some (.ps row (q+o)):=rfl
theorem Zm0 (row:List SV) (q:Nat):Zey (.ps row q)=some (.ps row q):=rfl
theorem ZrR (l:List SV) (o m:Nat):Wa l o m true=ZBy (Nat.ble (o+m) l.length) l o m:=rfl
theorem Zn1 (l:List SV) (o m:Nat):Wa l o m false=nth l o:=rfl
theorem ZAI (mx:Bool) (x:Int):mmf mx x []=some x:=rfl
theorem Zxq (k:IntKind) (x y:Int) (r:List SV):mmf true x (.v (.int k y) :: r)=mmf true (max x y) r:=rfl
theorem Zvr (k:IntKind) (x y:Int) (r:List SV):mmf false x (.v (.int k y) :: r)=mmf false (min x y) r:=rfl
theorem e_mm (mx:Bool) (k:IntKind) (x:Int) (r:List SV):mmS mx (.v (.int k x) :: r)=mmE k (mmf mx x r):=rfl
theorem e_bld (ρ : X->SV) (z:List SV) (ps:List (Nat × Nat × X)):bld ρ z ps=Zm6 z (Zsh ρ ps):=rfl
theorem ZhG (ρ : X->SV) (z:List Value) (ps:List (Nat × Nat × X)):pv ρ (.build z ps)=ZA7 (bld ρ (lit z) ps):=rfl
theorem ZzH (l:List SV) (m:Nat) (ls:List (List SV)):Zyy (some l) m (some ls)=chkB (chk l m) l ls:=rfl
theorem ZoL (s:SV) (l:List SV):Yt (s :: l)=X9 (ZaO s) (Yt l):=rfl
theorem Zjh  : Yt []=true:=rfl
theorem ZrG (fr:List (Nat × SV)) (g:Option (Nat × Bool)) (t:Nat) (b:X):Zho fr g (.t t) (.c (.bool true)) b=ZhO (rdG g fr (.t t)) (rdG (some (t,false)) fr b):=rfl
theorem Zpr (fr:List (Nat × SV)) (g:Option (Nat × Bool)) (t n:Nat):Zho fr g (.t t) (.t n) (.c (.bool false))=Zfo (rdG g fr (.t t)) (rdG (some (t,true)) fr (.t n)):=rfl
theorem ZrI (fr:List (Nat × SV)) (g:Option (Nat × Bool)) (t:Nat):Zho fr g (.t t) (.c (.bool false)) (.c (.bool false))=Zfo (rdG g fr (.t t)) (rdG (some (t,true)) fr (.c (.bool false))):=rfl
theorem ZjF:Zfo (.v (.bool false)) (.v undef)=some (.v (.bool false)):=rfl
theorem ZiS:ZhO (.v (.bool true)) (.v undef)=some (.v (.bool true)):=rfl
theorem e_rvR (rs:List RV) (σ : St):rvR rs σ = rvE (rvs σ rs):=rfl
theorem ZBx (σ : St):rvs σ []=some []:=rfl
theorem ZvM (σ : St) (t:Nat):rv1 σ (.tmp t)=some (rdG none σ.fr (.t t)):=rfl
theorem Zvk (σ : St) (t m:Nat) (ag:Bool):rv1 σ (.cell t m ag)=rvX σ.hp m ag (rdG none σ.fr (.t t)):=rfl
theorem ZsK (P:Program) (Y:Hd) (d:Option Nat) (σ : St) (r:KT) (K:RK) (x:X):stp P Y d (.mv x) σ r K=Yl P none d (.mv x) σ r K:=rfl
theorem Zib (P:Program) (Y:Hd) (d:Option Nat) (σ : St) (r:KT) (K:RK) (c a b:X):stp P Y d (.pick c a b) σ r K=Yl P none d (.pick c a b) σ r K:=rfl
theorem Ze1 (P:Program) (Y:Hd) (d:Option Nat) (σ : St) (r:KT) (K:RK) (z:List Value) (ps:List (Nat × Nat × X)):stp P Y d (.build z ps) σ r K=Yl P none d (.build z ps) σ r K:=rfl
theorem ZiT (P:Program) (Y:Hd) (d:Option Nat) (σ : St) (r:KT) (K:RK) (m:Nat) (T:TypeId) (ps:List X):stp P Y d (.bsl m T ps) σ r K=Yl P none d (.bsl m T ps) σ r K:=rfl
theorem ZpA (P:Program) (Y:Hd) (d:Option Nat) (σ : St) (r:KT) (K:RK) (x:X) (m:Nat) (ag:Bool):stp P Y d (.ld x m ag) σ r K=Yl P none d (.ld x m ag) σ r K:=rfl
theorem Zh0 (P:Program) (Y:Hd) (d:Option Nat) (σ : St) (r:KT) (K:RK) (x:X):stp P Y d (.nilc x) σ r K=Yl P none d (.nilc x) σ r K:=rfl
theorem Zkj (P:Program) (Y:Hd) (d:Option Nat) (σ : St) (r:KT) (K:RK) (b:BinOp) (x y:X):stp P Y d (.bin b x y) σ r K=Yl P none d (.bin b x y) σ r K:=rfl
theorem Zld (P:Program) (Y:Hd) (d:Option Nat) (σ : St) (r:KT) (K:RK) (b:BinOp) (x y:X):stp P Y d (.div b x y) σ r K=Yl P none d (.div b x y) σ r K:=rfl
theorem Zqh (P:Program) (Y:Hd) (d:Option Nat) (σ : St) (r:KT) (K:RK) (u:UnOp) (x:X):stp P Y d (.un u x) σ r K=Yl P none d (.un u x) σ r K:=rfl
theorem Zhf (P:Program) (Y:Hd) (d:Option Nat) (σ : St) (r:KT) (K:RK) (x:X) (o:Nat):stp P Y d (.addo x o) σ r K=Yl P none d (.addo x o) σ r K:=rfl
theorem ZkP (P:Program) (Y:Hd) (d:Option Nat) (σ : St) (r:KT) (K:RK) (x:X) (o m:Nat) (ag:Bool):stp P Y d (.fld x o m ag) σ r K=Yl P none d (.fld x o m ag) σ r K:=rfl
theorem ZkT (P:Program) (Y:Hd) (d:Option Nat) (σ : St) (r:KT) (K:RK) (x i:X) (len m:Nat) (ag:Bool):stp P Y d (.idx x i len m ag) σ r K=Yl P none d (.idx x i len m ag) σ r K:=rfl
theorem Zlm (P:Program) (Y:Hd) (d:Option Nat) (σ : St) (r:KT) (K:RK) (x i:X) (len m:Nat):stp P Y d (.ixa x i len m) σ r K=Yl P none d (.ixa x i len m) σ r K:=rfl
theorem Zi4 (P:Program) (Y:Hd) (d:Option Nat) (σ : St) (r:KT) (K:RK) (x i:X) (m:Nat):stp P Y d (.ixs x i m) σ r K=Yl P none d (.ixs x i m) σ r K:=rfl
theorem ZjP (P:Program) (Y:Hd) (d:Option Nat) (σ : St) (r:KT) (K:RK) (x:X):stp P Y d (.len x) σ r K=Yl P none d (.len x) σ r K:=rfl
theorem Zp5 (P:Program) (Y:Hd) (d:Option Nat) (σ : St) (r:KT) (K:RK) (mx:Bool) (xs:List X):stp P Y d (.mm mx xs) σ r K=Yl P none d (.mm mx xs) σ r K:=rfl
theorem Zhm (P:Program) (Y:Hd) (d:Option Nat) (σ : St) (r:KT) (K:RK) (f:FuncId) (as:List X):stp P Y d (.call f as) σ r K=Yl P none d (.call f as) σ r K:=rfl
theorem ZhM (P:Program) (Y:Hd) (d:Option Nat) (σ : St) (r:KT) (K:RK) (x:X) (as:List X):stp P Y d (.calv x as) σ r K=Yl P none d (.calv x as) σ r K:=rfl
theorem Zmk (P:Program) (Y:Hd) (d:Option Nat) (σ : St) (r:KT) (K:RK) (f:FuncId) (cs:List X):stp P Y d (.mkf f cs) σ r K=Yl P none d (.mkf f cs) σ r K:=rfl
theorem ZhP (P:Program) (Y:Hd) (d:Option Nat) (σ : St) (r:KT) (K:RK) (k:IntKind) (x:X):stp P Y d (.conv k x) σ r K=Yl P none d (.conv k x) σ r K:=rfl
theorem Zl3 (P:Program) (Y:Hd) (d:Option Nat) (σ : St) (r:KT) (K:RK) (x:X) (i:Nat):stp P Y d (.ext x i) σ r K=Yl P none d (.ext x i) σ r K:=rfl
theorem e_rvs (σ : St) (r:RV) (rs:List RV):rvs σ (r :: rs)=rvC σ.hp (rv1 σ r) (rvs σ rs):=rfl
theorem Zoz (ρ : X->SV) (x:X) (o m:Nat) (ag:Bool):pv ρ (.fld x o m ag)=pvF o m ag (ρ x):=rfl
theorem Zkl (ρ : X->SV) (k:IntKind) (x:X):pv ρ (.conv k x)=pvC k (ρ x):=rfl
theorem Zp1 (ρ : X->SV) (x:X) (i:Nat):pv ρ (.ext x i)=pvE i (ρ x):=rfl
theorem ZtN (fr:List (Nat × SV)):ZyP [] fr=True:=rfl
theorem ZBn (t:Nat) (s:SV) (r fr:List (Nat × SV)):ZyP ((t,s) :: r) fr=(lk t fr=s/\ZyP r fr):=rfl
theorem Zmg (P:Program) (Y:Hd) (d:Option Nat) (σ : St) (r:KT) (K:RK) (ng ag:Bool) (cls:List Nat) (x y:X):stp P Y d (.eqs ng ag cls x y) σ r K=Yl P none d (.eqs ng ag cls x y) σ r K:=rfl
theorem ZlS (P:Program) (Y:Hd) (d:Option Nat) (σ : St) (r:KT) (K:RK) (x h k:X):stp P Y d (.slc x h k) σ r K=Yl P none d (.slc x h k) σ r K:=rfl
theorem Zj8 (P:Program) (Y:Hd) (d:Option Nat) (σ : St) (r:KT) (K:RK) (m:Nat) (x:X) (lo hi:Option X):stp P Y d (.sub m x lo hi) σ r K=Yl P none d (.sub m x lo hi) σ r K:=rfl
theorem Zmd (P:Program) (Y:Hd) (d:Option Nat) (σ : St) (r:KT) (K:RK) (m b:Nat) (T:TypeId) (x y:X):stp P Y d (.app m b T x y) σ r K=Yl P none d (.app m b T x y) σ r K:=rfl
theorem Zsa (l):ZA7 (some l)=some (SV.agg l):=rfl
theorem Zqm: ZA7 none=none:=rfl
theorem Zvp (k z):mmE k (some z)=some (SV.v (Value.int k z)):=rfl
theorem ZuK (k):mmE k none=none:=rfl
theorem Zyf (g o l T):vwP g o (HB.cells l T)=SV.ps (Zb9 g l) o:=rfl
theorem Zv1 (m a):vwN true m a=SV.sl false m a:=rfl
theorem ZuY (m a):vwN false m a=SV.any:=rfl
theorem ZxB (v a m b T):vwM v (HB.row a m b T)=vwN (Nat.beq v a) m b:=rfl
theorem Zw7 (c m a b q):vwR true c m a b q=SV.sl false m b:=rfl
theorem ZvA (m a b r):vwR false true m a b (some r)=SV.sl false a r:=rfl
theorem Zux (m a b):vwR false true m a b none=SV.any:=rfl
theorem Zt7 (m a b q):vwR false false m a b q=SV.any:=rfl
theorem ZvD (v a m b T o c d e):vwM v (HB.rws a m b T o c d e)=vwR (Nat.beq v a) (Nat.ble (a+1) v) m c (ZfD o c d b) d[v - (a+1)]?:=rfl
theorem Zod (v a m b T):cvtM v (HB.row a m b T)=vwN (Nat.beq v a) m b:=rfl
theorem ZpF (m v a b c T):ZiI m v (HB.row a b c T)=Zhx c (X9 (Nat.beq m b) (Nat.beq v a)):=rfl
theorem ZnK (m v l T):ZiI m v (HB.cells l T)=none:=rfl
theorem ZoB (m v φ):ZiI m v (HB.ob φ)=none:=rfl
theorem Zr6 (m v a b):ZiI m v (HB.map a b)=none:=rfl
theorem ZrJ (m v a b c d):ZiI m v (HB.it a b c d)=none:=rfl
theorem Zqo (m v a b):ZiI m v (HB.lp a b)=none:=rfl
theorem Zoq (m v a):ZiI m v (HB.lb a)=none:=rfl
theorem ZsN (m v a b c T o d e f):ZiI m v (HB.rws a b c T o d e f)=none:=rfl
theorem ZoW (m v):ZiI m v HB.gone=none:=rfl
theorem Zqf (a):Zhx a true=some a:=rfl
theorem ZqS (a):Zhx a false=none:=rfl
theorem ZxD: rvE (some [])=some (SV.tup []):=rfl
theorem Zwp (s):rvE (some [s])=some s:=rfl
theorem Zw6 (a b l):rvE (some (a :: b :: l))=some (SV.tup (a :: b :: l)):=rfl
theorem Zvt: rvE none=none:=rfl
theorem ZwR (s l):rvD s (some l)=some (s :: l):=rfl
theorem Zvv (s):rvD s none=none:=rfl
theorem Zx1 (hp x s):rvC hp (some s) x=rvD (cvt hp s) x:=rfl
theorem Zu4 (hp x):rvC hp none x=none:=rfl
theorem Zwi (o m a l T):rvH o m a (HB.cells l T)=Wa l o m a:=rfl
theorem ZwS (hp m a k o):rvX hp m a (SV.p k o)=rvH o m a (lkh k hp):=rfl
theorem ZuT (o m a l):pvF o m a (SV.agg l)=Wa l o m a:=rfl
theorem Zv0 (k a n):pvC k (SV.v (Value.int a n))=some (SV.v (Value.int k (IntKind.wrap k n))):=rfl
theorem ZvF (i l):pvE i (SV.tup l)=nth l i:=rfl
theorem Zqw (x a b c d):Zzb false true false x a b c d=c { fr:=(x,a) :: St.fr b,hp:=St.hp b,n:=St.n b,N:=St.N b,gs:=St.gs b } d:=rfl
theorem ZqZ (x a b c d e f):ZBG false true false x a b c d e f=e { fr:=(x,SV.gd a b c) :: St.fr d,hp:=St.hp d,n:=St.n d,N:=St.N d,gs:=a :: St.gs d } f:=rfl
theorem ZrQ (s σ r K):Yq none s none σ r K=r σ K:=rfl
theorem ZoY (s σ r K a):Yq none s (some a) σ r K=False:=rfl
theorem Zqk (s σ r K t):Yq (some t) s none σ r K=Zzb (Xk t (St.gs σ)) (Nat.blt t (St.N σ)) (gdS s) t s σ r K:=rfl
theorem ZpJ (s σ r K t j w):Yq (some t) s (some (j,w)) σ r K=ZBG (Xk t (St.gs σ)) (Nat.blt t (St.N σ)) (Nat.beq t j) t j w s σ r K:=rfl
theorem Zrm (d g σ r K s):Wv (some s) d g σ r K=Yq d s g σ r K:=rfl
theorem ZqH (d g σ r K):Wv none d g σ r K=False:=rfl
theorem Zl8 (x):Zfe true x=x:=rfl
theorem Zlz (x):Zfe false x=SV.any:=rfl
theorem Zor (x a b c):ZyW true x a b c=true:=rfl
theorem Znl (x a b c d s):ZyW false (SV.gd c d s) x a b=x c d a b:=rfl
theorem ZjM (x a):Zhj true x a=bbq x a:=rfl
theorem ZjH (x a):Zhj false x a=false:=rfl
theorem Zv6: bbq true true=true:=rfl
theorem ZxK: bbq false false=true:=rfl
theorem Zl4 (x y):ZhO (SV.v (Value.bool x)) (SV.v (Value.bool y))=some (SV.v (Value.bool (x || y))):=rfl
theorem ZjW (x a):ZhO (SV.v (Value.bool x)) (SV.v (Value.tuple a))=bif x then some (SV.v (Value.bool true)) else none:=rfl
theorem ZiN (x y):Zfo (SV.v (Value.bool x)) (SV.v (Value.bool y))=some (SV.v (Value.bool (x && y))):=rfl
theorem ZiY (x a):Zfo (SV.v (Value.bool x)) (SV.v (Value.tuple a))=bif x then none else some (SV.v (Value.bool false)):=rfl
theorem Zrq (m r):ZyV m (some r)=some (SV.sl true m r):=rfl
theorem Zom (m):ZyV m none=none:=rfl
theorem ZjO (P g d σ r K a f b):Znt P g d σ r K (SV.cl f b) a=Zyz P g f (a ++ b) d σ r K:=rfl
theorem Zp8 (g d σ r K k v m a j):ZBa g d σ r K true k v m a j=IXR g k v m a j d σ r K:=rfl
theorem Zq2 (g d σ r K k v m a j):ZBa g d σ r K false k v m a j=False:=rfl
theorem ZrY (g d σ r K k v m j a b c T):ZyZ g d σ r K (HB.row a b c T) k v m j=ZBa g d σ r K (X9 (Nat.beq m b) (Nat.beq v a)) k v m (List.length c) j:=rfl
theorem Zpm (g d σ r K k v m j a b c T o e f l):ZyZ g d σ r K (HB.rws a b c T o e f l) k v m j = ∃ i rows TT,v=a+i/\Xg k a b c T o e f l i=some (m,rows,TT)/\IXR g k v m (List.length rows) j d σ r K:=rfl
theorem ZsQ (g d σ r K a j):ZzD g d σ r K true a j=IXS g a j d σ r K:=rfl
theorem ZsP (g d σ r K a j):ZzD g d σ r K false a j=False:=rfl
theorem Zr7 (g d σ r K m k j c a b):ZAk g d σ r K (SV.v (Value.int k j)) (SV.sl c a b) m=ZzD g d σ r K (Nat.beq m a) b j:=rfl
theorem Zo7 (g d σ r K m k j a v):ZAk g d σ r K (SV.v (Value.int k j)) (SV.mr a v) m=ZyZ g d σ r K (lkh a (St.hp σ)) a v m j:=rfl
theorem Zrh (g d σ r K x a m k n):ZBS g d σ r K (SV.v (Value.int k n)) x a m=IXA g a n (λn=>UN (n * m) x) d σ r K:=rfl
theorem ZnB (g d σ r K a m b k j l):ZBO g d σ r K (SV.v (Value.int k j)) (SV.agg l) a m b=IXA g a j (λn=>Wa l (n * m) m b) d σ r K:=rfl
theorem Zw3 (g d σ r K o m a l T):ldC g d σ r K (HB.cells l T) o m a=Wv (Wa l o m a) d g σ r K:=rfl
theorem ZtK (g d σ r K a i o m b):ldB g d σ r K true a i o m b=LDR g a i o m b d σ r K:=rfl
theorem ZuX (g d σ r K a i o m b):ldB g d σ r K false a i o m b=False:=rfl
theorem ZtT (g d σ r K k v a i o m b c e f T):ldR g d σ r K k (HB.row c e f T) v a i o m b=ldB g d σ r K (X9 (Nat.beq a e) (Nat.beq v c)) f i o m b:=rfl
theorem Zui (g d σ r K k v b i o m c e f j T l p q s):ldR g d σ r K k (HB.rws e f j T l p q s) v b i o m c = ∃ a rows TT,v=e+a/\Xg k e f j T l p q s a=some (b,rows,TT)/\LDR g rows i o m c d σ r K:=rfl
theorem Zw1 (g d σ r K m a k o):ldK g d σ r K (SV.p k o) m a=ldC g d σ r K (lkh k (St.hp σ)) o m a:=rfl
theorem Zug (g d σ r K m a b o):ldK g d σ r K (SV.ps b o) m a=Wv (Wa b o m a) d g σ r K:=rfl
theorem Zvc (g d σ r K m a k v b i o):ldK g d σ r K (SV.pr k v b i o) m a=ldR g d σ r K k (lkh k (St.hp σ)) v b i o m a:=rfl
theorem Zqs (g d σ r K b k u v):ZAP g d σ r K true b k u v=DIV g b k u v d σ r K:=rfl
theorem Zou (g d σ r K b k u v):ZAP g d σ r K false b k u v=False:=rfl
theorem ZoE (g d σ r K b k a j c):ZBE g d σ r K b (SV.v (Value.int k a)) (SV.v (Value.int j c))=ZAP g d σ r K (ZdG k j) b k a c:=rfl
theorem Zrd (g d σ r K a):ZAY g d σ r K true a=Yq d (SV.v (Value.int IntKind.i64 ↑(List.length a))) g σ r K:=rfl
theorem ZnU (g d σ r K a):ZAY g d σ r K false a=False:=rfl
theorem ZpY (g d σ r K k v a m b T):ZAA g d σ r K k (HB.row a m b T) v=ZAY g d σ r K (Nat.beq v a) b:=rfl
theorem Zsq (g d σ r K k v b m c T o e f i):ZAA g d σ r K k (HB.rws b m c T o e f i) v = ∃ a mm rows TT,v=b+a/\Xg k b m c T o e f i a=some (mm,rows,TT)/\Yq d (SV.v (Value.int IntKind.i64 ↑(List.length rows))) g σ r K:=rfl
theorem Zrb (g d σ r K k v):ZyT g d σ r K (SV.mr k v)=ZAA g d σ r K k (lkh k (St.hp σ)) v:=rfl
theorem Znm (g d σ r K k v m i l):ZyT g d σ r K (SV.ms k v m i l)=Yq d (SV.v (Value.int IntKind.i64 ↑l)) g σ r K:=rfl
theorem Zri (g d σ r K c m a):ZyT g d σ r K (SV.sl c m a)=Yq d (SV.v (Value.int IntKind.i64 ↑(List.length a))) g σ r K:=rfl
theorem Zof (P g d σ r K f a):Yl P g d (SI.call f a) σ r K=Zyz P g f (UT (rdG g (St.fr σ)) a) d σ r K:=rfl
theorem ZrF (P g d σ r K x a):Yl P g d (SI.calv x a) σ r K=Znt P g d σ r K (rdG g (St.fr σ) x) (UT (rdG g (St.fr σ)) a):=rfl
theorem Zrf (P g d σ r K f a):Yl P g d (SI.callm f a) σ r K=False:=rfl
theorem ZpN (P g d σ r K x a):Yl P g d (SI.calvm x a) σ r K=False:=rfl
theorem ZpW (P g d σ r K c a b):Yl P g d (SI.pick c a b) σ r K=Wv (Zho (St.fr σ) g c a b) d g σ r K:=rfl
theorem Zqr (P g d σ r K m T a):Yl P g d (SI.bsl m T a) σ r K=Wv (ZyV m (ZiB (rdG g (St.fr σ)) m a)) d g σ r K:=rfl
theorem Zrr (P g d σ r K x a m):Yl P g d (SI.ixs x a m) σ r K=ZAk g d σ r K (rdG g (St.fr σ) a) (rdG g (St.fr σ) x) m:=rfl
theorem Zsm (P g d σ r K x a b m):Yl P g d (SI.ixa x a b m) σ r K=ZBS g d σ r K (rdG g (St.fr σ) a) (rdG g (St.fr σ) x) b m:=rfl
theorem Zov (P g d σ r K x a b m c):Yl P g d (SI.idx x a b m c) σ r K=ZBO g d σ r K (rdG g (St.fr σ) a) (rdG g (St.fr σ) x) b m c:=rfl
theorem ZkA (P g d σ r K x m a):Yl P g d (SI.ld x m a) σ r K=ldK g d σ r K (rdG g (St.fr σ) x) m a:=rfl
theorem Zji (P g d σ r K b x y):Yl P g d (SI.div b x y) σ r K=ZBE g d σ r K b (rdG g (St.fr σ) x) (rdG g (St.fr σ) y):=rfl
theorem ZlY (P g d σ r K x):Yl P g d (SI.len x) σ r K=ZyT g d σ r K (rdG g (St.fr σ) x):=rfl
theorem ZjE (P g d σ r K x):Yl P g d (SI.mv x) σ r K=Yq d (rdG g (St.fr σ) x) g σ r K:=rfl
theorem Zmb (P g d σ r K z a):Yl P g d (SI.build z a) σ r K=Wv (pv (rdG g (St.fr σ)) (SI.build z a)) d g σ r K:=rfl
theorem Zm5 (P g d σ r K x):Yl P g d (SI.nilc x) σ r K=Wv (Zey (rdG g (St.fr σ) x)) d g σ r K:=rfl
theorem ZkJ (P g d σ r K b x y):Yl P g d (SI.bin b x y) σ r K=Wv (ZyA b (rdG g (St.fr σ) x) (rdG g (St.fr σ) y)) d g σ r K:=rfl
theorem ZkB (P g d σ r K u x):Yl P g d (SI.un u x) σ r K=Wv (uni u (rdG g (St.fr σ) x)) d g σ r K:=rfl
theorem ZiU (P g d σ r K x o):Yl P g d (SI.addo x o) σ r K=Wv (UN o (rdG g (St.fr σ) x)) d g σ r K:=rfl
theorem ZmM (P g d σ r K x o m a):Yl P g d (SI.fld x o m a) σ r K=Wv (pv (rdG g (St.fr σ)) (SI.fld x o m a)) d g σ r K:=rfl
theorem Zka (P g d σ r K a b):Yl P g d (SI.mm a b) σ r K=Wv (mmS a (UT (rdG g (St.fr σ)) b)) d g σ r K:=rfl
theorem Zja (P g d σ r K f a):Yl P g d (SI.mkf f a) σ r K=Yq d (SV.cl f (UT (rdG g (St.fr σ)) a)) g σ r K:=rfl
theorem Zj7 (P g d σ r K k x):Yl P g d (SI.conv k x) σ r K=Wv (pv (rdG g (St.fr σ)) (SI.conv k x)) d g σ r K:=rfl
theorem ZjQ (P g d σ r K x a):Yl P g d (SI.ext x a) σ r K=Wv (pv (rdG g (St.fr σ)) (SI.ext x a)) d g σ r K:=rfl
theorem ZkE (P g d σ r K x h k):Yl P g d (SI.slc x h k) σ r K=ZBK g (rdG g (St.fr σ) x) (rdG g (St.fr σ) h) (rdG g (St.fr σ) k) d σ r K:=rfl
theorem Zjb (P g d σ r K m x a b):Yl P g d (SI.sub m x a b) σ r K=ZA1 g m (rdG g (St.fr σ)) a b (rdG g (St.fr σ) x) d σ r K:=rfl
theorem Zjj (P g d σ r K m b T x y):Yl P g d (SI.cln m b T x y) σ r K=False:=rfl
theorem Zmz (P g d σ r K m b T x y):Yl P g d (SI.appm m b T x y) σ r K=False:=rfl
theorem ZlT (P g d σ r K m x y):Yl P g d (SI.cpy m x y) σ r K=False:=rfl
theorem ZmC (P g d σ r K m b z T x):Yl P g d (SI.mks m b z T x) σ r K=False:=rfl
theorem Zjp (P g d σ r K x):Yl P g d (SI.isn x) σ r K=False:=rfl
theorem ZmW (P g d σ r K m b T x y):Yl P g d (SI.app m b T x y) σ r K=ZyE g m b (Zh4 m (rdG g (St.fr σ) x)) (ZvX m (St.hp σ) (rdG g (St.fr σ) y)) d σ r K:=rfl
theorem ZiV (P g d σ r K x m T):Yl P g d (SI.box x m T) σ r K=False:=rfl
theorem ZlD (P g d σ r K z T):Yl P g d (SI.alloc z T) σ r K=False:=rfl
theorem Zjw (P g d σ r K x y m):Yl P g d (SI.st x y m) σ r K=False:=rfl
theorem ZkF (P g d σ r K a b c x y):Yl P g d (SI.eqs a b c x y) σ r K=Wv (eqR a (Zsz c b (rdG g (St.fr σ) x) (rdG g (St.fr σ) y))) d g σ r K:=rfl
theorem Zko (P g d σ r K a b):Yl P g d (SI.raw a b) σ r K=False:=rfl
theorem ZmO (P g d σ r K a b):Yl P g d (SI.rv a b) σ r K=False:=rfl
theorem Zkp (P g d σ r K a x b):Yl P g d (SI.rb a x b) σ r K=False:=rfl
theorem ZoA (x a b c d e):ZBL false true x a b c d e=d { fr:=(x,SV.p (St.n c) 0) :: St.fr c,hp:=(St.n c,HB.cells a b) :: St.hp c,n:=St.n c+1,N:=St.N c,gs:=St.gs c } e:=rfl
theorem Zpc (T σ r K t a):ZiG (some t) (some a) T σ r K=ZBL (Xk t (St.gs σ)) (Nat.blt t (St.N σ)) t a T σ r K:=rfl
theorem ZlA (x a b c d e f g i j):Zw5 false true x a b c d e f g i j=i { fr:=(x,SV.v (Value.int IntKind.i64 ↑e)) :: St.fr g,hp:=(a,HB.row b c d f) :: St.hp g,n:=St.n g,N:=St.N g,gs:=St.gs g } j:=rfl
theorem Zsv (k v m a N T σ r K b):ZAo (some b) k v m a N T σ r K=Zw5 (Xk b (St.gs σ)) (Nat.blt b (St.N σ)) b k v m a N T σ r K:=rfl
theorem Zra (k v m a N T σ r K):ZAo none k v m a N T σ r K=r { fr:=St.fr σ,hp:=(k,HB.row v m a T) :: St.hp σ,n:=St.n σ,N:=St.N σ,gs:=St.gs σ } K:=rfl
theorem Zry (d k v m i L a T σ r K c b e):Zs6 d k v m i L a T (SV.sl c b e) σ r K=ZeQ (Nat.beq m b) (CPY d k v m i L a e T σ r K):=rfl
theorem Zp6 (d k v m i L a T σ r K):Zs6 d k v m i L a T (SV.v (Value.slice none 0 0)) σ r K=CPY d k v m i L a [] T σ r K:=rfl
theorem Zpj (d k v m i L a T σ r K b c):Zs6 d k v m i L a T (SV.mr b c) σ r K=ZeQ (X9 (Nat.beq k b) (Nat.beq v c)) (CPY d k v m i L a a T σ r K):=rfl
theorem Zo3 (d k v m i L a T σ r K b c e f g):Zs6 d k v m i L a T (SV.ms b c e f g) σ r K=ZeQ (X9 (X9 (Nat.beq k b) (Nat.beq v c)) (Nat.beq m e)) (f+g<=List.length a/\CPY d k v m i L a (List.take g (List.drop f a)) T σ r K):=rfl
theorem Zzi (n m):lO (some m) n=m:=rfl
theorem Zzw (n):lO none n=n:=rfl
theorem ZsA (d m k v i a s σ r K b c e T):Zu1 d m k v i a (HB.row b c e T) s σ r K=ZeQ (X9 (Nat.beq m c) (Nat.beq v b)) (Zs6 d k v m i (lO a (List.length e)) e T s σ r K):=rfl
theorem ZoV (d m a σ r K k v):ZyF d m (SV.mr k v) a σ r K=Zu1 d m k v 0 none (lkh k (St.hp σ)) a σ r K:=rfl
theorem ZoH (d m a σ r K k v b i l):ZyF d m (SV.ms k v b i l) a σ r K=ZeQ (Nat.beq m b) (Zu1 d m k v i (some l) (lkh k (St.hp σ)) a σ r K):=rfl
theorem ZpX (g k v m a d σ r K i j):ZyS g k v m a (some i) (some j) d σ r K=SBM g i j k v m a d σ r K:=rfl
theorem Zr5 (g k v m a d σ r K b):ZyS g k v m a (some b) none d σ r K=False:=rfl
theorem ZqV (g k v m a b d σ r K):ZyS g k v m a none b d σ r K=False:=rfl
theorem Znk (p):ZeQ true p=p:=rfl
theorem Zpq (p):ZeQ false p=False:=rfl
theorem ZnP (g m ρ a b k v d σ r K c e f T):ZBM g m ρ a b k v (HB.row c e f T) d σ r K=ZeQ (X9 (Nat.beq m e) (Nat.beq v c)) (ZyS g k v m f (ZcB 0 ρ a) (ZcB (↑(List.length f)) ρ b) d σ r K):=rfl
theorem ZrW (g m ρ a b d σ r K c e f):ZA1 g m ρ a b (SV.sl c e f) d σ r K=bif Nat.beq m e then Zyx g m f (ZcB 0 ρ a) (ZcB (↑(List.length f)) ρ b) d σ r K else False:=rfl
theorem ZpL (g m ρ a b d σ r K k v):ZA1 g m ρ a b (SV.mr k v) d σ r K=ZBM g m ρ a b k v (lkh k (St.hp σ)) d σ r K:=rfl
theorem Znq (x a b c d e f g i):verB false true x a b c d e f g i=g { fr:=(x,SV.mr a b) :: St.fr f,hp:=(a,HB.row b c d e) :: St.hp f,n:=St.n f,N:=St.N f,gs:=St.gs f } i:=rfl
theorem Zpl (k v m a T σ r K b):ZyG (some b) k v m a T σ r K=verB (Xk b (St.gs σ)) (Nat.blt b (St.N σ)) b k v m a T σ r K:=rfl
theorem Zp4 (k v m a T σ r K):ZyG none k v m a T σ r K=False:=rfl
theorem Zso (b d k v m a c T σ r K):ZAB true b d k v m a c T σ r K=APM b d k v m a c T σ r K:=rfl
theorem ZqA (b d k v m a c T σ r K):ZAB false b d k v m a c T σ r K=False:=rfl
theorem Znv (b d k v m a T σ r K c e f g):ZBN b d k v m (HB.row c e f g) a T σ r K=ZAB (X9 (Nat.beq m e) (X9 (Nat.beq v c) (Nat.beq T g))) b d k v m f a T σ r K:=rfl
theorem ZpI (b d m a T σ r K k v):ZAG b d m (SV.mr k v) a T σ r K=ZBN b d k v m (lkh k (St.hp σ)) a T σ r K:=rfl
theorem Zsc (d k v m i a b T σ r K):ZAq true d k v m i a b T σ r K=APF d k v m i a b T σ r K:=rfl
theorem Zp7 (d k v m i a b T σ r K):ZAq false d k v m i a b T σ r K=False:=rfl
theorem Zql (d k v m a j i b T σ r K c e f g):ZBR d k v m a j i (HB.row c e f g) b T σ r K=ZAq (X9 (X9 (Nat.beq m a) (Nat.beq j 0)) (X9 (Nat.beq m e) (X9 (Nat.beq v c) (Nat.beq T g)))) d k v m i f b T σ r K:=rfl
theorem Zsw (b d m a T σ r K k v c j i):ZAG b d m (SV.ms k v c j i) a T σ r K=ZBR d k v m c j i (lkh k (St.hp σ)) a T σ r K:=rfl
theorem Zo6 (b d m s T σ r K a):ZyO b d m s (some a) T σ r K=ZAG b d m s a T σ r K:=rfl
theorem Zng (b d m s T σ r K):ZyO b d m s none T σ r K=False:=rfl
theorem Znu (x a b c d e f g):ZyD true x a b c d e f g=f { fr:=St.fr e,hp:=(x,HB.cells (Zv b a d) c) :: St.hp e,n:=St.n e,N:=St.N e,gs:=St.gs e } g:=rfl
theorem Zqi (x a b c d e f g):ZyD false x a b c d e f g=False:=rfl
theorem Zu6 (k o m c σ r K l T):stC k o m (HB.cells l T) c σ r K=ZyD (Nat.ble (o+m) (List.length l)) k o l T c σ r K:=rfl
theorem Zp9 (x a b c d e f g i j k):ZyU true x a b c d e f g i j k=STR x a b c d e f g i j k:=rfl
theorem Zoe (x a b c d e f g i j k):ZyU false x a b c d e f g i j k=False:=rfl
theorem Zvq (k v a j o c σ r K b m d T):stR k v a j o (HB.row b m d T) c σ r K=ZyU (X9 (Nat.beq a m) (Nat.beq v b)) b d j o k a c T σ r K:=rfl
theorem Zwr (k v a j o c σ r K b m d T e f g i):stR k v a j o (HB.rws b m d T e f g i) c σ r K=STW b m d T e f g i v a j o k c σ r K:=rfl
theorem Zw0 (m c σ r K k o):stX (SV.p k o) m c σ r K=stC k o m (lkh k (St.hp σ)) c σ r K:=rfl
theorem Zwf (m c σ r K k v a j o):stX (SV.pr k v a j o) m c σ r K=stR k v a j o (lkh k (St.hp σ)) c σ r K:=rfl
theorem ZhE (x a b c d e):Zef true true x a b c d e=stX x a b c d e:=rfl
theorem ZhH (m x σ r K a):ZeF none (some a) m x σ r K=Zef (chk a m) (Yt a) x m a σ r K:=rfl
theorem ZuC (P Y d σ r K x y m):stp P Y d (SI.st x y m) σ r K=ZeF d (Ys (rdG none (St.fr σ) y)) m (rdG none (St.fr σ) x) σ r K:=rfl
theorem Zuh (P Y d σ r K x m T):stp P Y d (SI.box x m T) σ r K=ZiG d (Ys (rdG none (St.fr σ) x)) T σ r K:=rfl
theorem ZvW (P Y d σ r K z T):stp P Y d (SI.alloc z T) σ r K=ZiG d (some (lit z)) T σ r K:=rfl
theorem ZwB (P Y d σ r K m b T x y):stp P Y d (SI.cln m b T x y) σ r K=Ztp b d m (Zh4 m (rdG none (St.fr σ) x)) (ZdX m (rdG none (St.fr σ) y)) T σ r K:=rfl
theorem Zvb (P Y d σ r K m b z T x):stp P Y d (SI.mks m b z T x) σ r K=Zzg b d m z (rdG none (St.fr σ) x) T σ r K:=rfl
theorem Zud (P Y d σ r K m x y):stp P Y d (SI.cpy m x y) σ r K=ZyF d m (rdG none (St.fr σ) x) (rdG none (St.fr σ) y) σ r K:=rfl
theorem Zya (P Y d σ r K m b T x y):stp P Y d (SI.appm m b T x y) σ r K=ZyO b d m (rdG none (St.fr σ) x) (ZdX m (rdG none (St.fr σ) y)) T σ r K:=rfl
theorem Zu5 (P Y d σ r K f a):stp P Y d (SI.callm f a) σ r K=Zdr P f (UT (rdG none (St.fr σ)) a) d σ r K:=rfl
theorem Zxi (P Y d σ r K x a):stp P Y d (SI.calvm x a) σ r K=ZhF P Y (rdG none (St.fr σ) x) (UT (rdG none (St.fr σ)) a) d σ r K:=rfl
theorem Zqx (P Y d σ r K x):stp P Y d (SI.isn x) σ r K=ZBW d (rdG none (St.fr σ) x) σ r K:=rfl
theorem ZqD (P Y d σ r K a b):stp P Y d (SI.raw a b) σ r K=RAW P d a b σ r K:=rfl
theorem Zob (P Y d σ r K a b):stp P Y d (SI.rv a b) σ r K = ∃ s,RBE P a b σ s/\Yq d s none σ r K:=rfl
theorem Zsn (P Y d σ r K a x b):stp P Y d (SI.rb a x b) σ r K = ∃ k h1 s,rdG none (St.fr σ) x=SV.mp k/\WK (lkh k (St.hp σ)) h1/\RBB P a (x :: b) k (lkh k (St.hp σ)) h1 σ s/\Yq d s none { fr:=St.fr σ,hp:=(k,h1) :: St.hp σ,n:=St.n σ,N:=St.N σ,gs:=St.gs σ } r K:=rfl
theorem Zjt (d σ r K):Zvn d σ r K=Yq d (SV.v undef) none σ r K:=rfl
theorem ZAw (P Y j w d i σ r K b):gK P Y (SV.v (Value.bool b)) j w d i σ r K=GB P Y b j w d i σ r K:=rfl
theorem Zy4 (P Y j w d i σ r K a c b):gK P Y (SV.gd a c (SV.v (Value.bool b))) j w d i σ r K=Yl P (some (j,w)) d i σ r K:=rfl
theorem Zx8 (P Y σ r K d i af):st1 P Y { d:=d,i:=i,g:=none,af:=af } σ r K=stp P Y d i σ r K:=rfl
theorem ZxO (P Y σ r K d i j w af):st1 P Y { d:=d,i:=i,g:=some (j,w),af:=af } σ r K=gK P Y (lk j (St.fr σ)) j w d i σ r K:=rfl
theorem Zq4 (f g σ K b):ZBB (SV.v (Value.bool b)) f g σ K=BR b f g σ K:=rfl
theorem Zpi (k x y):Zzq BinOp.quo k x y=IntKind.wrap k (Int.tdiv x y):=rfl
theorem ZuF (a N):st0 a N={ fr:=Xx 0 a,hp:=[],n:=0,N:=N,gs:=[] }:=rfl
theorem Zon (ρ):UT ρ []=[]:=rfl
theorem Zoo (ρ a r):UT ρ (a :: r) = ρ a :: UT ρ r:=rfl
theorem Zpb (g):Zb9 g []=[]:=rfl
theorem Zp2 (g s l):Zb9 g (s :: l)=g s :: Zb9 g l:=rfl
theorem Zpe (ρ m):ZiB ρ m []=some []:=rfl
theorem ZnM (ρ m a r):ZiB ρ m (a :: r)=Zyy (Ys (ρ a)) m (ZiB ρ m r):=rfl
theorem ZnV (hp):ZmX hp []=[]:=rfl
theorem ZnZ (hp s l):ZmX hp (s :: l)=cvt hp s :: ZmX hp l:=rfl
theorem Zu2: lit []=[]:=rfl
theorem Zv4 (a r):lit (a :: r)=SV.v a :: lit r:=rfl
theorem ZxP: chk [] 0=true:=rfl
theorem Zxg (a l n):chk (a :: l) (Nat.succ n)=chk l n:=rfl
theorem ZvL (x):nth [] x=none:=rfl
theorem ZxC (s a):nth (s :: a) 0=some s:=rfl
theorem ZvO (a l n):nth (a :: l) (Nat.succ n)=nth l n:=rfl
theorem Zir (a l c b):Zv (a :: l) 0 (c :: b)=c :: Zv l 0 b:=rfl
theorem Zh3 (x a l o):Zv (a :: l) (Nat.succ o) x=a :: Zv l o x:=rfl
theorem Zpa (o l t):ZyY o l t true=some ((o,l) :: t):=rfl
theorem Zph (o l t):ZyY o l t false=none:=rfl
theorem ZnY (o m l t):ZyR o m (some l) (some t)=ZyY o l t (chk l m):=rfl
theorem ZqJ (ρ):Zsh ρ []=some []:=rfl
theorem Zqg (ρ o m a r):Zsh ρ ((o,m,a) :: r)=ZyR o m (Ys (ρ a)) (Zsh ρ r):=rfl
theorem Zwc (x):spl x []=x:=rfl
theorem ZuB (x o l r):spl x ((o,l) :: r)=spl (Zv x o l) r:=rfl
theorem ZoP (z t):Zm6 z (some t)=some (spl z t):=rfl
theorem Zn8 (z):Zm6 z none=none:=rfl
theorem ZqW (x):Xx x []=[]:=rfl
theorem Zn3 (x s l):Xx x (s :: l)=(x,s) :: Xx (x+1) l:=rfl
theorem Zww (j w s):gdS (SV.gd j w s)=true:=rfl
theorem Zvd (a):gdS (SV.v a)=false:=rfl
theorem Zvf (k o):gdS (SV.p k o)=false:=rfl
theorem ZuD (l):gdS (SV.agg l)=false:=rfl
theorem Zt4 (c m a):gdS (SV.sl c m a)=false:=rfl
theorem Zwn (k v):gdS (SV.mr k v)=false:=rfl
theorem Zyo (k v m i o):gdS (SV.pr k v m i o)=false:=rfl
theorem ZxT (k v m i l):gdS (SV.ms k v m i l)=false:=rfl
theorem Zvx (a o):gdS (SV.ps a o)=false:=rfl
theorem ZrU (f a):gdS (SV.cl f a)=false:=rfl
theorem ZrE (l):gdS (SV.tup l)=false:=rfl
theorem ZrO (φ):gdS (SV.q φ)=false:=rfl
theorem ZpH (k):gdS (SV.mp k)=false:=rfl
theorem Zq6 (k):gdS (SV.yl k)=false:=rfl
theorem Zok (T s):gdS (SV.ifc T s)=false:=rfl
theorem Zpv: gdS SV.any=false:=rfl
theorem ZxY (ρ k o):rnS ρ (SV.p k o)=SV.p (ρ k) o:=rfl
theorem Zx4 (ρ k v):rnS ρ (SV.mr k v)=SV.mr (ρ k) v:=rfl
theorem Zxl (ρ k v m i o):rnS ρ (SV.pr k v m i o)=SV.pr (ρ k) v m i o:=rfl
theorem Zuu (ρ k v m i o):rnS ρ (SV.ms k v m i o)=SV.ms (ρ k) v m i o:=rfl
theorem Zyn (ρ k):rnS ρ (SV.mp k)=SV.mp (ρ k):=rfl
theorem Zt9 (ρ k):rnS ρ (SV.yl k)=SV.yl (ρ k):=rfl
theorem ZtO (ρ l):rnS ρ (SV.agg l)=SV.agg (rnL ρ l):=rfl
theorem ZtH (ρ l):rnS ρ (SV.tup l)=SV.tup (rnL ρ l):=rfl
theorem Zwd (ρ f l):rnS ρ (SV.cl f l)=SV.cl f (rnL ρ l):=rfl
theorem Znx (ρ T s):rnS ρ (SV.ifc T s)=SV.ifc T (rnS ρ s):=rfl
theorem ZpS (ρ a):rnS ρ (SV.v a)=SV.v a:=rfl
theorem ZoK (ρ c m a):rnS ρ (SV.sl c m a)=SV.sl c m a:=rfl
theorem ZrB (ρ l o):rnS ρ (SV.ps l o)=SV.ps l o:=rfl
theorem Zsp (ρ φ):rnS ρ (SV.q φ)=SV.q φ:=rfl
theorem Zoi (ρ j w s):rnS ρ (SV.gd j w s)=SV.gd j w s:=rfl
theorem Zrg (ρ):rnS ρ SV.any=SV.any:=rfl
theorem ZuM (ρ):rnL ρ []=[]:=rfl
theorem Zwz (ρ s l):rnL ρ (s :: l)=rnS ρ s :: rnL ρ l:=rfl
theorem Zue (ρ l T):rnH ρ (HB.cells l T)=HB.cells (rnL ρ l) T:=rfl
theorem ZwT (ρ v m a T):rnH ρ (HB.row v m a T)=HB.row v m a T:=rfl
theorem Zxj (ρ φ):rnH ρ (HB.ob φ)=HB.ob φ:=rfl
theorem ZvP (ρ a c):rnH ρ (HB.map a c)=HB.map a c:=rfl
theorem Zu7 (ρ a b c d):rnH ρ (HB.it a b c d)=HB.it (ρ a) b c d:=rfl
theorem Zv7 (ρ a b):rnH ρ (HB.lp a b)=HB.lp a b:=rfl
theorem Zt8 (ρ a):rnH ρ (HB.lb a)=HB.lb a:=rfl
theorem Zuq (ρ v m a T o b c d):rnH ρ (HB.rws v m a T o b c d)=HB.rws v m a T o b c d:=rfl
theorem Zyl (ρ):rnH ρ HB.gone=HB.gone:=rfl
theorem Zuy (ρ):rnP ρ []=[]:=rfl
theorem Zub (ρ u s r):rnP ρ ((u,s) :: r)=(ρ u,rnH ρ s) :: rnP ρ r:=rfl
theorem Zjl (ρ):Zb7 ρ 0=[]:=rfl
theorem ZlQ (ρ j):Zb7 ρ (Nat.succ j)=(ρ j,HB.gone) :: Zb7 ρ j:=rfl
theorem ZwZ (b x y):exB b x y=bif b then x else y:=rfl
theorem ZuA (a hp n d σ r K):cmK false a hp n d σ r K=Yq d a none { fr:=St.fr σ,hp:=hp,n:=n,N:=St.N σ,gs:=St.gs σ } r K:=rfl
theorem ZwK (a hp n d σ r K):cmK true a hp n d σ r K=K (Ex.pan a) { fr:=St.fr σ,hp:=hp,n:=n,N:=St.N σ,gs:=St.gs σ }:=rfl
theorem ZkH (P Y a d σ r K f b):ZhF P Y (SV.cl f b) a d σ r K=Zdr P f (a ++ b) d σ r K:=rfl
theorem Zjz (P Y a d σ r K k):ZhF P Y (SV.yl k) a d σ r K=YLD Y k a d σ r K:=rfl
theorem ZvH (p T a s):mtI p T (SV.ifc a s)=(a=T/\p s):=rfl
theorem ZuW (p l):mtO p (some l)=p l:=rfl
theorem Zxd (p):mtO p none=False:=rfl
theorem ZvS (σ K hp n a):itE σ K hp n (HB.lp a none)=K Ex.n { fr:=St.fr σ,hp:=(St.n σ,HB.gone) :: hp,n:=n,N:=St.N σ,gs:=[] }:=rfl
theorem Zxs (σ K hp n a i):itE σ K hp n (HB.lp a (some (Ex.ex i)))=K (Ex.ex i) { fr:=St.fr σ,hp:=(St.n σ,HB.gone) :: hp,n:=n,N:=St.N σ,gs:=[] }:=rfl
theorem Zus (σ K hp n a):itE σ K hp n (HB.lp a (some Ex.ret))=K Ex.ret { fr:=St.fr σ,hp:=(St.n σ,HB.gone) :: hp,n:=n,N:=St.N σ,gs:=[] }:=rfl
theorem ZuU (σ K o):itP σ K o=match Ot.pn o with | false=>itE σ K (Ot.hp o) (Ot.n o) (lkh (St.n σ) (Ot.hp o)) | true=>K (Ex.pan (Ot.res o)) { fr:=St.fr σ,hp:=Ot.hp o,n:=Ot.n o,N:=St.N σ,gs:=[] }:=rfl
theorem Zpt (a r):Zs5 a (HB.lp r none)=(r=a):=rfl
theorem Zoy (a r):Zm8 a (HB.lb r)=(r=a):=rfl
theorem Zw8 (p a s l):pmS (p :: a) (s :: l)=(p,s) :: pmS a l:=rfl
theorem ZnH: Znc [] []=true:=rfl
theorem Znj (a l b m):Znc (a :: l) (b :: m)=Znc l m:=rfl
theorem Zkf (N):Zag N []=true:=rfl
theorem Zmj (N j r):Zag N (j :: r)=bif Nat.blt j N then Zag N r else false:=rfl
theorem Zw9 (p):rfB true p=p:=rfl
theorem Zvi (p):rfB false p=False:=rfl
theorem Zyi (P a b c σ K f d):rfK P a b (SV.cl f d) c σ K=gs0 (St.gs σ) (rfB (Zag (St.N σ) c) (RFUN P a b f d c σ K)):=rfl
theorem Znr (a hp n s):Ztv a hp n (some s)=a { pn:=false,res:=s,hp:=hp,n:=n }:=rfl
theorem Zni (a hp n):Ztv a hp n none=False:=rfl
theorem ZrV (x s):Zyw (some s) x=rvD s x:=rfl
theorem ZrN (x):Zyw none x=none:=rfl
theorem Zse (σ):ZeP σ []=some []:=rfl
theorem Zr1 (σ r a):ZeP σ (r :: a)=Zyw (rv1 σ r) (ZeP σ a):=rfl
theorem Zny (a b x):Uk a b Ex.n x=Ztv b (St.hp x) (St.n x) (rvE (ZeP x a)):=rfl
theorem ZoQ (a b x):Uk a b Ex.ret x=Ztv b (St.hp x) (St.n x) (rvE (ZeP x a)):=rfl
theorem ZnN (a b x s):Uk a b (Ex.pan s) x=b { pn:=true,res:=s,hp:=St.hp x,n:=St.n x }:=rfl
theorem ZoT (a b x c):Uk a b (Ex.ex c) x=False:=rfl
theorem ZxV (a b Φ x):bdE a b Φ Ex.n x=(Zm8 b (lkh a (St.hp x))/\Φ { pn:=false,res:=SV.v (Value.bool true),hp:=(a,HB.lp b none) :: St.hp x,n:=St.n x }):=rfl
theorem ZuL (a b Φ x i):bdE a b Φ (Ex.ex i) x=(Zm8 b (lkh a (St.hp x))/\Φ { pn:=false,res:=SV.v (Value.bool false),hp:=(a,HB.lp b (some (Ex.ex i))) :: St.hp x,n:=St.n x }):=rfl
theorem ZuI (a b Φ x):bdE a b Φ Ex.ret x=(Zm8 b (lkh a (St.hp x))/\Φ { pn:=false,res:=SV.v (Value.bool false),hp:=(a,HB.lp b (some Ex.ret)) :: St.hp x,n:=St.n x }):=rfl
theorem ZvG (a b Φ x s):bdE a b Φ (Ex.pan s) x = Φ { pn:=true,res:=s,hp:=St.hp x,n:=St.n x }:=rfl
theorem Zum (a b c K x):asE a b c K Ex.n x=(Zs5 b (lkh a (St.hp x))/\c { fr:=St.fr x,hp:=(a,HB.lb b) :: St.hp x,n:=St.n x,N:=St.N x,gs:=St.gs x } K):=rfl
theorem Zt3 (a b c K x i):asE a b c K (Ex.ex i) x=False:=rfl
theorem ZxA (a b c K x):asE a b c K Ex.ret x=False:=rfl
theorem Zwa (a b c K x s):asE a b c K (Ex.pan s) x=False:=rfl
theorem Zwk (x):rho [] x=0:=rfl
theorem Zur (a b):rho (a :: b) 0=a:=rfl
theorem ZtV (a l k):rho (a :: l) (Nat.succ k)=rho l k:=rfl
theorem ZuO (ρ a x):mtS ρ a SV.any x=True:=rfl
theorem Zwx (ρ a x k o):mtS ρ a (SV.p k o) x=(k < a/\x=SV.p (ρ k) o):=rfl
theorem Zvz (ρ a x k v):mtS ρ a (SV.mr k v) x=(k < a/\x=SV.mr (ρ k) v):=rfl
theorem Zx2 (ρ a x k v m i o):mtS ρ a (SV.pr k v m i o) x=(k < a/\x=SV.pr (ρ k) v m i o):=rfl
theorem Zxp (ρ a x k v m i o):mtS ρ a (SV.ms k v m i o) x=(k < a/\x=SV.ms (ρ k) v m i o):=rfl
theorem Zvy (ρ a x l):mtS ρ a (SV.agg l) x=mtO (mtL ρ a l) (ZyL x):=rfl
theorem ZwJ (ρ a x l):mtS ρ a (SV.tup l) x=mtO (mtL ρ a l) (ZyK x):=rfl
theorem Zuk (ρ a x f l):mtS ρ a (SV.cl f l) x=mtO (mtL ρ a l) (clL f x):=rfl
theorem Zw4 (ρ a x b):mtS ρ a (SV.v b) x=(x=SV.v b):=rfl
theorem Zqc (ρ a x c m b):mtS ρ a (SV.sl c m b) x=(x=SV.sl c m b/\KFR b):=rfl
theorem Zn4 (ρ a x l o):mtS ρ a (SV.ps l o) x=(x=SV.ps l o/\KFL l):=rfl
theorem Zrk (ρ a x k):mtS ρ a (SV.mp k) x=(k < a/\x=SV.mp (ρ k)):=rfl
theorem Zpg (ρ a x k):mtS ρ a (SV.yl k) x=(k < a/\x=SV.yl (ρ k)):=rfl
theorem ZsI (ρ a x T t):mtS ρ a (SV.ifc T t) x=mtI (mtS ρ a t) T x:=rfl
theorem ZnG (ρ a x φ):mtS ρ a (SV.q φ) x=(x=SV.q φ):=rfl
theorem ZsB (ρ a x j w s):mtS ρ a (SV.gd j w s) x=False:=rfl
theorem ZxZ (ρ a x):mtL ρ a [] x=(x=[]):=rfl
theorem Zxk (ρ a x s l):mtL ρ a (s :: l) x=mtB (mtS ρ a s) (mtL ρ a l) x:=rfl
theorem Zvu (ρ a x):mtH ρ a HB.gone x=True:=rfl
theorem Zxy (ρ a l T b c):mtH ρ a (HB.cells l T) (HB.cells b c)=(c=T/\mtL ρ a l b):=rfl
theorem ZxN (ρ a x v m b T):mtH ρ a (HB.row v m b T) x=(x=HB.row v m b T/\KFR b):=rfl
theorem ZtU (ρ a x φ):mtH ρ a (HB.ob φ) x=(x=HB.ob φ):=rfl
theorem Zxn (ρ a x b c):mtH ρ a (HB.map b c) x=(x=HB.map b c/\∀ (e:Nat × Value × SV),e ∈ b->KF (Prod.snd (Prod.snd e))):=rfl
theorem Zyb (ρ d x e a b c):mtH ρ d (HB.it e a b c) x=(e < d/\x=HB.it (ρ e) a b c):=rfl
theorem Zvj (ρ a x r b):mtH ρ a (HB.lp r b) x=(x=HB.lp r b):=rfl
theorem Zu9 (ρ a x r):mtH ρ a (HB.lb r) x=(x=HB.lb r):=rfl
theorem ZvT (ρ a x v m b T o c d e):mtH ρ a (HB.rws v m b T o c d e) x=(x=HB.rws v m b T o c d e/\KFR b/\∀ (r:List (List SV)),r ∈ d->KFR r):=rfl
theorem Zpu (ρ a l T v m b c):mtH ρ a (HB.cells l T) (HB.row v m b c)=False:=rfl
theorem ZpT (ρ a l T φ):mtH ρ a (HB.cells l T) (HB.ob φ)=False:=rfl
theorem Zns (ρ a l T b c):mtH ρ a (HB.cells l T) (HB.map b c)=False:=rfl
theorem Zqv (ρ a l T b c d e):mtH ρ a (HB.cells l T) (HB.it b c d e)=False:=rfl
theorem Zro (ρ a l T b c):mtH ρ a (HB.cells l T) (HB.lp b c)=False:=rfl
theorem Zpf (ρ a l T b):mtH ρ a (HB.cells l T) (HB.lb b)=False:=rfl
theorem Znn (ρ a l T v m b c o d e f):mtH ρ a (HB.cells l T) (HB.rws v m b c o d e f)=False:=rfl
theorem ZpO (ρ a l T):mtH ρ a (HB.cells l T) HB.gone=False:=rfl
theorem Zu8 (p):mtM true p=True:=rfl
theorem Zx7 (p):mtM false p=p:=rfl
theorem ZxG (ρ a x b):mtF ρ a x [] b=True:=rfl
theorem ZwA (ρ a x b t s r):mtF ρ a x ((t,s) :: r) b=(mtM (Xk t x) (mtS ρ a s (lk t b))/\mtF ρ a (t :: x) r b):=rfl
theorem ZwL (ρ a hp b):mtP ρ a hp b 0=True:=rfl
theorem ZuP (ρ a hp b j):mtP ρ a hp b (Nat.succ j)=(mtH ρ b (lkh j a) (lkh (ρ j) hp)/\mtP ρ a hp b j):=rfl
theorem Zwg (a):hpb a []=True:=rfl
theorem Zvh (a u s r):hpb a ((u,s) :: r)=(u < a/\hpb a r):=rfl
theorem ZxL (a b):eqC 0 (SV.v (Value.bool a)) (SV.v (Value.bool b))=some (a == b):=rfl
theorem Zxe (k a j b):eqC 1 (SV.v (Value.int k a)) (SV.v (Value.int j b))=bif ZdG k j then some (a == b) else none:=rfl
theorem Zyq (a b):eqC 2 (SV.v (Value.string a)) (SV.v (Value.string b))=some (ByteArray.toList a == ByteArray.toList b):=rfl
theorem Zxw (a b):eqA (some a) (some b)=some (a && b):=rfl
theorem Zq0: Zhb [] [] []=some true:=rfl
theorem Zrc (c a b d y e):Zhb (c :: a) (b :: d) (y :: e)=eqA (eqC c b y) (Zhb a d e):=rfl
theorem ZoU (c a b):Zsz c true (SV.agg a) (SV.agg b)=Zhb c a b:=rfl
theorem ZsL (c a b):Zsz c false (SV.v (Value.bool a)) (SV.v (Value.bool b))=some (a == b):=rfl
theorem ZwE (a b):eqR a (some b)=some (SV.v (Value.bool (ngB a b))):=rfl
theorem ZtJ (a):eqR a none=none:=rfl
theorem ZxE (x):ngB true x = !x:=rfl
theorem ZwU (x):ngB false x=x:=rfl
theorem ZnX (m hp c a b):ZvX m hp (SV.sl c a b)=Zhx b (Nat.beq m a):=rfl
theorem ZpK (m hp):ZvX m hp (SV.v (Value.slice none 0 0))=some []:=rfl
theorem ZpE (m hp k v):ZvX m hp (SV.mr k v)=ZiI m v (lkh k hp):=rfl
theorem ZsO (m a b):Zh4 m (SV.sl true a b)=Zhx b (Nat.beq m a):=rfl
theorem ZrA (m):Zh4 m (SV.v (Value.slice none 0 0))=some []:=rfl
theorem Zsj (g m b d σ r K a c):ZyE g m b (some a) (some c) d σ r K=APP g m b a c d σ r K:=rfl
theorem Zru (g m b d σ r K a):ZyE g m b (some a) none d σ r K=False:=rfl
theorem Zn9 (g m b y d σ r K):ZyE g m b none y d σ r K=False:=rfl
theorem ZqU (l):ZyL (SV.agg l)=some l:=rfl
theorem ZoO (l):ZyK (SV.tup l)=some l:=rfl
theorem Zys (f a b):clL f (SV.cl a b)=bif Nat.beq a f then some b else none:=rfl
theorem Zxr (p q):mtB p q []=False:=rfl
theorem Zxz (p q s l):mtB p q (s :: l)=(p s/\q l):=rfl
theorem Zlo (x a b c d e f):Zre false true x a b c d e f=e { fr:=(x,SV.mr (St.n d) 0) :: St.fr d,hp:=(St.n d,HB.row 0 a b c) :: St.hp d,n:=St.n d+1,N:=St.N d,gs:=St.gs d } f:=rfl
theorem ZsF (m a T σ r K b):Znd (some b) m a T σ r K=Zre (Xk b (St.gs σ)) (Nat.blt b (St.N σ)) b m a T σ r K:=rfl
theorem Zsf (m a T σ r K):Znd none m a T σ r K=False:=rfl
theorem ZoJ (b d m T σ r K a):Ztp b d m (some []) (some a) T σ r K=CLN b d m a T σ r K:=rfl
theorem Zrt (b d m y T σ r K a c):Ztp b d m (some (a :: c)) y T σ r K=False:=rfl
theorem Znz (b d m T σ r K):Ztp b d m (some []) none T σ r K=False:=rfl
theorem ZpC (b d m y T σ r K):Ztp b d m none y T σ r K=False:=rfl
theorem ZrK (b d m z T σ r K k n):Zzg b d m z (SV.v (Value.int k n)) T σ r K=MKS b d m (lit z) n T σ r K:=rfl
theorem ZnI (d σ r K c m a):ZBW d (SV.sl c m a) σ r K=ISN d a σ r K:=rfl
theorem ZsM (g d σ r K c m a b n e j):ZBK g (SV.sl c m a) (SV.v (Value.int b n)) (SV.v (Value.int e j)) d σ r K=SLC g n j m a d σ r K:=rfl
theorem ZqX (g m a d σ r K i j):Zyx g m a (some i) (some j) d σ r K=SUB g i j m a d σ r K:=rfl
theorem Zps (g m a d σ r K b):Zyx g m a (some b) none d σ r K=False:=rfl
theorem ZpR (g m a b d σ r K):Zyx g m a none b d σ r K=False:=rfl
theorem ZpP (a ρ):ZcB a ρ none=some a:=rfl
theorem Zqz (a ρ b):ZcB a ρ (some b)=match ρ b with | SV.v (Value.int k n)=>some n | x=>none:=rfl
theorem Zqn (m c a b):ZdX m (SV.sl c a b)=Zhx b (Nat.beq m a):=rfl
theorem ZoR (m):ZdX m (SV.v (Value.slice none 0 0))=some []:=rfl
theorem ZrC (x h j w):ZyW false (.v x) h j w=false:=rfl
theorem Zg1 (x l):Zv (x :: l) 0 []=x :: l:=rfl
theorem ZhQ:Zv [] 0 []=[]:=rfl
attribute [go_sem] Zsc Zp7 Zql Zsw
attribute [go_sem] ZrZ ZsR ZsG Zo9 w64_0 w64_1 w64_2 w64_3 w64_4 w64_5 w64_6 e_stO ZAv Zyh Zp3 Zvm ZBw Zrj Zos ZtI Zr9 ZnE Zox ZzV ZvK ZBh Zwh Zuj phx_1 phx_2 phK_n Zwe Zzt Zwm Zz4 Zrz ZwI Zx5 ZxH Zsx sx_gh Zst ZwW ZAl ZtR Zr2 Zz9 ZqC ZBs ZsH ZAb Zwy Zqu lkB_t lkB_f ZAO Zzk ZwP Zwl Zzd ZAF Zsb Zwt ZwC ZzB ZAR ZzY e_lk e_lk0 e_lkh Zzo ZAU ZvC e_blk ZiR ZnA Zwv Zt5 ZtS Zmv Zr4 Zjn Zpz Zu0 ZuH ZxU ZkI ZqY ZfF Zim ZlM Zj6 Zjy ZfG Zg9 ZgT ZmD ZqP ZpV ZrT Zg7 Zlf Zt1 ZhX Zlw Zqy Zn0 Zn2 Zhl ZiZ Zie ZhW ZjL Zkk Zsk ZqO Zoh ZqT ZnW Zn6 Zg6 Ziz ZlI Zl9 Zh6 Zj5 Zq5 Zsr Zpk Zhu ZlJ Zg8 Zki ZrS ZsE ZsC Zh2 Zls Zfm Zin Zmc Zmn ZlF ZgY ZmY Zqa ZxM Zxc Zv2 Zkv Zrl Zhr Zkx ZpZ Zsu ZnS ZhT Zmw ZhN Zi3 Zhz ZkS Ze9 Zio ZjR ZkU Zm4 Zfh Zh5 ZeS ZeR e_yld e_exR e_hpM ZjX Zfs Zid Zlt Zle ZlL ZhK Zk8 Zu3 ZeU Zig Zfy Zhd Zc4 Zck Zd3 Zcc ZbL e_rdG ZBz ZAT ZAn e_alw Zy7 e_vw1 e_vw2 e_vw3 e_vw4 Zog ZoI Zzj ZjA Zlb Zhy ZhZ Zg3 ZhU Zhh ZhY ZhL Zhs ZgV Zlr Zhc ZhA ZgW ZjY Zha Zih Ziq Zrw ZrH ZjD Zla ZkO Zm0 ZrR Zn1 ZAI Zxq Zvr e_mm e_bld ZhG ZzH ZoL Zjh ZrG Zpr ZrI ZjF ZiS e_rvR ZBx ZvM Zvk ZsK Zib Ze1 ZiT ZpA Zh0 Zkj Zld Zqh Zhf ZkP ZkT Zlm Zi4 ZjP Zp5 Zhm ZhM Zmk ZhP Zl3 e_rvs Zoz Zkl Zp1 ZtN ZBn Zmg ZlS Zj8 Zmd Zsa Zqm Zvp ZuK Zyf Zv1 ZuY Zw7 ZvA Zux Zt7 ZxB ZvD Zod ZpF ZnK ZoB Zr6 ZrJ Zqo Zoq ZsN ZoW Zqf ZqS ZxD Zwp Zw6 Zvt ZwR Zvv Zx1 Zu4 Zwi ZwS ZuT Zv0 ZvF Zqw ZqZ ZrQ ZoY Zqk ZpJ Zrm ZqH Zl8 Zlz Zor Znl ZjM ZjH Zv6 ZxK Zl4 ZjW ZiN ZiY Zrq Zom ZjO Zp8 Zq2 ZrY Zpm ZsQ ZsP Zr7 Zo7 Zrh ZnB Zw3 ZtK ZuX ZtT Zui Zw1 Zug Zvc Zqs Zou ZoE Zrd ZnU ZpY Zsq Zrb Znm Zri Zof ZrF Zrf ZpN ZpW Zqr Zrr Zsm Zov ZkA Zji ZlY ZjE Zmb Zm5 ZkJ ZkB ZiU ZmM Zka Zja Zj7 ZjQ ZkE Zjb Zjj Zmz ZlT ZmC Zjp ZmW ZiV ZlD Zjw ZkF Zko ZmO Zkp ZoA Zpc ZlA Zsv Zra Zry Zp6 Zpj Zo3 Zzi Zzw ZsA ZoV ZoH ZpX Zr5 ZqV Znk Zpq ZnP ZrW ZpL Znq Zpl Zp4 Zso ZqA Znv ZpI Zo6 Zng Znu Zqi Zu6 Zp9 Zoe Zvq Zwr Zw0 Zwf ZhE ZhH ZuC Zuh ZvW ZwB Zvb Zud Zya Zu5 Zxi Zqx ZqD Zob Zsn Zjt ZAw Zy4 Zx8 ZxO Zq4 Zpi ZuF Zon Zoo Zpb Zp2 Zpe ZnM ZnV ZnZ Zu2 Zv4 ZxP Zxg ZvL ZxC ZvO Zir Zh3 Zpa Zph ZnY ZqJ Zqg Zwc ZuB ZoP Zn8 ZqW Zn3 Zww Zvd Zvf ZuD Zt4 Zwn Zyo ZxT Zvx ZrU ZrE ZrO ZpH Zq6 Zok Zpv ZxY Zx4 Zxl Zuu Zyn Zt9 ZtO ZtH Zwd Znx ZpS ZoK ZrB Zsp Zoi Zrg ZuM Zwz Zue ZwT Zxj ZvP Zu7 Zv7 Zt8 Zuq Zyl Zuy Zub Zjl ZlQ ZwZ ZuA ZwK ZkH Zjz ZvH ZuW Zxd ZvS Zxs Zus ZuU Zpt Zoy Zw8 ZnH Znj Zkf Zmj Zw9 Zvi Zyi Znr Zni ZrV ZrN Zse Zr1 Zny ZoQ ZnN ZoT ZxV ZuL ZuI ZvG Zum Zt3 ZxA Zwa Zwk Zur ZtV ZuO Zwx Zvz Zx2 Zxp Zvy ZwJ Zuk Zw4 Zqc Zn4 Zrk Zpg ZsI ZnG ZsB ZxZ Zxk Zvu Zxy ZxN ZtU Zxn Zyb Zvj Zu9 ZvT Zpu ZpT Zns Zqv Zro Zpf Znn ZpO Zu8 Zx7 ZxG ZwA ZwL ZuP Zwg Zvh ZxL Zxe Zyq Zxw Zq0 Zrc ZoU ZsL ZwE ZtJ ZxE ZwU ZnX ZpK ZpE ZsO ZrA Zsj Zru Zn9 ZqU ZoO Zys Zxr Zxz Zlo ZsF Zsf ZoJ Zrt Znz ZpC ZrK ZnI ZsM ZqX Zps ZpR ZpP Zqz Zqn ZoR ZrC Zg1 ZhQ List.drop List.take List.length List.cons_append List.nil_append Nat.beq Nat.blt Nat.ble Nat.zero_add Nat.add_zero Nat.mul_one Nat.zero_mul Nat.one_mul cond_true cond_false List.set
attribute [go_sem] Zzh ZuJ
section typed
variable {K V:Type} [DecidableEq K]
def mpS (key:K->Value) (val:V->SV) (L:List (Nat × K × V)):List (Nat × Value × SV):=L.map λe=>(e.1,key e.2.1,val e.2.2)
def XH (k:K):List (Nat × K × V)->Option V
 | []=>none
 | e :: l=>if e.2.1=k then some e.2.2 else XH k l
def UR (c:Nat) (k:K) (v:V):List (Nat × K × V)->List (Nat × K × V)
 | []=>[(c,k,v)]
 | e :: l=>if e.2.1=k then (e.1,k,v) :: l else e :: UR c k v l
def UM (k:K):List (Nat × K × V)->List (Nat × K × V)
 | []=>[]
 | e :: l=>if e.2.1=k then l else e :: UM k l
def Zcn (c:Nat) (k:K) (L:List (Nat × K × V)):Nat:=bif (XH k L).isSome then c else c+1
def fI (k:K):List K->List MapEntry->Nat->Option (Nat × Value)
 | q :: ks,e :: ys,i=>if q=k then some (i,e.val) else fI k ks ys (i+1)
 | _,_,_=>none
structure KeyT (P:Program) (kt:TypeId) (key:K->Value) (sv:K->SV):Prop where
 chk:∀ (em:Bool) (k:K) (w:World),(Instr.checkKey em 10000 kt (key k)).run P w = .ok () w
 fnd:∀ (k:K) (ks:List K) (ys:List MapEntry) (w:World),ys.map (·.key)=ks.map key->(Instr.findKey kt (key k) ys).run P w = .ok (fI k ks ys 0) w
 same:∀ k,Instr.sameBits 10000 (key k) (key k)=true
 svR:∀ {w:World} {E:Env} {n ok:Nat->Prop} (k:K) (y:Value),R w E n ok (sv k) y↔y=key k
theorem ZbJ {w:World} {E:Env} {n ok:Nat->Prop} {key:K->Value} {val:V->SV} (k:K):∀ (L:List (Nat × K × V)) (ys:List MapEntry) (i:Nat),RM w E n ok (mpS key val L) ys ->
 (XH k L=none/\fI k (L.map (·.2.1)) ys i=none/\UM k L=L/\∀ {w':World} {E':Env} {n' ok':Nat->Prop} c v' y',R w' E' n' ok' (val v') y'->RM w' E' n' ok' (mpS key val L) ys->RM w' E' n' ok' (mpS key val (UR c k v' L)) (ys ++ [⟨key k,y',c⟩])) \/
 ∃ j v e,XH k L=some v/\fI k (L.map (·.2.1)) ys i=some (i+j,e.val)/\ys[j]? = some e/\e.key=key k/\R w E n ok (val v) e.val /\
  (∀ {w':World} {E':Env} {n' ok':Nat->Prop},RM w' E' n' ok' (mpS key val L) ys->RM w' E' n' ok' (mpS key val (UM k L)) (ys.eraseIdx j)/\∀ c v' y',R w' E' n' ok' (val v') y'->RM w' E' n' ok' (mpS key val (UR c k v' L)) (ys.modify j λe=>{ e with key:=key k,val:=y' }))
 | [],ys,i,h=>by
  simp only [mpS,List.map_nil,RM] at h;subst h;exact .inl ⟨rfl,rfl,rfl,λc v' y' hR _=>by simp only [UR,mpS,List.map_cons,List.map_nil,List.nil_append,RM];exact ⟨y',[],rfl,hR,rfl⟩⟩
 | e :: l,ys,i,h=>by
  simp only [mpS,List.map_cons,RM] at h;obtain ⟨y,r,rfl,h1,h2⟩:=h;by_cases hk:e.2.1=k
  . refine .inr ⟨0,e.2.2,⟨key e.2.1,y,e.1⟩,by simp [XH,hk],by simp [fI,hk],rfl,by simp [hk],h1,λ{w' E' n' ok'} h'=>?_⟩;simp only [mpS,List.map_cons,RM] at h';obtain ⟨y0,r0,e0,h3,h4⟩:=h';cases e0
    refine ⟨by simpa [UM,hk,mpS] using h4,λc v' y' hR=>?_⟩;simp only [UR,hk,if_true,mpS,List.map_cons,RM];exact ⟨y',r,by simp,hR,h4⟩
  . rcases ZbJ k l r (i+1) h2 with ⟨a1,a2,a3,a4⟩ | ⟨j,v,e',b1,b2,b3,b4,b5,b6⟩
    . refine .inl ⟨by simp [XH,hk,a1],by simp [fI,hk,a2],by simp [UM,hk,a3],λ{w' E' n' ok'} c v' y' hR h'=>?_⟩;simp only [mpS,List.map_cons,RM] at h';obtain ⟨y0,r0,e0,h3,h4⟩:=h';cases e0
      simp only [UR,hk,if_false,mpS,List.map_cons,RM];exact ⟨y,_,rfl,h3,a4 c v' y' hR h4⟩
    . refine .inr ⟨j+1,v,e',by simp [XH,hk,b1],by simp [fI,hk,b2];omega,by simpa using b3,b4,b5,λ{w' E' n' ok'} h'=>?_⟩;simp only [mpS,List.map_cons,RM] at h';obtain ⟨y0,r0,e0,h3,h4⟩:=h';cases e0
      obtain ⟨c1,c2⟩:=b6 h4;refine ⟨?_,λc v' y' hR=>?_⟩
      . simp only [UM,hk,if_false,mpS,List.map_cons,RM];exact ⟨y,_,by simp,h3,c1⟩
      . simp only [UR,hk,if_false,mpS,List.map_cons,RM];exact ⟨y,_,by simp,h3,c2 c v' y' hR⟩
omit [DecidableEq K] in
theorem ZbW {w:World} {E:Env} {n ok:Nat->Prop} {key:K->Value} {val:V->SV}:∀ {L:List (Nat × K × V)} {ys:List MapEntry},RM w E n ok (mpS key val L) ys->ys.map (·.key)=(L.map (·.2.1)).map key
 | [],ys,h=>by simp only [mpS,List.map_nil,RM] at h;subst h;rfl
 | e :: l,ys,h=>by
  simp only [mpS,List.map_cons,RM] at h;obtain ⟨y,r,rfl,h1,h2⟩:=h;simp only [List.map_cons,List.cons.injEq,true_and];exact ZbW h2
theorem Ztt {w:World} {E:Env} {n ok:Nat->Prop}:∀ {L:List (Nat × Value × SV)} {ys:List MapEntry},RM w E n ok L ys->ys.length=L.length
 | [],ys,h=>by simp only [RM] at h;subst h;rfl
 | e :: l,ys,h=>by simp only [RM] at h;obtain ⟨y,r,rfl,h1,h2⟩:=h;simp [Ztt h2]
theorem ZkL {w:World} {E:Env} {n ok:Nat->Prop}:∀ {L:List (Nat × Value × SV)} {ys:List MapEntry},RM w E n ok L ys->∀ e ∈ ys,∃ x ∈ L,e.born=x.1/\e.key=x.2.1/\R w E n ok x.2.2 e.val
 | [],ys,h=>by simp only [RM] at h;subst h;simp
 | e :: l,ys,h=>by
  simp only [RM] at h;obtain ⟨y,r,rfl,h1,h2⟩:=h;intro e' he';rcases List.mem_cons.1 he' with rfl | he'
  . exact ⟨e,by simp,rfl,rfl,h1⟩
  . obtain ⟨x,hx,h⟩:=ZkL h2 e' he';exact ⟨x,by simp [hx],h⟩
theorem Zl1 {w:World} {E:Env} {n ok:Nat->Prop}:∀ {L:List (Nat × Value × SV)} {ys:List MapEntry},RM w E n ok L ys->∀ x ∈ L,∃ e ∈ ys,e.born=x.1
 | [],ys,h=>by simp
 | e :: l,ys,h=>by
  simp only [RM] at h;obtain ⟨y,r,rfl,h1,h2⟩:=h;intro x hx;rcases List.mem_cons.1 hx with rfl | hx
  . exact ⟨_,List.mem_cons_self,rfl⟩
  . obtain ⟨e',he',h⟩:=Zl1 h2 x hx;exact ⟨e',by simp [he'],h⟩
theorem ZAZ {P:Program} {kt:TypeId} {kd:IntKind} (hu:P.underlying kt=some (.int kd)):KeyT P kt (λn:Int=>.int kd n) (λn=>.v (.int kd n)):=by
 refine ⟨λem k w=>MapKept.run_checkKey hu (by simp [MapKept.IsKey]) em _,λk ks ys w h=>?_,λk=>by simp [Instr.sameBits],λk y=>by simp only [R]⟩;have:∀ (ks:List Int) (ys:List MapEntry) (i:Nat),ys.map (·.key)=ks.map (λn:Int=>Value.int kd n)->Instr.findNow (.int kd) (.int kd k) ys i=some (fI k ks ys i):=by
  intro ks ys
  induction ys generalizing ks with
  | nil=>intro i h;cases ks with
   | nil=>rfl
   | cons a b=>simp at h
  | cons e ys ih=>intro i h;cases ks with
   | nil=>simp at h
   | cons a b =>
    simp only [List.map_cons,List.cons.injEq] at h;simp only [Instr.findNow,h.1,Instr.sameNow,if_true,fI];by_cases ha:a=k
    . subst ha;simp
    . have:(k == a)=false:=by simpa using λe=>ha e.symm
      simp [this,ha,ih b (i+1) h.2]
 exact MapKept.run_findKey hu (this ks ys 0 h)
end typed
section
variable {P:Program} {C:Cx} {E:Env} {σ : St} {a:Act} {w:World}
def Ug (σ : St):Operand->SV
 | .tmp u=>lk u σ.fr
 | .const x=>.v x
 | _=>.any
theorem XO (h:Sim C E σ a w) {o:Operand} {s:SV} (hs:Ug σ o=s) (hg:∀ j b u,s≠.gd j b u):R w E (ltn σ.n) (okS C E σ.hp) s (a.eval o):=by
 cases o with
 | tmp u =>
  have:=Zt6 (h.fr u) (λj b u' e=>hg j b u' (by rw [<- hs];exact e));simp only [Ug] at hs;rw [hs] at this;exact this
 | const x=>simp only [Ug] at hs;subst hs;simp only [R];rfl
 | _=>simp only [Ug] at hs;subst hs;simp only [R]
theorem Zaj (h:Sim C E σ a w) {km c:Nat} {es:List (Nat × Value × SV)} (hk:lkh km σ.hp = .map es c) :
 ltn σ.n km/\∃ ys,w.heap[E.β km]? = some (.map ys c)/\RM w E (ltn σ.n) (okS C E σ.hp) es ys.toList:=by
 have hb:=h.hs.bk km;rw [hk] at hb;refine ⟨?_,hb⟩;rcases Classical.em (ltn σ.n km) with q | q
 . exact q
 . rw [h.hs.kn km q] at hk;cases hk
theorem Zs3 {d:Option Nat} {s:SV} {r:KT} {K:RK} {y:Value} {w':World} {E':Env} {hp':List (Nat × HB)} {n':Nat} {next:Act->World->Prop} (hk:Yq d s none ⟨σ.fr,hp',n',σ.N,σ.gs⟩ r K) (h:Sim C E σ a w)
 (hst:ZG w w' (okS C E σ.hp) (okS C E' hp')) (hE:∀ k,k < σ.n->Ele E E' k k) (hn:σ.n<=n') (hh:HSim C E' hp' (ltn n') w') (hR:R w' E' (ltn n') (okS C E' hp') s y)
 (hnext:∀ σ' E' a' w',r σ' K->Sim C E' σ' a' w'->next a' w'):next (a.put d y) w':=by
 rcases UU hk with ⟨g1,g2⟩ | ⟨t,g1,g2,g3,g4,g5⟩
 . rw [g1];exact hnext _ E' _ _ g2 (YA (σ:=σ) h hst hE hn hh)
 . rw [g1];exact hnext _ E' _ _ g5 (Xo (σ:=σ) h hst hE hn hh g2 g3 (λj b u e=>by rw [e] at g4;cases g4) hR)
theorem XF {d:Option Nat} {s:SV} {r:KT} {K:RK} {y:Value} {next:Act->World->Prop} (hk:Yq d s none σ r K) (h:Sim C E σ a w) (hR:R w E (ltn σ.n) (okS C E σ.hp) s y)
 (hnext:∀ σ' E' a' w',r σ' K->Sim C E' σ' a' w'->next a' w'):next (a.put d y) w :=
 Zs3 (hp':=σ.hp) (n':=σ.n) hk h (λb hb _=>⟨hb,rfl⟩) (λ_ _=>Ele.rfl) (Nat.le_refl _) h.hs hR hnext
theorem Zjg {K':Type} [DecidableEq K'] {kt:TypeId} {key:K'->Value} {sv:K'->SV} (hK:KeyT P kt key sv) (k:K'):∀ j b u,sv k≠.gd j b u:=λj b u e=>by
 have:=(hK.svR (w:=default) (E:=⟨λ_=>0,λ_ _=>undef,λ_=>0⟩) (n:=λ_=>True) (ok:=λ_=>True) k (key k)).2 rfl;rw [e] at this;simp only [R] at this
theorem ZdW {hp:List (Nat × HB)} {n:Nat->Prop} {q:Nat} {hb:HB} {o:Obj} (h:HSim C E hp n w) (hq:¬ n q) (hocc:∀ (E:Env) b,occ E q hb b↔b=E.β q)
 (hok:∀ E',(∀ k,n k->Ele E E' k k)->E'.β q=w.heap.size->Ya (w.alloc o) E' (λk=>n k\/k=q) (okS C E' ((q,hb) :: hp)) q hb) :
 ∃ E',(∀ k,n k->Ele E E' k k)/\E'.β q=w.heap.size/\HSim C E' ((q,hb) :: hp) (λk=>n k\/k=q) (w.alloc o)/\ZG w (w.alloc o) (okS C E hp) (okS C E' ((q,hb) :: hp)):=by
 let E':Env:=⟨λk=>if k=q then w.heap.size else E.β k,E.hv,E.iss⟩
 have hE:∀ k,n k->Ele E E' k k:=λk hk=>⟨by simp [E',show k≠q from by rintro rfl;exact hq hk],Nat.le_refl _,λ_ _=>rfl⟩;have hEn:E'.β q=w.heap.size:=by simp [E']
 have hbel:Below w.heap.size w (w.alloc o):=(Below.refl _ _).alloc (Nat.le_refl _) _;have hoc:∀ j b,j≠q->(occ E' j (lkh j ((q,hb) :: hp)) b↔occ E j (lkh j hp) b):=λj b hj=>by
  rw [Zs,if_neg hj];cases hl:lkh j hp<;>simp only [occ,E',if_neg hj]
 have hocn:∀ b,occ E' q (lkh q ((q,hb) :: hp)) b↔b=w.heap.size:=λb=>by
  rw [Zs,if_pos rfl,hocc,hEn]
 have hlt:∀ b,b < w.heap.size->(okS C E' ((q,hb) :: hp) b↔okS C E hp b):=λb hb'=>by
  unfold okS;constructor
  . rintro ⟨h1,h2⟩;refine ⟨h1,λj hj=>?_⟩;by_cases hjn:j=q
    . subst hjn;rw [h.kn j hq] at hj;exact hj
    . exact h2 j ((hoc j b hjn).2 hj)
  . rintro ⟨h1,h2⟩;refine ⟨h1,λj hj=>?_⟩;by_cases hjn:j=q
    . subst hjn;rw [hocn] at hj;omega
    . exact h2 j ((hoc j b hjn).1 hj)
 have hst:ZG w (w.alloc o) (okS C E hp) (okS C E' ((q,hb) :: hp)):=λb hb' hs=>by
  have hlt':b < w.heap.size:=by
   obtain ⟨o,ho⟩:=Option.isSome_iff_exists.1 hs;exact (Array.getElem?_eq_some_iff.1 ho).1
  exact ⟨(hlt b hlt').2 hb',hbel.block b hlt'⟩
 refine ⟨E',hE,hEn,⟨λj hj=>?_,λj=>?_,λj j' b h1 h2=>?_,λj b h1=>?_,WX h.kp hbel,λk hk=>(by obtain ⟨p1,p2⟩:=h.pin k hk;exact ⟨.inl p1,p2.trans (hE k p1)⟩)⟩,hst⟩
 . rw [Zs,if_neg (λe=>hj (.inr e))];exact h.kn j (λe=>hj (.inl e))
 . rw [Zs];by_cases hj:j=q
   . subst hj;rw [if_pos rfl];exact hok E' hE hEn
   . rw [if_neg hj];refine YH hst hE (λ_ h=>.inl h) ?_ (λb ho=>hbel.block b (YE h ho)) (by simp [E',hj]) (h.bk j);rcases Classical.em (n j) with h' | h'
     . exact .inr h'
     . exact .inl (h.kn j h')
 . by_cases hj:j=q<;>by_cases hj':j'=q
   . omega
   . subst hj;rw [hocn] at h1;rw [hoc j' b hj'] at h2;have:=YE h h2;omega
   . subst hj';rw [hocn] at h2;rw [hoc j b hj] at h1;have:=YE h h1;omega
   . exact h.dj j j' b ((hoc j b hj).1 h1) ((hoc j' b hj').1 h2)
 . by_cases hj:j=q
   . subst hj;rw [hocn] at h1;exact .inl (by rw [h1];exact h.kp.size)
   . exact h.lo j b ((hoc j b hj).1 h1)
end
section
variable {P:Program} {K' V:Type} [DecidableEq K'] {key:K'->Value} {sv:K'->SV} {val:V->SV} {L:List (Nat × K' × V)} {km c:Nat} {kt et t ty:TypeId} {mx ix vx:Operand} {σ : St} {r:KT} {K:RK} {d:Option Nat} {k:K'}
theorem Za8 {u:Nat} {rs:Option Operand} (hr:rs=none) (h1:Xk u σ.gs=false) (h2:Nat.blt u σ.N=true) (h:r ⟨(u,.mp σ.n) :: σ.fr,(σ.n,.map [] 0) :: σ.hp,σ.n+1,σ.N,σ.gs⟩ K) :
 RAW P (some u) (.makeMap t rs) ty σ r K:=by
 subst hr;intro o C E a w next Q e1 e2 e3 hS hn hq
 obtain ⟨E',k1,k2,k3,k4⟩:=ZdW (q:=σ.n) (hb:=.map [] 0) (o:=.map #[] 0) hS.hs (by simp [ltn]) (λE b=>by simp only [occ]) (λE' g1 g2=>by
  simp only [Ya,g2];exact ⟨#[],heap_alloc_new _ _,rfl⟩)
 have hV:(λk=>ltn σ.n k\/k = σ.n)=ltn (σ.n+1):=by funext k;simp only [ltn,eq_iff_iff];omega
 rw [hV] at k3;have hx:(execOp a.eval o).run P w = .ok (.value (.map (some w.heap.size))) (w.alloc (.map #[] 0)):=by
  obtain ⟨dst',op',ty',pos,after,guard⟩:=o;simp only at e2;subst e2;simp [execOp,Sem.run_bind,Instr.makeMap,ZdC,Sem.run_pure]
 refine Zy hx (by simp) ?_;show next (a.put o.dst _) _;rw [e1];refine hn _ E' _ _ h (Xo hS k4 k1 (by omega) k3 (λhh=>?_) (by simpa [Nat.blt_eq] using h2) (λ_ _ _ e=>by cases e) ?_)
 . rw [ZW.2 hh] at h1;cases h1
 . simp only [R,k2];exact ⟨by simp [ltn],trivial⟩
theorem Zfb {ok:Bool} {zs:SV} {z:Value} (hm:Ug σ mx = .mp km) (hh:lkh km σ.hp = .map (mpS key val L) c) (ht:P.underlying t=some (.map kt et)) (hK:KeyT P kt key sv) (hi:Ug σ ix=sv k)
 (hz:Y1 P et=some z) (hzR:∀ w E n ok,R w E n ok zs z)
 (h1:∀ v,XH k L=some v->Yq d (bif ok then .tup [val v,.v (.bool true)] else val v) none σ r K) (h0:XH k L=none->Yq d (bif ok then .tup [zs,.v (.bool false)] else zs) none σ r K) :
 RAW P d (.lookup t mx ix ok) ty σ r K:=by
 intro o C E a w next Q e1 e2 e3 hS hn hq;have hmv:=XO hS hm (λ_ _ _=>by simp);have hiv:=(hK.svR k _).1 (XO hS hi (Zjg hK k));simp only [R] at hmv;obtain ⟨g0,ys,g1,g2⟩:=Zaj hS hh;have hfn:=λw=>hK.fnd k _ _ w (ZbW g2);have hex:∀ y,(Instr.lookup t (a.eval mx) (a.eval ix) ok).run P w = .ok y w->(execOp a.eval o).run P w = .ok (.value y) w:=λy hy=>by
  obtain ⟨dst',op',ty',pos,after,guard⟩:=o;simp only at e2;subst e2;simp only [execOp,Sem.run_bind,hy,Result.andThen_ok,Sem.run_pure]
 rcases ZbJ (w:=w) (E:=E) (n:=ltn σ.n) (ok:=okS C E σ.hp) k L ys.toList 0 g2 with ⟨a1,a2,-,-⟩ | ⟨j,v,e,b1,b2,b3,b4,b5,-⟩
 . have hrun:(Instr.lookup t (a.eval mx) (a.eval ix) ok).run P w = .ok (if ok then .tuple #[z,.bool false] else z) w:=by
    rw [hmv.2,hiv];simp only [Instr.lookup,Sem.run_bind,run_underlying ht,Result.andThen_ok,Yj g1 rfl,Sem.run_pure,hK.chk,hfn,a2,VL hz]
   refine Zy (hex _ hrun) (by simp) ?_;show next (a.put o.dst _) _;rw [e1];refine XF (h0 a1) hS ?_ hn;cases ok
   . exact hzR _ _ _ _
   . simp only [cond_true,if_true,R,RL];exact ⟨_,rfl,_,_,rfl,hzR _ _ _ _,_,_,rfl,rfl,rfl⟩
 . have hrun:(Instr.lookup t (a.eval mx) (a.eval ix) ok).run P w = .ok (if ok then .tuple #[e.val,.bool true] else e.val) w:=by
    rw [hmv.2,hiv];simp only [Instr.lookup,Sem.run_bind,run_underlying ht,Result.andThen_ok,Yj g1 rfl,Sem.run_pure,hK.chk,hfn,b2]
   refine Zy (hex _ hrun) (by simp) ?_;show next (a.put o.dst _) _;rw [e1];refine XF (h1 v b1) hS ?_ hn;cases ok
   . exact b5
   . simp only [cond_true,if_true,R,RL];exact ⟨_,rfl,_,_,rfl,b5,_,_,rfl,rfl,rfl⟩
theorem Zp0 {v:V} {s:SV} {ins:Bool} (hm:Ug σ mx = .mp km) (hh:lkh km σ.hp = .map (mpS key val L) c) (ht:P.underlying t=some (.map kt et)) (hK:KeyT P kt key sv) (hi:Ug σ ix=sv k)
 (hv:Ug σ vx=s) (hvg:∀ j b u,s≠.gd j b u) (hsv:∀ w E n ok y,R w E n ok s y->R w E n ok (val v) y) (h:r ⟨σ.fr,(km,.map (mpS key val (UR c k v L)) (Zcn c k L)) :: σ.hp,σ.n,σ.N,σ.gs⟩ K) :
 RAW P none (bif ins then .insert t mx ix vx else .mapUpdate t mx ix vx) ty σ r K:=by
 intro o C E a w next Q e1 e2 e3 hS hn hq;have hmv:=XO hS hm (λ_ _ _=>by simp);have hiv:=(hK.svR k _).1 (XO hS hi (Zjg hK k));have hvv:=hsv _ _ _ _ _ (XO hS hv hvg);simp only [R] at hmv;obtain ⟨g0,ys,g1,g2⟩:=Zaj hS hh;have hfn:=λw=>hK.fnd k _ _ w (ZbW g2);have hex:∀ w',(Instr.mapUpdate t (a.eval mx) (a.eval ix) (a.eval vx)).run P w = .ok () w'->(execOp a.eval o).run P w = .ok .skip w':=λw' hy=>by
  obtain ⟨dst',op',ty',pos,after,guard⟩:=o;simp only at e2;subst e2;cases ins<;>simp only [cond_true,cond_false,execOp,Sem.run_bind,hy,Result.andThen_ok,Sem.run_pure]
 have hfin:∀ ys',((ys':Array MapEntry),Zcn c k L)=(ys',Zcn c k L)->(∀ {w':World} {ok':Nat->Prop},RM w' E (ltn σ.n) ok' (mpS key val L) ys.toList->R w' E (ltn σ.n) ok' (val v) (a.eval vx)->RM w' E (ltn σ.n) ok' (mpS key val (UR c k v L)) ys'.toList) ->
  next (a.put o.dst undef) (V7 w (E.β km) (.map ys' (Zcn c k L))):=λys' _ hRM=>by
  obtain ⟨q1,q2⟩:=Va (k:=km) (hb:=.map (mpS key val (UR c k v L)) (Zcn c k L)) (o:=.map ys' (Zcn c k L)) hS.hs (λb=>by rw [hh];simp only [occ]) (λb=>by simp only [occ]) (λhlt hst=>by
   simp only [Ya]
   exact ⟨ys',X8 hlt,hRM (Zbc hst.c (λ_ _=>Ele.rfl) (λ_ h=>h) _ _ g2) (ZU hst.c (λ_ _=>Ele.rfl) (λ_ h=>h) _ _ hvv)⟩)
  rw [e1];exact hn _ E _ _ h (YA hS q2 (λ_ _=>Ele.rfl) (Nat.le_refl _) q1)
 rcases ZbJ (w:=w) (E:=E) (n:=ltn σ.n) (ok:=okS C E σ.hp) k L ys.toList 0 g2 with ⟨a1,a2,-,a4⟩ | ⟨j,v0,e,b1,b2,b3,b4,b5,b6⟩
 . have hc:Zcn c k L=c+1:=by simp [Zcn,a1]
   have hrun:(Instr.mapUpdate t (a.eval mx) (a.eval ix) (a.eval vx)).run P w = .ok () (V7 w (E.β km) (.map (ys.push ⟨key k,a.eval vx,c⟩) (c+1))):=by
    rw [hmv.2,hiv];simp only [Instr.mapUpdate,Sem.run_bind,run_underlying ht,Result.andThen_ok,Yj g1 rfl,Sem.run_pure,hK.chk,hfn,a2,YS _ g1 rfl]
   refine Zy (hex _ hrun) (by simp) ?_;show next (a.put o.dst undef) _;rw [<- hc];exact hfin _ rfl λh1 h2=>by rw [Array.toList_push];exact a4 c v _ h2 h1
 . have hc:Zcn c k L=c:=by simp [Zcn,b1]
   rw [Nat.zero_add] at b2;have hek:((ys[j]?).map (·.key)).getD (key k)=key k:=by
    have:ys[j]? = some e:=by simpa using b3
    simp [this,b4]
   have hrun:(Instr.mapUpdate t (a.eval mx) (a.eval ix) (a.eval vx)).run P w = .ok () (V7 w (E.β km) (.map (ys.modify j λe=>{ e with key:=key k,val:=a.eval vx }) c)):=by
    rw [hmv.2,hiv];simp only [Instr.mapUpdate,Sem.run_bind,run_underlying ht,Result.andThen_ok,Yj g1 rfl,Sem.run_pure,hK.chk,hfn,b2,hek,Instr.keyThatStays,hK.same,if_true,YS _ g1 rfl]
   refine Zy (hex _ hrun) (by simp) ?_;show next (a.put o.dst undef) _;have:=hfin (ys.modify j λe=>{ e with key:=key k,val:=a.eval vx }) rfl λ{w' ok'} h1 h2=>by
    rw [Array.toList_modify];exact (b6 h1).2 c v _ h2
   rw [hc] at this;exact this
theorem ZcV {v:V} {ins:Bool} (hm:Ug σ mx = .mp km) (hh:lkh km σ.hp = .map (mpS key val L) c) (ht:P.underlying t=some (.map kt et)) (hK:KeyT P kt key sv) (hi:Ug σ ix=sv k)
 (hv:Ug σ vx=val v) (hvg:∀ j b u,val v≠.gd j b u) (h:r ⟨σ.fr,(km,.map (mpS key val (UR c k v L)) (Zcn c k L)) :: σ.hp,σ.n,σ.N,σ.gs⟩ K) :
 RAW P none (bif ins then .insert t mx ix vx else .mapUpdate t mx ix vx) ty σ r K:=Zp0 hm hh ht hK hi hv hvg (λ_ _ _ _ _ h=>h) h
theorem ZtX (hm:Ug σ mx = .mp km) (hh:lkh km σ.hp = .map (mpS key val L) c) (ht:P.underlying t=some (.map kt et)) (hK:KeyT P kt key sv) (hi:Ug σ ix=sv k) {ats:Array TypeId} (ha:ats[0]? = some t)
 (h:r ⟨σ.fr,(km,.map (mpS key val (UM k L)) c) :: σ.hp,σ.n,σ.N,σ.gs⟩ K) :
 RAW P none (.call { callee:=.builtin .delete,args:=#[mx,ix],argTypes:=ats }) ty σ r K:=by
 intro o C E a w next Q e1 e2 e3 hS hn hq;have hmv:=XO hS hm (λ_ _ _=>by simp);have hiv:=(hK.svR k _).1 (XO hS hi (Zjg hK k));simp only [R] at hmv;obtain ⟨g0,ys,g1,g2⟩:=Zaj hS hh;have hfn:=λw=>hK.fnd k _ _ w (ZbW g2);have hex:∀ w',(Builtin.delete_ ats ty #[a.eval mx,a.eval ix]).run P w = .ok (.tuple #[]) w'->(execOp a.eval o).run P w = .ok (.value (.tuple #[])) w':=λw' hy=>by
  obtain ⟨dst',op',ty',pos,after,guard⟩:=o;simp only at e2 e3;subst e2;subst e3;simp [execOp,resolve,invoke,builtin,hy]
 have hfin:∀ ys':Array MapEntry,(∀ {w':World} {ok':Nat->Prop},RM w' E (ltn σ.n) ok' (mpS key val L) ys.toList->RM w' E (ltn σ.n) ok' (mpS key val (UM k L)) ys'.toList) ->
  next (a.put o.dst (.tuple #[])) (V7 w (E.β km) (.map ys' c)):=λys' hRM=>by
  obtain ⟨q1,q2⟩:=Va (k:=km) (hb:=.map (mpS key val (UM k L)) c) (o:=.map ys' c) hS.hs (λb=>by rw [hh];simp only [occ]) (λb=>by simp only [occ]) (λhlt hst=>by
   simp only [Ya]
   exact ⟨ys',X8 hlt,hRM (Zbc hst.c (λ_ _=>Ele.rfl) (λ_ h=>h) _ _ g2)⟩)
  rw [e1];exact hn _ E _ _ h (YA hS q2 (λ_ _=>Ele.rfl) (Nat.le_refl _) q1)
 rcases ZbJ (w:=w) (E:=E) (n:=ltn σ.n) (ok:=okS C E σ.hp) k L ys.toList 0 g2 with ⟨a1,a2,a3,-⟩ | ⟨j,v0,e,b1,b2,b3,b4,b5,b6⟩
 . have hrun:(Builtin.delete_ ats ty #[a.eval mx,a.eval ix]).run P w = .ok (.tuple #[]) (V7 w (E.β km) (.map ys c)):=by
    rw [hmv.2,hiv];simp [Builtin.delete_,Sem.run_bind,ha,run_underlying ht,Result.andThen_ok,Yj g1 rfl,Sem.run_pure,hK.chk,hfn,a2,YS _ g1 rfl]
   refine Zy (hex _ hrun) (by simp) ?_;show next (a.put o.dst _) _;exact hfin _ λh1=>by rw [a3];exact h1
 . rw [Nat.zero_add] at b2;have hlt:j < ys.size:=by
    have:ys[j]? = some e:=by simpa using b3
    exact (Array.getElem?_eq_some_iff.1 this).1
   have hrun:(Builtin.delete_ ats ty #[a.eval mx,a.eval ix]).run P w = .ok (.tuple #[]) (V7 w (E.β km) (.map (ys.eraseIdxIfInBounds j) c)):=by
    rw [hmv.2,hiv];simp [Builtin.delete_,Sem.run_bind,ha,run_underlying ht,Result.andThen_ok,Yj g1 rfl,Sem.run_pure,hK.chk,hfn,b2,YS _ g1 rfl]
   refine Zy (hex _ hrun) (by simp) ?_;show next (a.put o.dst _) _;exact hfin _ λ{w' ok'} h1=>by
    have:(ys.eraseIdxIfInBounds j).toList=ys.toList.eraseIdx j:=by simp [Array.eraseIdxIfInBounds,hlt]
    rw [this];exact (b6 h1).1
theorem ZsJ {es:List (Nat × Value × SV)} (hm:Ug σ mx = .mp km) (hh:lkh km σ.hp = .map es c) (ht:P.underlying t=some (.map kt et)) {ats:Array TypeId} (ha:ats[0]? = some t)
 (h:Yq d (.v (.int .i64 es.length)) none σ r K):RAW P d (.call { callee:=.builtin .len,args:=#[mx],argTypes:=ats }) ty σ r K:=by
 intro o C E a w next Q e1 e2 e3 hS hn hq;have hmv:=XO hS hm (λ_ _ _=>by simp);simp only [R] at hmv;obtain ⟨g0,ys,g1,g2⟩:=Zaj hS hh;have hl:=Ztt g2;have hrun:(Builtin.len_ ats ty #[a.eval mx]).run P w = .ok (.int .i64 es.length) w:=by
  rw [hmv.2];simp [Builtin.len_,Sem.run_bind,ha,run_underlying ht,Result.andThen_ok,Yj g1 rfl,Sem.run_pure,goInt,<- hl]
 have hx:(execOp a.eval o).run P w = .ok (.value (.int .i64 es.length)) w:=by
  obtain ⟨dst',op',ty',pos,after,guard⟩:=o;simp only at e2 e3;subst e2;subst e3;simp [execOp,resolve,invoke,builtin,hrun]
 refine Zy hx (by simp) ?_;show next (a.put o.dst _) _;rw [e1];exact XF h hS (by simp only [R]) hn
theorem ZkZ {u:Nat} {es:List (Nat × Value × SV)} (hm:Ug σ mx = .mp km) (hh:lkh km σ.hp = .map es c) (ht:P.underlying t=some (.map kt et)) (h1:Xk u σ.gs=false) (h2:Nat.blt u σ.N=true)
 (h:r ⟨(u,.p σ.n 0) :: σ.fr,(σ.n,.it km c [] c) :: σ.hp,σ.n+1,σ.N,σ.gs⟩ K):RAW P (some u) (.range t mx) ty σ r K:=by
 intro o C E a w next Q e1 e2 e3 hS hn hq;have hmv:=XO hS hm (λ_ _ _=>by simp);simp only [R] at hmv;obtain ⟨g0,ys,g1,g2⟩:=Zaj hS hh
 obtain ⟨E',k1,k2,k3,k4⟩:=ZdW (q:=σ.n) (hb:=.it km c [] c) (o:=.mapIter (some (E.β km)) c #[] c) hS.hs (by simp [ltn]) (λE b=>by simp only [occ]) (λE' q1 q2=>by
  simp only [Ya,q2];exact ⟨.inl g0,by rw [(q1 km g0).1];exact heap_alloc_new _ _⟩)
 have hV:(λk=>ltn σ.n k\/k = σ.n)=ltn (σ.n+1):=by funext k;simp only [ltn,eq_iff_iff];omega
 rw [hV] at k3;have hx:(execOp a.eval o).run P w = .ok (.value (.pointer (some ⟨w.heap.size,0,none⟩))) (w.alloc (.mapIter (some (E.β km)) c #[] c)):=by
  obtain ⟨dst',op',ty',pos,after,guard⟩:=o;simp only at e2;subst e2;simp only [execOp,hmv.2];simp [Sem.run_bind,Instr.range,run_underlying ht,Yj g1 rfl,ZdC,Sem.run_pure]
 refine Zy hx (by simp) ?_;show next (a.put o.dst _) _;rw [e1];refine hn _ E' _ _ h (Xo hS k4 k1 (by omega) k3 (λhh=>?_) (by simpa [Nat.blt_eq] using h2) (λ_ _ _ e=>by cases e) ?_)
 . rw [ZW.2 hh] at h1;cases h1
 . simp only [R,k2];exact ⟨by simp [ltn],trivial⟩
theorem Zme (w:World) (ty:TypeId) (rr bm since last:Nat) (seen:Array Nat) (es:Array MapEntry) (clock:Nat)
 (hr:w.heap[rr]? = some (.mapIter (some bm) since seen last)) (hb:w.heap[bm]? = some (.map es clock)) (hold:∀ x ∈ es.toList,x.born < since) (hsc:since<=last) :
 ((∀ x ∈ es.toList,seen.contains x.born=true)/\(Instr.next (.pointer (some ⟨rr,0,none⟩)) false ty).run P w = .ok (.tuple #[.bool false]) w) \/
 ∃ e ∈ es.toList,seen.contains e.born=false/\∃ k,(Instr.next (.pointer (some ⟨rr,0,none⟩)) false ty).run P w = .ok (.tuple #[.bool true,e.key,e.val]) (V7 { w with drawn:=k } rr (.mapIter (some bm) since (seen.push e.born) clock)):=by
 have htest:(!seen.isEmpty && !es.isEmpty && es.all (λx=>decide (x.born ≥ last)))=false:=by
  rw [Bool.eq_false_iff];intro hh;simp only [Bool.and_eq_true,Bool.not_eq_true'] at hh;obtain ⟨⟨-,h2⟩,h3⟩:=hh;have h0:0 < es.size:=by
   rcases Nat.eq_zero_or_pos es.size with h0 | h0
   . simp [Array.isEmpty,h0] at h2
   . exact h0
  rw [Array.all_eq_true_iff_forall_mem] at h3;have h4:=h3 _ (Array.getElem_mem h0);have h5:=hold es[0] (by simp);simp at h4;omega
 have hL:(Array.filter (λe=>!seen.contains e.born) es).filter (λx=>decide (x.born < since))=Array.filter (λe=>!seen.contains e.born) es :=
  Array.filter_eq_self.2 λx hx=>by
   simp only [Array.mem_filter] at hx;simpa using hold x (by simpa using hx.1)
 have hL2:(Array.filter (λe=>!seen.contains e.born) es).filter (λx=>decide (x.born ≥ since)) = #[]:=by
  rw [Array.filter_eq_empty_iff];intro x hx;simp only [Array.mem_filter] at hx;have:=hold x (by simpa using hx.1);simp;omega
 simp only [Instr.next,Sem.run_bind,Yj hr rfl,Yj hb rfl,Result.andThen_ok,htest,Bool.false_eq_true,if_false,hL,hL2,Array.append_empty];have hmem:∀ x,x ∈ Array.filter (λe=>!seen.contains e.born) es↔x ∈ es.toList/\seen.contains x.born=false:=λx=>by
  simp [Array.mem_filter]
 generalize hF:Array.filter (λe=>!seen.contains e.born) es=F at hmem ⊢;by_cases h0:F.size=0
 . left;have hE:F = #[]:=Array.eq_empty_of_size_eq_zero h0;subst hE;refine ⟨λx hx=>?_,?_⟩
   . cases hc:seen.contains x.born with
     | true=>rfl
     | false=>have:=(hmem x).2 ⟨hx,hc⟩;simp at this
   . simp [choose,Sem.run,Question.forced]
 . right;have hne:F.isEmpty=false:=by simp [Array.isEmpty,h0]
   simp only [hne,Bool.false_eq_true,if_false,Array.empty_append,Array.size_map];have hch:∃ (j:Nat) (k:Nat),j < F.size/\(choose (Question.mapNext F.size)).run P w = .ok j { w with drawn:=k }:=by
    by_cases hf:F.size<=1
    . exact ⟨0,w.drawn,by omega,by simp [choose,Sem.run,Question.forced,hf]⟩
    . exact ⟨_,w.drawn+1,Nat.mod_lt _ (by omega),by
       simp only [choose,Sem.run,Question.forced,decide_eq_true_eq,hf,if_false,Question.cut]
       rfl⟩
   obtain ⟨j,k,hj,hrun⟩:=hch;have hm:=(hmem F[j]).1 (Array.getElem_mem hj);refine ⟨F[j],hm.1,hm.2,k,?_⟩;have hr1:({ w with drawn:=k }:World).heap[rr]? = some (.mapIter (some bm) since seen last):=hr;simp only [hrun,Array.getElem?_map,Array.getElem?_eq_getElem hj,Option.map_some,Sem.run_bind,Result.andThen_ok,YS _ hr1 rfl,Sem.run_pure]
theorem Zno {q since last:Nat} {seen:List Nat} (hm:Ug σ mx = .p q 0) (hq:lkh q σ.hp = .it km since seen last) (hh:lkh km σ.hp = .map (mpS key val L) c) (hold:∀ e ∈ L,e.1 < since) (hsc:since<=last) (hK:KeyT P kt key sv)
 (h0:(∀ e ∈ L,e.1 ∈ seen)->Yq d (.tup [.v (.bool false)]) none σ r K)
 (h1:∀ e ∈ L,e.1 ∉ seen->Yq d (.tup [.v (.bool true),sv e.2.1,val e.2.2]) none ⟨σ.fr,(q,.it km since (seen ++ [e.1]) c) :: σ.hp,σ.n,σ.N,σ.gs⟩ r K) :
 RAW P d (.next mx false) ty σ r K:=by
 intro o C E a w next Q e1 e2 e3 hS hn _;have hmv:=XO hS hm (λ_ _ _=>by simp);simp only [R] at hmv;obtain ⟨g0,ys,g1,g2⟩:=Zaj hS hh;have hb:=hS.hs.bk q;rw [hq] at hb;obtain ⟨-,hit⟩:=hb;have hex:∀ y w',(Instr.next (a.eval mx) false ty).run P w = .ok y w'->(execOp a.eval o).run P w = .ok (.value y) w':=λy w' hy=>by
  obtain ⟨dst',op',ty',pos,after,guard⟩:=o;simp only at e2 e3;subst e2;subst e3;simp only [execOp,Sem.run_bind,hy,Result.andThen_ok,Sem.run_pure]
 rw [hmv.2] at hex
 rcases Zme (P:=P) w ty (E.β q) (E.β km) since last seen.toArray ys c hit g1 (λx hx=>by
  obtain ⟨z,hz,z1,z2,z3⟩:=ZkL g2 x hx;obtain ⟨e,he,rfl⟩:=List.mem_map.1 hz
  rw [z1];exact hold e he) hsc with ⟨k1,k2⟩ | ⟨e,k1,k2,k,k3⟩
 . refine Zy (hex _ _ k2) (by simp) ?_;show next (a.put o.dst _) _;rw [e1];refine XF (h0 λe he=>?_) hS (by simp only [R,RL];exact ⟨_,rfl,_,_,rfl,rfl,rfl⟩) hn;obtain ⟨y,hy,hyb⟩:=Zl1 g2 (e.1,key e.2.1,val e.2.2) (List.mem_map.2 ⟨e,he,rfl⟩);have:=k1 y hy;rw [hyb] at this;simpa using this
 . refine Zy (hex _ _ k3) (by simp) ?_;show next (a.put o.dst _) _;obtain ⟨z,hz,z1,z2,z3⟩:=ZkL g2 e k1;obtain ⟨x,hx,rfl⟩:=List.mem_map.1 hz;simp only at z1 z2 z3;have hS':=Zd0 hS k;have hqn:ltn σ.n q:=by
    rcases Classical.em (ltn σ.n q) with h | h
    . exact h
    . rw [hS.hs.kn q h] at hq;cases hq
   obtain ⟨q1,q2⟩:=Va (k:=q) (hb:=.it km since (seen ++ [x.1]) c) (o:=.mapIter (some (E.β km)) since (seen.toArray.push e.born) c) hS'.hs (λb=>by rw [hq];simp only [occ]) (λb=>by simp only [occ]) (λhlt hst=>by
    simp only [Ya];refine ⟨g0,?_⟩;rw [z1];have:(seen ++ [x.1]).toArray=seen.toArray.push x.1:=by simp
    rw [this]
    exact X8 hlt)
   rw [e1];refine Zs3 (h1 x hx (by rw [z1] at k2;simpa using k2)) hS' q2 (λ_ _=>Ele.rfl) (Nat.le_refl _) q1 ?_ hn;simp only [R,RL];have e4:=(hK.svR (w:=V7 { w with drawn:=k } (E.β q) (.mapIter (some (E.β km)) since (seen.toArray.push e.born) c)) (E:=E) (n:=ltn σ.n) (ok:=okS C E ((q,.it km since (seen ++ [x.1]) c) :: σ.hp)) x.2.1 e.key).2 z2;have z4:R { w with drawn:=k } E (ltn σ.n) (okS C E σ.hp) (val x.2.2) e.val:=ZU (w:=w) (w':={ w with drawn:=k }) (ok:=okS C E σ.hp) (λb hb _=>⟨hb,rfl⟩) (λ_ _=>Ele.rfl) (λ_ h=>h) _ _ z3
   exact ⟨_,rfl,_,_,rfl,rfl,_,_,rfl,e4,_,_,rfl,ZU q2.c (λ_ _=>Ele.rfl) (λ_ h=>h) _ _ z4,rfl⟩
theorem Zi7 {q since:Nat} {seen:List Nat} {e:Nat × K' × V} (hm:Ug σ mx = .p q 0) (hq:lkh q σ.hp = .it km since (seen ++ [e.1]) c) (hh:lkh km σ.hp = .map (mpS key val L) c) (he:e ∈ L) (hn:(L.map (·.1)).Nodup) (hK:KeyT P kt key sv)
 (hk:Yq d (.tup [sv e.2.1,val e.2.2]) none σ r K):RAW P d (.entry mx) ty σ r K:=by
 intro o C E a w next Q e1 e2 e3 hS hnx _;have hmv:=XO hS hm (λ_ _ _=>by simp);simp only [R] at hmv;obtain ⟨g0,ys,g1,g2⟩:=Zaj hS hh;have hb:=hS.hs.bk q;rw [hq] at hb;obtain ⟨-,hit⟩:=hb;have hfind:∀ (L:List (Nat × K' × V)) (ys:List MapEntry),RM w E (ltn σ.n) (okS C E σ.hp) (mpS key val L) ys->e ∈ L->(L.map (·.1)).Nodup->∃ y,ys.find? (·.born == e.1)=some y/\y.key=key e.2.1/\R w E (ltn σ.n) (okS C E σ.hp) (val e.2.2) y.val:=by
  intro L
  induction L with
  | nil=>intro ys _ he;cases he
  | cons x l ih =>
   intro ys h he hn;simp only [mpS,List.map_cons,RM] at h;obtain ⟨y,r,rfl,h1,h2⟩:=h;simp only [List.map_cons,List.nodup_cons] at hn;rcases List.mem_cons.1 he with rfl | he
   . exact ⟨⟨key e.2.1,y,e.1⟩,by simp,rfl,h1⟩
   . obtain ⟨y',q1,q2⟩:=ih r h2 he hn.2;refine ⟨y',?_,q2⟩;have:x.1≠e.1:=λhx=>hn.1 (hx ▸ List.mem_map.2 ⟨e,he,rfl⟩);simp [this,q1]
 obtain ⟨y,f1,f2,f3⟩:=hfind L ys.toList g2 he hn;have f1':ys.find? (·.born == e.1)=some y:=by rw [<- Array.find?_toList];exact f1
 have hrun:(Instr.entry (.pointer (some ⟨E.β q,0,none⟩))).run P w = .ok (.tuple #[y.key,y.val]) w:=by
  have:(seen ++ [e.1]).toArray.back? = some e.1:=by simp
  simp only [Instr.entry,Sem.run_bind,Yj hit rfl,Yj g1 rfl,Result.andThen_ok,this,bne_self_eq_false,Bool.false_eq_true,if_false,f1',Sem.run_pure]
 have hx:(execOp a.eval o).run P w = .ok (.value (.tuple #[y.key,y.val])) w:=by
  obtain ⟨dst',op',ty',pos,after,guard⟩:=o;simp only at e2;subst e2;simp only [execOp,Sem.run_bind,hmv.2,hrun,Result.andThen_ok,Sem.run_pure]
 refine Zy hx (by simp) ?_;show next (a.put o.dst _) _;rw [e1];refine XF hk hS ?_ hnx;simp only [R,RL];exact ⟨_,rfl,_,_,rfl,(hK.svR _ _).2 f2,_,_,rfl,f3,rfl⟩
end
section
variable {K V:Type} [DecidableEq K] {k k':K} {v:V} {c:Nat} {L:List (Nat × K × V)}
structure MW (L:List (Nat × K × V)) (c:Nat):Prop where
 bn:(L.map (·.1)).Nodup
 bl:∀ e ∈ L,e.1 < c
 kn:(L.map (·.2.1)).Nodup
omit [DecidableEq K] in
theorem MW.nil {c:Nat}:MW ([]:List (Nat × K × V)) c:=⟨List.nodup_nil,(λe h=>by cases h),List.nodup_nil⟩
theorem ZgB:∀ {L:List (Nat × K × V)},XH k L=some v->∃ b,(b,k,v) ∈ L
 | [],h=>by cases h
 | e :: l,h=>by
  simp only [XH] at h;split at h
  . rename_i hk;cases h;subst hk;exact ⟨e.1,by simp⟩
  . obtain ⟨b,hb⟩:=ZgB h;exact ⟨b,by simp [hb]⟩
theorem XC:∀ {L:List (Nat × K × V)},XH k L=none↔∀ e ∈ L,e.2.1≠k
 | []=>by simp [XH]
 | e :: l=>by
  simp only [XH];split
  . rename_i hk;simp [hk]
  . rename_i hk;rw [XC];simp [hk]
theorem ZkQ:∀ {L:List (Nat × K × V)} {e:Nat × K × V},(L.map (·.2.1)).Nodup->e ∈ L->XH e.2.1 L=some e.2.2
 | x :: l,e,hn,he=>by
  simp only [List.map_cons,List.nodup_cons] at hn;simp only [XH];rcases List.mem_cons.1 he with rfl | he
  . simp
  . rw [if_neg (λhx:x.2.1=e.2.1=>hn.1 (by rw [hx];exact List.mem_map.2 ⟨e,he,rfl⟩))];exact ZkQ hn.2 he
theorem ZaP:∀ {L:List (Nat × K × V)},XH k' (UR c k v L)=if k'=k then some v else XH k' L
 | []=>by simp only [UR,XH];by_cases h:k=k'<;>simp [h,eq_comm]
 | e :: l=>by
  simp only [UR];by_cases he:e.2.1=k
  . rw [if_pos he];simp only [XH];by_cases hk:k=k'
    . subst hk;simp
    . rw [if_neg hk,if_neg (λh=>hk h.symm),if_neg (λh=>hk (he.symm.trans h))]
  . rw [if_neg he];simp only [XH];by_cases hk:e.2.1=k'
    . rw [if_pos hk,if_neg (λh=>he (hk.trans h)),if_pos hk]
    . rw [if_neg hk,if_neg hk,ZaP]
theorem ZaE:∀ {L:List (Nat × K × V)},XH k L=none->UR c k v L=L ++ [(c,k,v)]
 | [],_=>rfl
 | e :: l,h=>by
  simp only [XH] at h;split at h
  . cases h
  . rename_i he;simp only [UR,if_neg he,ZaE h,List.cons_append]
theorem ZgA:∀ {L:List (Nat × K × V)},(XH k L).isSome->(UR c k v L).map (λe=>(e.1,e.2.1))=L.map λe=>(e.1,e.2.1)
 | [],h=>by simp [XH] at h
 | e :: l,h=>by
  simp only [XH] at h;simp only [UR];split
  . rename_i he;simp [he]
  . rename_i he;rw [if_neg he] at h;simp [ZgA h]
theorem MW.set (h:MW L c) (v:V):MW (UR c k v L) (Zcn c k L):=by
 cases hg:XH k L with
 | none =>
  have hc:Zcn c k L=c+1:=by simp [Zcn,hg]
  rw [ZaE hg,hc];have hk:=XC.1 hg;refine ⟨?_,λe he=>?_,?_⟩
  . rw [List.map_append,List.nodup_append];refine ⟨h.bn,by simp,λa ha b hb=>?_⟩;obtain ⟨e,he,rfl⟩:=List.mem_map.1 ha;simp only [List.map_cons,List.map_nil,List.mem_singleton] at hb;have:=h.bl e he;omega
  . rcases List.mem_append.1 he with he | he
    . have:=h.bl e he;omega
    . simp only [List.mem_singleton] at he;subst he;simp
  . rw [List.map_append,List.nodup_append];refine ⟨h.kn,by simp,λa ha b hb=>?_⟩;obtain ⟨e,he,rfl⟩:=List.mem_map.1 ha;simp only [List.map_cons,List.map_nil,List.mem_singleton] at hb;rw [hb];exact hk e he
 | some v0 =>
  have hc:Zcn c k L=c:=by simp [Zcn,hg]
  have hm:=ZgA (c:=c) (v:=v) (k:=k) (L:=L) (by rw [hg];rfl);have e1:(UR c k v L).map (·.1)=L.map (·.1):=by
   have:=congrArg (List.map Prod.fst) hm;simpa [List.map_map,Function.comp_def] using this
  have e2:(UR c k v L).map (·.2.1)=L.map (·.2.1):=by
   have:=congrArg (List.map Prod.snd) hm;simpa [List.map_map,Function.comp_def] using this
  rw [hc];refine ⟨by rw [e1];exact h.bn,λe he=>?_,by rw [e2];exact h.kn⟩;have:e.1 ∈ L.map (·.1):=by rw [<- e1];exact List.mem_map.2 ⟨e,he,rfl⟩
  obtain ⟨x,hx,hxe⟩:=List.mem_map.1 this;rw [<- hxe];exact h.bl x hx
theorem UK:∀ {L:List (Nat × K × V)},(UM k L).Sublist L
 | []=>.slnil
 | e :: l=>by
  simp only [UM];split
  . exact List.sublist_cons_self _ _
  . exact UK.cons_cons _
theorem MW.del (h:MW L c):MW (UM k L) c:=⟨(UK.map _).nodup h.bn,λe he=>h.bl e (UK.subset he),(UK.map _).nodup h.kn⟩
theorem ZfW:∀ {L:List (Nat × K × V)},(L.map (·.2.1)).Nodup->XH k' (UM k L)=if k'=k then none else XH k' L
 | [],_=>by simp [UM,XH]
 | e :: l,hn=>by
  simp only [List.map_cons,List.nodup_cons] at hn;simp only [UM];by_cases he:e.2.1=k
  . rw [if_pos he];by_cases hk:k'=k
    . rw [if_pos hk,XC];intro x hx hxe;exact hn.1 (by rw [he,<- hk,<- hxe];exact List.mem_map.2 ⟨x,hx,rfl⟩)
    . rw [if_neg hk];simp only [XH];rw [if_neg (λh=>hk (h.symm.trans he))]
  . rw [if_neg he];simp only [XH];by_cases hk:e.2.1=k'
    . rw [if_pos hk,if_pos hk,if_neg (λh=>he (hk.trans h))]
    . rw [if_neg hk,if_neg hk,ZfW hn.2]
theorem ZfV:∀ {L:List (Nat × K × V)},(XH k L).isSome->(UM k L).length+1=L.length
 | [],h=>by simp [XH] at h
 | e :: l,h=>by
  simp only [XH] at h;simp only [UM];split
  . simp
  . rename_i he;rw [if_neg he] at h;simp [ZfV h]
omit [DecidableEq K] in
theorem ZF {key:K->Value} {val:V->SV}:(∀ e ∈ mpS key val L,KF e.2.2)↔∀ v ∈ L.map (·.2.2),KF (val v):=by
 simp only [mpS,List.mem_map];exact ⟨λh v ⟨e,he,hv⟩=>hv ▸ h _ ⟨e,he,rfl⟩,λh _ ⟨e,he,hx⟩=>hx ▸ h _ ⟨e,he,rfl⟩⟩
omit [DecidableEq K] in
theorem Zw {key:K->Value} {val:V->SV}:(∀ (a:Nat) (b:Value) (c:SV),(a,b,c) ∈ mpS key val L->KF c)↔∀ v ∈ L.map (·.2.2),KF (val v):=by
 rw [<- ZF (key:=key)];exact ⟨λh e he=>h e.1 e.2.1 e.2.2 he,λh a b c he=>h _ he⟩
def Zqb (L:List (Nat × K × V)) (seen:List Nat):Nat:=(L.filter λe=>!seen.contains e.1).length
omit [DecidableEq K] in
theorem Zqq {e:Nat × K × V} {seen:List Nat} (he:e ∈ L) (hs:e.1 ∉ seen):Zqb L (seen ++ [e.1]) < Zqb L seen:=by
 unfold Zqb;have hsub:(L.filter λx=>!(seen ++ [e.1]).contains x.1)=(L.filter λx=>!seen.contains x.1).filter λx=>!(x.1 == e.1):=by
  rw [List.filter_filter];congr 1;funext x;simp only [List.contains_append,Bool.not_or];rw [Bool.and_comm];congr 1;simp only [List.contains_cons,List.contains_nil,Bool.or_false]
 rw [hsub];refine Nat.lt_of_le_of_ne (List.length_filter_le _ _) λh=>?_;have:=List.length_filter_eq_length_iff.1 h e (by simp [he,hs]);simp at this
end
end Go.Sx
namespace Go.Sx
open Go Go.RowKit
def Zcy (s s':SV):Prop:=∀ (w:World) (E:Env) (n ok:Nat->Prop) (y:Value),R w E n ok s y->R w E n ok s' y
theorem Zcy.rfl {s:SV}:Zcy s s:=λ_ _ _ _ _ h=>h
theorem Xd {c:Bool} {m:Nat}:Zcy (.v (.slice none 0 0)) (.sl c m []):=λw E n ok y h=>by
 simp only [R] at h ⊢;exact ⟨none,0,0,h,by simp,⟨Nat.le_refl _,λ_=>Eq.refl _⟩,by simp,by simp⟩
theorem ZgL {c:Bool} {m:Nat} {xs:List (List SV)}:Zcy (.sl c m xs) (.sl false m xs):=λw E n ok y h=>by
 simp only [R] at h ⊢;obtain ⟨a,len,cap,h1,h2,h3,h4,h5⟩:=h;exact ⟨a,len,cap,h1,h2,⟨h3.1,λh=>by cases h⟩,h4,h5⟩
theorem VG {l l':List SV} (h:∀ (w:World) (E:Env) (n ok:Nat->Prop) (ys:List Value),RL w E n ok l ys->RL w E n ok l' ys):Zcy (.tup l) (.tup l'):=λw E n ok y hy=>by
 simp only [R] at hy ⊢;obtain ⟨cs,h1,h2⟩:=hy;exact ⟨cs,h1,h _ _ _ _ _ h2⟩
theorem ZN {s s':SV} {l l':List SV} (h1:Zcy s s') (h2:∀ (w:World) (E:Env) (n ok:Nat->Prop) (ys:List Value),RL w E n ok l ys->RL w E n ok l' ys):∀ (w:World) (E:Env) (n ok:Nat->Prop) (ys:List Value),RL w E n ok (s :: l) ys->RL w E n ok (s' :: l') ys:=λw E n ok ys h=>by
 simp only [RL] at h ⊢;obtain ⟨y,r,q1,q2,q3⟩:=h;exact ⟨y,r,q1,h1 _ _ _ _ _ q2,h2 _ _ _ _ _ q3⟩
def Zz0 (rs:List RV) (res:SV):Ex->St->Prop
 | .ex _,_=>False
 | .n,σ=>∃ s,rvR rs σ = some s/\Zcy s res
 | .ret,σ=>∃ s,rvR rs σ = some s/\Zcy s res
 | .pan _,_=>False
theorem ZAC (rs:List RV) (res:SV) (σ : St):Zz0 rs res .n σ = ∃ s,rvR rs σ = some s/\Zcy s res:=rfl
theorem Zo5 (rs:List RV) (res:SV) (σ : St):Zz0 rs res .ret σ = ∃ s,rvR rs σ = some s/\Zcy s res:=rfl
attribute [go_sem] ZAC Zo5
section
variable {P:Program}
theorem Zd4 {f:FuncId} {fn:Func} {code:Code} {ir:SC} {args:List SV} {res:SV} {rs:List RV} {N:Nat} (hf:P.funcs[f]? = some fn) (hb:fn.body=some code) (hnm:Yn P f=true) (hc:Xi P ir code=true)
 (hr:XV P rs fn.results.toList=true) (hN:fn.ntmps=N) (hA:args.length<=N) (ka:KFL args) (kr:KF res) (h:sx P Y0 0 ir (st0 args N) (Zz0 rs res)):Ct P f args res:=by
 refine ⟨hnm,ka,kr,λw ok vs hGS hR=>?_⟩
 let C:Cx:=⟨w,ok,λ_ _=>False,[],none,E0,0,hGS,λ_ _ _ _ h=>h⟩
 have hok:∀ b,ok b->okS C E0 [] b:=λb hb=>⟨.inl hb,λ_ h=>h⟩;refine Zac (C:=C) (E:=E0) (hp0:=[]) (n0:=0) hf hb hc hN hA rfl rfl ⟨Nat.le_refl _,λ_ _ h=>h.elim⟩
  ⟨λk _=>rfl,λk=>trivial,λk k' b h=>h.elim,λk b h=>h.elim,⟨rfl,rfl,rfl,Nat.le_refl _,λ_ _ _=>rfl⟩,λk hk=>absurd hk (Nat.not_lt_zero k)⟩
  (ZE (λb hb _=>⟨hok b hb,rfl⟩) (λ_ h=>Ele.rfl) (λ_ h=>h.elim) _ _ hR) Zcm h λe σ hk C' E a w' c1 c2 c3 c4 c5 hs=>?_
 have hpass:∀ k b,¬ C'.pass k b:=λk b=>by rw [c3];exact λh=>h
 have hend:(∃ s,rvR rs σ = some s/\Zcy s res)->∃ v,(results fn a.tmps).run P w' = .ok v w'/\∃ y,Ending.returned v = .returned y/\R w' E0 (λ_=>False) (λb=>ok b\/w.heap.size<=b) res y/\Below w.heap.size w w':=λ⟨s,hrr,hw⟩=>by
  obtain ⟨v,h1,h2⟩:=Uv (P:=P) (fn:=fn) (a:=a) (w:=w') (E:=E) (n:=ltn σ.n) (ok:=okF C') hrr λl hl=>ZkM hs hpass rs _ l hr hl;have hkp:=hs.hs.kp;have e1:okF C'=λb=>ok b\/w.heap.size<=b:=by funext b;simp only [okF,c1,c2];rfl
  rw [e1] at h2;have e0:C'.w0=w:=c1;refine ⟨v,h1,v,rfl,ZiC res v kr (hw _ _ _ _ _ h2),?_⟩;have q:=hkp;exact ⟨by rw [<- e0];exact q.os,by rw [<- e0];exact q.tape,by rw [<- e0];exact q.output,by rw [<- e0];exact q.size,λb hb=>by rw [<- e0];exact q.block b (by rw [e0];exact hb) (λk=>hpass k b)⟩
 cases e with
 | ex i=>exact hk.elim
 | pan s=>exact hk.elim
 | n=>exact hend hk
 | ret=>exact hend hk
end
theorem Ct.args {P:Program} {f:FuncId} {args args0:List SV} {res:SV} (h:Ct P f args res) (ka:KFL args0) (hw:∀ (w:World) (E:Env) (n ok:Nat->Prop) (ys:List Value),RL w E n ok args0 ys->RL w E n ok args ys):Ct P f args0 res :=
 ⟨h.1,ka,h.3,λw ok vs hG hR=>h.4 w ok vs hG (hw _ _ _ _ _ hR)⟩
inductive FB where
 | tail (c:SC)
 | seq (a:SC) (b:FB)
 | dfr (ops:List Ins) (mx kx:X) (t:TypeId) (b:FB)
 | rcv (ops:List Ins) (cx:X) (b:FB)
def Zzx (mx kx:X) (t:TypeId) (o:Oper):Bool :=
 match o.op,o.dst,o.guard with
 | .defer c,none,none=>(match c.callee with | .builtin .delete=>true | _=>false) && (match c.args.toList with | [m,k]=>YV mx m && YV kx k | _=>false) && (match c.argTypes[0]? with | some u=>u == t | none=>false)
 | _,_,_=>false
def ZsZ (cx:X) (o:Oper):Bool :=
 match o.op,o.dst,o.guard with
 | .defer c,none,none=>(match c.callee with | .value y=>YV cx y | _=>false) && c.args.isEmpty
 | _,_,_=>false
def Zaz (P:Program):FB->Code->Bool
 | .tail c,code=>Xi P c code
 | .seq a b,code=>(match code with | .seq x y=>Xi P a x && Zaz P b y | _=>false)
 | .dfr ops mx kx t b,code=>(match code with
  | .seq (.region _ os false) y=>Zau P os ops (os.toList.take ops.length) && (match os.toList.drop ops.length with | [o]=>Zzx mx kx t o | _=>false) && Zaz P b y
  | _=>false)
 | .rcv ops cx b,code=>(match code with
  | .seq (.region _ os false) y=>Zau P os ops (os.toList.take ops.length) && (match os.toList.drop ops.length with | [o]=>ZsZ cx o | _=>false) && Zaz P b y
  | _=>false)
def Zvw (P:Program) (t:TypeId) (kv:Value) (hb hb':HB):Prop :=
 ∃ (K V:Type) (_:DecidableEq K) (key:K->Value) (val:V->SV) (sv:K->SV) (L:List (Nat × K × V)) (k:K) (kt et:TypeId) (c:Nat),
  hb = .map (mpS key val L) c/\hb' = .map (mpS key val (UM k L)) c/\kv=key k/\P.underlying t=some (.map kt et)/\KeyT P kt key sv
theorem delR {P:Program} {K V:Type} [DecidableEq K] {t:TypeId} {key:K->Value} {val:V->SV} {sv:K->SV} {L:List (Nat × K × V)} {k:K} {c:Nat} {kt et:TypeId} (ht:P.underlying t=some (.map kt et)) (hK:KeyT P kt key sv) :
 Zvw P t (key k) (.map (mpS key val L) c) (.map (mpS key val (UM k L)) c):=⟨K,V,inferInstance,key,val,sv,L,k,kt,et,c,rfl,rfl,rfl,ht,hK⟩
def dK (P:Program) (t:TypeId) (km:Nat) (kv:Value) (K:Ex->St->Prop):Ex->St->Prop
 | .n,σ=>∃ hb',Zvw P t kv (lkh km σ.hp) hb'/\K .n ⟨σ.fr,(km,hb') :: σ.hp,σ.n,σ.N,σ.gs⟩
 | .ret,σ=>∃ hb',Zvw P t kv (lkh km σ.hp) hb'/\K .ret ⟨σ.fr,(km,hb') :: σ.hp,σ.n,σ.N,σ.gs⟩
 | _,_=>False
def fxS (f:St->(Ex->St->Prop)->Prop) (K:Ex->St->Prop):Ex->St->Prop
 | .n,σ=>f σ K
 | .ex _,_=>False
 | .ret,σ=>K .ret σ
 | .pan s,σ=>K (.pan s) σ
def mpO:SV->Option Nat
 | .mp k=>some k
 | _=>none
def vO:SV->Option Value
 | .v x=>some x
 | _=>none
def ZBc (P:Program) (t:TypeId) (f:Nat->St->(Ex->St->Prop)->Prop) (km:Option Nat) (kv:Option Value) (σ : St) (K:Ex->St->Prop):Prop :=
 match km,kv with
 | some km,some kv=>Nat.blt km σ.n=true/\f σ.n σ (dK P t km kv K)
 | _,_=>False
def ZnF (t:Nat) (o:Oper):Bool :=
 match o.op,o.dst,o.guard with
 | .call c,some u,none=>u == t && (match c.callee with | .builtin .recover=>true | _=>false) && c.args.isEmpty
 | _,_,_=>false
structure RcF (P:Program) (g:FuncId) (t:Nat) (l:List Ins) (c:SC) (N:Nat):Prop where
 ex:∃ fn id os y0 o1,P.funcs[g]? = some fn/\fn.body=some (.seq (.region id os false) y0)/\os[0]? = some o1/\ZnF t o1=true/\Zau P os l (os.toList.drop 1)=true/\Xi P c y0=true/\fn.ntmps=N/\t < N/\fn.results = #[]
 bd:Yn P g=true
def rcK (σ : St) (k:St->Prop):Ex->St->Prop
 | .n,σ'=>k ⟨σ.fr,σ'.hp,σ'.n,σ.N,σ.gs⟩
 | .ret,σ'=>k ⟨σ.fr,σ'.hp,σ'.n,σ.N,σ.gs⟩
 | _,_=>False
def rcR (P:Program) (t:Nat) (l:List Ins) (c:SC) (N:Nat) (caps:List SV) (s:SV) (σ : St) (k:St->Prop):Prop :=
 Nat.ble caps.length N=true/\rx P Y0 l ⟨(t,s) :: Xx 0 caps,σ.hp,σ.n,N,[]⟩ (Zdx (fxS (λσ' K=>sx P Y0 σ.n c σ' K) (rcK σ k)))
def Zy5 (P:Program) (f:Nat->St->(Ex->St->Prop)->Prop) (rk:FuncId->List SV->Ex->St->Prop) (s:SV) (σ : St):Prop :=
 match s with
 | .cl g caps=>f σ.n σ (rk g caps)
 | _=>False
def rK (P:Program) (K:Ex->St->Prop) (g:FuncId) (caps:List SV):Ex->St->Prop
 | .n,σ=>∃ t l c N,RcF P g t l c N/\rcR P t l c N caps (.v .nilIface) σ (K .n)
 | .ret,σ=>∃ t l c N,RcF P g t l c N/\rcR P t l c N caps (.v .nilIface) σ (K .ret)
 | .pan s,σ=>∃ t l c N,RcF P g t l c N/\rcR P t l c N caps s σ (K .ret)
 | .ex _,_=>False
def fx (P:Program):Nat->FB->St->(Ex->St->Prop)->Prop
 | m,.tail c,σ,K=>sx P Y0 m c σ K
 | m,.seq a b,σ,K=>sx P Y0 m a σ (fxS (fx P m b) K)
 | _,.dfr ops mx kx t b,σ,K=>rx P Y0 ops σ (Zdx (fxS (λσ K=>ZBc P t (λn=>fx P n b) (mpO (rdG none σ.fr mx)) (vO (rdG none σ.fr kx)) σ K) K))
 | _,.rcv ops cx b,σ,K=>rx P Y0 ops σ (Zdx (fxS (λσ K=>Zy5 P (λn=>fx P n b) (rK P K) (rdG none σ.fr cx) σ) K))
theorem ZwN (P:Program) (m:Nat) (c:SC) (σ : St) (K:Ex->St->Prop):fx P m (.tail c) σ K=sx P Y0 m c σ K:=rfl
theorem ZBm (P:Program) (m:Nat) (a:SC) (b:FB) (σ : St) (K:Ex->St->Prop):fx P m (.seq a b) σ K=sx P Y0 m a σ (fxS (fx P m b) K):=rfl
theorem ZzW (P:Program) (m:Nat) (ops:List Ins) (mx kx:X) (t:TypeId) (b:FB) (σ : St) (K:Ex->St->Prop):fx P m (.dfr ops mx kx t b) σ K=rx P Y0 ops σ (Zdx (fxS (λσ K=>ZBc P t (λn=>fx P n b) (mpO (rdG none σ.fr mx)) (vO (rdG none σ.fr kx)) σ K) K)):=rfl
theorem ZBg (P:Program) (m:Nat) (ops:List Ins) (cx:X) (b:FB) (σ : St) (K:Ex->St->Prop):fx P m (.rcv ops cx b) σ K=rx P Y0 ops σ (Zdx (fxS (λσ K=>Zy5 P (λn=>fx P n b) (rK P K) (rdG none σ.fr cx) σ) K)):=rfl
theorem Zxa (P:Program) (f:Nat->St->(Ex->St->Prop)->Prop) (rk:FuncId->List SV->Ex->St->Prop) (g:FuncId) (caps:List SV) (σ : St):Zy5 P f rk (.cl g caps) σ = f σ.n σ (rk g caps):=rfl
theorem rK_n (P:Program) (K:Ex->St->Prop) (g:FuncId) (caps:List SV) (σ : St):rK P K g caps .n σ = ∃ t l c N,RcF P g t l c N/\rcR P t l c N caps (.v .nilIface) σ (K .n):=rfl
theorem Zy1 (P:Program) (K:Ex->St->Prop) (g:FuncId) (caps:List SV) (σ : St):rK P K g caps .ret σ = ∃ t l c N,RcF P g t l c N/\rcR P t l c N caps (.v .nilIface) σ (K .ret):=rfl
theorem ZzI (P:Program) (K:Ex->St->Prop) (g:FuncId) (caps:List SV) (s:SV) (σ : St):rK P K g caps (.pan s) σ = ∃ t l c N,RcF P g t l c N/\rcR P t l c N caps s σ (K .ret):=rfl
theorem e_rcR (P:Program) (t:Nat) (l:List Ins) (c:SC) (N:Nat) (caps:List SV) (s:SV) (σ : St) (k:St->Prop):rcR P t l c N caps s σ k=(Nat.ble caps.length N=true/\rx P Y0 l ⟨(t,s) :: Xx 0 caps,σ.hp,σ.n,N,[]⟩ (Zdx (fxS (λσ' K=>sx P Y0 σ.n c σ' K) (rcK σ k)))):=rfl
theorem rcK_n (σ : St) (k:St->Prop) (σ':St):rcK σ k .n σ'=k ⟨σ.fr,σ'.hp,σ'.n,σ.N,σ.gs⟩:=rfl
theorem ZwQ (σ : St) (k:St->Prop) (σ':St):rcK σ k .ret σ'=k ⟨σ.fr,σ'.hp,σ'.n,σ.N,σ.gs⟩:=rfl
attribute [go_sem] ZBg Zxa rK_n Zy1 ZzI e_rcR rcK_n ZwQ
theorem fxS_n (f:St->(Ex->St->Prop)->Prop) (K:Ex->St->Prop) (σ : St):fxS f K .n σ = f σ K:=rfl
theorem Zun (f:St->(Ex->St->Prop)->Prop) (K:Ex->St->Prop) (σ : St):fxS f K .ret σ = K .ret σ:=rfl
theorem Zz2 (P:Program) (t:TypeId) (f:Nat->St->(Ex->St->Prop)->Prop) (km:Nat) (kv:Value) (σ : St) (K:Ex->St->Prop):ZBc P t f (some km) (some kv) σ K=(Nat.blt km σ.n=true/\f σ.n σ (dK P t km kv K)):=rfl
theorem Zy0 (k:Nat):mpO (.mp k)=some k:=rfl
theorem vO_v (x:Value):vO (.v x)=some x:=rfl
theorem dK_n (P:Program) (t:TypeId) (km:Nat) (kv:Value) (K:Ex->St->Prop) (σ : St):dK P t km kv K .n σ = ∃ hb',Zvw P t kv (lkh km σ.hp) hb'/\K .n ⟨σ.fr,(km,hb') :: σ.hp,σ.n,σ.N,σ.gs⟩:=rfl
theorem Zy2 (P:Program) (t:TypeId) (km:Nat) (kv:Value) (K:Ex->St->Prop) (σ : St):dK P t km kv K .ret σ = ∃ hb',Zvw P t kv (lkh km σ.hp) hb'/\K .ret ⟨σ.fr,(km,hb') :: σ.hp,σ.n,σ.N,σ.gs⟩:=rfl
attribute [go_sem] ZwN ZBm ZzW fxS_n Zun Zz2 Zy0 vO_v dK_n Zy2
section
variable {P:Program}
theorem Zi5 {C:Cx} {Y:Hd} (hY:ZcM P C Y) {ops:Array Oper} {Q:Exit->Act->World->Prop} {K:RK} {os2:List Oper} (hn:∀ σ E a w,K .n σ->Sim C E σ a w->Ur C.rd P ops Q os2 a w)
 (hp:∀ s σ' E a w y,K (.pan s) σ'->Sim C E σ' a w->R w E (ltn σ'.n) (okS C E σ'.hp) s y->Q (.panic [{ v:=y,recovered:=false }]) a w):∀ (l:List Ins) (os:List Oper),Zau P ops l os=true ->
 ∀ (σ : St) E a w,rx P Y l σ K->Sim C E σ a w->Ur C.rd P ops Q (os ++ os2) a w
 | [],[],_,σ,E,a,w,hr,h=>hn σ E a w hr h
 | io :: l,o :: os,hc,σ,E,a,w,hr,h=>by
  simp only [Zau,Bool.and_eq_true] at hc;have ih:=Zi5 hY hn hp l os hc.2;exact Zb2 (next:=Ur C.rd P ops Q (os ++ os2)) hc.1 hr h (λσ' E' a' w' h1 h2=>ih σ' E' a' w' h1 h2) (λs σ' E' w' y h1 h2 h3=>hp s σ' E' a w' y h1 h2 h3) hY
 | [],_ :: _,h,_,_,_,_,_,_=>by simp [Zau] at h
 | _ :: _,[],h,_,_,_,_,_,_=>by simp [Zau] at h
theorem Zxo {C:Cx} {E:Env} {σ : St} {a:Act} {w:World} (h:Sim C E σ a w) {t:TypeId} {km:Nat} {kv:Value} {hb':HB} {ats:Array TypeId} {ty:TypeId} {cc:Array Bool} (ha:ats[0]? = some t) (hd:Zvw P t kv (lkh km σ.hp) hb') :
 ∃ x w',(invoke (.builtin .delete ats ty cc) #[.map (some (E.β km)),kv]).run P w = .ok (.value x) w'/\Sim C E ⟨σ.fr,(km,hb') :: σ.hp,σ.n,σ.N,σ.gs⟩ a w'/\ZG w w' (okS C E σ.hp) (okS C E ((km,hb') :: σ.hp)):=by
 obtain ⟨K,V,_,key,val,sv,L,k,kt,et,c,hh,rfl,rfl,ht,hK⟩:=hd;obtain ⟨g0,ys,g1,g2⟩:=Zaj h hh;have hfn:=λw=>hK.fnd k _ _ w (ZbW g2);have hex:∀ w',(Builtin.delete_ ats ty #[.map (some (E.β km)),key k]).run P w = .ok (.tuple #[]) w'->(invoke (.builtin .delete ats ty cc) #[.map (some (E.β km)),key k]).run P w = .ok (.value (.tuple #[])) w':=λw' hy=>by
  simp [invoke,builtin,hy]
 have hfin:∀ ys':Array MapEntry,(∀ {w':World} {ok':Nat->Prop},RM w' E (ltn σ.n) ok' (mpS key val L) ys.toList->RM w' E (ltn σ.n) ok' (mpS key val (UM k L)) ys'.toList) ->
  Sim C E ⟨σ.fr,(km,.map (mpS key val (UM k L)) c) :: σ.hp,σ.n,σ.N,σ.gs⟩ a (V7 w (E.β km) (.map ys' c))/\ZG w (V7 w (E.β km) (.map ys' c)) (okS C E σ.hp) (okS C E ((km,.map (mpS key val (UM k L)) c) :: σ.hp)):=λys' hRM=>by
  obtain ⟨q1,q2⟩:=Va (k:=km) (hb:=.map (mpS key val (UM k L)) c) (o:=.map ys' c) h.hs (λb=>by rw [hh];simp only [occ]) (λb=>by simp only [occ]) (λhlt hst=>by
   simp only [Ya]
   exact ⟨ys',X8 hlt,hRM (Zbc hst.c (λ_ _=>Ele.rfl) (λ_ h=>h) _ _ g2)⟩)
  exact ⟨YA h q2 (λ_ _=>Ele.rfl) (Nat.le_refl _) q1,q2⟩
 rcases ZbJ (w:=w) (E:=E) (n:=ltn σ.n) (ok:=okS C E σ.hp) k L ys.toList 0 g2 with ⟨a1,a2,a3,-⟩ | ⟨j,v0,e,b1,b2,b3,b4,b5,b6⟩
 . have hrun:(Builtin.delete_ ats ty #[.map (some (E.β km)),key k]).run P w = .ok (.tuple #[]) (V7 w (E.β km) (.map ys c)):=by
    simp [Builtin.delete_,Sem.run_bind,ha,run_underlying ht,Result.andThen_ok,Yj g1 rfl,Sem.run_pure,hK.chk,hfn,a2,YS _ g1 rfl]
   exact ⟨_,_,hex _ hrun,hfin _ λh1=>by rw [a3];exact h1⟩
 . rw [Nat.zero_add] at b2;have hlt:j < ys.size:=by
    have:ys[j]? = some e:=by simpa using b3
    exact (Array.getElem?_eq_some_iff.1 this).1
   have hrun:(Builtin.delete_ ats ty #[.map (some (E.β km)),key k]).run P w = .ok (.tuple #[]) (V7 w (E.β km) (.map (ys.eraseIdxIfInBounds j) c)):=by
    simp [Builtin.delete_,Sem.run_bind,ha,run_underlying ht,Result.andThen_ok,Yj g1 rfl,Sem.run_pure,hK.chk,hfn,b2,YS _ g1 rfl]
   exact ⟨_,_,hex _ hrun,hfin _ λ{w' ok'} h1=>by
    have:(ys.eraseIdxIfInBounds j).toList=ys.toList.eraseIdx j:=by simp [Array.eraseIdxIfInBounds,hlt]
    rw [this];exact (b6 h1).1⟩
theorem ZeX {C C':Cx} {E E':Env} {σ σ':St} {a a':Act} {w w':World} (h:Sim C E σ a w) (h':Sim C' E' σ' a' w') (c1:C'.w0=w) (c2:C'.okp=okS C E σ.hp) (c3:C'.pass=λk b=>occ E k (lkh k σ.hp) b) (c4:C'.e0=E) (c5:C'.m0 = σ.n) (hm:C.m0<=σ.n) :
 Sim { C with ds:=a'.defers } E' σ' a' w':=by
 have hok:∀ b,okS C' E' σ'.hp b->okS C E' σ'.hp b:=λb hb=>by
  obtain ⟨g1,g2⟩:=hb;refine ⟨?_,g2⟩;rw [c1,c2] at g1;rcases g1 with g1 | g1
  . exact g1.1
  . exact .inr (Nat.le_trans h.hs.kp.size g1)
 have hst:YM w' w' (okS C' E' σ'.hp) (okS C E' σ'.hp):=λb hb _=>⟨hok b hb,rfl⟩;refine ⟨λt=>?_,h'.sz,Zah,h'.gs,⟨h'.hs.kn,λk=>?_,h'.hs.dj,λk b ho=>?_,⟨?_,?_,?_,?_,λb h1 h2=>?_⟩,λk hk=>?_⟩⟩
 . have:=h'.fr t;cases hq:lk t σ'.fr<;>rw [hq] at this<;>try exact ZU hst (λ_ _=>Ele.rfl) (λ_ h=>h) _ _ this
   exact ⟨λhg=>ZU hst (λ_ _=>Ele.rfl) (λ_ h=>h) _ _ (this.1 hg),this.2⟩
 . refine XQ hst (λ_ _=>Ele.rfl) (λ_ h=>h) ?_ (λb ho=>rfl) rfl (h'.hs.bk k);rcases Classical.em (ltn σ'.n k) with hk | hk
   . exact .inr hk
   . exact .inl (h'.hs.kn k hk)
 . rcases h'.hs.lo k b ho with g | g
   . rw [c1] at g;exact .inl (Nat.le_trans h.hs.kp.size g)
   . rw [c3] at g;exact h.hs.lo k b g
 . have:=h'.hs.kp.os;rw [c1] at this;exact this.trans h.hs.kp.os
 . have:=h'.hs.kp.tape;rw [c1] at this;exact this.trans h.hs.kp.tape
 . have:=h'.hs.kp.output;rw [c1] at this;exact this.trans h.hs.kp.output
 . have:=h'.hs.kp.size;rw [c1] at this;exact Nat.le_trans h.hs.kp.size this
 . have h1':b < C.w0.heap.size:=h1;have h2':∀ k,¬ C.pass k b:=h2
   have hb:=h'.hs.kp.block b (by rw [c1];exact Nat.lt_of_lt_of_le h1' h.hs.kp.size) (λk hk=>by
    rw [c3] at hk;rcases h.hs.lo k b hk with g | g
    . exact absurd h1' (Nat.not_lt.2 g)
    . exact h2' k g)
   rw [c1] at hb;exact hb.trans (h.hs.kp.block b h1' h2')
 . have hk':k < C.m0:=hk;have p1:=h.hs.pin k hk';have p2:=h'.hs.pin k (by rw [c5];exact Nat.lt_of_lt_of_le hk' hm);rw [c4] at p2;exact ⟨p2.1,p1.2.trans p2.2⟩
theorem Wg {fn:Func} {R':Ending->World->Prop} {C:Cx} {K:Ex->St->Prop}
 (hK:∀ e σ',K e σ'->∀ (C':Cx) E' a' w',C'.w0=C.w0->C'.okp=C.okp->C'.pass=C.pass->C'.e0=C.e0->C'.m0=C.m0->Sim C' E' σ' a' w'->match e with
  | .n | .ret=>Lv P fn a'.tmps R' C.ds .returning w'
  | .ex _=>False
  | .pan s=>∀ y,R w' E' (ltn σ'.n) (okS C' E' σ'.hp) s y->Lv P fn a'.tmps R' C.ds (.panicking [{ v:=y,recovered:=false }]) w')
 (e:Ex) (σ':St) (hk:K e σ') (E':Env) (a':Act) (w':World) (hs:Sim C E' σ' a' w'):ExQ C (Yu P fn R') e σ' E' a' w':=by
 obtain ⟨ms,d1,d2,d3⟩:=hs.df;have key:=hK e σ' hk;cases e with
 | ex i=>exact (key C E' a' w' rfl rfl rfl rfl rfl hs).elim
 | n =>
  show Lv P fn a'.tmps R' a'.defers .returning w';rw [d1];refine XK ms _ _ (by simp) d2.1 (λm hm=>(d3 m hm).2.2) λw'' hu=>?_;exact key { C with ds:=a'.defers } E' a' w'' rfl rfl rfl rfl rfl (Wp hs d3 hu)
 | ret =>
  show Lv P fn a'.tmps R' a'.defers .returning w';rw [d1];refine XK ms _ _ (by simp) d2.1 (λm hm=>(d3 m hm).2.2) λw'' hu=>?_;exact key { C with ds:=a'.defers } E' a' w'' rfl rfl rfl rfl rfl (Wp hs d3 hu)
 | pan s =>
  intro y hy;show Lv P fn a'.tmps R' a'.defers (.panicking _) w';rw [d1];refine XK ms _ _ (by simp) d2.1 (λm hm=>(d3 m hm).2.2) λw'' hu=>?_;have hst:YM w' w'' (okS C E' σ'.hp) (okS C E' σ'.hp):=λb hb q=>⟨hb,hu.other b λhm'=>by rcases q with ⟨cs,T,fz,e⟩ | ⟨es,c,e⟩<;>(rw [(d3 b hm').2.2] at e;cases e)⟩;exact key { C with ds:=a'.defers } E' a' w'' rfl rfl rfl rfl rfl (Wp hs d3 hu) y (ZU hst (λ_ _=>Ele.rfl) (λ_ h=>h) _ _ hy)
theorem Zjs {C:Cx} {E:Env} {σ : St} {a:Act} {w:World} (h:Sim C E σ a w) (ds:List Deferred):Sim ⟨w,okS C E σ.hp,λk b=>occ E k (lkh k σ.hp) b,ds,none,E,σ.n,Zu h.hs,λ_ _ hg k=>Vk h.hs hg k⟩ E σ { a with defers:=ds } w:=by
 have hst:YM w w (okS C E σ.hp) (okS ⟨w,okS C E σ.hp,λk b=>occ E k (lkh k σ.hp) b,ds,none,E,σ.n,Zu h.hs,λ_ _ hg k=>Vk h.hs hg k⟩ E σ.hp):=λb hb _=>⟨⟨.inl hb,hb.2⟩,rfl⟩;refine ⟨λt=>?_,h.sz,Zah,h.gs,⟨h.hs.kn,λk=>?_,h.hs.dj,λk b ho=>.inr ho,⟨rfl,rfl,rfl,Nat.le_refl _,λ_ _ _=>rfl⟩,λk hk=>⟨hk,Ele.rfl⟩⟩⟩
 . have:=h.fr t;show FR w E (ltn σ.n) _ σ.fr (lk t σ.fr) (a.tmps.getD t undef);cases hq:lk t σ.fr<;>rw [hq] at this<;>try exact ZU hst (λ_ _=>Ele.rfl) (λ_ h=>h) _ _ this
   exact ⟨λhg=>ZU hst (λ_ _=>Ele.rfl) (λ_ h=>h) _ _ (this.1 hg),this.2⟩
 . refine XQ hst (λ_ _=>Ele.rfl) (λ_ h=>h) ?_ (λb ho=>rfl) rfl (h.hs.bk k);rcases Classical.em (ltn σ.n k) with hk | hk
   . exact .inr hk
   . exact .inl (h.hs.kn k hk)
def ZBJ (v:Value) (u u':FrameMode):Prop:=(u = .returning/\v = .nilIface/\u' = .returning)\/(u = .panicking [{ v:=v,recovered:=false }]/\u' = .panicking [{ v:=v,recovered:=true }])
theorem ZqG {b c₀:Frame} {a:Act} {k:List Item} {cs:List Frame} {w:World} {os:Array Oper} {o:Oper} {rest:List Nat} {t:Nat} {v:Value} {u u':FrameMode} (hb:b.kind = .deferred) (h0:os[0]? = some o) (hr:ZnF t o=true)
 (hc:c₀.mode=u) (hu:ZBJ v u u'):step P (lone (b.at a (.inRegion os (0 :: rest) :: k)) (c₀ :: cs) w) = .next (lone (b.at (a.put (some t) v) (.inRegion os rest :: k)) ({ c₀ with mode:=u' } :: cs) w):=by
 obtain ⟨dst,op,ty,pos,after,guard⟩:=o;unfold ZnF at hr;split at hr
 case h_2=>cases hr
 rename_i c x e1 e2 e3;simp only at e1 e2 e3;subst e1;subst e2;subst e3;simp only [Bool.and_eq_true,beq_iff_eq] at hr;obtain ⟨⟨rfl,hr1⟩,hr2⟩:=hr;split at hr1
 case h_2=>cases hr1
 rename_i hcal;have hw:Region.wanted (⟨some x,.call c,ty,pos,after,none⟩:Oper) (yielded os a.tmps)=true:=rfl;have hg:=stepG_op (P:=P) (b:=b) (k:=k) (cs:=c₀ :: cs) (w:=w) (rest:=rest) h0 hw;have hfin:∀ v,(b.at a (.inRegion os (0 :: rest) :: k)).finish v=b.at (a.put (some x) v) (.inRegion os rest :: k):=by
  intro v;rw [Frame.finish_at,h0];rfl
 have hrun:(execOp a.eval (⟨some x,.call c,ty,pos,after,none⟩:Oper)).run P w = .ok .recover w:=by
  simp [execOp,resolve,hcal,invoke,builtin,Sem.run_bind,Sem.run_pure]
 have hk:(b.at a (.inRegion os (0 :: rest) :: k)).kind = .deferred:=hb;have htr:=tryRecover_deferred hk (c₀ :: cs);refine step_lone_go ?_;rw [hg,<- hfin];rcases hu with ⟨rfl,rfl,rfl⟩ | ⟨rfl,rfl⟩
 . have hrd:recoverD (c₀ :: cs)=none:=by simp [recoverD,hc]
   have hcc:({ c₀ with mode:=.returning }:Frame)=c₀:=by rw [<- hc]
   simp only [Frame.at] at htr ⊢;simp [stepG.apply,hrun,htr,hrd,hcc]
 . have hrd:recoverD (c₀ :: cs)=some (v,{ c₀ with mode:=.panicking [{ v:=v,recovered:=true }] } :: cs):=by simp [recoverD,hc]
   simp only [Frame.at] at htr ⊢;simp [stepG.apply,hrun,htr,hrd]
theorem ZsU {fr:Frame} {cs:List Frame}:∀ (ms:List Nat) (w:World),fr.mode≠.run->fr.defers=ms.map Zdt->ms.Nodup->(∀ m ∈ ms,w.heap[m]? = some (.deferred (some []))) ->
 ∃ w',Unm ms w w'/\Steps P (lone fr cs w) (lone { fr with defers:=[] } cs w')
 | [],w,_,hd,_,_=>⟨w,Unm.refl w,by rw [show ({ fr with defers:=[] }:Frame)=fr by rw [<- show fr.defers=[] from hd]];exact Steps.refl P _⟩
 | m :: ms,w,hm,hd,hnd,hh=>by
  rw [List.nodup_cons] at hnd;have hm0:=hh m (by simp);have hlt:=(Array.getElem?_eq_some_iff.1 hm0).1;have h1:step P (lone fr cs w) = .next (lone { fr with defers:=ms.map Zdt } cs (V7 w m (.deferred none))) :=
   V0 hm hd rfl (by simp only [Instr.takeDeferred,Sem.run_bind,Yj hm0 rfl,Result.andThen_ok,YS _ hm0 rfl,Sem.run_pure])
  obtain ⟨w',g1,g2⟩:=ZsU (fr:={ fr with defers:=ms.map Zdt }) (cs:=cs) ms (V7 w m (.deferred none)) hm rfl hnd.2 (λk hk=>by
   rw [WI (by rintro rfl;exact hnd.1 hk)];exact hh k (by simp [hk]))
  refine ⟨w',⟨g1.os,g1.tape,g1.output,by rw [g1.size,Zb1],λb hb=>?_⟩,.head h1 g2⟩;rw [List.mem_cons,not_or] at hb;rw [g1.other b hb.2];exact WI hb.1
theorem ZmA {g:FuncId} {fn:Func} {id:Nat} {os:Array Oper} {y0:Code} {o1:Oper} {t:Nat} {args:Array Value} {w:World} {u u':FrameMode} {v:Value} {R:Ending->FrameMode->World->Prop} {Q:Exit->Act->World->Prop}
 (hf:P.funcs[g]? = some fn) (hb:fn.body=some (.seq (.region id os false) y0)) (h0:os[0]? = some o1) (hrec:ZnF t o1=true) (hu:ZBJ v u u')
 (h:Ur none P os (Exit.then (wpX none P y0 Q) Q) (os.toList.drop 1) (({ tmps:=args ++ Array.replicate (fn.ntmps - args.size) undef,defers:=[] }:Act).put (some t) v) w)
 (hQ:∀ e a w,Q e a w->(e = .normal\/e = .ret)/\∃ ms:List Nat,a.defers=ms.map Zdt/\ms.Nodup/\(∀ m ∈ ms,w.heap[m]? = some (.deferred (some [])))/\∀ w',Unm ms w w'->∃ val,(results fn a.tmps).run P w' = .ok val w'/\R (.returned val) u' w') :
 CallsD P g args u w R:=by
 intro c₀ cs hc
 let b:Frame:={ (default:Frame) with fn:=g,kind:=.deferred }
 let a0:Act:={ tmps:=args ++ Array.replicate (fn.ntmps - args.size) undef,defers:=[] }
 have henter:Frame.enter P g args .deferred=b.at a0 [.code (.seq (.region id os false) y0)]:=by
  simp [Frame.enter,Frame.at,hf,hb,b,a0]
 have hsz:0 < os.size:=(Array.getElem?_eq_some_iff.1 h0).1;have hrange:List.range os.size=0 :: List.range' 1 (os.size - 1):=by
  rw [List.range_eq_range',show os.size=(os.size - 1)+1 from by omega,List.range'_succ];simp
 have h1:=ZbE (r:=none) (P:=P) (ops:=os) (os.toList.drop 1) 1 (λj hj=>by simp [List.getElem?_drop,Nat.add_comm]) _ w h;rw [List.length_drop,Array.length_toList] at h1;obtain ⟨e,a1,w1,q,s⟩:=ZaR _ _ w h1 b [.code y0] ({ c₀ with mode:=u' } :: cs) rfl (by simp [b,hf]);have s:=(arrivesIn_iff (b:=b) (λ_ _=>steps_iff.symm) rfl).1 s;rw [Frame.atR_of_none (b:=b) rfl] at s;have hpre:Steps P (lone (Frame.enter P g args .deferred) (c₀ :: cs) w) (lone (b.at (a0.put (some t) v) (.inRegion os (List.range' 1 (os.size - 1)) :: [.code y0])) ({ c₀ with mode:=u' } :: cs) w):=by
  rw [henter];refine .head step_seq (.head step_region ?_);rw [hrange];exact .one (ZqG rfl h0 hrec hc hu)
 have fin:∀ (e:Exit) (a:Act) (w2:World) (todo:List Item),Q e a w2->Steps P (lone (Frame.enter P g args .deferred) (c₀ :: cs) w) (lone ({ b.at a todo with mode:=.returning }:Frame) ({ c₀ with mode:=u' } :: cs) w2) ->
  ∃ e u'' w' fr,R e u'' w'/\Comes P (lone (Frame.enter P g args .deferred) (c₀ :: cs) w) (lone fr ({ c₀ with mode:=u'' } :: cs) w') e/\fr.kind = .deferred/\fr.going P w' e:=λe a w2 todo hq hs=>by
  obtain ⟨_,ms,d1,d2,d3,d4⟩:=hQ e a w2 hq;obtain ⟨w3,g1,g2⟩:=ZsU (P:=P) (fr:={ b.at a todo with mode:=.returning }) (cs:={ c₀ with mode:=u' } :: cs) ms w2 (by simp) d1 d2 d3;obtain ⟨val,hr,hR⟩:=d4 w3 g1;exact ⟨.returned val,u',w3,_,hR,Steps.trans hs g2,rfl,rfl,rfl,fn,hf,hr⟩
 have tl:∀ (a:Act) (w2:World),wpX none P y0 Q a w2->Steps P (lone (Frame.enter P g args .deferred) (c₀ :: cs) w) (lone (b.at a [.code y0]) ({ c₀ with mode:=u' } :: cs) w2) ->
  ∃ e u'' w' fr,R e u'' w'/\Comes P (lone (Frame.enter P g args .deferred) (c₀ :: cs) w) (lone fr ({ c₀ with mode:=u'' } :: cs) w') e/\fr.kind = .deferred/\fr.going P w' e:=λa w2 hy hs=>by
  obtain ⟨e2,a2,w3,q2,s2⟩:=hy b [] ({ c₀ with mode:=u' } :: cs) rfl (by simp [b,hf]);have s2:=(arrivesIn_iff (b:=b) (λ_ _=>steps_iff.symm) rfl).1 s2;rw [Frame.atR_of_none (b:=b) rfl] at s2;rcases (hQ e2 a2 w3 q2).1 with rfl | rfl
  . exact fin _ a2 w3 [] q2 (Steps.trans hs (Steps.trans s2 (.one step_end)))
  . obtain ⟨todo,s3⟩:=s2;exact fin _ a2 w3 todo q2 (Steps.trans hs s3)
 cases e with
 | normal=>exact tl a1 w1 q (Steps.trans hpre s)
 | ret =>
  obtain ⟨todo,s3⟩:=s;exact fin _ a1 w1 todo q (Steps.trans hpre s3)
 | panic chain=>rcases (hQ _ a1 w1 q).1 with h | h<;>cases h
 | exit id=>rcases (hQ _ a1 w1 q).1 with h | h<;>cases h
 | goto l=>rcases (hQ _ a1 w1 q).1 with h | h<;>cases h
 | outgrown=>rcases (hQ _ a1 w1 q).1 with h | h<;>cases h
theorem ZmE {C:Cx} {E:Env} {hp0:List (Nat × HB)} {n0 N:Nat} {args:List SV} {vs:List Value} {w:World} (hN:args.length<=N) (hds:C.ds=[]) (hH:HSim C E hp0 (ltn n0) w) (hR:RL w E (ltn n0) (okS C E hp0) args vs) :
 Sim C E ⟨Xx 0 args,hp0,n0,N,[]⟩ { tmps:=vs.toArray ++ Array.replicate (N - vs.toArray.size) undef,defers:=[] } w:=by
 have hlen:=ZC hR;have hng:∀ t j b s,lk t (Xx 0 args)≠.gd j b s:=by
  intro t j b s ht;simp only [V5,Nat.zero_le,if_true,Nat.sub_zero] at ht;by_cases htl:t < args.length
  . have e1:args.getD t .any=args[t]:=by simp [htl]
    obtain ⟨y,h1,h2⟩:=Vs hR (List.getElem?_eq_getElem htl);rw [e1] at ht;rw [ht] at h2;simp only [R] at h2
  . have e1:args.getD t .any = .any:=by simp [List.getElem?_eq_none (Nat.le_of_not_lt htl)]
    rw [e1] at ht;cases ht
 refine ⟨λt=>?_,by simp;omega,by rw [<- hds];exact Zah,λt j b s ht=>absurd ht (hng t j b s),hH⟩;have hng:=hng t;have hFR:R w E (ltn n0) (okS C E hp0) (lk t (Xx 0 args)) ((vs.toArray ++ Array.replicate (N - vs.toArray.size) undef).getD t undef):=by
  simp only [V5,Nat.zero_le,if_true,Nat.sub_zero];by_cases ht:t < args.length
  . have e1:args.getD t .any=args[t]:=by simp [ht]
    obtain ⟨y,h1,h2⟩:=Vs hR (List.getElem?_eq_getElem ht);have e2:(vs.toArray ++ Array.replicate (N - vs.toArray.size) undef).getD t undef=y:=by
     have:t < vs.length:=by omega
     have h1':=(List.getElem?_eq_some_iff.1 h1).2;simp [Array.getElem?_append,this,h1']
    rw [e1,e2];exact h2
  . have e1:args.getD t .any = .any:=by simp [List.getElem?_eq_none (Nat.le_of_not_lt ht)]
    rw [e1];simp only [R]
 simp only;cases hq:lk t (Xx 0 args)<;>rw [hq] at hFR hng<;>first | exact hFR | exact absurd rfl (hng _ _ _)
theorem Zz5 {g:FuncId} {t N:Nat} {l:List Ins} {c:SC} (hF:RcF P g t l c N) {C:Cx} {E:Env} {σ : St} {a:Act} {w:World} (hS:Sim C E σ a w) (hm:C.m0<=σ.n) {caps:List SV} {vs:List Value} (hR:RL w E (ltn σ.n) (okS C E σ.hp) caps vs)
 {s:SV} {v:Value} (hv:R w E (ltn σ.n) (okS C E σ.hp) s v) {k:St->Prop} (hrun:rcR P t l c N caps s σ k) {u u':FrameMode} (hu:ZBJ v u u') {R':Ending->FrameMode->World->Prop}
 (hk:∀ hp' n' E' w',k ⟨σ.fr,hp',n',σ.N,σ.gs⟩->Sim C E' ⟨σ.fr,hp',n',σ.N,σ.gs⟩ a w'->R' (.returned (.tuple #[])) u' w'):CallsD P g vs.toArray u w R':=by
 obtain ⟨fn,id,os,y0,o1,f1,f2,f3,f4,f5,f6,f7,f8,f9⟩:=hF.ex;obtain ⟨hcl,hrun⟩:=hrun;have hcl:=Nat.le_of_ble_eq_true hcl
 let C2:Cx:=⟨w,okS C E σ.hp,λk b=>occ E k (lkh k σ.hp) b,[],none,E,σ.n,Zu hS.hs,λ_ _ hg k=>Vk hS.hs hg k⟩
 have hst:YM w w (okS C E σ.hp) (okS C2 E σ.hp):=λb hb _=>⟨⟨.inl hb,hb.2⟩,rfl⟩;have hin:=Zjs hS [];have hR2:RL w E (ltn σ.n) (okS C2 E σ.hp) caps vs:=ZE hst (λ_ _=>Ele.rfl) (λ_ h=>h) _ _ hR;have hv2:R w E (ltn σ.n) (okS C2 E σ.hp) s v:=ZU hst (λ_ _=>Ele.rfl) (λ_ h=>h) _ _ hv;have h0:Sim C2 E ⟨Xx 0 caps,σ.hp,σ.n,N,[]⟩ { tmps:=vs.toArray ++ Array.replicate (N - vs.toArray.size) undef,defers:=[] } w:=ZmE hcl rfl hin.hs hR2
 have h1:Sim C2 E ⟨(t,s) :: Xx 0 caps,σ.hp,σ.n,N,[]⟩ (Act.put { tmps:=vs.toArray ++ Array.replicate (N - vs.toArray.size) undef,defers:=[] } (some t) v) w :=
  Xo h0 (λb hb _=>⟨hb,rfl⟩) (λ_ _=>Ele.rfl) (Nat.le_refl _) hin.hs (by simp) f8 (Ux hv) hv2
 let Q:Exit->Act->World->Prop:=λe a2 w2=>(e = .normal\/e = .ret)/\∃ σ' E',k ⟨σ.fr,σ'.hp,σ'.n,σ.N,σ.gs⟩/\Sim C2 E' σ' a2 w2
 have hKQ:LkQ C2 (rcK σ k) Q:=λe σ' hk' E' a' w' hs=>by
  cases e with
  | n=>exact ⟨.inl rfl,σ',E',hk',hs⟩
  | ret=>exact ⟨.inr rfl,σ',E',hk',hs⟩
  | ex i=>exact hk'.elim
  | pan s=>exact hk'.elim
 have hmc:MC C2 σ.n:=⟨Nat.le_refl _,λj b ho=>by
  rcases Classical.em (ltn σ.n j) with hj | hj
  . exact hj
  . have ho':occ E j (lkh j σ.hp) b:=ho
    rw [hS.hs.kn j hj] at ho';exact ho'.elim⟩
 have hlist:=Zdn (P:=P) (C:=C2) (Y:=Y0) Zcm (ops:=os) (Q:=Exit.then (wpX none P y0 Q) Q) (K:=Zdx (fxS (λσ' K=>sx P Y0 σ.n c σ' K) (rcK σ k))) (λe σ' hk' E' a' w' hs0=>by
  have hs:=XD hs0;cases e with
  | n =>
   have hwp:=Yk c C2 Y0 σ.n y0 (VW σ') (rcK σ k) Q E' a' w' hmc Zcm (.inl rfl) f6 hk' hKQ hs;exact hwp
  | ret=>exact hKQ .ret _ hk' E' a' w' hs
  | ex i=>exact hk'.elim
  | pan s=>exact hk'.elim) l _ f5 _ E _ w hrun h1
 refine ZmA (u':=u') (v:=v) f1 f2 f3 f4 hu (Q:=Q) (by rw [f7];exact hlist) (λe a2 w2 hq=>⟨hq.1,?_⟩);obtain ⟨_,σ',E',hk',hs'⟩:=hq;obtain ⟨ms,d1,d2,d3⟩:=hs'.df;refine ⟨ms,by rw [d1];simp [C2],d2.1,λm hm'=>(d3 m hm').2.2,λw3 hu3=>?_⟩;refine ⟨.tuple #[],by simp [results,f9],?_⟩;have hs3:=Wp hs' d3 hu3;have hout:=ZeX hS hs3 rfl rfl rfl rfl rfl hm;obtain ⟨g1,g2⟩:=Zfl (C:=C) hout.hs rfl rfl rfl rfl rfl
 have hpin:∀ j,j < σ.n->j < σ'.n/\Ele E E' j j:=λj hj=>hs3.hs.pin j hj;refine hk σ'.hp σ'.n E' w3 hk' (YA hS (λb hb hsome=>?_) (λj hj=>(hpin j hj).2) ?_ g1)
 . obtain ⟨b1,b2⟩:=hb;have hlt:b < w.heap.size:=by
    rcases Nat.lt_or_ge b w.heap.size with q | q
    . exact q
    . rw [Array.getElem?_eq_none q] at hsome;cases hsome
   refine ⟨⟨b1,λj ho=>?_⟩,?_⟩
   . rcases hs3.hs.lo j b ho with q | q
     . exact absurd hlt (Nat.not_lt.2 q)
     . exact b2 j q
   . exact hs3.hs.kp.block b hlt (λj q=>b2 j q)
 . rcases Nat.lt_or_ge σ'.n σ.n with q | q
   . exact absurd (hpin σ'.n q).1 (Nat.lt_irrefl _)
   . exact q
theorem ZaK {fn:Func} {R':Ending->World->Prop}:∀ (b:FB) (C:Cx) (m:Nat) (code:Code) (σ : St) (K:Ex->St->Prop) (E:Env) (a:Act) (w:World),MC C m->C.rd=none->Zaz P b code=true->fx P m b σ K->Sim C E σ a w ->
 (∀ e σ',K e σ'->∀ (C':Cx) E' a' w',C'.w0=C.w0->C'.okp=C.okp->C'.pass=C.pass->C'.e0=C.e0->C'.m0=C.m0->Sim C' E' σ' a' w'->match e with
  | .n | .ret=>Lv P fn a'.tmps R' C.ds .returning w'
  | .ex _=>False
  | .pan s=>∀ y,R w' E' (ltn σ'.n) (okS C' E' σ'.hp) s y->Lv P fn a'.tmps R' C.ds (.panicking [{ v:=y,recovered:=false }]) w') ->
 wpX none P code (Yu P fn R') a w
 | .tail c,C,m,code,σ,K,E,a,w,hm,hrd,hc,h,hS,hK=>by
  have hwp:=Yk c C Y0 m code σ K (Yu P fn R') E a w hm Zcm (.inl hrd) hc h (λe σ' hk E' a' w' hs=>Wg hK e σ' hk E' a' w' hs) hS;rw [hrd] at hwp;exact hwp
 | .seq x b,C,m,code,σ,K,E,a,w,hm,hrd,hc,h,hS,hK=>by
  cases code<;>simp [Zaz] at hc
  rename_i cx cy;refine Zdf ?_;have hwp:=Yk x C Y0 m cx σ (fxS (fx P m b) K) (Exit.then (wpX none P cy (Yu P fn R')) (Yu P fn R')) E a w hm Zcm (.inl hrd) hc.1 h (λe σ' hk E' a' w' hs=>?_) hS
  . rw [hrd] at hwp;exact hwp
  cases e with
  | n=>exact ZaK b C m cy σ' K E' a' w' hm hrd hc.2 hk hs hK
  | ex i=>exact hk.elim
  | ret=>exact Wg hK .ret σ' hk E' a' w' hs
  | pan s=>exact Wg hK (.pan s) σ' hk E' a' w' hs
 | .dfr ops mx kx t b,C,m,code,σ,K,E,a,w,hm,hrd,hc,h,hS,hK=>by
  unfold Zaz at hc;split at hc
  case h_2=>cases hc
  rename_i id os cy;simp only [Bool.and_eq_true] at hc;obtain ⟨⟨hc1,hc2⟩,hc3⟩:=hc;split at hc2
  case h_2=>cases hc2
  rename_i o ho;have hos:os.toList=os.toList.take ops.length ++ [o]:=by rw [<- ho,List.take_append_drop]
  refine Zdf (X0 ?_);rw [hos,<- hrd];refine Zi5 (C:=C) (Q:=Exit.then (wpX C.rd P cy (Yu P fn R')) (Yu P fn R')) (os2:=[o]) Zcm (K:=Zdx (fxS (λσ K=>ZBc P t (λn=>fx P n b) (mpO (rdG none σ.fr mx)) (vO (rdG none σ.fr kx)) σ K) K)) (λσ0 E1 a1 w1 hk0 hs0=>?_)
   (λs σ' E' a' w' y hk hs hy=>Wg hK (.pan s) (VW σ') hk E' a' w' (XD hs) y (by rw [Zfv,ZdA];exact hy)) ops _ hc1 σ E a w h hS
  have hs:=XD hs0;simp only [Zdx,fxS] at hk0;generalize VW σ0 = σ1 at hs hk0;obtain ⟨ms,d1,d2,d3⟩:=hs.df;unfold ZBc at hk0;split at hk0
  case h_2=>exact hk0.elim
  rename_i km kv hkm hkv;obtain ⟨hlt,hfx⟩:=hk0;have hlt:=Nat.le_of_ble_eq_true hlt;have hmv:a1.tmps=a1.tmps/\evX a1 mx = .map (some (E1.β km)):=by
   have hR:=Yw (Zu hs.hs) hs.fr (g:=none) trivial mx;cases hq:rdG none σ1.fr mx<;>rw [hq] at hkm<;>simp only [mpO,Option.some.injEq,reduceCtorEq] at hkm
   subst hkm;rw [hq] at hR;simp only [R] at hR;exact ⟨rfl,hR.2⟩
  have hkv':evX a1 kx=kv:=by
   have hR:=Yw (Zu hs.hs) hs.fr (g:=none) trivial kx;cases hq:rdG none σ1.fr kx<;>rw [hq] at hkv<;>simp only [vO,Option.some.injEq,reduceCtorEq] at hkv
   subst hkv;rw [hq] at hR;simp only [R] at hR;exact hR
  have hmn:C.m0<=σ1.n:=by
   rcases Nat.lt_or_ge σ1.n C.m0 with q | q
   . exact absurd (hs.hs.pin σ1.n q).1 (Nat.lt_irrefl _)
   . exact q
  unfold Zzx at hc2;split at hc2
  case h_2=>cases hc2
  rename_i c hop hdst hgd;simp only [Bool.and_eq_true] at hc2;obtain ⟨⟨e1,e2⟩,e3⟩:=hc2;split at e1
  case h_2=>cases e1
  rename_i hcal;split at e2
  case h_2=>cases e2
  rename_i om ok hargs;simp only [Bool.and_eq_true] at e2;split at e3
  case h_2=>cases e3
  rename_i u hu;have hut:u=t:=by simpa using e3
  subst hut;have hca:c.args = #[om,ok]:=by apply Array.toList_inj.1;rw [hargs]
  rw [hrd];simp only [Ur,Region.wanted,hgd];simp only [if_true];have hrun:(o.semAt none a1.eval).run P w1 = .ok (.defer { target:=.builtin .delete c.argTypes o.type (c.args.map λ| .const _=>true | _=>false),args:=#[.map (some (E1.β km)),kv] }) w1:=by
   rw [Oper.semAt_none];obtain ⟨dst',op',ty',pos,after,guard⟩:=o;simp only at hop;subst hop;simp only [execOp,Sem.run_bind,resolve,hcal,Sem.run_pure,Result.andThen_ok,hca];simp only [List.map_toArray,List.map_cons,List.map_nil,Zf e2.1 a1,Zf e2.2 a1,hmv.2,hkv'];cases om<;>cases ok<;>rfl
  show o.wpq none P a1 w1 _ _;unfold Oper.wpq;rw [hrun];simp only [Oper.uponX,hdst];show Exit.then _ _ .normal _ w1;simp only [Exit.then];show wpX none P cy (Yu P fn R') { a1 with defers:=_ :: a1.defers } w1;refine ZaK b _ σ1.n cy σ1 (dK P u km kv K) E1 _ w1 ⟨Nat.le_refl _,λk b ho=>?_⟩ rfl hc3 hfx (Zjs hs _) (λe σ' hk C2 E' a' w' c1 c2 c3 c4 c5 hs'=>?_)
  . rcases Classical.em (ltn σ1.n k) with hk | hk
    . exact hk
    . have ho':occ E1 k (lkh k σ1.hp) b:=ho;rw [hs.hs.kn k hk] at ho';exact ho'.elim
  have main:∀ (hb':HB),Zvw P u kv (lkh km σ'.hp) hb'->(∀ (C':Cx) E' a' w',C'.w0=C.w0->C'.okp=C.okp->C'.pass=C.pass->C'.e0=C.e0->C'.m0=C.m0->Sim C' E' ⟨σ'.fr,(km,hb') :: σ'.hp,σ'.n,σ'.N,σ'.gs⟩ a' w'->Lv P fn a'.tmps R' C.ds .returning w') ->
   Lv P fn a'.tmps R' ({ target:=.builtin .delete c.argTypes o.type (c.args.map λ| .const _=>true | _=>false),args:=#[.map (some (E1.β km)),kv] } :: a1.defers) .returning w':=λhb' hdel hKK=>by
   obtain ⟨x,w2,hrun2,hs2,_⟩:=Zxo hs' (ty:=o.type) (cc:=c.args.map λ| .const _=>true | _=>false) hu hdel;have hβ : E'.β km=E1.β km:=by
    have:=(hs'.hs.pin km (by rw [c5];exact hlt)).2.1;rw [c4] at this;exact this
   rw [hβ] at hrun2;refine ⟨by simp,.inr (.inl ⟨.delete,c.argTypes,o.type,_,w2,x,rfl,hrun2,?_⟩)⟩;rw [d1];have hsim:=ZeX hs hs2 c1 c2 c3 c4 c5 hmn;have hmark:∀ m ∈ ms,C.w0.heap.size<=m/\okS C E' ((km,hb') :: σ'.hp) m/\w2.heap[m]? = some (.deferred (some [])):=λm hm=>by
    obtain ⟨p1,p2,p3⟩:=d3 m hm;have hlt':m < w1.heap.size:=(Array.getElem?_eq_some_iff.1 p3).1;have hnp:∀ k,¬ C2.pass k m:=λk hk=>by rw [c3] at hk;exact p2.2 k hk
    refine ⟨p1,⟨p2.1,λk ho=>?_⟩,?_⟩
    . rcases hs2.hs.lo k m ho with g | g
      . rw [c1] at g;exact absurd hlt' (Nat.not_lt.2 g)
      . exact hnp k g
    . have:=hs2.hs.kp.block m (by rw [c1];exact hlt') hnp;rw [c1] at this;rw [this];exact p3
   refine XK ms _ _ (by simp) d2.1 (λm hm=>(hmark m hm).2.2) λw3 hu3=>?_;exact hKK { C with ds:=a'.defers } E' a' w3 rfl rfl rfl rfl rfl (Wp (C:={ C with ds:=a'.defers }) hsim hmark hu3)
  cases e with
  | ex i=>exact hk.elim
  | pan s=>exact hk.elim
  | n =>
   obtain ⟨hb',h1,h2⟩:=hk;exact main hb' h1 (λC' E' a' w' q1 q2 q3 q4 q5 q6=>hK .n _ h2 C' E' a' w' q1 q2 q3 q4 q5 q6)
  | ret =>
   obtain ⟨hb',h1,h2⟩:=hk;exact main hb' h1 (λC' E' a' w' q1 q2 q3 q4 q5 q6=>hK .ret _ h2 C' E' a' w' q1 q2 q3 q4 q5 q6)
 | .rcv ops cx b,C,m,code,σ,K,E,a,w,hm,hrd,hc,h,hS,hK=>by
  unfold Zaz at hc;split at hc
  case h_2=>cases hc
  rename_i id os cy;simp only [Bool.and_eq_true] at hc;obtain ⟨⟨hc1,hc2⟩,hc3⟩:=hc;split at hc2
  case h_2=>cases hc2
  rename_i o ho;have hos:os.toList=os.toList.take ops.length ++ [o]:=by rw [<- ho,List.take_append_drop]
  refine Zdf (X0 ?_);rw [hos,<- hrd];refine Zi5 (C:=C) (Q:=Exit.then (wpX C.rd P cy (Yu P fn R')) (Yu P fn R')) (os2:=[o]) Zcm (K:=Zdx (fxS (λσ K=>Zy5 P (λn=>fx P n b) (rK P K) (rdG none σ.fr cx) σ) K)) (λσ0 E1 a1 w1 hk0 hs0=>?_)
   (λs σ' E' a' w' y hk hs hy=>Wg hK (.pan s) (VW σ') hk E' a' w' (XD hs) y (by rw [Zfv,ZdA];exact hy)) ops _ hc1 σ E a w h hS
  have hs:=XD hs0;simp only [Zdx,fxS] at hk0;generalize VW σ0 = σ1 at hs hk0;obtain ⟨ms,d1,d2,d3⟩:=hs.df;unfold Zy5 at hk0;split at hk0
  case h_2=>exact hk0.elim
  rename_i g caps hcl;have hRx:=Yw (Zu hs.hs) hs.fr (g:=none) trivial cx;rw [hcl] at hRx;simp only [R] at hRx;obtain ⟨cs,k1,k2⟩:=hRx;have hmn:C.m0<=σ1.n:=by
   rcases Nat.lt_or_ge σ1.n C.m0 with q | q
   . exact absurd (hs.hs.pin σ1.n q).1 (Nat.lt_irrefl _)
   . exact q
  unfold ZsZ at hc2;split at hc2
  case h_2=>cases hc2
  rename_i cc hop hdst hgd;simp only [Bool.and_eq_true] at hc2;obtain ⟨e1,e2⟩:=hc2;split at e1
  case h_2=>cases e1
  rename_i y hcal;have hca:cc.args = #[]:=by simpa using e2
  rw [hrd];simp only [Ur,Region.wanted,hgd];simp only [if_true];have hrun:(o.semAt none a1.eval).run P w1 = .ok (.defer { target:=.fn (.func g) cs,args:=#[] }) w1:=by
   rw [Oper.semAt_none];obtain ⟨dst',op',ty',pos,after,guard⟩:=o;simp only at hop;subst hop;simp [execOp,resolve,hcal,hca,Zf e1 a1,k1,Deferred.ofValue,Sem.run_bind,Sem.run_pure]
  show o.wpq none P a1 w1 _ _;unfold Oper.wpq;rw [hrun];simp only [Oper.uponX,hdst];show Exit.then _ _ .normal _ w1;simp only [Exit.then];show wpX none P cy (Yu P fn R') { a1 with defers:=_ :: a1.defers } w1;refine ZaK b _ σ1.n cy σ1 (rK P K g caps) E1 _ w1 ⟨Nat.le_refl _,λk b ho=>?_⟩ rfl hc3 hk0 (Zjs hs _) (λe σ' hk C2 E' a' w' c1 c2 c3 c4 c5 hs'=>?_)
  . rcases Classical.em (ltn σ1.n k) with hk | hk
    . exact hk
    . have ho':occ E1 k (lkh k σ1.hp) b:=ho;rw [hs.hs.kn k hk] at ho';exact ho'.elim
  have hpin:∀ j,j < σ1.n->j < σ'.n/\Ele E1 E' j j:=λj hj=>by
   have:=hs'.hs.pin j (by rw [c5];exact hj);rw [c4] at this;exact this
  have hstC:YM w1 w' (okS C E1 σ1.hp) (okS C2 E' σ'.hp):=λb hb q=>by
   have hlt:b < w1.heap.size:=by rcases q with ⟨cells,T,fz,hcell⟩ | ⟨es,c,hcell⟩<;>exact (Array.getElem?_eq_some_iff.1 hcell).1
   refine ⟨⟨.inl (by rw [c2];exact hb),λj ho=>?_⟩,?_⟩
   . rcases hs'.hs.lo j b ho with q | q
     . rw [c1] at q;exact absurd hlt (Nat.not_lt.2 q)
     . rw [c3] at q;exact hb.2 j q
   . have:=hs'.hs.kp.block b (by rw [c1];exact hlt) (λj q=>by rw [c3] at q;exact hb.2 j q);rw [c1] at this;exact this
  have hcaps:RL w' E' (ltn σ'.n) (okS C2 E' σ'.hp) caps cs.toList:=ZE hstC (λj hj=>(hpin j hj).2) (λj hj=>(hpin j hj).1) _ _ k2;have fin:∀ (kk:St->Prop) (eK:Ex) (heK:eK = .n\/eK = .ret),(∀ σ,kk σ->K eK σ)->∀ hp' n' E3 w3,kk ⟨σ'.fr,hp',n',σ'.N,σ'.gs⟩->Sim C2 E3 ⟨σ'.fr,hp',n',σ'.N,σ'.gs⟩ a' w3->Lv P fn a'.tmps R' a1.defers .returning w3:=λkk eK heK hkk hp' n' E3 w3 hq hs2=>by
   rw [d1];have hsim:=ZeX hs hs2 c1 c2 c3 c4 c5 hmn;have hmark:∀ m ∈ ms,C.w0.heap.size<=m/\okS C E3 hp' m/\w3.heap[m]? = some (.deferred (some [])):=λm hm=>by
    obtain ⟨p1,p2,p3⟩:=d3 m hm;have hlt':m < w1.heap.size:=(Array.getElem?_eq_some_iff.1 p3).1;have hnp:∀ k,¬ C2.pass k m:=λk hk=>by rw [c3] at hk;exact p2.2 k hk
    refine ⟨p1,⟨p2.1,λk ho=>?_⟩,?_⟩
    . rcases hs2.hs.lo k m ho with g | g
      . rw [c1] at g;exact absurd hlt' (Nat.not_lt.2 g)
      . exact hnp k g
    . have:=hs2.hs.kp.block m (by rw [c1];exact hlt') hnp;rw [c1] at this;rw [this];exact p3
   refine XK ms _ _ (by simp) d2.1 (λm hm=>(hmark m hm).2.2) λw4 hu4=>?_;rcases heK with rfl | rfl
   . exact hK .n _ (hkk _ hq) { C with ds:=a'.defers } E3 a' w4 rfl rfl rfl rfl rfl (Wp (C:={ C with ds:=a'.defers }) hsim hmark hu4)
   . exact hK .ret _ (hkk _ hq) { C with ds:=a'.defers } E3 a' w4 rfl rfl rfl rfl rfl (Wp (C:={ C with ds:=a'.defers }) hsim hmark hu4)
  have hm2:C2.m0<=σ'.n:=by
   rw [c5];rcases Nat.lt_or_ge σ'.n σ1.n with q | q
   . exact absurd (hpin σ'.n q).1 (Nat.lt_irrefl _)
   . exact q
  have main:∀ (s:SV) (v:Value) (u u':FrameMode) (eK:Ex),(eK = .n\/eK = .ret)->R w' E' (ltn σ'.n) (okS C2 E' σ'.hp) s v->ZBJ v u u'->(∃ t l c N,RcF P g t l c N/\rcR P t l c N caps s σ' (K eK)) ->
   Lv P fn a'.tmps R' ({ target:=.fn (.func g) cs,args:=#[] } :: a1.defers) u w':=λs v u u' eK heK hv hu hex=>by
   obtain ⟨t,l,c,N,hF,hrun⟩:=hex;have hset:u≠.run/\settle u' = .returning:=by
    rcases hu with ⟨rfl,rfl,rfl⟩ | ⟨rfl,rfl⟩
    . exact ⟨by simp,rfl⟩
    . exact ⟨by simp,rfl⟩
   refine ⟨hset.1,.inr (.inr ⟨.func g,cs,g,cs,rfl,by simp [invoke,Y2 hF.bd],?_⟩)⟩
   have hcalls:=Zz5 hF hs' hm2 hcaps hv hrun hu (R':=λe u'' w''=>match e with
    | .returned _=>Lv P fn a'.tmps R' a1.defers (settle u'') w''
    | .panicked chain=>Lv P fn a'.tmps R' a1.defers (raised u'' chain) w''
    | .outgrown=>R' .outgrown w'') (λhp' n' E3 w3 hq hs3=>by
    show Lv P fn a'.tmps R' a1.defers (settle u') w3;rw [hset.2]
    exact fin (K eK) eK heK (λ_ h=>h) hp' n' E3 w3 hq hs3)
   rw [show cs.toList.toArray=cs from rfl] at hcalls;intro c₀ cs0 hc0;obtain ⟨e2,u2,w2,fr2,q1,q2,q3,q4⟩:=hcalls c₀ cs0 hc0;refine ⟨e2,u2,w2,fr2,?_,q2,q3,q4⟩;cases e2<;>exact q1
  cases e with
  | ex i=>exact hk.elim
  | n=>exact main _ _ _ _ .n (.inl rfl) (by simp only [R]) (.inl ⟨rfl,rfl,rfl⟩) hk
  | ret=>exact main _ _ _ _ .ret (.inr rfl) (by simp only [R]) (.inl ⟨rfl,rfl,rfl⟩) hk
  | pan s=>intro y hy;exact main s y _ _ .ret (.inr rfl) hy (.inr ⟨rfl,rfl⟩) hk
theorem ZeY {f:FuncId} {fn:Func} {code:Code} {fb:FB} {args:List SV} {N n0 m:Nat} {hp0:List (Nat × HB)} {C:Cx} {E:Env} {w:World} {vs:List Value} {K:Ex->St->Prop} {R':Ending->World->Prop}
 (hf:P.funcs[f]? = some fn) (hb:fn.body=some code) (hc:Zaz P fb code=true) (hN:fn.ntmps=N) (hA:args.length<=N) (hds:C.ds=[]) (hrd:C.rd=none) (hm:MC C m)
 (hH:HSim C E hp0 (ltn n0) w) (hR:RL w E (ltn n0) (okS C E hp0) args vs) (h:fx P m fb ⟨Xx 0 args,hp0,n0,N,[]⟩ K)
 (hK:∀ e σ,K e σ->∀ C' E a w',C'.w0=C.w0->C'.okp=C.okp->C'.pass=C.pass->C'.e0=C.e0->C'.m0=C.m0->Sim C' E σ a w'->match e with
  | .n | .ret=>∃ v,(results fn a.tmps).run P w' = .ok v w'/\R' (.returned v) w'
  | .ex _=>False
  | .pan s=>∀ y,R w' E (ltn σ.n) (okS C' E σ.hp) s y->R' (.panicked [{ v:=y,recovered:=false }]) w'):Calls P f vs.toArray w R':=by
 have hlen:=ZC hR;have hng:∀ t j b s,lk t (Xx 0 args)≠.gd j b s:=by
  intro t j b s ht;simp only [V5,Nat.zero_le,if_true,Nat.sub_zero] at ht;by_cases htl:t < args.length
  . have e1:args.getD t .any=args[t]:=by simp [htl]
    obtain ⟨y,h1,h2⟩:=Vs hR (List.getElem?_eq_getElem htl);rw [e1] at ht;rw [ht] at h2;simp only [R] at h2
  . have e1:args.getD t .any = .any:=by simp [List.getElem?_eq_none (Nat.le_of_not_lt htl)]
    rw [e1] at ht;cases ht
 have hS:Sim C E ⟨Xx 0 args,hp0,n0,N,[]⟩ { tmps:=vs.toArray ++ Array.replicate (fn.ntmps - vs.toArray.size) undef,defers:=[] } w:=by
  refine ⟨λt=>?_,by simp [hN];omega,by rw [<- hds];exact Zah,λt j b s ht=>absurd ht (hng t j b s),hH⟩;have hng:=hng t;have hFR:R w E (ltn n0) (okS C E hp0) (lk t (Xx 0 args)) ((vs.toArray ++ Array.replicate (fn.ntmps - vs.toArray.size) undef).getD t undef):=by
   simp only [V5,Nat.zero_le,if_true,Nat.sub_zero];by_cases ht:t < args.length
   . have e1:args.getD t .any=args[t]:=by simp [ht]
     obtain ⟨y,h1,h2⟩:=Vs hR (List.getElem?_eq_getElem ht);have e2:(vs.toArray ++ Array.replicate (fn.ntmps - vs.toArray.size) undef).getD t undef=y:=by
      have:t < vs.length:=by omega
      have h1':=(List.getElem?_eq_some_iff.1 h1).2;simp [Array.getElem?_append,this,h1']
     rw [e1,e2];exact h2
   . have e1:args.getD t .any = .any:=by simp [List.getElem?_eq_none (Nat.le_of_not_lt ht)]
     rw [e1];simp only [R]
  simp only;cases hq:lk t (Xx 0 args)<;>rw [hq] at hFR hng<;>first | exact hFR | exact absurd rfl (hng _ _ _)
 refine VY hf hb ?_;refine ZaK fb C m code _ K E _ w hm hrd hc h hS (λe σ hk C' E a w' c1 c2 c3 c4 c5 hs=>?_);have key:=hK e σ hk C' E a w' c1 c2 c3 c4 c5 hs;rw [hds];cases e with
 | ex i=>exact key
 | n=>exact key
 | ret=>exact key
 | pan s=>exact key
theorem Zis {f:FuncId} {fn:Func} {code:Code} {fb:FB} {args:List SV} {rs:List RV} {N n0:Nat} {hp0:List (Nat × HB)} {ZO:Ot->Prop} (hf:P.funcs[f]? = some fn) (hb:fn.body=some code) (hc:Zaz P fb code=true)
 (hr:XV P rs fn.results.toList=true) (hN:fn.ntmps=N) (hA:args.length<=N) (h:fx P n0 fb ⟨Xx 0 args,hp0,n0,N,[]⟩ (Uk rs ZO)):CtY P Y0 f hp0 n0 args ZO:=by
 intro C E w vs d1 d2 d3 d4 d5 d6 hY hH hR;refine ZeY hf hb hc hN hA d3 d2 ⟨Nat.le_of_eq d5,d6⟩ hH hR h λe σ hk C' E' a w' c1 c2 c3 c4 c5 hs=>?_;obtain ⟨g1,g2⟩:=Zfl hs.hs c1 c2 c3 c4 c5;have hend:Ztv ZO σ.hp σ.n (rvE (ZeP σ rs))->∃ v,(results fn a.tmps).run P w' = .ok v w'/\∃ o E' y,ZO o/\HSim C E' o.hp (ltn o.n) w'/\R w' E' (ltn o.n) (okS C E' o.hp) o.res y/\Ending.returned v=ZuQ o.pn y:=λhrr=>by
  cases hq:rvE (ZeP σ rs) with
  | none=>rw [hq] at hrr;exact hrr.elim
  | some s =>
   rw [hq] at hrr;obtain ⟨v,h1,h2⟩:=Uv (P:=P) (fn:=fn) (a:=a) (w:=w') (E:=E') (n:=ltn σ.n) (ok:=okS C' E' σ.hp) hq λl hl=>Zft hs rs _ l hr hl;rw [g2] at h2;exact ⟨v,h1,_,E',v,hrr,g1,h2,rfl⟩
 cases e with
 | ex i=>exact hk.elim
 | n=>exact hend hk
 | ret=>exact hend hk
 | pan s=>intro y hy;rw [g2] at hy;exact ⟨_,E',y,hk,g1,hy,rfl⟩
theorem Zcq {f:FuncId} {fn:Func} {code:Code} {fb:FB} {args:List SV} {rs:List RV} {N n0:Nat} {hp0:List (Nat × HB)} {ZO:Ot->Prop} (hf:P.funcs[f]? = some fn) (hb:fn.body=some code) (hnm:Yn P f=true) (hc:Zaz P fb code=true)
 (hr:XV P rs fn.results.toList=true) (hN:fn.ntmps=N) (hA:args.length<=N) (hh:hpb n0 hp0) (hx:∀ o,ZO o->KX o.res/\KXP o.hp) (h:fx P n0 fb ⟨Xx 0 args,hp0,n0,N,[]⟩ (Uk rs λo=>∃ o',ZO o'/\Zbs n0 o o')):CtM P f hp0 n0 args ZO :=
 ⟨hnm,hh,hx,(Zis hf hb hc hr hN hA h).mono λ_ h=>h⟩
end
theorem Zb3 {m:Nat} {σ : St} (t:Nat) {s':SV} (hg:σ.gs=[]) (hw:Zcy (lk t σ.fr) s') (h2:∀ j b u,s'≠.gd j b u):Ent m σ ⟨(t,s') :: σ.fr,σ.hp,σ.n,σ.N,σ.gs⟩:=λC E a w hmc h=>by
 have hR0:∀ u,R w E (ltn σ.n) (okS C E σ.hp) (lk u σ.fr) (a.tmps.getD u undef):=λu=>Zt6 (h.fr u) (λj b u' e=>by have:=h.gs u j b u' e;rw [hg] at this;simp at this);have g2:ZG w w (okS C E σ.hp) (okS C E σ.hp):=λb hb _=>⟨hb,rfl⟩;refine ⟨E,λu=>?_,h.sz,h.df,λu j b s hu=>?_,h.hs⟩
 . rw [ZI];split
   . rename_i hu;subst hu;have:=hw _ _ _ _ _ (hR0 u);cases s'<;>first | exact this | exact absurd rfl (h2 _ _ _)
   . refine Xs g2 (λ_ _=>Ele.rfl) (λk hk=>hk) (λj b s hs=>?_) (h.fr u);have:=h.gs u j b s hs;rw [hg] at this;simp at this
 . rw [ZI] at hu;split at hu
   . exact absurd hu (h2 _ _ _)
   . exact h.gs u j b s hu
end Go.Sx
