/- Walks and plain laws that lead to the given statement, part 4 of 8. -/
import Derived.Test.YtkjldleglbbkeaaQC
set_option linter.all false
open Nat renaming reduceAdd->rA,reduceMul->rM,reduceSub->rS,beq_refl->nbr
namespace Go.Sx
open Go Go.RowKit
variable {Y:Hd}
section
variable (P:Program) (m:Nat) (σ : St) (K:Ex->St->Prop) (L:RK)
theorem ZuF:rx P Y [] σ L=L .n σ:=rfl
theorem ZrI (io:Ins) (r:List Ins):rx P Y (io :: r) σ L=st1 P Y io σ (rx P Y r) L:=rfl
theorem Zux (ops:List Ins):sx P Y m (.reg ops) σ K=rx P Y ops σ (Zbh K):=rfl
theorem Zq4 (ord:List Nat) (p:Ph) (ps:List Ph):sx P Y m (.regs ord p ps) σ K=phx P Y p ps σ (Zbh K):=rfl
theorem phx_1 (vs:List VI) (nA nB:Nat) (rest:List Ins):phx P Y ⟨vs,nA,nB,rest⟩ [] σ L=gs0 σ.gs (rxv P Y (ZbH σ.hp (rx P Y rest)) vs σ L):=rfl
theorem phx_2 (vs:List VI) (nA nB:Nat) (rest:List Ins) (q:Ph) (ps:List Ph):phx P Y ⟨vs,nA,nB,rest⟩ (q :: ps) σ L=gs0 σ.gs (rxv P Y (ZbH σ.hp (rx P Y rest)) vs σ (phK (phx P Y q ps) L)):=rfl
theorem phK_n (f:St->RK->Prop):phK f L .n σ = f σ L:=rfl
theorem Zsf (ord:List Nat) (vs:List VI) (nA nB:Nat) (rest:List Ins):sx P Y m (.regd ord vs nA nB rest) σ K=gs0 σ.gs (rxv P Y (ZbH σ.hp (rx P Y rest)) vs σ (Zbh K)):=rfl
theorem ZrO (r:KT):rxv P Y r [] σ L=r σ L:=rfl
theorem Zv0 (r:KT) (io:Ins) (l:List VI):rxv P Y r (.op io :: l) σ L=st1 P Y io σ (rxv P Y r l) L:=rfl
theorem Zk5 (r:KT) (x:X) (l:List VI):rxv P Y r (.hide x :: l) σ L=ZcE (rdG none σ.fr x) σ (rxv P Y r l) L:=rfl
theorem Zon (hp:List (Nat × HB)) (r:KT):ZbH hp r σ L=r ⟨σ.fr,hp,σ.n,σ.N,σ.gs⟩ L:=rfl
theorem Zqj (k o:Nat) (r:KT):ZcE (.p k o) σ r L=r ⟨σ.fr,(k,.gone) :: σ.hp,σ.n,σ.N,σ.gs⟩ L:=rfl
theorem Zm7 (k v:Nat) (r:KT):ZcE (.mr k v) σ r L=r ⟨σ.fr,(k,.gone) :: σ.hp,σ.n,σ.N,σ.gs⟩ L:=rfl
theorem Zm2 (k v m i o:Nat) (r:KT):ZcE (.pr k v m i o) σ r L=r ⟨σ.fr,(k,.gone) :: σ.hp,σ.n,σ.N,σ.gs⟩ L:=rfl
theorem ZnM (k v m i o:Nat) (r:KT):ZcE (.ms k v m i o) σ r L=r ⟨σ.fr,(k,.gone) :: σ.hp,σ.n,σ.N,σ.gs⟩ L:=rfl
theorem Zqd (p:Prop):gs0 [] p=p:=rfl
theorem Zt1 (a b:SC):sx P Y m (.seq a b) σ K=sx P Y m a σ (ZsK (sx P Y m b) K):=rfl
theorem Zti (c:X) (a b:SC):sx P Y m (.cond c a b) σ K=Zv8 (rdG none σ.fr c) (sx P Y m a) (sx P Y m b) σ K:=rfl
theorem Zlk (id:Nat) (c:SC):sx P Y m (.block id c) σ K=sx P Y m c σ (Zo3 id K):=rfl
theorem Zpx (c:SC):sx P Y m (.loop c) σ K=ZtO m (sx P Y m c) σ K:=rfl
theorem ZrC (id:Nat):sx P Y m (.exit id) σ K=K (.ex id) σ:=rfl
theorem ZuW:sx P Y m .ret σ K=K .ret σ:=rfl
theorem Zpq:sx P Y m .skip σ K=K .n σ:=rfl
theorem Znd (c:SC):sx P Y m (.scope c) σ K=sx P Y m c σ K:=rfl
theorem sx_gh (c:SC):sx P Y m (.gh c) σ K=GH m (sx P Y m c) σ K:=rfl
theorem ZoB (l:Nat):sx P Y m (.label l) σ K=K .n σ:=rfl
theorem Zp9 (e:Ex):Zbh K e σ = K e (WU σ):=rfl
theorem Zvg (f:CT):ZsK f K .n σ = f σ K:=rfl
theorem Zte (f:CT) (i:Nat):ZsK f K (.ex i) σ = K (.ex i) σ:=rfl
theorem Zmb (f:CT) (s:SV):ZsK f K (.pan s) σ = K (.pan s) σ:=rfl
theorem Zoq (f:CT):ZsK f K .ret σ = K .ret σ:=rfl
theorem ZvR (id:Nat):Zo3 id K .n σ = K .n σ:=rfl
theorem ZkQ (id:Nat) (s:SV):Zo3 id K (.pan s) σ = K (.pan s) σ:=rfl
theorem Zl6 (id:Nat):Zo3 id K .ret σ = K .ret σ:=rfl
theorem ZvY (rs:List RV) (res:SV):Zwg rs res .n σ = (rvR rs σ = some res):=rfl
theorem Zmm (rs:List RV) (res:SV):Zwg rs res .ret σ = (rvR rs σ = some res):=rfl
theorem Zu5 {S:Type} (st:S->St) (rel:S->Prop) (μ : S->Nat) (s:S):ZoI m st rel μ s K .n σ = ∃ s',rel s'/\μ s' < μ s/\Ent m σ (st s'):=rfl
theorem Zsy {S:Type} (st:S->St) (rel:S->Prop) (μ : S->Nat) (s:S) (i:Nat):ZoI m st rel μ s K (.ex i) σ = K (.ex i) σ:=rfl
theorem ZoA {S:Type} (st:S->St) (rel:S->Prop) (μ : S->Nat) (s:S) (x:SV):ZoI m st rel μ s K (.pan x) σ = K (.pan x) σ:=rfl
theorem Zlw {S:Type} (st:S->St) (rel:S->Prop) (μ : S->Nat) (s:S):ZoI m st rel μ s K .ret σ = K .ret σ:=rfl
end
section
variable {P:Program} {m:Nat} {σ : St} {K:Ex->St->Prop} {L:RK} {r:KT} {d:Option Nat} {g:Option (Nat × Bool)}
theorem br {b:Bool} {f h:CT} (h1:b=true->f σ K) (h2:b=false->h σ K):BR b f h σ K:=⟨h1,h2⟩
theorem ZV {b:Bool} {f h:CT} (hb:b=true) (h1:f σ K):BR b f h σ K:=⟨fun _=>h1,fun e=>by rw [hb] at e;cases e⟩
theorem ZJ {b:Bool} {f h:CT} (hb:b=false) (h1:h σ K):BR b f h σ K:=⟨fun e=>by (rw [hb] at e;cases e),fun _=>h1⟩
theorem gb {b w:Bool} {j:Nat} {i:SI} (h:Yd P (some (j,w)) d i σ r L):GB P Y b j w d i σ r L:=.inr (.inr h)
theorem Z5 {b w:Bool} {j:Nat} {i:SI} (hb:b=w) (h:stp P Y d i σ r L):GB P Y b j w d i σ r L:=.inl ⟨hb,h⟩
theorem Ua {b w:Bool} {j:Nat} {i:SI} (hb:b≠w) (h:Zs2 d σ r L):GB P Y b j w d i σ r L:=.inr (.inl ⟨hb,h⟩)
theorem call {f:FuncId} {args:List SV} {res:SV} (h:Ct P f args res) (hk:Ym d res g σ r L):ZtG P g f args d σ r L:=⟨res,.inl (ZE.2 fun _=>h),hk⟩
theorem Zqx {f:FuncId} {args:List SV} {res:SV} (hf:FLT res) (h:Ct P f (ZaY (vw4 σ.hp) args) res) (hk:Ym d res g σ r L):ZtG P g f args d σ r L:=⟨res,.inr ⟨hf,ZE.2 fun _=>h⟩,hk⟩
theorem div0 {b:BinOp} {k:IntKind} {x y:Int} (h:y≠0) (hk:Ym d (.v (.int k (Zt7 b k x y))) g σ r L):DIV g b k x y d σ r L:=⟨ZE.2 fun _=>h,hk⟩
theorem ixs {xs:List (List SV)} {i:Int} (n:Nat) (row:List SV) (hi:i=(n:Int)) (hr:xs[n]? = some row) (hk:Ym d (.ps row 0) g σ r L):IXS g xs i d σ r L:=⟨row,ZE.2 fun _=>⟨n,hi,hr⟩,hk⟩
theorem Zt {α : Type} {l:List α} {f:α->List SV} {i:Int} (n:Nat) (hn:n < l.length) (hi:i=(n:Int)) (hk:Ym d (.ps (f l[n]) 0) g σ r L):IXS g (l.map f) i d σ r L :=
 ixs n _ hi (by simp [hn]) hk
theorem ixa {len:Nat} {i:Int} {F:Nat->Option SV} (n:Nat) (hi:i=(n:Int)) (hn:n < len) (hk:XI (F n) d g σ r L):IXA g len i F d σ r L:=⟨n,ZE.2 fun _=>⟨hi,hn⟩,hk⟩
theorem loop {f:CT} {S:Type} (st:S->St) (rel:S->Prop) (μ : S->Nat) (s:S) (h0:rel s) (he:Ent m σ (st s)) (hb:∀ s,rel s->f (st s) (ZoI m st rel μ s K)):ZtO m f σ K :=
 .inr ⟨S,st,rel,μ,⟨s,h0,he⟩,hb⟩
theorem ZdO {f:CT} (n:Nat) (h:ZtZ f K n σ):ZtO m f σ K:=.inl ⟨n,h⟩
theorem Zq {f:CT} (n:Nat):ZtZ f K (n+1) σ = f σ (ZtM (ZtZ f K n) K):=rfl
theorem ZvH (p:St->Prop):ZtM p K .n σ = p σ:=rfl
theorem Zp2 (p:St->Prop) (i:Nat):ZtM p K (.ex i) σ = K (.ex i) σ:=rfl
theorem Zjw (p:St->Prop) (s:SV):ZtM p K (.pan s) σ = K (.pan s) σ:=rfl
theorem Zkf (p:St->Prop):ZtM p K .ret σ = K .ret σ:=rfl
def Zwm:List (Nat × SV)->List (Nat × SV)->Prop
 | [],_=>True
 | (t,s) :: r,fr=>lk t fr=s/\Zwm r fr
end
section
variable {w:World} {E:Env} {ok ok':Nat->Prop} {ρ : Nat->Nat} {n':Nat} {n:Nat->Prop}
theorem ent {σ σ':St} (ρ : Nat->Nat) (hf:mtF ρ σ'.n [] σ'.fr σ.fr) (hp:mtP ρ σ'.hp σ.hp σ'.n σ'.n) (hb:hpb σ'.n σ'.hp) (hρ : ∀ i,i < σ'.n->∀ j,j < σ'.n->ρ i = ρ j->i=j) (hN:Nat.beq σ'.N σ.N=true) {m0:Nat} (hm:Nat.ble m0 σ'.n=true) (hfix:∀ i,i < m0->ρ i=i):Ent m0 σ σ':=by
 intro C E a w hm0 h
 have hN:=Nat.eq_of_beq_eq_true hN
 have hgone:=Zbz hb
 have hH:=Zho hp
 have hocc:∀ k b,occ (rnE E ρ) k (lkh k σ'.hp) b->k < σ'.n/\occ E (ρ k) (lkh (ρ k) σ.hp) b:=fun k b ho=>by
  by_cases hk:k < σ'.n
  . refine ⟨hk,?_⟩
    have:=hH k hk
    cases h1:lkh k σ'.hp<;>rw [h1] at ho this
    . cases h2:lkh (ρ k) σ.hp<;>rw [h2] at this<;>simp only [mtH] at this
      exact ho
    . simp only [mtH] at this;rw [this.1];exact ho
    . simp only [mtH] at this;rw [this];exact ho
    . simp only [mtH] at this;rw [this.1];exact ho
    . simp only [mtH] at this;rw [this.2];exact ho
    . simp only [mtH] at this;rw [this];exact ho
    . simp only [mtH] at this;rw [this];exact ho
    . simp only [mtH] at this;rw [this.1];exact ho
    . exact ho.elim
  . rw [hgone k hk] at ho;exact ho.elim
 have hst:Zy w w (okS C E σ.hp) (okS C (rnE E ρ) σ'.hp):=fun b hb _=>⟨⟨hb.1,fun k ho=>hb.2 _ (hocc k b ho).2⟩,rfl⟩
 refine ⟨rnE E ρ,fun t=>?_,by rw [hN];exact h.sz,XF hst h.df,fun t j b s ht=>?_,⟨hgone,fun k=>?_,fun k k' b h1 h2=>?_,fun k b h1=>?_,h.hs.kp,fun k hk=>?_⟩⟩
 . rcases ZiD hf t rfl with h1 | h1
   . rw [h1];exact trivial
   . have:=mtS_R hst h1 (h.fr t)
     have hng:=ZbJ h1
     cases hs:lk t σ'.fr<;>rw [hs] at this hng<;>first | exact this | exact absurd rfl (hng _ _ _)
 . rcases ZiD hf t rfl with h1 | h1
   . rw [h1] at ht;cases ht
   . exact absurd ht (ZbJ h1 j b s)
 . by_cases hk:k < σ'.n
   . have:=hH k hk
     have hbk:=h.hs.bk (ρ k)
     cases h1:lkh k σ'.hp<;>rw [h1] at this
     . cases h2:lkh (ρ k) σ.hp<;>rw [h2] at this hbk<;>simp only [mtH] at this
       obtain ⟨rfl,this⟩:=this
       simp only [ZY] at hbk ⊢
       obtain ⟨cs,k1,k2⟩:=hbk
       exact ⟨cs,k1,ZaK hst _ _ _ this k2⟩
     . simp only [mtH] at this
       rw [this.1] at hbk
       simp only [ZY] at hbk ⊢
       obtain ⟨hi0,hbk⟩:=hbk
       refine ⟨hi0,?_⟩
       rcases hbk with q | ⟨b,cap,cs,q1,q2,q3,q4,q5,q6,q7⟩
       . exact .inl q
       . exact .inr ⟨b,cap,cs,q1,q2,q3,q4,q5,q6,ZB hst (fun _ h=>Ele.rfl) (fun _ h=>h.elim) _ _ (U5 (E':=rnE E ρ) (n':=fun _=>False) _ _ (WP this.2) q7)⟩
     . rename_i φ
       simp only [mtH] at this
       rw [this] at hbk
       simp only [ZY] at hbk ⊢
       obtain ⟨o,k1,k2⟩:=hbk
       exact ⟨o,k1,φ.mono _ _ _ _ _ hst k2⟩
     . simp only [mtH] at this
       obtain ⟨this,hkf⟩:=this
       rw [this] at hbk
       simp only [ZY] at hbk ⊢
       obtain ⟨ys,k1,k2⟩:=hbk
       exact ⟨ys,k1,ZjC hst _ _ hkf k2⟩
     . simp only [mtH] at this
       rw [this.2] at hbk
       simp only [ZY] at hbk ⊢
       exact ⟨this.1,hbk.2⟩
     . simp only [mtH] at this
       rw [this] at hbk
       simp only [ZY] at hbk ⊢
       exact hbk
     . simp only [mtH] at this
       rw [this] at hbk
       simp only [ZY] at hbk ⊢
       exact hbk
     . simp only [mtH] at this
       obtain ⟨this,k1,k2⟩:=this
       rw [this] at hbk
       exact W9 (E:=E) (k:=ρ k) (E':=rnE E ρ) hst.c (fun _ _=>rfl) rfl hk k1 k2 hbk
     . trivial
   . rw [hgone k hk];trivial
 . have e1:=hocc k b h1
   have e2:=hocc k' b h2
   exact hρ k e1.1 k' e2.1 (h.hs.dj _ _ b e1.2 e2.2)
 . obtain ⟨e1,e2⟩:=hocc k b h1
   rcases h.hs.lo _ b e2 with q | q
   . exact .inl q
   . have q1:=Nat.lt_of_lt_of_le (hm0.2 _ _ q) hm0.1
     have q2:ρ k=k:=hρ _ (Nat.lt_of_lt_of_le q1 (Nat.le_of_ble_eq_true hm)) k e1 (hfix _ q1)
     rw [q2] at q;exact .inr q
 . have hk':k < m0:=Nat.lt_of_lt_of_le hk hm0.1
   obtain ⟨p1,p2,p3,p4⟩:=h.hs.pin k hk
   exact ⟨Nat.lt_of_lt_of_le hk' (Nat.le_of_ble_eq_true hm),by simp only [rnE,hfix k hk'];exact p2,by simp only [rnE,hfix k hk'];exact p3,by simp only [rnE,hfix k hk'];exact p4⟩
end
theorem Znb {ρ : Nat->Nat} {n':Nat}:∀ {s:SV},KF s->mtS ρ n' s s:=by
 intro s
 exact SV.rec (motive_1:=fun s=>KF s->mtS ρ n' s s) (motive_2:=fun l=>KFL l->mtL ρ n' l l) (motive_3:=fun _=>True)
  (fun x _=>by simp [mtS]) (fun k o h=>by simp [KF] at h) (fun l ih h=>by simp only [KF] at h;simp only [mtS,Ztz,mtO];exact ih h)
  (fun c m xs _ h=>by simp only [KF] at h;simp [mtS,h]) (fun k v h=>by simp [KF] at h) (fun k v m i o h=>by simp [KF] at h) (fun k v m i o h=>by simp [KF] at h)
  (fun l o _ h=>by simp only [KF] at h;simp [mtS,h]) (fun f l ih h=>by simp only [KF] at h;simp only [mtS,clL,nbr,cond_true,mtO];exact ih h)
  (fun l ih h=>by simp only [KF] at h;simp only [mtS,ZtJ,mtO];exact ih h) (fun k h=>by simp [KF] at h) (fun k h=>by simp [KF] at h) (fun T s ih h=>by simp only [KF] at h;simp only [mtS,mtI];exact ⟨trivial,ih h⟩) (fun φ _=>by simp [mtS]) (fun j w s _ h=>by simp [KF] at h) (fun _=>by simp [mtS])
  (fun _=>by simp [mtL]) (fun s l h1 h2 h=>by simp only [KFL] at h;simp only [mtL,mtB];exact ⟨h1 h.1,h2 h.2⟩)
  trivial (fun _ _ _ _=>trivial) s
theorem Zb {ρ : Nat->Nat} {n':Nat}:∀ {l:List SV},KFL l->mtL ρ n' l l
 | [],_=>by simp [mtL]
 | s :: l,h=>by simp only [mtL,mtB];exact ⟨Znb h.1,Zb h.2⟩
abbrev I (n:Int):SV:=.v (.int .i64 n)
abbrev B (b:Bool):SV:=.v (.bool b)
theorem Zf:∀ {xs ys:List (List SV)},KFR (xs ++ ys)↔KFR xs/\KFR ys
 | [],ys=>by simp [KFR]
 | x :: xs,ys=>by simp [KFR,Zf (xs:=xs) (ys:=ys),and_assoc]
theorem Za {α : Type} {f:α->List SV} {l:List α}:KFR (l.map f)↔∀ x ∈ l,KFL (f x):=by
 induction l with
 | nil=>simp [KFR]
 | cons x l ih=>simp [KFR,ih]
theorem Zo {n:Int} (h1:-9223372036854775808<=n) (h2:n<=9223372036854775807):IntKind.i64.wrap n=n:=IntWalk.i64_in n ⟨h1,h2⟩
def stO {S:Type} (σ : St) (ov:S->List (Nat × SV)) (hv:S->List (Nat × HB)) (s:S):St:=⟨ov s ++ σ.fr,hv s ++ σ.hp,σ.n,σ.N,[]⟩
theorem e_stO {S:Type} (fr:List (Nat × SV)) (hp:List (Nat × HB)) (n N:Nat) (gs:List Nat) (ov:S->List (Nat × SV)) (hv:S->List (Nat × HB)) (s:S):stO ⟨fr,hp,n,N,gs⟩ ov hv s=⟨ov s ++ fr,hv s ++ hp,n,N,[]⟩:=rfl
theorem YB {m:Nat} {f:CT} {σ : St} {K:Ex->St->Prop} {S:Type} (ov:S->List (Nat × SV)) (hv:S->List (Nat × HB)) (rel:S->Prop) (μ : S->Nat) (s0:S) (h0:rel s0) (he:Ent m σ (stO σ ov hv s0))
 (hb:∀ s,rel s->f (stO σ ov hv s) (ZoI m (stO σ ov hv) rel μ s K)):ZtO m f σ K :=
 loop (stO σ ov hv) rel μ s0 h0 he hb
theorem ZkN {m:Nat} {f:CT} {σ σ1:St} {K:Ex->St->Prop} {S:Type} (hg:Ent m σ σ1) (ov:S->List (Nat × SV)) (hv:S->List (Nat × HB)) (rel:S->Prop) (μ : S->Nat) (s0:S) (h0:rel s0) (he:Ent m σ1 (stO σ1 ov hv s0))
 (hb:∀ s,rel s->f (stO σ1 ov hv s) (ZoI m (stO σ1 ov hv) rel μ s K)):ZtO m f σ K :=
 loop (stO σ1 ov hv) rel μ s0 h0 (Vl hg he) hb
theorem gh {m:Nat} {r:CT} {σ σ1:St} {K:Ex->St->Prop} (hg:Ent m σ σ1) (h:r σ1 K):GH m r σ K:=⟨σ1,hg,h⟩
theorem Zuk {C:Cx} {E:Env} {hp:List (Nat × HB)} {n:Nat->Prop} {w:World} {m k v m':Nat} {xs:List (List SV)} {T:TypeId} (hmc:MC C m) (hm:m<=k) (h:HSim C E hp n w) (hk:lkh k hp = .row v m' xs T) :
 (xs=[]/\∃ a,E.hv k v = .slice a 0 0)\/∃ b cap,E.hv k v = .slice (some ⟨b,0,none⟩) xs.length cap/\xs.length<=cap/\cap≠0/\xs.length<=9223372036854775807/\RR w E n (okS C E ((k,.gone) :: hp)) b m' xs 0:=by
 have hb:=h.bk k
 rw [hk] at hb;simp only [ZY] at hb
 rcases hb with ⟨_,h1 | ⟨b,cap,cs,h1,h2,h3,⟨h4,h4'⟩,h5,h6,h7⟩⟩
 . exact .inl h1
 . have hoc:occ E k (lkh k hp) b:=by rw [hk];exact ⟨_,_,h1,h4'⟩
   have hok:okS C E ((k,.gone) :: hp) b:=by
    refine ⟨?_,fun j ho=>?_⟩
    . rcases h.lo k b hoc with q | q
      . exact .inr q
      . have:=hmc.2 k b q;have:=hmc.1;omega
    . rw [Zp] at ho
      split at ho
      . exact ho.elim
      . exact absurd (h.dj j k b ho hoc).symm (by omega)
   exact .inr ⟨b,cap,h1,h4,h4',h5,XV (cs:=cs) (ok:=okS C E hp) hok (fun j c hj=>by rw [cell_of_row _ _ _ _ _ _ h2];simpa using hj) (VK h k).2 xs 0 h6 (by simpa using h7)⟩
theorem ZkI {m:Nat} {σ : St} (t k:Nat) (s:SV) (hg:σ.gs=[]) (hs:∀ j b u,s≠.gd j b u) (hR:∀ C E w y,MC C m->HSim C E σ.hp (ltn σ.n) w->R w E (ltn σ.n) (okS C E σ.hp) (lk t σ.fr) y->R w E (ltn σ.n) (okS C E ((k,.gone) :: σ.hp)) s y) :
 Ent m σ ⟨(t,s) :: σ.fr,(k,.gone) :: σ.hp,σ.n,σ.N,σ.gs⟩:=fun C E a w hmc h=>by
 obtain ⟨g1,g2⟩:=VK h.hs k
 have hR0:∀ u,R w E (ltn σ.n) (okS C E σ.hp) (lk u σ.fr) (a.tmps.getD u undef):=fun u=>Zp5 (h.fr u) (fun j b u' e=>by have:=h.gs u j b u' e;rw [hg] at this;simp at this)
 refine ⟨E,fun u=>?_,h.sz,XF g2 h.df,fun u j b s' hu=>?_,g1⟩
 . rw [ZG]
   split
   . rename_i hu;subst hu
     have:=hR C E w _ hmc h.hs (hR0 _)
     cases s<;>first | exact this | exact absurd rfl (hs _ _ _)
   . refine Xd g2 (fun _ _=>Ele.rfl) (fun k hk=>hk) (fun j b s hs=>?_) (h.fr u)
     have:=h.gs u j b s hs;rw [hg] at this;simp at this
 . rw [ZG] at hu
   split at hu
   . exact absurd hu (hs _ _ _)
   . exact h.gs u j b s' hu
theorem Zsq {m:Nat} {σ : St} (t k v:Nat) {m':Nat} {xs:List (List SV)} {T:TypeId} (hm:Nat.ble m k=true) (hg:σ.gs=[]) (hl:lk t σ.fr = .mr k v) (hk:lkh k σ.hp = .row v m' xs T) :
 Ent m σ ⟨(t,.sl false m' xs) :: σ.fr,(k,.gone) :: σ.hp,σ.n,σ.N,σ.gs⟩ :=
 ZkI t k _ hg (fun _ _ _ e=>by cases e) fun C E w y hmc hh hR=>by
  rw [hl] at hR
  simp only [R] at hR ⊢
  rcases Zuk hmc (Nat.le_of_ble_eq_true hm) hh hk with ⟨h1,a0,h2⟩ | ⟨b,cap,h1,h4,h4',h5,h7⟩
  . exact ⟨a0,0,0,by rw [hR.2.2.1,h2],by simp [h1],⟨Nat.le_refl _,fun h=>by cases h⟩,by simp [h1],.inl h1⟩
  . exact ⟨_,_,_,hR.2.2.1.trans h1,rfl,⟨h4,fun h=>by cases h⟩,h5,.inr ⟨b,0,rfl,h7⟩⟩
theorem ZfY {m:Nat} {σ : St} (k v:Nat) {mm:Nat} {xs:List (List SV)} {T:TypeId} (o m':Nat) (T':TypeId) (hg:σ.gs=[]) (hk:lkh k σ.hp = .row v mm xs T) :
 Ent m σ ⟨σ.fr,(k,.rws v mm xs T o m' [] T') :: σ.hp,σ.n,σ.N,σ.gs⟩:=fun C E a w hmc h=>by
 have hocc:∀ b,occ E k (.rws v mm xs T o m' [] T') b↔occ E k (lkh k σ.hp) b:=fun b=>by
  rw [hk];simp only [occ,Zfh,List.length_nil,Nat.le_zero]
  exact ⟨fun ⟨i,hi,h⟩=>by subst hi;exact h,fun h=>⟨0,rfl,h⟩⟩
 have hst:Zy w w (okS C E σ.hp) (okS C E ((k,.rws v mm xs T o m' [] T') :: σ.hp)):=fun b hb _=>⟨(ZdY hocc b).2 hb,rfl⟩
 have hH:HSim C E ((k,.rws v mm xs T o m' [] T') :: σ.hp) (ltn σ.n) w:=by
  have hkn:k < σ.n:=by
   rcases Classical.em (k < σ.n) with h' | h'
   . exact h'
   . have:=h.hs.kn k h';rw [hk] at this;cases this
  refine ⟨fun j hj=>?_,fun j=>?_,fun j j' b h1 h2=>h.hs.dj j j' b ((X0 hocc j b).1 h1) ((X0 hocc j' b).1 h2),fun j b h1=>h.hs.lo j b ((X0 hocc j b).1 h1),h.hs.kp,h.hs.pin⟩
  . rw [Zp,if_neg (by rintro rfl;exact hj hkn)];exact h.hs.kn j hj
  . rw [Zp]
    by_cases hj:j=k
    . subst hj;rw [if_pos rfl]
      have hb:=Z9 (n:=ltn σ.n) (n':=ltn σ.n) hst (fun _ _=>Ele.rfl) (fun _ h=>h) (.inr (show ltn σ.n j from hkn)) (fun _ _=>rfl) rfl (h.hs.bk j)
      rw [hk] at hb;simp only [ZY] at hb ⊢
      refine ⟨hb.1,Nat.zero_le _,fun i m1 rows TT hr=>?_,fun i j b hi hj _ _=>by simp at hi hj;omega⟩
      cases i with
      | zero =>
       simp only [Yo,Vc,List.length_nil,Option.some.injEq,Prod.mk.injEq] at hr
       obtain ⟨rfl,rfl,rfl⟩:=hr
       exact hb.2
      | succ i=>simp [Yo] at hr
    . rw [if_neg hj]
      refine Z9 hst (fun _ _=>Ele.rfl) (fun _ h=>h) ?_ (fun _ _=>rfl) rfl (h.hs.bk j)
      rcases Classical.em (j < σ.n) with h' | h'
      . exact .inr h'
      . exact .inl (h.hs.kn j h')
 exact ⟨E,Z4 h hst (fun _ _=>Ele.rfl) (Nat.le_refl _) hH⟩
theorem ZdV {p:SV->SV->Prop} (hp:∀ s,p s s) {k o:Nat} {x:SV} {row:List SV} (hcell:row[o]? = some x):∀ {N u:Nat} {xs:List (List SV)},xs[N]? = some row->p x (.mr k (u+N)) ->
 F2 p (Vc k o u N xs).flatten (Vc k o u (N+1) (xs.set N (row.set o .any))).flatten
 | 0,u,[],h,_=>by simp at h
 | 0,u,r :: xs,h,hx=>by
  simp at h;subst h
  simp only [Vc,List.set_cons_zero,List.flatten_cons,List.set_set]
  exact Zci (Zdj hp hx hcell) (Za4 hp _)
 | N+1,u,[],h,_=>by simp at h
 | N+1,u,r :: xs,h,hx=>by
  simp only [Vc,List.set_cons_succ,List.flatten_cons]
  exact Zci (Za4 hp _) (ZdV hp hcell (by simpa using h) (by rw [show u+1+N=u+(N+1) from by omega];exact hx))
theorem ZiQ {m:Nat} {σ : St} (k q:Nat) {v mm vq o m':Nat} {xs:List (List SV)} {T T':TypeId} {inn:List (List (List SV))} {ys:List (List SV)} (row:List SV) (hm:Nat.ble m q=true) (hk:lkh k σ.hp = .rws v mm xs T o m' inn T') (hq:lkh q σ.hp = .row vq m' ys T')
 (hrow:xs[inn.length]? = some row) (hcell:row[o]? = some (.mr q vq)) :
 Ent m σ ⟨σ.fr,(k,.rws v mm (xs.set inn.length (row.set o .any)) T o m' (inn ++ [ys]) T') :: (q,.gone) :: σ.hp,σ.n,σ.N,σ.gs⟩:=fun C E a w hmc h=>by
 have hne:k≠q:=by rintro rfl;rw [hk] at hq;cases hq
 have hnk:∀ j,lkh j σ.hp≠.gone->j < σ.n:=fun j hj=>by
  rcases Classical.em (j < σ.n) with h' | h'
  . exact h'
  . exact absurd (h.hs.kn j h') hj
 have hkn:k < σ.n:=hnk k (by rw [hk];simp)
 have hqn:q < σ.n:=hnk q (by rw [hq];simp)
 have hbk:=h.hs.bk k
 have hbq:=h.hs.bk q
 rw [hk] at hbk;rw [hq] at hbq
 simp only [ZY] at hbk hbq
 obtain ⟨a1,a2,a3,a4⟩:=hbk
 obtain ⟨b1,b2⟩:=hbq
 have hNl:inn.length < xs.length:=(List.getElem?_eq_some_iff.1 hrow).1
 let E':Env:=⟨E.β,fun j u=>if j=k/\u=E.iss k then E.hv q vq else E.hv j u,fun j=>if j=k then E.iss k+1 else E.iss j⟩
 have hv0:∀ j u,u < E.iss j->E'.hv j u=E.hv j u:=fun j u hu=>by
  simp only [E'];rw [if_neg];rintro ⟨rfl,rfl⟩;omega
 have hvj:∀ j u,j≠k->E'.hv j u=E.hv j u:=fun j u hj=>by simp only [E'];rw [if_neg (fun e=>hj e.1)]
 have hvn:E'.hv k (v+(inn.length+1))=E.hv q vq:=if_pos ⟨rfl,by omega⟩
 have hik:E'.iss k=E.iss k+1:=if_pos rfl
 have hE:∀ j,Ele E E' j j:=fun j=>⟨rfl,by simp only [E'];split<;>(try subst j)<;>omega,fun u hu=>hv0 j u hu⟩
 let hp':List (Nat × HB):=(k,.rws v mm (xs.set inn.length (row.set o .any)) T o m' (inn ++ [ys]) T') :: (q,.gone) :: σ.hp
 have lk':lkh k hp' = .rws v mm (xs.set inn.length (row.set o .any)) T o m' (inn ++ [ys]) T':=by simp only [hp'];rw [Zp,if_pos rfl]
 have lq':lkh q hp' = .gone:=by simp only [hp'];rw [Zp,if_neg hne.symm,Zp,if_pos rfl]
 have lj':∀ j,j≠k->j≠q->lkh j hp'=lkh j σ.hp:=fun j h1 h2=>by simp only [hp'];rw [Zp,if_neg h1,Zp,if_neg h2]
 have hoq:∀ b,Zfh (E.hv q vq) b->occ E q (lkh q σ.hp) b:=fun b hb=>by rw [hq];exact hb
 have hok:∀ i b,i<=inn.length->Zfh (E.hv k (v+i)) b->occ E k (lkh k σ.hp) b:=fun i b hi hb=>by rw [hk];exact ⟨i,hi,hb⟩
 have hoc:∀ j b,occ E' j (lkh j hp') b->(j≠q/\occ E j (lkh j σ.hp) b)\/(j=k/\occ E q (lkh q σ.hp) b):=fun j b ho=>by
  by_cases h1:j=k
  . subst h1
    rw [lk'] at ho
    obtain ⟨i,hi,hb⟩:=ho
    simp only [List.length_append,List.length_cons,List.length_nil] at hi
    by_cases hi2:i=inn.length+1
    . subst hi2;rw [hvn] at hb;exact .inr ⟨rfl,hoq b hb⟩
    . rw [hv0 _ _ (by omega)] at hb;exact .inl ⟨hne,hok i b (by omega) hb⟩
  . by_cases h2:j=q
    . subst h2;rw [lq'] at ho;exact ho.elim
    . rw [lj' j h1 h2] at ho
      refine .inl ⟨h2,?_⟩
      cases hl:lkh j σ.hp<;>rw [hl] at ho<;>simp only [occ] at ho ⊢<;>first | exact ho | (simp only [hvj j _ h1] at ho;exact ho)
 have hoc2:∀ j b,occ E j (lkh j σ.hp) b->∃ j',occ E' j' (lkh j' hp') b:=fun j b ho=>by
  by_cases h1:j=k
  . subst h1
    rw [hk] at ho
    obtain ⟨i,hi,hb⟩:=ho
    exact ⟨j,by rw [lk'];exact ⟨i,by simp;omega,by rw [hv0 _ _ (by omega)];exact hb⟩⟩
  . by_cases h2:j=q
    . subst h2
      rw [hq] at ho
      exact ⟨k,by rw [lk'];exact ⟨inn.length+1,by simp,by rw [hvn];exact ho⟩⟩
    . refine ⟨j,?_⟩
      rw [lj' j h1 h2]
      cases hl:lkh j σ.hp<;>rw [hl] at ho<;>simp only [occ] at ho ⊢<;>first | exact ho | (simp only [hvj j _ h1];exact ho)
 have hst:Zy w w (okS C E σ.hp) (okS C E' hp'):=fun b hb _=>⟨⟨hb.1,fun j ho=>by
  rcases hoc j b ho with ⟨_,q⟩ | ⟨_,q⟩
  . exact hb.2 _ q
  . exact hb.2 _ q⟩,rfl⟩
 have mono:∀ j,ZY w E' (ltn σ.n) (okS C E' hp') j (lkh j σ.hp)\/j=k:=fun j=>by
  by_cases h1:j=k
  . exact .inr h1
  . refine .inl (Z9 hst (fun j _=>hE j) (fun _ h=>h) ?_ (fun _ _=>rfl) (by simp only [E'];rw [if_neg h1]) (h.hs.bk j))
    rcases Classical.em (j < σ.n) with h' | h'
    . exact .inr h'
    . exact .inl (h.hs.kn j h')
 have hH:HSim C E' hp' (ltn σ.n) w:=by
  refine ⟨fun j hj=>?_,fun j=>?_,fun j j' b h1 h2=>?_,fun j b h1=>?_,h.hs.kp,fun j hj=>⟨(h.hs.pin j hj).1,(h.hs.pin j hj).2.trans (hE j)⟩⟩
  . have e1:j≠k:=by rintro rfl;exact hj hkn
    have e2:j≠q:=by rintro rfl;exact hj hqn
    rw [lj' j e1 e2];exact h.hs.kn j hj
  . by_cases e1:j=k
    . subst e1
      rw [lk']
      simp only [ZY,List.length_append,List.length_cons,List.length_nil,List.length_set]
      refine ⟨by rw [hik];omega,by omega,fun i m1 rows TT hr=>?_,fun x y b hx hy e1 e2=>?_⟩
      . cases i with
        | zero =>
         simp only [Yo,Option.some.injEq,Prod.mk.injEq,List.length_append,List.length_cons,List.length_nil] at hr
         obtain ⟨rfl,rfl,rfl⟩:=hr
         have h0:=a3 0 _ _ _ rfl
         rw [hv0 _ _ (by omega)]
         have hl1:=Y3 j o (v+1) inn.length xs
         have hl2:(Vc j o (v+1) (inn.length+(0+1)) (xs.set inn.length (row.set o .any))).length=xs.length:=by rw [Y3];simp
         rcases h0 with ⟨q1,q2⟩ | ⟨b,cap,cs,q1,q2,q3,q4,q5,q6,q7⟩
         . have h9:=congrArg List.length q1;rw [hl1,List.length_nil] at h9;omega
         . rw [hl1] at q1 q4 q5 q7
           refine .inr ⟨b,cap,cs,by rw [hl2];exact q1,q2,q3,by rw [hl2];exact q4,by rw [hl2];exact q5,?_,?_⟩
           . refine Wu.2 fun r hr=>?_
             rcases List.mem_or_eq_of_mem_set hr with hr | rfl
             . exact Wu.1 q6 r hr
             . rw [List.length_set];exact Wu.1 q6 row (List.mem_of_getElem? hrow)
           . rw [hl2]
             refine Ug (ZdV (p:=fun s s'=>∀ y,R w E (ltn σ.n) (okS C E σ.hp) s y->R w E' (ltn σ.n) (okS C E' hp') s' y) (fun s y hy=>ZI hst.c (fun j _=>hE j) (fun _ h=>h) _ _ hy) hcell hrow fun y hy=>?_) q7
             simp only [R] at hy ⊢
             refine ⟨hkn,by rw [hik];omega,?_,hy.2.2.2⟩
             rw [show v+1+inn.length=v+(inn.length+1) from by omega,hvn];exact hy.2.2.1
        | succ i =>
         simp only [Yo] at hr
         split at hr
         case h_2=>cases hr
         rename_i r hr1
         simp only [Option.some.injEq,Prod.mk.injEq] at hr
         obtain ⟨rfl,rfl,rfl⟩:=hr
         by_cases hi:i < inn.length
         . rw [List.getElem?_append_left hi] at hr1
           rw [hv0 _ _ (by omega)]
           exact (a3 (i+1) m' r T' (by simp only [Yo,hr1])).mono hst.c (fun j _=>hE j) (fun _ h=>h) (fun _ _=>rfl)
         . have hi2:i=inn.length:=by have:=(List.getElem?_eq_some_iff.1 hr1).1;simp at this;omega
           subst hi2
           simp at hr1;subst hr1
           rw [hvn]
           exact ZoM.mono hst.c (fun j _=>hE j) (fun _ h=>h) (fun _ _=>rfl) b2
      . have key:∀ z,z<=inn.length+(0+1)->∀ b,Zfh (E'.hv j (v+z)) b->(z<=inn.length/\Zfh (E.hv j (v+z)) b)\/(z=inn.length+1/\Zfh (E.hv q vq) b):=fun z hz b hb=>by
         by_cases h1:z=inn.length+1
         . subst h1;rw [hvn] at hb;exact .inr ⟨rfl,hb⟩
         . rw [hv0 _ _ (by omega)] at hb;exact .inl ⟨by omega,hb⟩
        rcases key x hx b e1 with ⟨x1,x2⟩ | ⟨x1,x2⟩<;>rcases key y hy b e2 with ⟨y1,y2⟩ | ⟨y1,y2⟩
        . exact a4 x y b x1 y1 x2 y2
        . exact absurd (h.hs.dj j q b (hok x b x1 x2) (hoq b y2)) hne
        . exact absurd (h.hs.dj j q b (hok y b y1 y2) (hoq b x2)) hne
        . omega
    . by_cases e2:j=q
      . subst e2;rw [lq'];trivial
      . rw [lj' j e1 e2]
        rcases mono j with h' | h'
        . exact h'
        . exact absurd h' e1
  . rcases hoc j b h1 with ⟨x1,x2⟩ | ⟨x1,x2⟩<;>rcases hoc j' b h2 with ⟨y1,y2⟩ | ⟨y1,y2⟩
    . exact h.hs.dj j j' b x2 y2
    . exact absurd (h.hs.dj j q b x2 y2) x1
    . exact absurd (h.hs.dj j' q b y2 x2) y1
    . rw [x1,y1]
  . rcases hoc j b h1 with ⟨x1,x2⟩ | ⟨x1,x2⟩
    . exact h.hs.lo j b x2
    . rcases h.hs.lo q b x2 with h' | h'
      . exact .inl h'
      . have h3:=hmc.2 q b h'
        have h4:=hmc.1
        have h5:=Nat.le_of_ble_eq_true hm
        omega
 exact ⟨E',Z4 h hst (fun j _=>hE j) (Nat.le_refl _) hH⟩
theorem ZsW {m:Nat} {b:Bool} {s s':SV} {hp hp':List (Nat × HB)} {n n':Nat} (h:Ent m ⟨[(0,s)],hp,n,1,[]⟩ ⟨[(0,s')],hp',n',1,[]⟩) (hg:∀ j b u,s'≠.gd j b u):Zf2 m ⟨b,s,hp,n⟩ ⟨b,s',hp',n'⟩:=by
 refine ⟨rfl,fun C E w y hm hH hR=>?_⟩
 have hng:=VN hR
 have hS:Sim C E ⟨[(0,s)],hp,n,1,[]⟩ { tmps:=#[y],defers:=C.ds } w:=by
  refine ⟨fun t=>?_,rfl,Uu,fun t j b u ht=>?_,hH⟩
  . simp only [ZG]
    split
    . rename_i ht;subst ht
      show FR w E (ltn n) _ _ s y
      cases s<;>first | exact hR | exact absurd rfl (hng _ _ _)
    . exact trivial
  . simp only [ZG] at ht
    split at ht
    . exact absurd ht (hng _ _ _)
    . cases ht
 obtain ⟨E',h'⟩:=h C E _ w hm hS
 refine ⟨E',h'.hs,?_⟩
 have:=h'.fr 0
 exact Zp5 this (fun j b u e=>hg j b u (by simpa [lk] using e))
theorem entO {m:Nat} {b:Bool} {s s':SV} {hp hp':List (Nat × HB)} {n n':Nat} (ρ : Nat->Nat) (hf:mtS ρ n' s' s) (hp0:mtP ρ hp' hp n' n') (hb:hpb n' hp') (hρ : ∀ i,i < n'->∀ j,j < n'->ρ i = ρ j->i=j) (hm:Nat.ble m n'=true) (hfix:∀ i,i < m->ρ i=i):Zf2 m ⟨b,s,hp,n⟩ ⟨b,s',hp',n'⟩ :=
 ZsW (ent ρ (show mtF ρ n' [] [(0,s')] [(0,s)] from ⟨hf,trivial⟩) hp0 hb hρ rfl hm hfix) (ZbJ hf)
theorem Xe {m:Nat} {b:Bool} {s s':SV} {hp hp':List (Nat × HB)} {n n':Nat} (hf:mtS id n' s' s) (hp0:mtP id hp' hp n' n') (hb:hpb n' hp') (hm:Nat.ble m n'=true):Zf2 m ⟨b,s,hp,n⟩ ⟨b,s',hp',n'⟩ :=
 entO id hf hp0 hb (fun _ _ _ _ h=>h) hm (fun _ _=>rfl)
theorem callm {P:Program} {f:FuncId} {args args0:List SV} {d:Option Nat} {σ : St} {r:KT} {K:RK} {hp0:List (Nat × HB)} {n0:Nat} {o:Ot} (ρ : Nat->Nat) (hc:CtM P f hp0 n0 args0 (· = o)) (h1:mtL ρ n0 args0 args) (h2:mtP ρ hp0 σ.hp n0 n0) (h3:Zv9 ρ n0) (h4:∀ i,i < n0->ρ i < σ.n)
 (h5:cmK o.pn (rnS (exR ρ n0 σ.n) o.res) (hpM ρ n0 σ.n o σ.hp) (σ.n+(o.n - n0)) d σ r K):ZbS P f args d σ r K :=
 ⟨hp0,n0,args0,_,ρ,hc,h1,h2,h3,h4,fun _ e=>e ▸ h5⟩
def rho:List Nat->Nat->Nat
 | [],_=>0
 | a :: _,0=>a
 | _ :: l,k+1=>rho l k
theorem XX:∀ (l:List Nat) (k:Nat) (h:k < l.length),rho l k=l[k]
 | a :: _,0,_=>rfl
 | _ :: l,k+1,h=>by simpa [rho] using XX l k (by simpa using h)
theorem YV {P:Program} {f:FuncId} {args args0:List SV} {d:Option Nat} {σ : St} {r:KT} {K:RK} {hp0:List (Nat × HB)} {n0:Nat} {o:Ot} (l:List Nat) (hc:CtM P f hp0 n0 args0 (· = o)) (hn:Nat.beq l.length n0=true) (hi:Uy l=true) (hl:V3 σ.n l=true)
 (h1:mtL (rho l) n0 args0 args) (h2:mtP (rho l) hp0 σ.hp n0 n0) (h5:cmK o.pn (rnS (exR (rho l) n0 σ.n) o.res) (hpM (rho l) n0 σ.n o σ.hp) (σ.n+(o.n - n0)) d σ r K):ZbS P f args d σ r K:=by
 have hn:=Nat.eq_of_beq_eq_true hn
 refine callm (rho l) hc h1 h2 (fun i hi' j hj e=>?_) (fun i hi'=>?_) h5
 . rw [XX l i (by omega),XX l j (by omega)] at e
   have hp:=List.pairwise_iff_getElem.1 (Y7 hi)
   rcases Nat.lt_trichotomy i j with h | h | h
   . exact absurd e (hp i j _ _ h)
   . exact h
   . exact absurd e.symm (hp j i _ _ h)
 . rw [XX l i (by omega)];exact Vs hl _ (List.getElem_mem _)
theorem Zi {m0:Nat} {σ σ':St} (hf:mtF id σ'.n [] σ'.fr σ.fr) (hp:mtP id σ'.hp σ.hp σ'.n σ'.n) (hb:hpb σ'.n σ'.hp) (hN:Nat.beq σ'.N σ.N=true) (hm:Nat.ble m0 σ'.n=true):Ent m0 σ σ':=ent id hf hp hb (fun _ _ _ _ h=>h) hN hm (fun _ _=>rfl)
theorem imp_v {fr:List (Nat × SV)} {j:Nat} {w b:Bool} {p:Prop} (hl:lk j fr = .v (.bool b)) (h:b=w->p):ZdW (some (j,w)) fr p:=fun hg=>h (ZvX hg hl)
theorem Zq0 {g:Option (Nat × Bool)} {m b:Nat} {xs ys:List (List SV)} {d:Option Nat} {σ : St} {r:KT} {L:RK} (h:(xs.length+ys.length) * b<=140737488355328) (hk:Ym d (.sl false m (xs ++ ys)) g σ r L):APP g m b xs ys d σ r L:=⟨ZE.2 fun _=>h,hk⟩
theorem ZbU {g:Option (Nat × Bool)} {k v m len:Nat} {i:Int} {d:Option Nat} {σ : St} {r:KT} {L:RK} (n:Nat) (hi:i=(n:Int)) (hn:n < len) (hk:Ym d (.pr k v m n 0) g σ r L):IXR g k v m len i d σ r L:=⟨n,ZE.2 fun _=>⟨hi,hn⟩,hk⟩
theorem ZfQ {α : Type} {l:List α} {f:α->List SV} {g:Option (Nat × Bool)} {i o m:Nat} {ag:Bool} {d:Option Nat} {σ : St} {r:KT} {L:RK} (hn:i < l.length) (hk:XI (Xq (f l[i]) o m ag) d g σ r L):LDR g (l.map f) i o m ag d σ r L:=⟨f l[i],ZE.2 fun _=>by simp [hn],hk⟩
theorem ZtF {α : Type} {l:List α} {f:α->List SV} {j o k v m:Nat} {c:List SV} {T:TypeId} {σ : St} {r:KT} {L:RK} (y:α) (hn:j < l.length) (ho:o+c.length<=(f l[j]).length) (he:Zr (f l[j]) o c=f y)
 (h:r ⟨σ.fr,(k,.row v m ((l.set j y).map f) T) :: σ.hp,σ.n,σ.N,σ.gs⟩ L):STR v (l.map f) j o k m c T σ r L :=
 ⟨f l[j],by simp [hn],ho,by rw [he,<- List.map_set];exact h⟩
theorem ZoQ {k v m len:Nat} {i:Int} {d:Option Nat} {σ : St} {r:KT} {L:RK} {j:Nat} {w b:Bool} (n:Nat) (hl:lk j σ.fr = .v (.bool b)) (h:b=w->i=(n:Int)/\n < len) (hk:Ym d (.pr k v m n 0) (some (j,w)) σ r L):IXR (some (j,w)) k v m len i d σ r L:=⟨n,imp_v hl h,hk⟩
theorem Vg {r:List SV} (h:KFL r):∀ n,KFR (List.replicate n r)
 | 0=>trivial
 | n+1=>⟨h,Vg h n⟩
theorem Zco {P:Program} {f:FuncId} {args args0:List SV} {d:Option Nat} {σ : St} {r:KT} {K:RK} {hp0:List (Nat × HB)} {n0:Nat} {Yc:Ot->Prop} (l:List Nat) (hc:CtM P f hp0 n0 args0 Yc) (hn:Nat.beq l.length n0=true) (hi:Uy l=true) (hl:V3 σ.n l=true)
 (h1:mtL (rho l) n0 args0 args) (h2:mtP (rho l) hp0 σ.hp n0 n0) (h5:∀ o,Yc o->cmK o.pn (rnS (exR (rho l) n0 σ.n) o.res) (hpM (rho l) n0 σ.n o σ.hp) (σ.n+(o.n - n0)) d σ r K):ZbS P f args d σ r K:=by
 have hn:=Nat.eq_of_beq_eq_true hn
 refine ⟨hp0,n0,args0,Yc,rho l,hc,h1,h2,fun i hi' j hj e=>?_,fun i hi'=>?_,h5⟩
 . rw [XX l i (by omega),XX l j (by omega)] at e
   have hp:=List.pairwise_iff_getElem.1 (Y7 hi)
   rcases Nat.lt_trichotomy i j with h | h | h
   . exact absurd e (hp i j _ _ h)
   . exact h
   . exact absurd e.symm (hp j i _ _ h)
 . rw [XX l i (by omega)]
   exact Vs hl _ (List.getElem_mem _)
theorem Wr {P:Program} {d:Option Nat} {op:BinOp} {t t' ty u:Nat} {c x v:Value} {σ : St} {r:KT} {K:RK} (hl:lk u σ.fr = .v x) (hop:op = .and\/op = .shr) (hr:∀ w:World,(binOp op t x c).run P w = .ok v w) (hv:v.oneCell'=true) (hk:Ym d (.v v) none σ r K) :
 RAW P d (.binOp op t (.tmp u) (.const c) t') ty σ r K:=by
 intro o C E a w next Q h1 h2 h3 hs hn hq
 have hx:a.eval (.tmp u)=x:=by
  have:=hs.fr u
  rw [hl] at this
  simp only [FR,R] at this
  exact this
 have hrun:(execOp a.eval o).run P w = .ok (.value v) w:=by
  obtain ⟨dst,op',ty',pos,after,guard⟩:=o
  simp only at h2;subst h2
  have hc:a.eval (.const c)=c:=rfl
  simp only [execOp,hx,hc]
  rcases hop with rfl | rfl<;>simp [Sem.run_bind,eqGuard,hr]
 refine ZL hrun (by simp) ?_
 show next (a.put o.dst v) w
 rcases V7 hk with ⟨g1,g2⟩ | ⟨t,g1,g2,g3,g4,g5⟩
 . have hS:=hs
   rw [h1,g1]
   exact hn _ E _ _ g2 hS
 . rw [h1,g1]
   exact hn _ E _ _ g5 (Xt hs (fun b hb _=>⟨hb,rfl⟩) (fun _ _=>Ele.rfl) (Nat.le_refl _) hs.hs g2 g3 (fun j b u e=>by rw [e] at g4;cases g4) (by simp only [R]))
theorem w64_0:IntKind.i64.wrap 0=0:=rfl
theorem w64_1:IntKind.i64.wrap 1=1:=rfl
theorem w64_2:IntKind.i64.wrap 2=2:=rfl
theorem w64_3:IntKind.i64.wrap 3=3:=rfl
theorem w64_4:IntKind.i64.wrap 4=4:=rfl
theorem w64_5:IntKind.i64.wrap 5=5:=rfl
theorem w64_6:IntKind.i64.wrap 6=6:=rfl
def lkB (b:Bool) (s:SV) (t:Nat) (r:List (Nat × SV)):SV:=bif b then s else lk t r
def lkhB (b:Bool) (s:HB) (t:Nat) (r:List (Nat × HB)):HB:=bif b then s else lkh t r
def Zpr (b:Bool) (t:Nat) (r:List Nat):Bool:=bif b then true else Y2 t r
def blkE (b:Bool) (i:Nat) (K:Ex->St->Prop) (σ : St):Prop:=bif b then K .n σ else K (.ex i) σ
def Zph (b:Bool) (s:SV):Option (List SV):=bif b then some [s] else none
def ZvE (c:Bool) (b:BinOp) (k:IntKind) (x y:Int):Option SV:=bif c then Ze7 b k x y else none
def Zvi (b:Bool) (l:List SV) (o m:Nat):Option SV:=bif b then some (.agg ((l.drop o).take m)) else none
theorem lkB_t (s:SV) (t:Nat) (r:List (Nat × SV)):lkB true s t r=s:=rfl
theorem lkB_f (s:SV) (t:Nat) (r:List (Nat × SV)):lkB false s t r=lk t r:=rfl
theorem ZvV (s:HB) (t:Nat) (r:List (Nat × HB)):lkhB true s t r=s:=rfl
theorem Zui (s:HB) (t:Nat) (r:List (Nat × HB)):lkhB false s t r=lkh t r:=rfl
theorem ZqX (t:Nat) (r:List Nat):Zpr true t r=true:=rfl
theorem ZrM (t:Nat) (r:List Nat):Zpr false t r=Y2 t r:=rfl
theorem Zt4 (i:Nat) (K:Ex->St->Prop) (σ : St):blkE true i K σ = K .n σ:=rfl
theorem ZvJ (i:Nat) (K:Ex->St->Prop) (σ : St):blkE false i K σ = K (.ex i) σ:=rfl
theorem Zn7 (s:SV):Zph true s=some [s]:=rfl
theorem Zq5 (b:BinOp) (k:IntKind) (x y:Int):ZvE true b k x y=Ze7 b k x y:=rfl
theorem Zs3 (l:List SV) (o m:Nat):Zvi true l o m=some (.agg ((l.drop o).take m)):=rfl
def mmE (k:IntKind):Option Int->Option SV
 | some z=>some (.v (.int k z))
 | none=>none
def chkB (b:Bool) (l:List SV) (ls:List (List SV)):Option (List (List SV)):=bif b then some (l :: ls) else none
theorem Zva (l:List SV) (ls:List (List SV)):chkB true l ls=some (l :: ls):=rfl
theorem Zvx (b:Bool):WW true b=b:=rfl
theorem Zuh (b:Bool):WW false b=false:=rfl
def vwP (g:SV->SV) (o:Nat):HB->SV
 | .cells l _=>.ps (ZaY g l) o
 | _=>.any
def vwM (v:Nat):HB->SV
 | .row v' m xs _=>vwN (Nat.beq v v') m xs
 | .rws v' m xs _ o m' inn _=>vwN (Nat.beq v v') m (Zah o m' inn xs)
 | _=>.any
def cvtM (v:Nat):HB->SV
 | .row v' m xs _=>vwN (Nat.beq v v') m xs
 | _=>.any
def rvH (o m:Nat) (ag:Bool):HB->Option SV
 | .cells l _=>Xq l o m ag
 | _=>none
def rvX (hp:List (Nat × HB)) (m:Nat) (ag:Bool):SV->Option SV
 | .p k o=>rvH o m ag (lkh k hp)
 | _=>none
def pvF (o m:Nat) (ag:Bool):SV->Option SV
 | .agg l=>Xq l o m ag
 | _=>none
def pvC (k:IntKind):SV->Option SV
 | .v (.int _ n)=>some (.v (.int k (k.wrap n)))
 | _=>none
def pvE (i:Nat):SV->Option SV
 | .tup l=>nth l i
 | _=>none
theorem e_lk (t u:Nat) (s:SV) (r:List (Nat × SV)):lk t ((u,s) :: r)=lkB (Nat.beq t u) s t r:=rfl
theorem e_lk0 (t:Nat):lk t [] = .any:=rfl
theorem e_lkh (t u:Nat) (s:HB) (r:List (Nat × HB)):lkh t ((u,s) :: r)=lkhB (Nat.beq t u) s t r:=rfl
theorem Zvt (t:Nat):lkh t [] = .gone:=rfl
theorem ZvM (t u:Nat) (r:List Nat):Y2 t (u :: r)=Zpr (Nat.beq t u) t r:=rfl
theorem ZsE (t:Nat):Y2 t []=false:=rfl
theorem e_blk (id i:Nat) (K:Ex->St->Prop) (σ : St):Zo3 id K (.ex i) σ = blkE (Nat.beq i id) i K σ:=rfl
theorem Zf4 (g:Option (Nat × Bool)) (fr:List (Nat × SV)) (x:Value):YU g fr (.v x)=(.v x):=rfl
theorem ZlL (t:Nat) (r:List (Nat × SV)) (x:Value):Yk ((t,(.v x)) :: r)=(t,(.v x)) :: Yk r:=rfl
theorem Ztq (hp:List (Nat × HB)) (x:Value):cvt hp (.v x)=(.v x):=rfl
theorem ZrV (hp:List (Nat × HB)) (g:SV->SV) (x:Value):vwS hp g (.v x)=(.v x):=rfl
theorem ZsS (x:Value):vw0 (.v x)=(.v x):=rfl
theorem Zgd (x:Value):Yi (.v x)=Zph (Zia x) (.v x):=rfl
theorem Zm9 (x:Value):US (.v x)=Zia x:=rfl
theorem Zga (g:Option (Nat × Bool)) (fr:List (Nat × SV)) (k o:Nat):YU g fr (.p k o)=(.p k o):=rfl
theorem ZkM (t:Nat) (r:List (Nat × SV)) (k o:Nat):Yk ((t,(.p k o)) :: r)=(t,(.p k o)) :: Yk r:=rfl
theorem Ztm (hp:List (Nat × HB)) (k o:Nat):cvt hp (.p k o)=(.p k o):=rfl
theorem Zrr (hp:List (Nat × HB)) (g:SV->SV) (k o:Nat):vwS hp g (.p k o)=vwP g o (lkh k hp):=rfl
theorem ZsM (k o:Nat):vw0 (.p k o) = .any:=rfl
theorem ZhT (k o:Nat):Yi (.p k o)=some [(.p k o)]:=rfl
theorem ZjS (k o:Nat):US (.p k o)=true:=rfl
theorem Zdq (g:Option (Nat × Bool)) (fr:List (Nat × SV)) (l:List SV):YU g fr (.agg l)=(.agg l):=rfl
theorem ZeR (t:Nat) (r:List (Nat × SV)) (l:List SV):Yk ((t,(.agg l)) :: r)=(t,(.agg l)) :: Yk r:=rfl
theorem Zhb (hp:List (Nat × HB)) (l:List SV):cvt hp (.agg l) = .agg (Zhh hp l):=rfl
theorem ZhN (hp:List (Nat × HB)) (g:SV->SV) (l:List SV):vwS hp g (.agg l) = .agg (ZaY g l):=rfl
theorem ZhP (l:List SV):vw0 (.agg l) = .any:=rfl
theorem Zdl (l:List SV):Yi (.agg l)=some l:=rfl
theorem ZfD (l:List SV):US (.agg l)=false:=rfl
theorem ZfH (g:Option (Nat × Bool)) (fr:List (Nat × SV)) (c:Bool) (m:Nat) (xs:List (List SV)):YU g fr (.sl c m xs)=(.sl c m xs):=rfl
theorem Zg7 (t:Nat) (r:List (Nat × SV)) (c:Bool) (m:Nat) (xs:List (List SV)):Yk ((t,(.sl c m xs)) :: r)=(t,(.sl c m xs)) :: Yk r:=rfl
theorem ZkG (hp:List (Nat × HB)) (c:Bool) (m:Nat) (xs:List (List SV)):cvt hp (.sl c m xs)=(.sl c m xs):=rfl
theorem ZmE (hp:List (Nat × HB)) (g:SV->SV) (c:Bool) (m:Nat) (xs:List (List SV)):vwS hp g (.sl c m xs)=(.sl c m xs):=rfl
theorem Zmp (c:Bool) (m:Nat) (xs:List (List SV)):vw0 (.sl c m xs)=(.sl c m xs):=rfl
theorem ZeN (c:Bool) (m:Nat) (xs:List (List SV)):Yi (.sl c m xs)=some [(.sl c m xs)]:=rfl
theorem Zf8 (c:Bool) (m:Nat) (xs:List (List SV)):US (.sl c m xs)=true:=rfl
theorem ZsH (l:List SV):pmS [] l=[]:=rfl
theorem Zfr (g:Option (Nat × Bool)) (fr:List (Nat × SV)) (k v:Nat):YU g fr (.mr k v)=(.mr k v):=rfl
theorem Zg9 (t:Nat) (r:List (Nat × SV)) (k v:Nat):Yk ((t,(.mr k v)) :: r)=(t,(.mr k v)) :: Yk r:=rfl
theorem ZjM (hp:List (Nat × HB)) (k v:Nat):cvt hp (.mr k v)=cvtM v (lkh k hp):=rfl
theorem ZnR (hp:List (Nat × HB)) (g:SV->SV) (k v:Nat):vwS hp g (.mr k v)=vwM v (lkh k hp):=rfl
theorem ZjP (k v:Nat):vw0 (.mr k v) = .any:=rfl
theorem ZeV (k v:Nat):Yi (.mr k v)=some [(.mr k v)]:=rfl
theorem Zgt (k v:Nat):US (.mr k v)=true:=rfl
theorem Zet (g:Option (Nat × Bool)) (fr:List (Nat × SV)) (k v m i o:Nat):YU g fr (.pr k v m i o)=(.pr k v m i o):=rfl
theorem Zfx (g:Option (Nat × Bool)) (fr:List (Nat × SV)) (k v m i o:Nat):YU g fr (.ms k v m i o)=(.ms k v m i o):=rfl
theorem Zgl (t:Nat) (r:List (Nat × SV)) (k v m i o:Nat):Yk ((t,(.pr k v m i o)) :: r)=(t,(.pr k v m i o)) :: Yk r:=rfl
theorem Zit (t:Nat) (r:List (Nat × SV)) (k v m i o:Nat):Yk ((t,(.ms k v m i o)) :: r)=(t,(.ms k v m i o)) :: Yk r:=rfl
theorem Zmc (hp:List (Nat × HB)) (k v m i o:Nat):cvt hp (.pr k v m i o)=(.pr k v m i o):=rfl
theorem Zky (hp:List (Nat × HB)) (k v m i o:Nat):cvt hp (.ms k v m i o)=(.ms k v m i o):=rfl
theorem Zk0 (hp:List (Nat × HB)) (g:SV->SV) (k v m i o:Nat):vwS hp g (.pr k v m i o)=(.pr k v m i o):=rfl
theorem ZnL (hp:List (Nat × HB)) (g:SV->SV) (k v m i o:Nat):vwS hp g (.ms k v m i o)=(.ms k v m i o):=rfl
theorem Zkk (k v m i o:Nat):vw0 (.pr k v m i o) = .any:=rfl
theorem ZmK (k v m i o:Nat):vw0 (.ms k v m i o) = .any:=rfl
theorem ZeM (k v m i o:Nat):Yi (.pr k v m i o)=some [(.pr k v m i o)]:=rfl
theorem Zfn (k v m i o:Nat):Yi (.ms k v m i o)=some [(.ms k v m i o)]:=rfl
theorem Zi5 (k v m i o:Nat):US (.pr k v m i o)=true:=rfl
theorem ZgV (k v m i o:Nat):US (.ms k v m i o)=true:=rfl
theorem Zft (g:Option (Nat × Bool)) (fr:List (Nat × SV)) (row:List SV) (o:Nat):YU g fr (.ps row o)=(.ps row o):=rfl
theorem ZhS (t:Nat) (r:List (Nat × SV)) (row:List SV) (o:Nat):Yk ((t,(.ps row o)) :: r)=(t,(.ps row o)) :: Yk r:=rfl
theorem Zmo (hp:List (Nat × HB)) (row:List SV) (o:Nat):cvt hp (.ps row o)=(.ps row o):=rfl
theorem Zox (hp:List (Nat × HB)) (g:SV->SV) (l:List SV) (o:Nat):vwS hp g (.ps l o) = .ps (ZaY g l) o:=rfl
theorem Zjz (row:List SV) (o:Nat):vw0 (.ps row o) = .any:=rfl
theorem ZeW (row:List SV) (o:Nat):Yi (.ps row o)=some [(.ps row o)]:=rfl
theorem ZhU (row:List SV) (o:Nat):US (.ps row o)=true:=rfl
theorem Zfv (g:Option (Nat × Bool)) (fr:List (Nat × SV)) (f:FuncId) (l:List SV):YU g fr (.cl f l)=(.cl f l):=rfl
theorem Zjh (t:Nat) (r:List (Nat × SV)) (f:FuncId) (l:List SV):Yk ((t,(.cl f l)) :: r)=(t,(.cl f l)) :: Yk r:=rfl
theorem ZlM (hp:List (Nat × HB)) (f:FuncId) (l:List SV):cvt hp (.cl f l)=(.cl f l):=rfl
theorem ZmX (hp:List (Nat × HB)) (g:SV->SV) (f:FuncId) (l:List SV):vwS hp g (.cl f l) = .cl f (ZaY g l):=rfl
theorem Zn1 (f:FuncId) (l:List SV):vw0 (.cl f l) = .any:=rfl
theorem ZeT (f:FuncId) (l:List SV):Yi (.cl f l)=some [(.cl f l)]:=rfl
theorem ZiM (f:FuncId) (l:List SV):US (.cl f l)=true:=rfl
theorem Zc3 (g:Option (Nat × Bool)) (fr:List (Nat × SV)) (l:List SV):YU g fr (.tup l)=(.tup l):=rfl
theorem Zfb (t:Nat) (r:List (Nat × SV)) (l:List SV):Yk ((t,(.tup l)) :: r)=(t,(.tup l)) :: Yk r:=rfl
theorem Zgo (hp:List (Nat × HB)) (l:List SV):cvt hp (.tup l) = .tup (Zhh hp l):=rfl
theorem Zgk (hp:List (Nat × HB)) (g:SV->SV) (l:List SV):vwS hp g (.tup l) = .tup (ZaY g l):=rfl
theorem Zii (l:List SV):vw0 (.tup l) = .any:=rfl
theorem Zfj (l:List SV):US (.tup l)=false:=rfl
theorem Zh2 (g:Option (Nat × Bool)) (fr:List (Nat × SV)) (φ : VP):YU g fr (.q φ)=(.q φ):=rfl
theorem Zol (t:Nat) (r:List (Nat × SV)) (φ : VP):Yk ((t,(.q φ)) :: r)=(t,(.q φ)) :: Yk r:=rfl
theorem ZsD (hp:List (Nat × HB)) (φ : VP):cvt hp (.q φ)=(.q φ):=rfl
theorem Zqv (hp:List (Nat × HB)) (g:SV->SV) (φ : VP):vwS hp g (.q φ)=(.q φ):=rfl
theorem Zqo (φ : VP):vw0 (.q φ)=(.q φ):=rfl
theorem Zh3 (φ : VP):Yi (.q φ)=some [(.q φ)]:=rfl
theorem ZkU (φ : VP):US (.q φ)=true:=rfl
theorem ZfG (g:Option (Nat × Bool)) (fr:List (Nat × SV)) (k:Nat):YU g fr (.mp k)=(.mp k):=rfl
theorem ZgT (t:Nat) (r:List (Nat × SV)) (k:Nat):Yk ((t,(.mp k)) :: r)=(t,(.mp k)) :: Yk r:=rfl
theorem ZmJ (hp:List (Nat × HB)) (k:Nat):cvt hp (.mp k)=(.mp k):=rfl
theorem Zmg (hp:List (Nat × HB)) (g:SV->SV) (k:Nat):vwS hp g (.mp k) = .any:=rfl
theorem Zmy (k:Nat):vw0 (.mp k) = .any:=rfl
theorem Zfg (k:Nat):Yi (.mp k)=some [(.mp k)]:=rfl
theorem ZgW (k:Nat):US (.mp k)=true:=rfl
theorem ZfE (g:Option (Nat × Bool)) (fr:List (Nat × SV)) (k:Nat):YU g fr (.yl k)=(.yl k):=rfl
theorem ZiB (t:Nat) (r:List (Nat × SV)) (k:Nat):Yk ((t,(.yl k)) :: r)=(t,(.yl k)) :: Yk r:=rfl
theorem Zez (k:Nat):Yi (.yl k)=some [(.yl k)]:=rfl
theorem ZgP (k:Nat):US (.yl k)=true:=rfl
theorem Zdk (g:Option (Nat × Bool)) (fr:List (Nat × SV)) (T:TypeId) (s:SV):YU g fr (.ifc T s)=(.ifc T s):=rfl
theorem Ze3 (t:Nat) (r:List (Nat × SV)) (T:TypeId) (s:SV):Yk ((t,(.ifc T s)) :: r)=(t,(.ifc T s)) :: Yk r:=rfl
theorem Zhe (hp:List (Nat × HB)) (T:TypeId) (s:SV):cvt hp (.ifc T s) = .ifc T (cvt hp s):=rfl
theorem ZhA (hp:List (Nat × HB)) (g:SV->SV) (T:TypeId) (s:SV):vwS hp g (.ifc T s) = .ifc T (g s):=rfl
theorem Zgj (T:TypeId) (s:SV):vw0 (.ifc T s) = .any:=rfl
theorem Zds (T:TypeId) (s:SV):Yi (.ifc T s)=some [(.ifc T s)]:=rfl
theorem ZeZ (T:TypeId) (s:SV):US (.ifc T s)=true:=rfl
theorem ZcX (P:Program) (Y:Hd) (d:Option Nat) (σ : St) (r:KT) (K:RK) (f:FuncId) (as:List X):stp P Y d (.callm f as) σ r K=ZbS P f (V0 (rdG none σ.fr) as) d σ r K:=rfl
theorem ZcW (P:Program) (Y:Hd) (d:Option Nat) (σ : St) (r:KT) (K:RK) (x:X) (as:List X):stp P Y d (.calvm x as) σ r K=Ze5 P Y (rdG none σ.fr x) (V0 (rdG none σ.fr) as) d σ r K:=rfl
theorem e_yld (asg body:Nat->CT) (ps:List Nat) (kl:Nat) (rec:Loop) (fr:List (Nat × SV)) (N k:Nat) (args:List SV) (d:Option Nat) (σ : St) (r:KT) (K:RK):YLD (hdR asg body ps kl rec fr N) k args d σ r K =
 rfB (Nat.beq k kl) (ZoN rec (lkh kl σ.hp)/\rfB (Zjt args ps) (asg σ.n ⟨pmS ps args ++ fr,σ.hp,σ.n,N,[]⟩ (asE kl rec (body σ.n) (bdE kl rec fun o=>cmK o.pn o.res o.hp o.n d σ r K)))):=rfl
theorem e_exR (ρ : Nat->Nat) (n0 n k:Nat):exR ρ n0 n k=exB (Nat.blt k n0) (ρ k) (n+(k - n0)):=rfl
theorem e_hpM (ρ : Nat->Nat) (n0 n:Nat) (o:Ot) (hp:List (Nat × HB)):hpM ρ n0 n o hp=rnP (exR ρ n0 n) o.hp ++ (Zad ρ n0 ++ hp):=rfl
theorem Zf7 (P:Program) (Y:Hd) (m:Nat) (g:X) (ps:List Nat) (asg body:SC) (σ : St) (K:Ex->St->Prop):sx P Y m (.rfun g ps asg body) σ K=rfK P (fun n=>sx P Y0 n asg) (fun n=>sx P Y0 n body) (rdG none σ.fr g) ps σ K:=rfl
theorem ZcQ (g:Option (Nat × Bool)) (fr:List (Nat × SV))  : YU g fr (.any)=(.any):=rfl
theorem ZeQ (t:Nat) (r:List (Nat × SV))  : Yk ((t,(.any)) :: r)=(t,(.any)) :: Yk r:=rfl
theorem Zhc (hp:List (Nat × HB))  : cvt hp (.any)=(.any):=rfl
theorem ZhK (hp:List (Nat × HB)) (g:SV->SV)  : vwS hp g (.any)=(.any):=rfl
theorem Ziz  : vw0 (.any) = .any:=rfl
theorem ZeX  : US (.any)=false:=rfl
theorem ZgX (t j:Nat) (w:Bool) (s:SV) (r:List (Nat × SV)):Yk ((t,.gd j w s) :: r)=(t,.any) :: Yk r:=rfl
theorem Zth  : Yk []=[]:=rfl
theorem Zdi (fr:List (Nat × SV)) (j:Nat) (w:Bool) (s:SV):YU none fr (.gd j w s) = .any:=rfl
theorem ZeG (fr:List (Nat × SV)) (j j0:Nat) (w w0:Bool) (s:SV):YU (some (j0,w0)) fr (.gd j w s)=Zc5 (alw 8 fr j0 w0 j w) s:=rfl
theorem Zc7 (b:Bool):Zia (.bool b)=true:=rfl
theorem ZeH (k:IntKind) (n:Int):Zia (.int k n)=true:=rfl
theorem Zbu (s:ByteArray):Zia (.string s)=true:=rfl
theorem ZaW (p:Option Addr):Zia (.pointer p)=true:=rfl
theorem Zb2 (a:Option Addr) (l c:Nat):Zia (.slice a l c)=true:=rfl
theorem ZaX  : Zia .nilFunc=true:=rfl
theorem ZaL  : Zia .nilIface=true:=rfl
theorem e_rdG (g:Option (Nat × Bool)) (fr:List (Nat × SV)) (x:X):rdG g fr x=YU g fr (rd fr x):=rfl
theorem Zu9 (fr:List (Nat × SV)) (n:Nat):rd fr (.t n)=lk n fr:=rfl
theorem Zv1 (fr:List (Nat × SV)) (x:Value):rd fr (.c x) = .v x:=rfl
theorem Zua (fr:List (Nat × SV)) (i:Nat):rd fr (.f i) = .cl i []:=rfl
theorem e_alw (f:Nat) (fr:List (Nat × SV)) (j0:Nat) (w0:Bool) (j:Nat) (w:Bool):alw (f+1) fr j0 w0 j w=ZtC (Zfk (Nat.beq j0 j) w0 w) (lk j0 fr) (alw f fr) j w:=rfl
theorem Zu6 (fr:List (Nat × SV)) (j0:Nat) (w0:Bool) (j:Nat) (w:Bool):alw 0 fr j0 w0 j w=false:=rfl
theorem e_vw1 (hp:List (Nat × HB)) (s:SV):vw1 hp s=vwS hp vw0 s:=rfl
theorem e_vw2 (hp:List (Nat × HB)) (s:SV):vw2 hp s=vwS hp (vw1 hp) s:=rfl
theorem e_vw3 (hp:List (Nat × HB)) (s:SV):vw3 hp s=vwS hp (vw2 hp) s:=rfl
theorem e_vw4 (hp:List (Nat × HB)) (s:SV):vw4 hp s=vwS hp (vw3 hp) s:=rfl
theorem ZmP (fr:List (Nat × SV)) (hp:List (Nat × HB)) (n N:Nat):WU ⟨fr,hp,n,N,[]⟩=⟨fr,hp,n,N,[]⟩:=rfl
theorem ZnA (fr:List (Nat × SV)) (hp:List (Nat × HB)) (n N j:Nat) (l:List Nat):WU ⟨fr,hp,n,N,j :: l⟩=⟨Yk fr,hp,n,N,[]⟩:=rfl
theorem Zu8 (b:BinOp) (k j:IntKind) (x y:Int):ZtQ b (.v (.int k x)) (.v (.int j y))=ZvE (ZbL k j) b k x y:=rfl
theorem ZhQ (b:Bool):uni .not (.v (.bool b))=some (.v (.bool (!b))):=rfl
theorem ZhW (k:IntKind) (n:Int):uni .neg (.v (.int k n))=some (.v (.int k (k.wrap (0 - n)))):=rfl
theorem ZfA (k:IntKind) (x y:Int):Ze7 .add k x y=some (.v (.int k (k.wrap (x+y)))):=rfl
theorem Zfz (k:IntKind) (x y:Int):Ze7 .sub k x y=some (.v (.int k (k.wrap (x - y)))):=rfl
theorem Zfp (k:IntKind) (x y:Int):Ze7 .mul k x y=some (.v (.int k (k.wrap (x * y)))):=rfl
theorem ZfC (k:IntKind) (x y:Int):Ze7 .eql k x y=some (.v (.bool (x == y))):=rfl
theorem Ze0 (k:IntKind) (x y:Int):Ze7 .neq k x y=some (.v (.bool (x != y))):=rfl
theorem ZeY (k:IntKind) (x y:Int):Ze7 .lss k x y=some (.v (.bool (decide (x < y)))):=rfl
theorem ZeK (k:IntKind) (x y:Int):Ze7 .leq k x y=some (.v (.bool (decide (x<=y)))):=rfl
theorem Ze2 (k:IntKind) (x y:Int):Ze7 .gtr k x y=some (.v (.bool (decide (x > y)))):=rfl
theorem Zes (k:IntKind) (x y:Int):Ze7 .geq k x y=some (.v (.bool (decide (x ≥ y)))):=rfl
theorem ZhB  : ZbL .i8 .i8=true:=rfl
theorem ZeU  : ZbL .i16 .i16=true:=rfl
theorem ZeF  : ZbL .i32 .i32=true:=rfl
theorem Zfy  : ZbL .i64 .i64=true:=rfl
theorem Ziu  : ZbL .u8 .u8=true:=rfl
theorem ZeP  : ZbL .u16 .u16=true:=rfl
theorem Zeu  : ZbL .u32 .u32=true:=rfl
theorem Ze6  : ZbL .u64 .u64=true:=rfl
theorem ZjU (o:Nat) (k q:Nat):VA o (.p k q)=some (.p k (q+o)):=rfl
theorem Znk (k q:Nat):Zcd (.p k q)=some (.p k q):=rfl
theorem ZiU (o:Nat) (k v m i q:Nat):VA o (.pr k v m i q)=some (.pr k v m i (q+o)):=rfl
theorem Zf0 (k v m i q:Nat):Zcd (.pr k v m i q)=some (.pr k v m i q):=rfl
theorem Zh9 (o:Nat) (row:List SV) (q:Nat):VA o (.ps row q)=some (.ps row (q+o)):=rfl
theorem Zg5 (row:List SV) (q:Nat):Zcd (.ps row q)=some (.ps row q):=rfl
theorem ZlY (l:List SV) (o m:Nat):Xq l o m true=Zvi (Nat.ble (o+m) l.length) l o m:=rfl
theorem Zl5 (l:List SV) (o m:Nat):Xq l o m false=nth l o:=rfl
theorem Zuo (mx:Bool) (x:Int):mmf mx x []=some x:=rfl
theorem ZqN (k:IntKind) (x y:Int) (r:List SV):mmf true x (.v (.int k y) :: r)=mmf true (max x y) r:=rfl
theorem Zqz (k:IntKind) (x y:Int) (r:List SV):mmf false x (.v (.int k y) :: r)=mmf false (min x y) r:=rfl
theorem e_mm (mx:Bool) (k:IntKind) (x:Int) (r:List SV):mmS mx (.v (.int k x) :: r)=mmE k (mmf mx x r):=rfl
theorem e_bld (ρ : X->SV) (z:List SV) (ps:List (Nat × Nat × X)):bld ρ z ps=Zjl z (Zl9 ρ ps):=rfl
theorem ZeC (ρ : X->SV) (z:List Value) (ps:List (Nat × Nat × X)):pv ρ (.build z ps)=Zu0 (bld ρ (lit z) ps):=rfl
theorem ZuI (l:List SV) (m:Nat) (ls:List (List SV)):ZtK (some l) m (some ls)=chkB (chk l m) l ls:=rfl
theorem ZlR (s:SV) (l:List SV):Yz (s :: l)=WW (US s) (Yz l):=rfl
theorem Zis  : Yz []=true:=rfl
theorem ZjG (fr:List (Nat × SV)) (g:Option (Nat × Bool)) (t:Nat) (b:X):ZeA fr g (.t t) (.c (.bool true)) b=ZeD (rdG g fr (.t t)) (rdG (some (t,false)) fr b):=rfl
theorem ZkJ (fr:List (Nat × SV)) (g:Option (Nat × Bool)) (t n:Nat):ZeA fr g (.t t) (.t n) (.c (.bool false))=ZcR (rdG g fr (.t t)) (rdG (some (t,true)) fr (.t n)):=rfl
theorem ZlC (fr:List (Nat × SV)) (g:Option (Nat × Bool)) (t:Nat):ZeA fr g (.t t) (.c (.bool false)) (.c (.bool false))=ZcR (rdG g fr (.t t)) (rdG (some (t,true)) fr (.c (.bool false))):=rfl
theorem Zhq:ZcR (.v (.bool false)) (.v undef)=some (.v (.bool false)):=rfl
theorem ZgG:ZeD (.v (.bool true)) (.v undef)=some (.v (.bool true)):=rfl
theorem e_rvR (rs:List RV) (σ : St):rvR rs σ = rvE (rvs σ rs):=rfl
theorem Zv3 (σ : St):rvs σ []=some []:=rfl
theorem Zr4 (σ : St) (t:Nat):rv1 σ (.tmp t)=some (rdG none σ.fr (.t t)):=rfl
theorem ZpJ (σ : St) (t m:Nat) (ag:Bool):rv1 σ (.cell t m ag)=rvX σ.hp m ag (rdG none σ.fr (.t t)):=rfl
theorem ZjZ (P:Program) (Y:Hd) (d:Option Nat) (σ : St) (r:KT) (K:RK) (x:X):stp P Y d (.mv x) σ r K=Yd P none d (.mv x) σ r K:=rfl
theorem Zfq (P:Program) (Y:Hd) (d:Option Nat) (σ : St) (r:KT) (K:RK) (c a b:X):stp P Y d (.pick c a b) σ r K=Yd P none d (.pick c a b) σ r K:=rfl
theorem Zc9 (P:Program) (Y:Hd) (d:Option Nat) (σ : St) (r:KT) (K:RK) (z:List Value) (ps:List (Nat × Nat × X)):stp P Y d (.build z ps) σ r K=Yd P none d (.build z ps) σ r K:=rfl
theorem Zf5 (P:Program) (Y:Hd) (d:Option Nat) (σ : St) (r:KT) (K:RK) (m:Nat) (T:TypeId) (ps:List X):stp P Y d (.bsl m T ps) σ r K=Yd P none d (.bsl m T ps) σ r K:=rfl
theorem Zj6 (P:Program) (Y:Hd) (d:Option Nat) (σ : St) (r:KT) (K:RK) (x:X) (m:Nat) (ag:Bool):stp P Y d (.ld x m ag) σ r K=Yd P none d (.ld x m ag) σ r K:=rfl
theorem ZfB (P:Program) (Y:Hd) (d:Option Nat) (σ : St) (r:KT) (K:RK) (x:X):stp P Y d (.nilc x) σ r K=Yd P none d (.nilc x) σ r K:=rfl
theorem Ziw (P:Program) (Y:Hd) (d:Option Nat) (σ : St) (r:KT) (K:RK) (b:BinOp) (x y:X):stp P Y d (.bin b x y) σ r K=Yd P none d (.bin b x y) σ r K:=rfl
theorem Zhn (P:Program) (Y:Hd) (d:Option Nat) (σ : St) (r:KT) (K:RK) (b:BinOp) (x y:X):stp P Y d (.div b x y) σ r K=Yd P none d (.div b x y) σ r K:=rfl
theorem ZjK (P:Program) (Y:Hd) (d:Option Nat) (σ : St) (r:KT) (K:RK) (u:UnOp) (x:X):stp P Y d (.un u x) σ r K=Yd P none d (.un u x) σ r K:=rfl
theorem Zep (P:Program) (Y:Hd) (d:Option Nat) (σ : St) (r:KT) (K:RK) (x:X) (o:Nat):stp P Y d (.addo x o) σ r K=Yd P none d (.addo x o) σ r K:=rfl
theorem ZfU (P:Program) (Y:Hd) (d:Option Nat) (σ : St) (r:KT) (K:RK) (x:X) (o m:Nat) (ag:Bool):stp P Y d (.fld x o m ag) σ r K=Yd P none d (.fld x o m ag) σ r K:=rfl
theorem Zgz (P:Program) (Y:Hd) (d:Option Nat) (σ : St) (r:KT) (K:RK) (x i:X) (len m:Nat) (ag:Bool):stp P Y d (.idx x i len m ag) σ r K=Yd P none d (.idx x i len m ag) σ r K:=rfl
theorem Zgh (P:Program) (Y:Hd) (d:Option Nat) (σ : St) (r:KT) (K:RK) (x i:X) (len m:Nat):stp P Y d (.ixa x i len m) σ r K=Yd P none d (.ixa x i len m) σ r K:=rfl
theorem Zjb (P:Program) (Y:Hd) (d:Option Nat) (σ : St) (r:KT) (K:RK) (x i:X) (m:Nat):stp P Y d (.ixs x i m) σ r K=Yd P none d (.ixs x i m) σ r K:=rfl
theorem ZhD (P:Program) (Y:Hd) (d:Option Nat) (σ : St) (r:KT) (K:RK) (x:X):stp P Y d (.len x) σ r K=Yd P none d (.len x) σ r K:=rfl
theorem Zna (P:Program) (Y:Hd) (d:Option Nat) (σ : St) (r:KT) (K:RK) (mx:Bool) (xs:List X):stp P Y d (.mm mx xs) σ r K=Yd P none d (.mm mx xs) σ r K:=rfl
theorem ZeL (P:Program) (Y:Hd) (d:Option Nat) (σ : St) (r:KT) (K:RK) (f:FuncId) (as:List X):stp P Y d (.call f as) σ r K=Yd P none d (.call f as) σ r K:=rfl
theorem Zen (P:Program) (Y:Hd) (d:Option Nat) (σ : St) (r:KT) (K:RK) (x:X) (as:List X):stp P Y d (.calv x as) σ r K=Yd P none d (.calv x as) σ r K:=rfl
theorem ZgB (P:Program) (Y:Hd) (d:Option Nat) (σ : St) (r:KT) (K:RK) (f:FuncId) (cs:List X):stp P Y d (.mkf f cs) σ r K=Yd P none d (.mkf f cs) σ r K:=rfl
theorem ZeE (P:Program) (Y:Hd) (d:Option Nat) (σ : St) (r:KT) (K:RK) (k:IntKind) (x:X):stp P Y d (.conv k x) σ r K=Yd P none d (.conv k x) σ r K:=rfl
theorem Ziy (P:Program) (Y:Hd) (d:Option Nat) (σ : St) (r:KT) (K:RK) (x:X) (i:Nat):stp P Y d (.ext x i) σ r K=Yd P none d (.ext x i) σ r K:=rfl
theorem e_rvs (σ : St) (r:RV) (rs:List RV):rvs σ (r :: rs)=rvC σ.hp (rv1 σ r) (rvs σ rs):=rfl
theorem Znm (ρ : X->SV) (x:X) (o m:Nat) (ag:Bool):pv ρ (.fld x o m ag)=pvF o m ag (ρ x):=rfl
theorem Zh7 (ρ : X->SV) (k:IntKind) (x:X):pv ρ (.conv k x)=pvC k (ρ x):=rfl
theorem ZnW (ρ : X->SV) (x:X) (i:Nat):pv ρ (.ext x i)=pvE i (ρ x):=rfl
theorem ZpR (fr:List (Nat × SV)):Zwm [] fr=True:=rfl
theorem Zvy (t:Nat) (s:SV) (r fr:List (Nat × SV)):Zwm ((t,s) :: r) fr=(lk t fr=s/\Zwm r fr):=rfl
theorem Zhf (P:Program) (Y:Hd) (d:Option Nat) (σ : St) (r:KT) (K:RK) (ng ag:Bool) (cls:List Nat) (x y:X):stp P Y d (.eqs ng ag cls x y) σ r K=Yd P none d (.eqs ng ag cls x y) σ r K:=rfl
theorem Zic (P:Program) (Y:Hd) (d:Option Nat) (σ : St) (r:KT) (K:RK) (x h k:X):stp P Y d (.slc x h k) σ r K=Yd P none d (.slc x h k) σ r K:=rfl
theorem ZhL (P:Program) (Y:Hd) (d:Option Nat) (σ : St) (r:KT) (K:RK) (m:Nat) (x:X) (lo hi:Option X):stp P Y d (.sub m x lo hi) σ r K=Yd P none d (.sub m x lo hi) σ r K:=rfl
theorem Zg2 (P:Program) (Y:Hd) (d:Option Nat) (σ : St) (r:KT) (K:RK) (m b:Nat) (T:TypeId) (x y:X):stp P Y d (.app m b T x y) σ r K=Yd P none d (.app m b T x y) σ r K:=rfl
theorem ZnU (l):Zu0 (some l)=some (SV.agg l):=rfl
theorem ZlS: Zu0 none=none:=rfl
theorem ZqB (k z):mmE k (some z)=some (SV.v (Value.int k z)):=rfl
theorem ZqH (k):mmE k none=none:=rfl
theorem Zq1 (g o l T):vwP g o (HB.cells l T)=SV.ps (ZaY g l) o:=rfl
theorem ZpB (m xs):vwN true m xs=SV.sl false m xs:=rfl
theorem Zre (m xs):vwN false m xs=SV.any:=rfl
theorem ZqI (v v' m xs T):vwM v (HB.row v' m xs T)=vwN (Nat.beq v v') m xs:=rfl
theorem Zrt (v v' m xs T o m' inn T'):vwM v (HB.rws v' m xs T o m' inn T')=vwN (Nat.beq v v') m (Zah o m' inn xs):=rfl
theorem Zoh (v v' m xs T):cvtM v (HB.row v' m xs T)=vwN (Nat.beq v v') m xs:=rfl
theorem Zmk (m v v' m' xs T):ZfL m v (HB.row v' m' xs T)=Zfe xs (WW (Nat.beq m m') (Nat.beq v v')):=rfl
theorem Zni (m v l T):ZfL m v (HB.cells l T)=none:=rfl
theorem Znc (m v φ):ZfL m v (HB.ob φ)=none:=rfl
theorem Zm0 (m v es clk):ZfL m v (HB.map es clk)=none:=rfl
theorem ZlO (m v km since seen last):ZfL m v (HB.it km since seen last)=none:=rfl
theorem ZnG (m v rec pd):ZfL m v (HB.lp rec pd)=none:=rfl
theorem Zmw (m v rec):ZfL m v (HB.lb rec)=none:=rfl
theorem Zkx (m v v_1 m_1 xs T o m' inn T'):ZfL m v (HB.rws v_1 m_1 xs T o m' inn T')=none:=rfl
theorem Zot (m v):ZfL m v HB.gone=none:=rfl
theorem ZnH (xs):Zfe xs true=some xs:=rfl
theorem Znz (xs):Zfe xs false=none:=rfl
theorem ZsY: rvE (some [])=some (SV.tup []):=rfl
theorem Zsu (s):rvE (some [s])=some s:=rfl
theorem ZqM (a b l):rvE (some (a :: b :: l))=some (SV.tup (a :: b :: l)):=rfl
theorem Zq2: rvE none=none:=rfl
theorem Zqe (s l):rvD s (some l)=some (s :: l):=rfl
theorem Zs8 (s):rvD s none=none:=rfl
theorem ZsG (hp x s):rvC hp (some s) x=rvD (cvt hp s) x:=rfl
theorem Zrn (hp x):rvC hp none x=none:=rfl
theorem Zqb (o m ag l T):rvH o m ag (HB.cells l T)=Xq l o m ag:=rfl
theorem Zpz (hp m ag k o):rvX hp m ag (SV.p k o)=rvH o m ag (lkh k hp):=rfl
theorem Zr3 (o m ag l):pvF o m ag (SV.agg l)=Xq l o m ag:=rfl
theorem ZrP (k k_1 n):pvC k (SV.v (Value.int k_1 n))=some (SV.v (Value.int k (IntKind.wrap k n))):=rfl
theorem Zs9 (i l):pvE i (SV.tup l)=nth l i:=rfl
theorem ZkL (x x_1 x_2 x_3 x_4):ZuP false true false x x_1 x_2 x_3 x_4=x_3 { fr:=(x,x_1) :: St.fr x_2,hp:=St.hp x_2,n:=St.n x_2,N:=St.N x_2,gs:=St.gs x_2 } x_4:=rfl
theorem Zly (x x_1 x_2 x_3 x_4 x_5 x_6):Zwa false true false x x_1 x_2 x_3 x_4 x_5 x_6=x_5 { fr:=(x,SV.gd x_1 x_2 x_3) :: St.fr x_4,hp:=St.hp x_4,n:=St.n x_4,N:=St.N x_4,gs:=x_1 :: St.gs x_4 } x_6:=rfl
theorem Zoj (s σ r K):Ym none s none σ r K=r σ K:=rfl
theorem ZjT (s σ r K val):Ym none s (some val) σ r K=False:=rfl
theorem Zor (s σ r K t):Ym (some t) s none σ r K=ZuP (Y2 t (St.gs σ)) (Nat.blt t (St.N σ)) (gdS s) t s σ r K:=rfl
theorem ZmF (s σ r K t j w):Ym (some t) s (some (j,w)) σ r K=Zwa (Y2 t (St.gs σ)) (Nat.blt t (St.N σ)) (Nat.beq t j) t j w s σ r K:=rfl
theorem Znj (d g σ r K s):XI (some s) d g σ r K=Ym d s g σ r K:=rfl
theorem ZlT (d g σ r K):XI none d g σ r K=False:=rfl
theorem Zif (x):Zc5 true x=x:=rfl
theorem ZhV (x):Zc5 false x=SV.any:=rfl
theorem ZlP (x x_1 x_2 x_3):ZtC true x x_1 x_2 x_3=true:=rfl
theorem ZmY (x x_1 x_2 j' w' s):ZtC false (SV.gd j' w' s) x x_1 x_2=x j' w' x_1 x_2:=rfl
theorem ZiH (x x_1):Zfk true x x_1=bbq x x_1:=rfl
theorem ZgD (x x_1):Zfk false x x_1=false:=rfl
theorem ZpS: bbq true true=true:=rfl
theorem Zs0: bbq false false=true:=rfl
theorem Zin (x y):ZeD (SV.v (Value.bool x)) (SV.v (Value.bool y))=some (SV.v (Value.bool (x || y))):=rfl
theorem Zha (x vs):ZeD (SV.v (Value.bool x)) (SV.v (Value.tuple vs))=bif x then some (SV.v (Value.bool true)) else none:=rfl
theorem ZhY (x y):ZcR (SV.v (Value.bool x)) (SV.v (Value.bool y))=some (SV.v (Value.bool (x && y))):=rfl
theorem Zje (x vs):ZcR (SV.v (Value.bool x)) (SV.v (Value.tuple vs))=bif x then none else some (SV.v (Value.bool false)):=rfl
theorem Zj8 (m r):ZtT m (some r)=some (SV.sl true m r):=rfl
theorem Zn6 (m):ZtT m none=none:=rfl
theorem ZgK (P g d σ r K args f caps):Zov P g d σ r K (SV.cl f caps) args=ZtG P g f (args ++ caps) d σ r K:=rfl
theorem Zn4 (g d σ r K k v m len j):Zuj g d σ r K true k v m len j=IXR g k v m len j d σ r K:=rfl
theorem ZlK (g d σ r K k v m len j):Zuj g d σ r K false k v m len j=False:=rfl
theorem Zla (g d σ r K k v m j v' m_1 xs T):Zu3 g d σ r K (HB.row v' m_1 xs T) k v m j=Zuj g d σ r K (WW (Nat.beq m m_1) (Nat.beq v v')) k v m (List.length xs) j:=rfl
theorem ZnS (g d σ r K k v m j v' m_1 xs T o m' inn T'):Zu3 g d σ r K (HB.rws v' m_1 xs T o m' inn T') k v m j = ∃ i rows TT,v=v'+i/\Yo k v' m_1 xs T o m' inn T' i=some (m,rows,TT)/\IXR g k v m (List.length rows) j d σ r K:=rfl
theorem ZjY (g d σ r K xs j):ZuM g d σ r K true xs j=IXS g xs j d σ r K:=rfl
theorem Zle (g d σ r K xs j):ZuM g d σ r K false xs j=False:=rfl
theorem Zlo (g d σ r K m k j c m' xs):Zt2 g d σ r K (SV.v (Value.int k j)) (SV.sl c m' xs) m=ZuM g d σ r K (Nat.beq m m') xs j:=rfl
theorem Zmd (g d σ r K m k j k_1 v):Zt2 g d σ r K (SV.v (Value.int k j)) (SV.mr k_1 v) m=Zu3 g d σ r K (lkh k_1 (St.hp σ)) k_1 v m j:=rfl
theorem Zn9 (g d σ r K x len m k n):Zwr g d σ r K (SV.v (Value.int k n)) x len m=IXA g len n (fun n=>VA (n * m) x) d σ r K:=rfl
theorem Zma (g d σ r K len m ag k j l):Zv6 g d σ r K (SV.v (Value.int k j)) (SV.agg l) len m ag=IXA g len j (fun n=>Xq l (n * m) m ag) d σ r K:=rfl
theorem Zrv (g d σ r K o m ag l T):ldC g d σ r K (HB.cells l T) o m ag=XI (Xq l o m ag) d g σ r K:=rfl
theorem ZqC (g d σ r K xs i o m ag):ldB g d σ r K true xs i o m ag=LDR g xs i o m ag d σ r K:=rfl
theorem Zr2 (g d σ r K xs i o m ag):ldB g d σ r K false xs i o m ag=False:=rfl
theorem Zq7 (g d σ r K k v m' i o m ag v' m_1 xs T):ldR g d σ r K k (HB.row v' m_1 xs T) v m' i o m ag=ldB g d σ r K (WW (Nat.beq m' m_1) (Nat.beq v v')) xs i o m ag:=rfl
theorem ZrT (g d σ r K k v m' i o m ag v' m_1 xs T o_1 m'_1 inn T'):ldR g d σ r K k (HB.rws v' m_1 xs T o_1 m'_1 inn T') v m' i o m ag = ∃ a rows TT,v=v'+a/\Yo k v' m_1 xs T o_1 m'_1 inn T' a=some (m',rows,TT)/\LDR g rows i o m ag d σ r K:=rfl
theorem Zta (g d σ r K m ag k o):ldK g d σ r K (SV.p k o) m ag=ldC g d σ r K (lkh k (St.hp σ)) o m ag:=rfl
theorem ZsV (g d σ r K m ag row o):ldK g d σ r K (SV.ps row o) m ag=XI (Xq row o m ag) d g σ r K:=rfl
theorem ZsN (g d σ r K m ag k v m' i o):ldK g d σ r K (SV.pr k v m' i o) m ag=ldR g d σ r K k (lkh k (St.hp σ)) v m' i o m ag:=rfl
theorem ZnV (g d σ r K b k u v):ZuL g d σ r K true b k u v=DIV g b k u v d σ r K:=rfl
theorem Znq (g d σ r K b k u v):ZuL g d σ r K false b k u v=False:=rfl
theorem ZnF (g d σ r K b k x_3 j y_1):Zwn g d σ r K b (SV.v (Value.int k x_3)) (SV.v (Value.int j y_1))=ZuL g d σ r K (ZbL k j) b k x_3 y_1:=rfl
theorem Zkj (g d σ r K xs):Zus g d σ r K true xs=Ym d (SV.v (Value.int IntKind.i64 ↑(List.length xs))) g σ r K:=rfl
theorem ZjX (g d σ r K xs):Zus g d σ r K false xs=False:=rfl
theorem Zk8 (g d σ r K k v v' m xs T):Zvn g d σ r K k (HB.row v' m xs T) v=Zus g d σ r K (Nat.beq v v') xs:=rfl
theorem Zlt (g d σ r K k v v' m xs T o m' inn T'):Zvn g d σ r K k (HB.rws v' m xs T o m' inn T') v = ∃ a mm rows TT,v=v'+a/\Yo k v' m xs T o m' inn T' a=some (mm,rows,TT)/\Ym d (SV.v (Value.int IntKind.i64 ↑(List.length rows))) g σ r K:=rfl
theorem ZlW (g d σ r K k v):ZtL g d σ r K (SV.mr k v)=Zvn g d σ r K k (lkh k (St.hp σ)) v:=rfl
theorem ZkA (g d σ r K k v m i l):ZtL g d σ r K (SV.ms k v m i l)=Ym d (SV.v (Value.int IntKind.i64 ↑l)) g σ r K:=rfl
theorem Zlp (g d σ r K c m xs):ZtL g d σ r K (SV.sl c m xs)=Ym d (SV.v (Value.int IntKind.i64 ↑(List.length xs))) g σ r K:=rfl
theorem Zn8 (P g d σ r K f as):Yd P g d (SI.call f as) σ r K=ZtG P g f (V0 (rdG g (St.fr σ)) as) d σ r K:=rfl
theorem ZnJ (P g d σ r K x as):Yd P g d (SI.calv x as) σ r K=Zov P g d σ r K (rdG g (St.fr σ) x) (V0 (rdG g (St.fr σ)) as):=rfl
theorem Zmh (P g d σ r K f as):Yd P g d (SI.callm f as) σ r K=False:=rfl
theorem Zm8 (P g d σ r K x as):Yd P g d (SI.calvm x as) σ r K=False:=rfl
theorem ZoE (P g d σ r K c a b):Yd P g d (SI.pick c a b) σ r K=XI (ZeA (St.fr σ) g c a b) d g σ r K:=rfl
theorem ZoD (P g d σ r K m T ps):Yd P g d (SI.bsl m T ps) σ r K=XI (ZtT m (ZfO (rdG g (St.fr σ)) m ps)) d g σ r K:=rfl
theorem Zl4 (P g d σ r K x i_2 m):Yd P g d (SI.ixs x i_2 m) σ r K=Zt2 g d σ r K (rdG g (St.fr σ) i_2) (rdG g (St.fr σ) x) m:=rfl
theorem ZjR (P g d σ r K x i_2 len m):Yd P g d (SI.ixa x i_2 len m) σ r K=Zwr g d σ r K (rdG g (St.fr σ) i_2) (rdG g (St.fr σ) x) len m:=rfl
theorem Zn3 (P g d σ r K x i_2 len m ag):Yd P g d (SI.idx x i_2 len m ag) σ r K=Zv6 g d σ r K (rdG g (St.fr σ) i_2) (rdG g (St.fr σ) x) len m ag:=rfl
theorem Zhj (P g d σ r K x m ag):Yd P g d (SI.ld x m ag) σ r K=ldK g d σ r K (rdG g (St.fr σ) x) m ag:=rfl
theorem Zhs (P g d σ r K b x y):Yd P g d (SI.div b x y) σ r K=Zwn g d σ r K b (rdG g (St.fr σ) x) (rdG g (St.fr σ) y):=rfl
theorem Zjg (P g d σ r K x):Yd P g d (SI.len x) σ r K=ZtL g d σ r K (rdG g (St.fr σ) x):=rfl
theorem ZgQ (P g d σ r K x):Yd P g d (SI.mv x) σ r K=Ym d (rdG g (St.fr σ) x) g σ r K:=rfl
theorem ZgU (P g d σ r K z ps):Yd P g d (SI.build z ps) σ r K=XI (pv (rdG g (St.fr σ)) (SI.build z ps)) d g σ r K:=rfl
theorem Zjf (P g d σ r K x):Yd P g d (SI.nilc x) σ r K=XI (Zcd (rdG g (St.fr σ) x)) d g σ r K:=rfl
theorem Zid (P g d σ r K b x y):Yd P g d (SI.bin b x y) σ r K=XI (ZtQ b (rdG g (St.fr σ) x) (rdG g (St.fr σ) y)) d g σ r K:=rfl
theorem Zhw (P g d σ r K u x):Yd P g d (SI.un u x) σ r K=XI (uni u (rdG g (St.fr σ) x)) d g σ r K:=rfl
theorem ZgZ (P g d σ r K x o):Yd P g d (SI.addo x o) σ r K=XI (VA o (rdG g (St.fr σ) x)) d g σ r K:=rfl
theorem ZiC (P g d σ r K x o m ag):Yd P g d (SI.fld x o m ag) σ r K=XI (pv (rdG g (St.fr σ)) (SI.fld x o m ag)) d g σ r K:=rfl
theorem ZgN (P g d σ r K mx xs):Yd P g d (SI.mm mx xs) σ r K=XI (mmS mx (V0 (rdG g (St.fr σ)) xs)) d g σ r K:=rfl
theorem ZhZ (P g d σ r K f cs):Yd P g d (SI.mkf f cs) σ r K=Ym d (SV.cl f (V0 (rdG g (St.fr σ)) cs)) g σ r K:=rfl
theorem ZgR (P g d σ r K k x):Yd P g d (SI.conv k x) σ r K=XI (pv (rdG g (St.fr σ)) (SI.conv k x)) d g σ r K:=rfl
theorem ZhC (P g d σ r K x i_2):Yd P g d (SI.ext x i_2) σ r K=XI (pv (rdG g (St.fr σ)) (SI.ext x i_2)) d g σ r K:=rfl
theorem ZiE (P g d σ r K x h k):Yd P g d (SI.slc x h k) σ r K=Zv7 g (rdG g (St.fr σ) x) (rdG g (St.fr σ) h) (rdG g (St.fr σ) k) d σ r K:=rfl
theorem ZiP (P g d σ r K m x lo hi):Yd P g d (SI.sub m x lo hi) σ r K=Zvq g m (rdG g (St.fr σ)) lo hi (rdG g (St.fr σ) x) d σ r K:=rfl
theorem Zgi (P g d σ r K m b T x y):Yd P g d (SI.cln m b T x y) σ r K=False:=rfl
theorem Zi7 (P g d σ r K m b T x y):Yd P g d (SI.appm m b T x y) σ r K=False:=rfl
theorem Zhi (P g d σ r K m x y):Yd P g d (SI.cpy m x y) σ r K=False:=rfl
theorem Zio (P g d σ r K m b z T x):Yd P g d (SI.mks m b z T x) σ r K=False:=rfl
theorem Zg6 (P g d σ r K x):Yd P g d (SI.isn x) σ r K=False:=rfl
theorem ZiT (P g d σ r K m b T x y):Yd P g d (SI.app m b T x y) σ r K=ZtN g m b (Zi4 m (rdG g (St.fr σ) x)) (ZqQ m (St.hp σ) (rdG g (St.fr σ) y)) d σ r K:=rfl
theorem Zgu (P g d σ r K x m T):Yd P g d (SI.box x m T) σ r K=False:=rfl
theorem Zht (P g d σ r K z T):Yd P g d (SI.alloc z T) σ r K=False:=rfl
theorem Zgc (P g d σ r K x y m):Yd P g d (SI.st x y m) σ r K=False:=rfl
theorem Zgf (P g d σ r K ng ag cls x y):Yd P g d (SI.eqs ng ag cls x y) σ r K=XI (eqR ng (Zmz cls ag (rdG g (St.fr σ) x) (rdG g (St.fr σ) y))) d g σ r K:=rfl
theorem Zhr (P g d σ r K op ty):Yd P g d (SI.raw op ty) σ r K=False:=rfl
theorem Zhm (P g d σ r K op xs):Yd P g d (SI.rv op xs) σ r K=False:=rfl
theorem Zg4 (P g d σ r K op x xs):Yd P g d (SI.rb op x xs) σ r K=False:=rfl
theorem ZkV (x x_1 x_2 x_3 x_4 x_5):Zwb false true x x_1 x_2 x_3 x_4 x_5=x_4 { fr:=(x,SV.p (St.n x_3) 0) :: St.fr x_3,hp:=(St.n x_3,HB.cells x_1 x_2) :: St.hp x_3,n:=St.n x_3+1,N:=St.N x_3,gs:=St.gs x_3 } x_5:=rfl
theorem Zll (T σ r K t c_2):ZfN (some t) (some c_2) T σ r K=Zwb (Y2 t (St.gs σ)) (Nat.blt t (St.N σ)) t c_2 T σ r K:=rfl
theorem ZiF (x x_1 x_2 x_3 x_4 x_5 x_6 x_7 x_8 x_9):ZrG false true x x_1 x_2 x_3 x_4 x_5 x_6 x_7 x_8 x_9=x_8 { fr:=(x,SV.v (Value.int IntKind.i64 ↑x_5)) :: St.fr x_7,hp:=(x_1,HB.row x_2 x_3 x_4 x_6) :: St.hp x_7,n:=St.n x_7,N:=St.N x_7,gs:=St.gs x_7 } x_9:=rfl
theorem Zkt (k v m xs N T σ r K m_1):ZuE (some m_1) k v m xs N T σ r K=ZrG (Y2 m_1 (St.gs σ)) (Nat.blt m_1 (St.N σ)) m_1 k v m xs N T σ r K:=rfl
theorem Zlh (k v m xs N T σ r K):ZuE none k v m xs N T σ r K=r { fr:=St.fr σ,hp:=(k,HB.row v m xs T) :: St.hp σ,n:=St.n σ,N:=St.N σ,gs:=St.gs σ } K:=rfl
theorem Zl3 (d k v m i L xs T σ r K c m' ys):Zpi d k v m i L xs T (SV.sl c m' ys) σ r K=ZcP (Nat.beq m m') (CPY d k v m i L xs ys T σ r K):=rfl
theorem Zjy (d k v m i L xs T σ r K):Zpi d k v m i L xs T (SV.v (Value.slice none 0 0)) σ r K=CPY d k v m i L xs [] T σ r K:=rfl
theorem ZlZ (d k v m i L xs T σ r K k' v'):Zpi d k v m i L xs T (SV.mr k' v') σ r K=ZcP (WW (Nat.beq k k') (Nat.beq v v')) (CPY d k v m i L xs xs T σ r K):=rfl
theorem Zkz (d k v m i L xs T σ r K k' v' m' i' l'):Zpi d k v m i L xs T (SV.ms k' v' m' i' l') σ r K=ZcP (WW (WW (Nat.beq k k') (Nat.beq v v')) (Nat.beq m m')) (i'+l'<=List.length xs/\CPY d k v m i L xs (List.take l' (List.drop i' xs)) T σ r K):=rfl
theorem Zvh (n m):lO (some m) n=m:=rfl
theorem ZvI (n):lO none n=n:=rfl
theorem Zlb (d m k v i lo s σ r K v' m' xs T):ZpM d m k v i lo (HB.row v' m' xs T) s σ r K=ZcP (WW (Nat.beq m m') (Nat.beq v v')) (Zpi d k v m i (lO lo (List.length xs)) xs T s σ r K):=rfl
theorem Zlc (d m sy σ r K k v):ZtS d m (SV.mr k v) sy σ r K=ZpM d m k v 0 none (lkh k (St.hp σ)) sy σ r K:=rfl
theorem ZmC (d m sy σ r K k v m' i l):ZtS d m (SV.ms k v m' i l) sy σ r K=ZcP (Nat.beq m m') (ZpM d m k v i (some l) (lkh k (St.hp σ)) sy σ r K):=rfl
theorem ZlI (g k v m xs d σ r K i j):ZtP g k v m xs (some i) (some j) d σ r K=SBM g i j k v m xs d σ r K:=rfl
theorem ZlF (g k v m xs d σ r K val):ZtP g k v m xs (some val) none d σ r K=False:=rfl
theorem Zoy (g k v m xs hi d σ r K):ZtP g k v m xs none hi d σ r K=False:=rfl
theorem ZkS (p):ZcP true p=p:=rfl
theorem ZmI (p):ZcP false p=False:=rfl
theorem Zj1 (g m ρ lo hi k v d σ r K v' m' xs T):Zwf g m ρ lo hi k v (HB.row v' m' xs T) d σ r K=ZcP (WW (Nat.beq m m') (Nat.beq v v')) (ZtP g k v m xs (Za5 0 ρ lo) (Za5 (↑(List.length xs)) ρ hi) d σ r K):=rfl
theorem ZmD (g m ρ lo hi d σ r K c m' xs):Zvq g m ρ lo hi (SV.sl c m' xs) d σ r K=bif Nat.beq m m' then ZtI g m xs (Za5 0 ρ lo) (Za5 (↑(List.length xs)) ρ hi) d σ r K else False:=rfl
theorem Zj9 (g m ρ lo hi d σ r K k v):Zvq g m ρ lo hi (SV.mr k v) d σ r K=Zwf g m ρ lo hi k v (lkh k (St.hp σ)) d σ r K:=rfl
theorem Znw (x x_1 x_2 x_3 x_4 x_5 x_6 x_7 x_8):verB false true x x_1 x_2 x_3 x_4 x_5 x_6 x_7 x_8=x_7 { fr:=(x,SV.mr x_1 x_2) :: St.fr x_6,hp:=(x_1,HB.row x_2 x_3 x_4 x_5) :: St.hp x_6,n:=St.n x_6,N:=St.N x_6,gs:=St.gs x_6 } x_8:=rfl
theorem Zkd (k v m xs T σ r K m_1):Zu1 (some m_1) k v m xs T σ r K=verB (Y2 m_1 (St.gs σ)) (Nat.blt m_1 (St.N σ)) m_1 k v m xs T σ r K:=rfl
theorem ZkK (k v m xs T σ r K):Zu1 none k v m xs T σ r K=False:=rfl
theorem Zou (b d k v m xs ys T σ r K):ZvQ true b d k v m xs ys T σ r K=APM b d k v m xs ys T σ r K:=rfl
theorem Zno (b d k v m xs ys T σ r K):ZvQ false b d k v m xs ys T σ r K=False:=rfl
theorem Zoc (b d k v m ys T σ r K v' m' xs T_1):Zwi b d k v m (HB.row v' m' xs T_1) ys T σ r K=ZvQ (WW (Nat.beq m m') (WW (Nat.beq v v') (Nat.beq T T_1))) b d k v m xs ys T σ r K:=rfl
theorem Zkb (b d m ys T σ r K k v):Zwd b d m (SV.mr k v) ys T σ r K=Zwi b d k v m (lkh k (St.hp σ)) ys T σ r K:=rfl
theorem Zki (b d m s T σ r K r_1):ZtE b d m s (some r_1) T σ r K=Zwd b d m s r_1 T σ r K:=rfl
theorem Zl2 (b d m s T σ r K):ZtE b d m s none T σ r K=False:=rfl
theorem ZmT (x x_1 x_2 x_3 x_4 x_5 x_6 x_7):ZtX true x x_1 x_2 x_3 x_4 x_5 x_6 x_7=x_6 { fr:=St.fr x_5,hp:=(x,HB.cells (Zr x_2 x_1 x_4) x_3) :: St.hp x_5,n:=St.n x_5,N:=St.N x_5,gs:=St.gs x_5 } x_7:=rfl
theorem ZkB (x x_1 x_2 x_3 x_4 x_5 x_6 x_7):ZtX false x x_1 x_2 x_3 x_4 x_5 x_6 x_7=False:=rfl
theorem ZqJ (k o m c σ r K l T):stC k o m (HB.cells l T) c σ r K=ZtX (Nat.ble (o+m) (List.length l)) k o l T c σ r K:=rfl
theorem ZjL (x x_1 x_2 x_3 x_4 x_5 x_6 x_7 x_8 x_9 x_10):ZtD true x x_1 x_2 x_3 x_4 x_5 x_6 x_7 x_8 x_9 x_10=STR x x_1 x_2 x_3 x_4 x_5 x_6 x_7 x_8 x_9 x_10:=rfl
theorem Zns (x x_1 x_2 x_3 x_4 x_5 x_6 x_7 x_8 x_9 x_10):ZtD false x x_1 x_2 x_3 x_4 x_5 x_6 x_7 x_8 x_9 x_10=False:=rfl
theorem Zqi (k v m' j o c σ r K v' m xs T):stR k v m' j o (HB.row v' m xs T) c σ r K=ZtD (WW (Nat.beq m' m) (Nat.beq v v')) v' xs j o k m' c T σ r K:=rfl
theorem Zqr (k v m' j o c σ r K v' m xs T o_1 m'_1 inn T'):stR k v m' j o (HB.rws v' m xs T o_1 m'_1 inn T') c σ r K=STW v' m xs T o_1 m'_1 inn T' v m' j o k c σ r K:=rfl
theorem ZpW (m c σ r K k o):stX (SV.p k o) m c σ r K=stC k o m (lkh k (St.hp σ)) c σ r K:=rfl
theorem ZpU (m c σ r K k v m' j o):stX (SV.pr k v m' j o) m c σ r K=stR k v m' j o (lkh k (St.hp σ)) c σ r K:=rfl
theorem Zem (x x_1 x_2 x_3 x_4 x_5):ZcJ true true x x_1 x_2 x_3 x_4 x_5=stX x x_1 x_2 x_3 x_4 x_5:=rfl
theorem Zfw (m x σ r K c_2):Zcw none (some c_2) m x σ r K=ZcJ (chk c_2 m) (Yz c_2) x m c_2 σ r K:=rfl
theorem ZsZ (P Y d σ r K x y m):stp P Y d (SI.st x y m) σ r K=Zcw d (Yi (rdG none (St.fr σ) y)) m (rdG none (St.fr σ) x) σ r K:=rfl
theorem ZrS (P Y d σ r K x m T):stp P Y d (SI.box x m T) σ r K=ZfN d (Yi (rdG none (St.fr σ) x)) T σ r K:=rfl
theorem ZpO (P Y d σ r K z T):stp P Y d (SI.alloc z T) σ r K=ZfN d (some (lit z)) T σ r K:=rfl
theorem ZrW (P Y d σ r K m b T x y):stp P Y d (SI.cln m b T x y) σ r K=ZoT b d m (Zi4 m (rdG none (St.fr σ) x)) (ZeI m (rdG none (St.fr σ) y)) T σ r K:=rfl
theorem ZsA (P Y d σ r K m b z T x):stp P Y d (SI.mks m b z T x) σ r K=Zup b d m z (rdG none (St.fr σ) x) T σ r K:=rfl
theorem Zsh (P Y d σ r K m x y):stp P Y d (SI.cpy m x y) σ r K=ZtS d m (rdG none (St.fr σ) x) (rdG none (St.fr σ) y) σ r K:=rfl
theorem Zr0 (P Y d σ r K m b T x y):stp P Y d (SI.appm m b T x y) σ r K=ZtE b d m (rdG none (St.fr σ) x) (ZeI m (rdG none (St.fr σ) y)) T σ r K:=rfl
theorem ZqL (P Y d σ r K f as):stp P Y d (SI.callm f as) σ r K=ZbS P f (V0 (rdG none (St.fr σ)) as) d σ r K:=rfl
theorem Zp6 (P Y d σ r K x as):stp P Y d (SI.calvm x as) σ r K=Ze5 P Y (rdG none (St.fr σ) x) (V0 (rdG none (St.fr σ)) as) d σ r K:=rfl
theorem Zof (P Y d σ r K x):stp P Y d (SI.isn x) σ r K=Zwe d (rdG none (St.fr σ) x) σ r K:=rfl
theorem ZlV (P Y d σ r K op ty):stp P Y d (SI.raw op ty) σ r K=RAW P d op ty σ r K:=rfl
theorem ZjB (P Y d σ r K op xs):stp P Y d (SI.rv op xs) σ r K = ∃ s,RBE P op xs σ s/\Ym d s none σ r K:=rfl
theorem Zkw (P Y d σ r K op x xs):stp P Y d (SI.rb op x xs) σ r K = ∃ k h1 s,rdG none (St.fr σ) x=SV.mp k/\WK (lkh k (St.hp σ)) h1/\RBB P op (x :: xs) k (lkh k (St.hp σ)) h1 σ s/\Ym d s none { fr:=St.fr σ,hp:=(k,h1) :: St.hp σ,n:=St.n σ,N:=St.N σ,gs:=St.gs σ } r K:=rfl
theorem Zgx (d σ r K):Zs2 d σ r K=Ym d (SV.v undef) none σ r K:=rfl
theorem ZvF (P Y j w d i σ r K b):gK P Y (SV.v (Value.bool b)) j w d i σ r K=GB P Y b j w d i σ r K:=rfl
theorem ZuG (P Y j w d i σ r K j_1 w_1 b):gK P Y (SV.gd j_1 w_1 (SV.v (Value.bool b))) j w d i σ r K=Yd P (some (j,w)) d i σ r K:=rfl
theorem Zr7 (P Y σ r K d i af):st1 P Y { d:=d,i:=i,g:=none,af:=af } σ r K=stp P Y d i σ r K:=rfl
theorem Zp0 (P Y σ r K d i j w af):st1 P Y { d:=d,i:=i,g:=some (j,w),af:=af } σ r K=gK P Y (lk j (St.fr σ)) j w d i σ r K:=rfl
theorem ZlU (f g σ K b):Zv8 (SV.v (Value.bool b)) f g σ K=BR b f g σ K:=rfl
theorem ZlX (k x y):Zt7 BinOp.quo k x y=IntKind.wrap k (Int.tdiv x y):=rfl
theorem Zrd (args N):st0 args N={ fr:=Wm 0 args,hp:=[],n:=0,N:=N,gs:=[] }:=rfl
theorem Zkh (ρ):V0 ρ []=[]:=rfl
theorem ZkO (ρ x_1 r):V0 ρ (x_1 :: r) = ρ x_1 :: V0 ρ r:=rfl
theorem Zng (g):ZaY g []=[]:=rfl
theorem ZkP (g s l):ZaY g (s :: l)=g s :: ZaY g l:=rfl
theorem Zmu (ρ m):ZfO ρ m []=some []:=rfl
theorem Zl7 (ρ m x_1 r):ZfO ρ m (x_1 :: r)=ZtK (Yi (ρ x_1)) m (ZfO ρ m r):=rfl
theorem Zld (hp):Zhh hp []=[]:=rfl
theorem ZoC (hp s l):Zhh hp (s :: l)=cvt hp s :: Zhh hp l:=rfl
theorem ZqO: lit []=[]:=rfl
theorem Ztx (x_1 r):lit (x_1 :: r)=SV.v x_1 :: lit r:=rfl
theorem Zsl: chk [] 0=true:=rfl
theorem ZrZ (head l n):chk (head :: l) (Nat.succ n)=chk l n:=rfl
theorem ZsB (x):nth [] x=none:=rfl
theorem ZpE (s tail):nth (s :: tail) 0=some s:=rfl
theorem ZqW (head l n):nth (head :: l) (Nat.succ n)=nth l n:=rfl
theorem Ze8 (head l c cs):Zr (head :: l) 0 (c :: cs)=c :: Zr l 0 cs:=rfl
theorem Zfi (x x_3 l o):Zr (x_3 :: l) (Nat.succ o) x=x_3 :: Zr l o x:=rfl
theorem Zk2 (o l t):ZtB o l t true=some ((o,l) :: t):=rfl
theorem Zlz (o l t):ZtB o l t false=none:=rfl
theorem Zkp (o m l t):ZtU o m (some l) (some t)=ZtB o l t (chk l m):=rfl
theorem Zli (ρ):Zl9 ρ []=some []:=rfl
theorem ZjE (ρ o m x_1 r):Zl9 ρ ((o,m,x_1) :: r)=ZtU o m (Yi (ρ x_1)) (Zl9 ρ r):=rfl
theorem Zrs (x):spl x []=x:=rfl
theorem ZsL (x o l r):spl x ((o,l) :: r)=spl (Zr x o l) r:=rfl
theorem Zk3 (z t):Zjl z (some t)=some (spl z t):=rfl
theorem ZnE (z):Zjl z none=none:=rfl
theorem ZjV (x):Wm x []=[]:=rfl
theorem Zm6 (x s l):Wm x (s :: l)=(x,s) :: Wm (x+1) l:=rfl
theorem ZqT (j w s):gdS (SV.gd j w s)=true:=rfl
theorem ZpG (x_1):gdS (SV.v x_1)=false:=rfl
theorem Zsv (k o):gdS (SV.p k o)=false:=rfl
theorem Zty (l):gdS (SV.agg l)=false:=rfl
theorem Zp3 (c m xs):gdS (SV.sl c m xs)=false:=rfl
theorem Zsd (k v):gdS (SV.mr k v)=false:=rfl
theorem ZsO (k v m i o):gdS (SV.pr k v m i o)=false:=rfl
theorem Zqt (k v m i l):gdS (SV.ms k v m i l)=false:=rfl
theorem Zrc (row o):gdS (SV.ps row o)=false:=rfl
theorem Zk4 (f caps):gdS (SV.cl f caps)=false:=rfl
theorem Zm3 (l):gdS (SV.tup l)=false:=rfl
theorem Zog (φ):gdS (SV.q φ)=false:=rfl
theorem Zlm (k):gdS (SV.mp k)=false:=rfl
theorem Zk7 (k):gdS (SV.yl k)=false:=rfl
theorem ZnK (T s):gdS (SV.ifc T s)=false:=rfl
theorem Zkv: gdS SV.any=false:=rfl
theorem ZqA (ρ k o):rnS ρ (SV.p k o)=SV.p (ρ k) o:=rfl
theorem Zsp (ρ k v):rnS ρ (SV.mr k v)=SV.mr (ρ k) v:=rfl
theorem ZpP (ρ k v m i o):rnS ρ (SV.pr k v m i o)=SV.pr (ρ k) v m i o:=rfl
theorem Zpy (ρ k v m i o):rnS ρ (SV.ms k v m i o)=SV.ms (ρ k) v m i o:=rfl
theorem Zrl (ρ k):rnS ρ (SV.mp k)=SV.mp (ρ k):=rfl
theorem Zso (ρ k):rnS ρ (SV.yl k)=SV.yl (ρ k):=rfl
theorem Zqs (ρ l):rnS ρ (SV.agg l)=SV.agg (rnL ρ l):=rfl
theorem Zrm (ρ l):rnS ρ (SV.tup l)=SV.tup (rnL ρ l):=rfl
theorem Zr9 (ρ f l):rnS ρ (SV.cl f l)=SV.cl f (rnL ρ l):=rfl
theorem Zj0 (ρ T s):rnS ρ (SV.ifc T s)=SV.ifc T (rnS ρ s):=rfl
theorem Zne (ρ x_1):rnS ρ (SV.v x_1)=SV.v x_1:=rfl
theorem Zos (ρ c m xs):rnS ρ (SV.sl c m xs)=SV.sl c m xs:=rfl
theorem Zke (ρ l o):rnS ρ (SV.ps l o)=SV.ps l o:=rfl
theorem Zml (ρ φ):rnS ρ (SV.q φ)=SV.q φ:=rfl
theorem Znn (ρ j w s):rnS ρ (SV.gd j w s)=SV.gd j w s:=rfl
theorem Zmv (ρ):rnS ρ SV.any=SV.any:=rfl
theorem Zqn (ρ):rnL ρ []=[]:=rfl
theorem Zsm (ρ s l):rnL ρ (s :: l)=rnS ρ s :: rnL ρ l:=rfl
theorem ZqV (ρ l T):rnH ρ (HB.cells l T)=HB.cells (rnL ρ l) T:=rfl
theorem Zsk (ρ v m xs T):rnH ρ (HB.row v m xs T)=HB.row v m xs T:=rfl
theorem Ztj (ρ φ):rnH ρ (HB.ob φ)=HB.ob φ:=rfl
theorem Zsw (ρ es c):rnH ρ (HB.map es c)=HB.map es c:=rfl
theorem ZpC (ρ km since seen last):rnH ρ (HB.it km since seen last)=HB.it (ρ km) since seen last:=rfl
theorem Zqg (ρ rec pd):rnH ρ (HB.lp rec pd)=HB.lp rec pd:=rfl
theorem Zq6 (ρ rec):rnH ρ (HB.lb rec)=HB.lb rec:=rfl
theorem Zs6 (ρ v m xs T o m' inn T'):rnH ρ (HB.rws v m xs T o m' inn T')=HB.rws v m xs T o m' inn T':=rfl
theorem Ztu (ρ):rnH ρ HB.gone=HB.gone:=rfl
theorem ZsP (ρ):rnP ρ []=[]:=rfl
theorem Ztw (ρ u s r):rnP ρ ((u,s) :: r)=(ρ u,rnH ρ s) :: rnP ρ r:=rfl
theorem ZiA (ρ):Zad ρ 0=[]:=rfl
theorem Zix (ρ j):Zad ρ (Nat.succ j)=(ρ j,HB.gone) :: Zad ρ j:=rfl
theorem Ztf (b x y):exB b x y=bif b then x else y:=rfl
theorem Ztk (res hp n d σ r K):cmK false res hp n d σ r K=Ym d res none { fr:=St.fr σ,hp:=hp,n:=n,N:=St.N σ,gs:=St.gs σ } r K:=rfl
theorem ZsU (res hp n d σ r K):cmK true res hp n d σ r K=K (Ex.pan res) { fr:=St.fr σ,hp:=hp,n:=n,N:=St.N σ,gs:=St.gs σ }:=rfl
theorem ZiI (P Y args d σ r K f caps):Ze5 P Y (SV.cl f caps) args d σ r K=ZbS P f (args ++ caps) d σ r K:=rfl
theorem Zie (P Y args d σ r K k):Ze5 P Y (SV.yl k) args d σ r K=YLD Y k args d σ r K:=rfl
theorem Zql (p T T2 s):mtI p T (SV.ifc T2 s)=(T2=T/\p s):=rfl
theorem ZsI (p l):mtO p (some l)=p l:=rfl
theorem ZqY (p):mtO p none=False:=rfl
theorem Zr8 (σ K hp n rec):itE σ K hp n (HB.lp rec none)=K Ex.n { fr:=St.fr σ,hp:=(St.n σ,HB.gone) :: hp,n:=n,N:=St.N σ,gs:=[] }:=rfl
theorem Zs5 (σ K hp n rec i):itE σ K hp n (HB.lp rec (some (Ex.ex i)))=K (Ex.ex i) { fr:=St.fr σ,hp:=(St.n σ,HB.gone) :: hp,n:=n,N:=St.N σ,gs:=[] }:=rfl
theorem ZqG (σ K hp n rec):itE σ K hp n (HB.lp rec (some Ex.ret))=K Ex.ret { fr:=St.fr σ,hp:=(St.n σ,HB.gone) :: hp,n:=n,N:=St.N σ,gs:=[] }:=rfl
theorem ZrR (σ K o):itP σ K o=match Ot.pn o with | false=>itE σ K (Ot.hp o) (Ot.n o) (lkh (St.n σ) (Ot.hp o)) | true=>K (Ex.pan (Ot.res o)) { fr:=St.fr σ,hp:=Ot.hp o,n:=Ot.n o,N:=St.N σ,gs:=[] }:=rfl
theorem ZmQ (rec r):ZoN rec (HB.lp r none)=(r=rec):=rfl
theorem ZkW (rec r):Zjn rec (HB.lb r)=(r=rec):=rfl
theorem ZqU (p ps s l):pmS (p :: ps) (s :: l)=(p,s) :: pmS ps l:=rfl
theorem Zk9: Zjt [] []=true:=rfl
theorem Zob (head l head_1 m):Zjt (head :: l) (head_1 :: m)=Zjt l m:=rfl
theorem ZfV (N):V3 N []=true:=rfl
theorem Zi0 (N j r):V3 N (j :: r)=bif Nat.blt j N then V3 N r else false:=rfl
theorem Ztp (p):rfB true p=p:=rfl
theorem Zto (p):rfB false p=False:=rfl
theorem ZpV (P asg body ps σ K f caps):rfK P asg body (SV.cl f caps) ps σ K=gs0 (St.gs σ) (rfB (V3 (St.N σ) ps) (RFUN P asg body f caps ps σ K)):=rfl
theorem ZoG (Yc hp n s):ZoS Yc hp n (some s)=Yc { pn:=false,res:=s,hp:=hp,n:=n }:=rfl
theorem ZlQ (Yc hp n):ZoS Yc hp n none=False:=rfl
theorem Zkq (x s):ZtV (some s) x=rvD s x:=rfl
theorem Zkl (x):ZtV none x=none:=rfl
theorem Zlg (σ):ZcN σ []=some []:=rfl
theorem ZjW (σ r rs):ZcN σ (r :: rs)=ZtV (rv1 σ r) (ZcN σ rs):=rfl
theorem ZmV (rs Yc x):ZdH rs Yc Ex.n x=ZoS Yc (St.hp x) (St.n x) (rvE (ZcN x rs)):=rfl
theorem Zlr (rs Yc x):ZdH rs Yc Ex.ret x=ZoS Yc (St.hp x) (St.n x) (rvE (ZcN x rs)):=rfl
theorem Zoe (rs Yc x s):ZdH rs Yc (Ex.pan s) x=Yc { pn:=true,res:=s,hp:=St.hp x,n:=St.n x }:=rfl
theorem ZkH (rs Yc x id):ZdH rs Yc (Ex.ex id) x=False:=rfl
theorem Zs7 (kl rec Φ x):bdE kl rec Φ Ex.n x=(Zjn rec (lkh kl (St.hp x))/\Φ { pn:=false,res:=SV.v (Value.bool true),hp:=(kl,HB.lp rec none) :: St.hp x,n:=St.n x }):=rfl
theorem ZpF (kl rec Φ x i):bdE kl rec Φ (Ex.ex i) x=(Zjn rec (lkh kl (St.hp x))/\Φ { pn:=false,res:=SV.v (Value.bool false),hp:=(kl,HB.lp rec (some (Ex.ex i))) :: St.hp x,n:=St.n x }):=rfl
theorem Zs1 (kl rec Φ x):bdE kl rec Φ Ex.ret x=(Zjn rec (lkh kl (St.hp x))/\Φ { pn:=false,res:=SV.v (Value.bool false),hp:=(kl,HB.lp rec (some Ex.ret)) :: St.hp x,n:=St.n x }):=rfl
theorem ZrY (kl rec Φ x s):bdE kl rec Φ (Ex.pan s) x = Φ { pn:=true,res:=s,hp:=St.hp x,n:=St.n x }:=rfl
theorem Zqf (kl rec body K x):asE kl rec body K Ex.n x=(ZoN rec (lkh kl (St.hp x))/\body { fr:=St.fr x,hp:=(kl,HB.lb rec) :: St.hp x,n:=St.n x,N:=St.N x,gs:=St.gs x } K):=rfl
theorem ZrJ (kl rec body K x i):asE kl rec body K (Ex.ex i) x=False:=rfl
theorem Zqk (kl rec body K x):asE kl rec body K Ex.ret x=False:=rfl
theorem Zqq (kl rec body K x s):asE kl rec body K (Ex.pan s) x=False:=rfl
theorem Zro (x):rho [] x=0:=rfl
theorem ZrB (a tail):rho (a :: tail) 0=a:=rfl
theorem ZrN (head l k):rho (head :: l) (Nat.succ k)=rho l k:=rfl
theorem Zr6 (ρ n' x):mtS ρ n' SV.any x=True:=rfl
theorem Zpp (ρ n' x k o):mtS ρ n' (SV.p k o) x=(k < n'/\x=SV.p (ρ k) o):=rfl
theorem Ztr (ρ n' x k v):mtS ρ n' (SV.mr k v) x=(k < n'/\x=SV.mr (ρ k) v):=rfl
theorem ZqP (ρ n' x k v m i o):mtS ρ n' (SV.pr k v m i o) x=(k < n'/\x=SV.pr (ρ k) v m i o):=rfl
theorem Ztc (ρ n' x k v m i o):mtS ρ n' (SV.ms k v m i o) x=(k < n'/\x=SV.ms (ρ k) v m i o):=rfl
theorem ZpN (ρ n' x l):mtS ρ n' (SV.agg l) x=mtO (mtL ρ n' l) (Ztz x):=rfl
theorem ZrU (ρ n' x l):mtS ρ n' (SV.tup l) x=mtO (mtL ρ n' l) (ZtJ x):=rfl
theorem ZsX (ρ n' x f l):mtS ρ n' (SV.cl f l) x=mtO (mtL ρ n' l) (clL f x):=rfl
theorem ZqZ (ρ n' x x_2):mtS ρ n' (SV.v x_2) x=(x=SV.v x_2):=rfl
theorem ZnI (ρ n' x c m xs):mtS ρ n' (SV.sl c m xs) x=(x=SV.sl c m xs/\KFR xs):=rfl
theorem Zop (ρ n' x l o):mtS ρ n' (SV.ps l o) x=(x=SV.ps l o/\KFL l):=rfl
theorem Zoo (ρ n' x k):mtS ρ n' (SV.mp k) x=(k < n'/\x=SV.mp (ρ k)):=rfl
theorem Zka (ρ n' x k):mtS ρ n' (SV.yl k) x=(k < n'/\x=SV.yl (ρ k)):=rfl
theorem Zn0 (ρ n' x T t):mtS ρ n' (SV.ifc T t) x=mtI (mtS ρ n' t) T x:=rfl
theorem ZkF (ρ n' x φ):mtS ρ n' (SV.q φ) x=(x=SV.q φ):=rfl
theorem ZlE (ρ n' x j w s):mtS ρ n' (SV.gd j w s) x=False:=rfl
theorem Zsa (ρ n' x):mtL ρ n' [] x=(x=[]):=rfl
theorem Zq9 (ρ n' x s l):mtL ρ n' (s :: l) x=mtB (mtS ρ n' s) (mtL ρ n' l) x:=rfl
theorem Zsg (ρ n' x):mtH ρ n' HB.gone x=True:=rfl
theorem Zsc (ρ n' l T l2 T2):mtH ρ n' (HB.cells l T) (HB.cells l2 T2)=(T2=T/\mtL ρ n' l l2):=rfl
theorem Zrj (ρ n' x v m xs T):mtH ρ n' (HB.row v m xs T) x=(x=HB.row v m xs T/\KFR xs):=rfl
theorem Zqw (ρ n' x φ):mtH ρ n' (HB.ob φ) x=(x=HB.ob φ):=rfl
theorem ZrF (ρ n' x es c):mtH ρ n' (HB.map es c) x=(x=HB.map es c/\∀ (e:Nat × Value × SV),e ∈ es->KF (Prod.snd (Prod.snd e))):=rfl
theorem Ztb (ρ n' x km a b c):mtH ρ n' (HB.it km a b c) x=(km < n'/\x=HB.it (ρ km) a b c):=rfl
theorem ZsT (ρ n' x r pd):mtH ρ n' (HB.lp r pd) x=(x=HB.lp r pd):=rfl
theorem Zss (ρ n' x r):mtH ρ n' (HB.lb r) x=(x=HB.lb r):=rfl
theorem Zp1 (ρ n' x v m xs T o m' inn T'):mtH ρ n' (HB.rws v m xs T o m' inn T') x=(x=HB.rws v m xs T o m' inn T'/\KFR xs/\∀ (r:List (List SV)),r ∈ inn->KFR r):=rfl
theorem Zoz (ρ n' l T v m xs T_1):mtH ρ n' (HB.cells l T) (HB.row v m xs T_1)=False:=rfl
theorem ZnZ (ρ n' l T φ):mtH ρ n' (HB.cells l T) (HB.ob φ)=False:=rfl
theorem ZmO (ρ n' l T es clk):mtH ρ n' (HB.cells l T) (HB.map es clk)=False:=rfl
theorem ZlB (ρ n' l T km since seen last):mtH ρ n' (HB.cells l T) (HB.it km since seen last)=False:=rfl
theorem ZmZ (ρ n' l T rec pd):mtH ρ n' (HB.cells l T) (HB.lp rec pd)=False:=rfl
theorem ZmU (ρ n' l T rec):mtH ρ n' (HB.cells l T) (HB.lb rec)=False:=rfl
theorem ZlH (ρ n' l T v m xs T_1 o m' inn T'):mtH ρ n' (HB.cells l T) (HB.rws v m xs T_1 o m' inn T')=False:=rfl
theorem Znp (ρ n' l T):mtH ρ n' (HB.cells l T) HB.gone=False:=rfl
theorem Zrh (p):mtM true p=True:=rfl
theorem Zqm (p):mtM false p=p:=rfl
theorem Zpt (ρ n' x x_1):mtF ρ n' x [] x_1=True:=rfl
theorem Ztl (ρ n' x x_1 t s r):mtF ρ n' x ((t,s) :: r) x_1=(mtM (Y2 t x) (mtS ρ n' s (lk t x_1))/\mtF ρ n' (t :: x) r x_1):=rfl
theorem Zpw (ρ hp' hp n'):mtP ρ hp' hp n' 0=True:=rfl
theorem Zrf (ρ hp' hp n' j):mtP ρ hp' hp n' (Nat.succ j)=(mtH ρ n' (lkh j hp') (lkh (ρ j) hp)/\mtP ρ hp' hp n' j):=rfl
theorem Zp8 (n'):hpb n' []=True:=rfl
theorem Zsb (n' u s r):hpb n' ((u,s) :: r)=(u < n'/\hpb n' r):=rfl
theorem Zra (a b):eqC 0 (SV.v (Value.bool a)) (SV.v (Value.bool b))=some (a == b):=rfl
theorem Ztv (k a j b):eqC 1 (SV.v (Value.int k a)) (SV.v (Value.int j b))=bif ZbL k j then some (a == b) else none:=rfl
theorem Zpu (a b):eqC 2 (SV.v (Value.string a)) (SV.v (Value.string b))=some (ByteArray.toList a == ByteArray.toList b):=rfl
theorem Zsx (a b):eqA (some a) (some b)=some (a && b):=rfl
theorem Zjv: Zex [] [] []=some true:=rfl
theorem Zk1 (c cs x_3 xs y ys):Zex (c :: cs) (x_3 :: xs) (y :: ys)=eqA (eqC c x_3 y) (Zex cs xs ys):=rfl
theorem Zj2 (cls a b):Zmz cls true (SV.agg a) (SV.agg b)=Zex cls a b:=rfl
theorem ZmL (cls a b):Zmz cls false (SV.v (Value.bool a)) (SV.v (Value.bool b))=some (a == b):=rfl
theorem ZpX (ng b):eqR ng (some b)=some (SV.v (Value.bool (ngB ng b))):=rfl
theorem Zrq (ng):eqR ng none=none:=rfl
theorem ZrH (x):ngB true x = !x:=rfl
theorem Zsz (x):ngB false x=x:=rfl
theorem Zko (m hp c m' xs):ZqQ m hp (SV.sl c m' xs)=Zfe xs (Nat.beq m m'):=rfl
theorem Zku (m hp):ZqQ m hp (SV.v (Value.slice none 0 0))=some []:=rfl
theorem Zm1 (m hp k v):ZqQ m hp (SV.mr k v)=ZfL m v (lkh k hp):=rfl
theorem ZmW (m m' xs):Zi4 m (SV.sl true m' xs)=Zfe xs (Nat.beq m m'):=rfl
theorem ZlJ (m):Zi4 m (SV.v (Value.slice none 0 0))=some []:=rfl
theorem ZjF (g m b d σ r K xs ys):ZtN g m b (some xs) (some ys) d σ r K=APP g m b xs ys d σ r K:=rfl
theorem Zlx (g m b d σ r K val):ZtN g m b (some val) none d σ r K=False:=rfl
theorem ZkE (g m b y d σ r K):ZtN g m b none y d σ r K=False:=rfl
theorem ZnQ (l):Ztz (SV.agg l)=some l:=rfl
theorem Zkc (l):ZtJ (SV.tup l)=some l:=rfl
theorem Zry (f f_1 caps):clL f (SV.cl f_1 caps)=bif Nat.beq f_1 f then some caps else none:=rfl
theorem Zqu (p q):mtB p q []=False:=rfl
theorem Zst (p q s l):mtB p q (s :: l)=(p s/\q l):=rfl
theorem ZgI (x x_1 x_2 x_3 x_4 x_5 x_6):ZjD false true x x_1 x_2 x_3 x_4 x_5 x_6=x_5 { fr:=(x,SV.mr (St.n x_4) 0) :: St.fr x_4,hp:=(St.n x_4,HB.row 0 x_1 x_2 x_3) :: St.hp x_4,n:=St.n x_4+1,N:=St.N x_4,gs:=St.gs x_4 } x_6:=rfl
theorem ZlD (m xs T σ r K m_1):Zmt (some m_1) m xs T σ r K=ZjD (Y2 m_1 (St.gs σ)) (Nat.blt m_1 (St.N σ)) m_1 m xs T σ r K:=rfl
theorem ZoF (m xs T σ r K):Zmt none m xs T σ r K=False:=rfl
theorem ZmH (b d m T σ r K ys):ZoT b d m (some []) (some ys) T σ r K=CLN b d m ys T σ r K:=rfl
theorem Zj3 (b d m y T σ r K head tail):ZoT b d m (some (head :: tail)) y T σ r K=False:=rfl
theorem Zn5 (b d m T σ r K):ZoT b d m (some []) none T σ r K=False:=rfl
theorem ZnC (b d m y T σ r K):ZoT b d m none y T σ r K=False:=rfl
theorem Zmx (b d m z T σ r K k n):Zup b d m z (SV.v (Value.int k n)) T σ r K=MKS b d m (lit z) n T σ r K:=rfl
theorem Zl1 (d σ r K c m xs):Zwe d (SV.sl c m xs) σ r K=ISN d xs σ r K:=rfl
theorem Zmr (g d σ r K c m xs k_2 n k_3 j):Zv7 g (SV.sl c m xs) (SV.v (Value.int k_2 n)) (SV.v (Value.int k_3 j)) d σ r K=SLC g n j m xs d σ r K:=rfl
theorem ZkZ (g m xs d σ r K i j):ZtI g m xs (some i) (some j) d σ r K=SUB g i j m xs d σ r K:=rfl
theorem ZlG (g m xs d σ r K val):ZtI g m xs (some val) none d σ r K=False:=rfl
theorem Zj7 (g m xs hi d σ r K):ZtI g m xs none hi d σ r K=False:=rfl
theorem Zlj (dflt ρ):Za5 dflt ρ none=some dflt:=rfl
theorem ZkT (dflt ρ x_1):Za5 dflt ρ (some x_1)=match ρ x_1 with | SV.v (Value.int k n)=>some n | x=>none:=rfl
theorem Zmi (m c m' xs):ZeI m (SV.sl c m' xs)=Zfe xs (Nat.beq m m'):=rfl
theorem Zm4 (m):ZeI m (SV.v (Value.slice none 0 0))=some []:=rfl
theorem Zok (x h j w):ZtC false (.v x) h j w=false:=rfl
theorem Zfl (x l):Zr (x :: l) 0 []=x :: l:=rfl
theorem Zfm:Zr [] 0 []=[]:=rfl
attribute [go_sem] Zmb ZkQ Zjw ZoA w64_0 w64_1 w64_2 w64_3 w64_4 w64_5 w64_6 e_stO ZvH Zp2 Zkf ZrO Zv0 Zk5 Zon Zqj Zm2 Zm7 ZnM ZuF ZrI Zux Zsf Zq4 phx_1 phx_2 phK_n Zqd Zt1 Zti ZuW Zlk Zpx ZrC Zpq Znd sx_gh ZoB Zp9 Zvg Zte Zoq ZvR Zl6 ZvY Zmm Zu5 Zsy Zlw lkB_t lkB_f ZvV Zui ZqX ZrM Zt4 ZvJ Zn7 Zq5 Zs3 Zva Zvx Zuh e_lk e_lk0 e_lkh Zvt ZvM ZsE e_blk Zf4 ZlL Ztq ZrV ZsS Zgd Zm9 Zga ZkM Ztm Zrr ZsM ZhT ZjS Zdq ZeR Zhb ZhN ZhP Zdl ZfD ZfH Zg7 ZkG ZmE Zmp ZeN Zf8 ZsH Zfr Zg9 ZjM ZnR ZjP ZeV Zgt Zet Zfx Zgl Zit Zmc Zky Zk0 ZnL Zkk ZmK ZeM Zfn Zi5 ZgV Zft ZhS Zmo Zox Zjz ZeW ZhU Zfv Zjh ZlM ZmX Zn1 ZeT ZiM Zc3 Zfb Zgo Zgk Zii Zfj Zh2 Zol ZsD Zqv Zqo Zh3 ZkU ZfG ZgT ZmJ Zmg Zmy Zfg ZgW ZfE ZiB Zez ZgP Zdk Ze3 Zhe ZhA Zgj Zds ZeZ ZcX ZcW e_yld e_exR e_hpM Zf7 ZcQ ZeQ Zhc ZhK Ziz ZeX ZgX Zth Zdi ZeG Zc7 ZeH Zbu ZaW Zb2 ZaX ZaL e_rdG Zu9 Zv1 Zua e_alw Zu6 e_vw1 e_vw2 e_vw3 e_vw4 ZmP ZnA Zu8 ZhQ ZhW ZfA Zfz Zfp ZfC Ze0 ZeY ZeK Ze2 Zes ZhB ZeU ZeF Zfy Ziu ZeP Zeu Ze6 ZjU Znk ZiU Zf0 Zh9 Zg5 ZlY Zl5 Zuo ZqN Zqz e_mm e_bld ZeC ZuI ZlR Zis ZjG ZkJ ZlC Zhq ZgG e_rvR Zv3 Zr4 ZpJ ZjZ Zfq Zc9 Zf5 Zj6 ZfB Ziw Zhn ZjK Zep ZfU Zgz Zgh Zjb ZhD Zna ZeL Zen ZgB ZeE Ziy e_rvs Znm Zh7 ZnW ZpR Zvy Zhf Zic ZhL Zg2 ZnU ZlS ZqB ZqH Zq1 ZpB Zre ZqI Zrt Zoh Zmk Zni Znc Zm0 ZlO ZnG Zmw Zkx Zot ZnH Znz ZsY Zsu ZqM Zq2 Zqe Zs8 ZsG Zrn Zqb Zpz Zr3 ZrP Zs9 ZkL Zly Zoj ZjT Zor ZmF Znj ZlT Zif ZhV ZlP ZmY ZiH ZgD ZpS Zs0 Zin Zha ZhY Zje Zj8 Zn6 ZgK Zn4 ZlK Zla ZnS ZjY Zle Zlo Zmd Zn9 Zma Zrv ZqC Zr2 Zq7 ZrT Zta ZsV ZsN ZnV Znq ZnF Zkj ZjX Zk8 Zlt ZlW ZkA Zlp Zn8 ZnJ Zmh Zm8 ZoE ZoD Zl4 ZjR Zn3 Zhj Zhs Zjg ZgQ ZgU Zjf Zid Zhw ZgZ ZiC ZgN ZhZ ZgR ZhC ZiE ZiP Zgi Zi7 Zhi Zio Zg6 ZiT Zgu Zht Zgc Zgf Zhr Zhm Zg4 ZkV Zll ZiF Zkt Zlh Zl3 Zjy ZlZ Zkz Zvh ZvI Zlb Zlc ZmC ZlI ZlF Zoy ZkS ZmI Zj1 ZmD Zj9 Znw Zkd ZkK Zou Zno Zoc Zkb Zki Zl2 ZmT ZkB ZqJ ZjL Zns Zqi Zqr ZpW ZpU Zem Zfw ZsZ ZrS ZpO ZrW ZsA Zsh Zr0 ZqL Zp6 Zof ZlV ZjB Zkw Zgx ZvF ZuG Zr7 Zp0 ZlU ZlX Zrd Zkh ZkO Zng ZkP Zmu Zl7 Zld ZoC ZqO Ztx Zsl ZrZ ZsB ZpE ZqW Ze8 Zfi Zk2 Zlz Zkp Zli ZjE Zrs ZsL Zk3 ZnE ZjV Zm6 ZqT ZpG Zsv Zty Zp3 Zsd ZsO Zqt Zrc Zk4 Zm3 Zog Zlm Zk7 ZnK Zkv ZqA Zsp ZpP Zpy Zrl Zso Zqs Zrm Zr9 Zj0 Zne Zos Zke Zml Znn Zmv Zqn Zsm ZqV Zsk Ztj Zsw ZpC Zqg Zq6 Zs6 Ztu ZsP Ztw ZiA Zix Ztf Ztk ZsU ZiI Zie Zql ZsI ZqY Zr8 Zs5 ZqG ZrR ZmQ ZkW ZqU Zk9 Zob ZfV Zi0 Ztp Zto ZpV ZoG ZlQ Zkq Zkl Zlg ZjW ZmV Zlr Zoe ZkH Zs7 ZpF Zs1 ZrY Zqf ZrJ Zqk Zqq Zro ZrB ZrN Zr6 Zpp Ztr ZqP Ztc ZpN ZrU ZsX ZqZ ZnI Zop Zoo Zka Zn0 ZkF ZlE Zsa Zq9 Zsg Zsc Zrj Zqw ZrF Ztb ZsT Zss Zp1 Zoz ZnZ ZmO ZlB ZmZ ZmU ZlH Znp Zrh Zqm Zpt Ztl Zpw Zrf Zp8 Zsb Zra Ztv Zpu Zsx Zjv Zk1 Zj2 ZmL ZpX Zrq ZrH Zsz Zko Zku Zm1 ZmW ZlJ ZjF Zlx ZkE ZnQ Zkc Zry Zqu Zst ZgI ZlD ZoF ZmH Zj3 Zn5 ZnC Zmx Zl1 Zmr ZkZ ZlG Zj7 Zlj ZkT Zmi Zm4 Zok Zfl Zfm List.drop List.take List.length List.cons_append List.nil_append Nat.beq Nat.blt Nat.ble Nat.zero_add Nat.add_zero Nat.mul_one Nat.zero_mul Nat.one_mul cond_true cond_false List.set
end Go.Sx
