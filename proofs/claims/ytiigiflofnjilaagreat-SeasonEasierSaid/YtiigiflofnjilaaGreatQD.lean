/- Walks and plain laws that lead to the given statement, part 4 of 9. -/
import Derived.Test.YtiigiflofnjilaaGreatQC
import Derived.MapKept
import Derived.WideKeyRuns
import Derived.Recover
set_option linter.all false
open Nat renaming reduceAdd->rA,reduceMul->rM,reduceSub->rS,beq_refl->nbr
namespace Go.Sx
open Go Go.RowKit
variable {Y:Hd}
section
variable (P:Program) (m:Nat) (σ : St) (K:Ex->St->Prop) (L:RK)
theorem ZzR:rx P Y [] σ L=L .n σ:=rfl
theorem Zt2 (io:Ins) (r:List Ins):rx P Y (io :: r) σ L=st1 P Y io σ (rx P Y r) L:=rfl
theorem ZAu (ops:List Ins):sx P Y m (.reg ops) σ K=rx P Y ops σ (Zc5 K):=rfl
theorem ZtN (ord:List Nat) (p:Ph) (ps:List Ph):sx P Y m (.regs ord p ps) σ K=phx P Y p ps σ (Zc5 K):=rfl
theorem phx_1 (vs:List VI) (nA nB:Nat) (rest:List Ins):phx P Y ⟨vs,nA,nB,rest⟩ [] σ L=gs0 σ.gs (rxv P Y (Zdj σ.hp (rx P Y rest)) vs σ L):=rfl
theorem phx_2 (vs:List VI) (nA nB:Nat) (rest:List Ins) (q:Ph) (ps:List Ph):phx P Y ⟨vs,nA,nB,rest⟩ (q :: ps) σ L=gs0 σ.gs (rxv P Y (Zdj σ.hp (rx P Y rest)) vs σ (phK (phx P Y q ps) L)):=rfl
theorem phK_n (f:St->RK->Prop):phK f L .n σ = f σ L:=rfl
theorem Zxx (ord:List Nat) (vs:List VI) (nA nB:Nat) (rest:List Ins):sx P Y m (.regd ord vs nA nB rest) σ K=gs0 σ.gs (rxv P Y (Zdj σ.hp (rx P Y rest)) vs σ (Zc5 K)):=rfl
theorem Zvj (r:KT):rxv P Y r [] σ L=r σ L:=rfl
theorem ZAd (r:KT) (io:Ins) (l:List VI):rxv P Y r (.op io :: l) σ L=st1 P Y io σ (rxv P Y r l) L:=rfl
theorem ZnU (r:KT) (x:X) (l:List VI):rxv P Y r (.hide x :: l) σ L=ZeW (rdG none σ.fr x) σ (rxv P Y r l) L:=rfl
theorem ZpC (hp:List (Nat × HB)) (r:KT):Zdj hp r σ L=r ⟨σ.fr,hp,σ.n,σ.N,σ.gs⟩ L:=rfl
theorem Zuz (k o:Nat) (r:KT):ZeW (.p k o) σ r L=r ⟨σ.fr,(k,.gone) :: σ.hp,σ.n,σ.N,σ.gs⟩ L:=rfl
theorem ZnG (k v:Nat) (r:KT):ZeW (.mr k v) σ r L=r ⟨σ.fr,(k,.gone) :: σ.hp,σ.n,σ.N,σ.gs⟩ L:=rfl
theorem Zpx (k v m i o:Nat) (r:KT):ZeW (.pr k v m i o) σ r L=r ⟨σ.fr,(k,.gone) :: σ.hp,σ.n,σ.N,σ.gs⟩ L:=rfl
theorem Zr3 (k v m i o:Nat) (r:KT):ZeW (.ms k v m i o) σ r L=r ⟨σ.fr,(k,.gone) :: σ.hp,σ.n,σ.N,σ.gs⟩ L:=rfl
theorem ZxI (p:Prop):gs0 [] p=p:=rfl
theorem Zzs (a b:SC):sx P Y m (.seq a b) σ K=sx P Y m a σ (Zxo (sx P Y m b) K):=rfl
theorem ZtO (c:X) (a b:SC):sx P Y m (.cond c a b) σ K=ZBh (rdG none σ.fr c) (sx P Y m a) (sx P Y m b) σ K:=rfl
theorem Zss (id:Nat) (c:SC):sx P Y m (.block id c) σ K=sx P Y m c σ (ZsC id K):=rfl
theorem Zw5 (c:SC):sx P Y m (.loop c) σ K=ZuF m (sx P Y m c) σ K:=rfl
theorem ZwT (id:Nat):sx P Y m (.exit id) σ K=K (.ex id) σ:=rfl
theorem ZAc:sx P Y m .ret σ K=K .ret σ:=rfl
theorem Zub:sx P Y m .skip σ K=K .n σ:=rfl
theorem ZpX (c:SC):sx P Y m (.scope c) σ K=sx P Y m c σ K:=rfl
theorem sx_gh (c:SC):sx P Y m (.gh c) σ K=GH m (sx P Y m c) σ K:=rfl
theorem Zqk (l:Nat):sx P Y m (.label l) σ K=K .n σ:=rfl
theorem Zya (e:Ex):Zc5 K e σ = K e (V2 σ):=rfl
theorem ZBc (f:CT):Zxo f K .n σ = f σ K:=rfl
theorem Zx2 (f:CT) (i:Nat):Zxo f K (.ex i) σ = K (.ex i) σ:=rfl
theorem ZpW (f:CT) (s:SV):Zxo f K (.pan s) σ = K (.pan s) σ:=rfl
theorem Zsn (f:CT):Zxo f K .ret σ = K .ret σ:=rfl
theorem ZAl (id:Nat):ZsC id K .n σ = K .n σ:=rfl
theorem Zrn (id:Nat) (s:SV):ZsC id K (.pan s) σ = K (.pan s) σ:=rfl
theorem Znm (id:Nat):ZsC id K .ret σ = K .ret σ:=rfl
theorem ZAA (rs:List RV) (res:SV):ZBw rs res .n σ = (rvR rs σ = some res):=rfl
theorem ZnE (rs:List RV) (res:SV):ZBw rs res .ret σ = (rvR rs σ = some res):=rfl
theorem ZA6 {S:Type} (st:S->St) (rel:S->Prop) (μ : S->Nat) (s:S):Zr5 m st rel μ s K .n σ = ∃ s',rel s'/\μ s' < μ s/\Ent m σ (st s'):=rfl
theorem Zyg {S:Type} (st:S->St) (rel:S->Prop) (μ : S->Nat) (s:S) (i:Nat):Zr5 m st rel μ s K (.ex i) σ = K (.ex i) σ:=rfl
theorem ZrE {S:Type} (st:S->St) (rel:S->Prop) (μ : S->Nat) (s:S) (x:SV):Zr5 m st rel μ s K (.pan x) σ = K (.pan x) σ:=rfl
theorem ZqU {S:Type} (st:S->St) (rel:S->Prop) (μ : S->Nat) (s:S):Zr5 m st rel μ s K .ret σ = K .ret σ:=rfl
end
section
variable {P:Program} {m:Nat} {σ : St} {K:Ex->St->Prop} {L:RK} {r:KT} {d:Option Nat} {g:Option (Nat × Bool)}
theorem br {b:Bool} {f h:CT} (h1:b=true->f σ K) (h2:b=false->h σ K):BR b f h σ K:=⟨h1,h2⟩
theorem Zu {b:Bool} {f h:CT} (hb:b=true) (h1:f σ K):BR b f h σ K:=⟨fun _=>h1,fun e=>by rw [hb] at e;cases e⟩
theorem Zx {b:Bool} {f h:CT} (hb:b=false) (h1:h σ K):BR b f h σ K:=⟨fun e=>by (rw [hb] at e;cases e),fun _=>h1⟩
theorem gb {b w:Bool} {j:Nat} {i:SI} (h:Yo P (some (j,w)) d i σ r L):GB P Y b j w d i σ r L:=.inr (.inr h)
theorem Y1 {b w:Bool} {j:Nat} {i:SI} (hb:b=w) (h:stp P Y d i σ r L):GB P Y b j w d i σ r L:=.inl ⟨hb,h⟩
theorem U7 {b w:Bool} {j:Nat} {i:SI} (hb:b≠w) (h:Zu9 d σ r L):GB P Y b j w d i σ r L:=.inr (.inl ⟨hb,h⟩)
theorem call {f:FuncId} {args:List SV} {res:SV} (h:Ct P f args res) (hk:Yw d res g σ r L):ZyA P g f args d σ r L:=⟨res,.inl (ZB.2 fun _=>h),hk⟩
theorem UF {f:FuncId} {args:List SV} {res:SV} (hf:FLT res) (h:Ct P f (Zcx (vw4 σ.hp) args) res) (hk:Yw d res g σ r L):ZyA P g f args d σ r L:=⟨res,.inr ⟨hf,ZB.2 fun _=>h⟩,hk⟩
theorem Zd2 {b:BinOp} {k:IntKind} {x y:Int} (h:y≠0) (hk:Yw d (.v (.int k (Zf2 b k x y))) g σ r L):DIV g b k x y d σ r L:=⟨ZB.2 fun _=>h,hk⟩
theorem ixs {xs:List (List SV)} {i:Int} (n:Nat) (row:List SV) (hi:i=(n:Int)) (hr:xs[n]? = some row) (hk:Yw d (.ps row 0) g σ r L):IXS g xs i d σ r L:=⟨row,ZB.2 fun _=>⟨n,hi,hr⟩,hk⟩
theorem Zr {α : Type} {l:List α} {f:α->List SV} {i:Int} (n:Nat) (hn:n < l.length) (hi:i=(n:Int)) (hk:Yw d (.ps (f l[n]) 0) g σ r L):IXS g (l.map f) i d σ r L :=
 ixs n _ hi (by simp [hn]) hk
theorem ixa {len:Nat} {i:Int} {F:Nat->Option SV} (n:Nat) (hi:i=(n:Int)) (hn:n < len) (hk:Wx (F n) d g σ r L):IXA g len i F d σ r L:=⟨n,ZB.2 fun _=>⟨hi,hn⟩,hk⟩
theorem loop {f:CT} {S:Type} (st:S->St) (rel:S->Prop) (μ : S->Nat) (s:S) (h0:rel s) (he:Ent m σ (st s)) (hb:∀ s,rel s->f (st s) (Zr5 m st rel μ s K)):ZuF m f σ K :=
 .inr ⟨S,st,rel,μ,⟨s,h0,he⟩,hb⟩
theorem Xw {f:CT} (n:Nat) (h:ZyG f K n σ):ZuF m f σ K:=.inl ⟨n,h⟩
theorem Zb {f:CT} (n:Nat):ZyG f K (n+1) σ = f σ (Zyu (ZyG f K n) K):=rfl
theorem ZAt (p:St->Prop):Zyu p K .n σ = p σ:=rfl
theorem Zxu (p:St->Prop) (i:Nat):Zyu p K (.ex i) σ = K (.ex i) σ:=rfl
theorem ZqG (p:St->Prop) (s:SV):Zyu p K (.pan s) σ = K (.pan s) σ:=rfl
theorem Zn9 (p:St->Prop):Zyu p K .ret σ = K .ret σ:=rfl
def Zys:List (Nat × SV)->List (Nat × SV)->Prop
 | [],_=>True
 | (t,s) :: r,fr=>lk t fr=s/\Zys r fr
def ZyC:List (Nat × SV)->Bool
 | []=>true
 | (_,.gd _ _ _) :: _=>false
 | _ :: r=>ZyC r
theorem Zjr:∀ {r fr:List (Nat × SV)},Zys r fr->∀ t,lk t r = .any\/lk t r=lk t fr
 | [],_,_,t=>.inl rfl
 | (u,s) :: r,fr,h,t=>by
  rw [ZI]
  by_cases ht:t=u
  . subst ht;rw [if_pos rfl];exact .inr h.1.symm
  . rw [if_neg ht];exact Zjr h.2 t
theorem Zfn:∀ {r:List (Nat × SV)},ZyC r=true->∀ t j b s,lk t r≠.gd j b s
 | [],_,t,j,b,s=>by simp [lk]
 | (u,s') :: r,h,t,j,b,s=>by
  rw [ZI]
  by_cases ht:t=u
  . rw [if_pos ht];rintro rfl;simp [ZyC] at h
  . rw [if_neg ht];exact Zfn (by cases s'<;>first | exact h | simp [ZyC] at h) t j b s
end
section
variable {w:World} {E:Env} {ok ok':Nat->Prop} {ρ : Nat->Nat} {n':Nat} {n:Nat->Prop}
theorem ent {σ σ':St} (ρ : Nat->Nat) (hf:mtF ρ σ'.n [] σ'.fr σ.fr) (hp:mtP ρ σ'.hp σ.hp σ'.n σ'.n) (hb:hpb σ'.n σ'.hp) (hρ : ∀ i,i < σ'.n->∀ j,j < σ'.n->ρ i = ρ j->i=j) (hN:Nat.beq σ'.N σ.N=true) {m0:Nat} (hm:Nat.ble m0 σ'.n=true) (hfix:∀ i,i < m0->ρ i=i):Ent m0 σ σ':=by
 intro C E a w hm0 h
 have hN:=Nat.eq_of_beq_eq_true hN
 have hgone:=ZdT hb
 have hH:=ZmL hp
 have hocc:∀ k b,occ (rnE E ρ) k (lkh k σ'.hp) b->k < σ'.n/\occ E (ρ k) (lkh (ρ k) σ.hp) b:=fun k b ho=>by
  by_cases hk:k < σ'.n
  . refine ⟨hk,?_⟩
    have:=hH k hk
    cases h1:lkh k σ'.hp<;>rw [h1] at ho this
    . cases h2:lkh (ρ k) σ.hp<;>rw [h2] at this<;>simp only [mtH] at this
      exact ho
    . simp only [mtH] at this;rw [this.1];exact ho
    . simp only [mtH] at this;rw [this];exact ho
    . simp only [mtH] at this;rw [this.1];exact ho
    . simp only [mtH] at this;rw [this.2];exact ho
    . simp only [mtH] at this;rw [this];exact ho
    . simp only [mtH] at this;rw [this];exact ho
    . simp only [mtH] at this;rw [this.1];exact ho
    . exact ho.elim
  . rw [hgone k hk] at ho;exact ho.elim
 have hst:ZE w w (okS C E σ.hp) (okS C (rnE E ρ) σ'.hp):=fun b hb _=>⟨⟨hb.1,fun k ho=>hb.2 _ (hocc k b ho).2⟩,rfl⟩
 refine ⟨rnE E ρ,fun t=>?_,by rw [hN];exact h.sz,Wa hst h.df,fun t j b s ht=>?_,⟨hgone,fun k=>?_,fun k k' b h1 h2=>?_,fun k b h1=>?_,h.hs.kp,fun k hk=>?_⟩⟩
 . rcases ZjH hf t rfl with h1 | h1
   . rw [h1];exact trivial
   . have:=mtS_R hst h1 (h.fr t)
     have hng:=Zdc h1
     cases hs:lk t σ'.fr<;>rw [hs] at this hng<;>first | exact this | exact absurd rfl (hng _ _ _)
 . rcases ZjH hf t rfl with h1 | h1
   . rw [h1] at ht;cases ht
   . exact absurd ht (Zdc h1 j b s)
 . by_cases hk:k < σ'.n
   . have:=hH k hk
     have hbk:=h.hs.bk (ρ k)
     cases h1:lkh k σ'.hp<;>rw [h1] at this
     . cases h2:lkh (ρ k) σ.hp<;>rw [h2] at this hbk<;>simp only [mtH] at this
       obtain ⟨rfl,this⟩:=this
       simp only [Z2] at hbk ⊢
       obtain ⟨cs,k1,k2⟩:=hbk
       exact ⟨cs,k1,ZbN hst _ _ _ this k2⟩
     . simp only [mtH] at this
       rw [this.1] at hbk
       simp only [Z2] at hbk ⊢
       obtain ⟨hi0,hbk⟩:=hbk
       refine ⟨hi0,?_⟩
       rcases hbk with q | ⟨b,cap,cs,q1,q2,q3,q4,q5,q6,q7⟩
       . exact .inl q
       . exact .inr ⟨b,cap,cs,q1,q2,q3,q4,q5,q6,ZJ hst (fun _ h=>Ele.rfl) (fun _ h=>h.elim) _ _ (Zci (E':=rnE E ρ) (n':=fun _=>False) _ _ (V0 this.2) q7)⟩
     . rename_i φ
       simp only [mtH] at this
       rw [this] at hbk
       simp only [Z2] at hbk ⊢
       obtain ⟨o,k1,k2⟩:=hbk
       exact ⟨o,k1,φ.mono _ _ _ _ _ hst k2⟩
     . simp only [mtH] at this
       obtain ⟨this,hkf⟩:=this
       rw [this] at hbk
       simp only [Z2] at hbk ⊢
       obtain ⟨ys,k1,k2⟩:=hbk
       exact ⟨ys,k1,Zqy hst _ _ hkf k2⟩
     . simp only [mtH] at this
       rw [this.2] at hbk
       simp only [Z2] at hbk ⊢
       exact ⟨this.1,hbk.2⟩
     . simp only [mtH] at this
       rw [this] at hbk
       simp only [Z2] at hbk ⊢
       exact hbk
     . simp only [mtH] at this
       rw [this] at hbk
       simp only [Z2] at hbk ⊢
       exact hbk
     . simp only [mtH] at this
       obtain ⟨this,k1,k2⟩:=this
       rw [this] at hbk
       exact Uh (E:=E) (k:=ρ k) (E':=rnE E ρ) hst.c (fun _ _=>rfl) rfl hk k1 k2 hbk
     . trivial
   . rw [hgone k hk];trivial
 . have e1:=hocc k b h1
   have e2:=hocc k' b h2
   exact hρ k e1.1 k' e2.1 (h.hs.dj _ _ b e1.2 e2.2)
 . obtain ⟨e1,e2⟩:=hocc k b h1
   rcases h.hs.lo _ b e2 with q | q
   . exact .inl q
   . have q1:=Nat.lt_of_lt_of_le (hm0.2 _ _ q) hm0.1
     have q2:ρ k=k:=hρ _ (Nat.lt_of_lt_of_le q1 (Nat.le_of_ble_eq_true hm)) k e1 (hfix _ q1)
     rw [q2] at q;exact .inr q
 . have hk':k < m0:=Nat.lt_of_lt_of_le hk hm0.1
   obtain ⟨p1,p2,p3,p4⟩:=h.hs.pin k hk
   exact ⟨Nat.lt_of_lt_of_le hk' (Nat.le_of_ble_eq_true hm),by simp only [rnE,hfix k hk'];exact p2,by simp only [rnE,hfix k hk'];exact p3,by simp only [rnE,hfix k hk'];exact p4⟩
end
theorem Zpp {ρ : Nat->Nat} {n':Nat}:∀ {s:SV},KF s->mtS ρ n' s s:=by
 intro s
 exact SV.rec (motive_1:=fun s=>KF s->mtS ρ n' s s) (motive_2:=fun l=>KFL l->mtL ρ n' l l) (motive_3:=fun _=>True)
  (fun x _=>by simp [mtS]) (fun k o h=>by simp [KF] at h) (fun l ih h=>by simp only [KF] at h;simp only [mtS,Zc6,mtO];exact ih h)
  (fun c m xs _ h=>by simp only [KF] at h;simp [mtS,h]) (fun k v h=>by simp [KF] at h) (fun k v m i o h=>by simp [KF] at h) (fun k v m i o h=>by simp [KF] at h)
  (fun l o _ h=>by simp only [KF] at h;simp [mtS,h]) (fun f l ih h=>by simp only [KF] at h;simp only [mtS,clL,nbr,cond_true,mtO];exact ih h)
  (fun l ih h=>by simp only [KF] at h;simp only [mtS,Zyq,mtO];exact ih h) (fun k h=>by simp [KF] at h) (fun k h=>by simp [KF] at h) (fun T s ih h=>by simp only [KF] at h;simp only [mtS,mtI];exact ⟨trivial,ih h⟩) (fun φ _=>by simp [mtS]) (fun j w s _ h=>by simp [KF] at h) (fun _=>by simp [mtS])
  (fun _=>by simp [mtL]) (fun s l h1 h2 h=>by simp only [KFL] at h;simp only [mtL,mtB];exact ⟨h1 h.1,h2 h.2⟩)
  trivial (fun _ _ _ _=>trivial) s
theorem Zc {ρ : Nat->Nat} {n':Nat}:∀ {l:List SV},KFL l->mtL ρ n' l l
 | [],_=>by simp [mtL]
 | s :: l,h=>by simp only [mtL,mtB];exact ⟨Zpp h.1,Zc h.2⟩
abbrev I (n:Int):SV:=.v (.int .i64 n)
abbrev B (b:Bool):SV:=.v (.bool b)
theorem Zf:∀ {xs ys:List (List SV)},KFR (xs ++ ys)↔KFR xs/\KFR ys
 | [],ys=>by simp [KFR]
 | x :: xs,ys=>by simp [KFR,Zf (xs:=xs) (ys:=ys),and_assoc]
theorem Za {α : Type} {f:α->List SV} {l:List α}:KFR (l.map f)↔∀ x ∈ l,KFL (f x):=by
 induction l with
 | nil=>simp [KFR]
 | cons x l ih=>simp [KFR,ih]
theorem Zi {n:Int} (h1:-9223372036854775808<=n) (h2:n<=9223372036854775807):IntKind.i64.wrap n=n:=IntWalk.i64_in n ⟨h1,h2⟩
def stO {S:Type} (σ : St) (ov:S->List (Nat × SV)) (hv:S->List (Nat × HB)) (s:S):St:=⟨ov s ++ σ.fr,hv s ++ σ.hp,σ.n,σ.N,[]⟩
theorem e_stO {S:Type} (fr:List (Nat × SV)) (hp:List (Nat × HB)) (n N:Nat) (gs:List Nat) (ov:S->List (Nat × SV)) (hv:S->List (Nat × HB)) (s:S):stO ⟨fr,hp,n,N,gs⟩ ov hv s=⟨ov s ++ fr,hv s ++ hp,n,N,[]⟩:=rfl
theorem Xu {m:Nat} {f:CT} {σ : St} {K:Ex->St->Prop} {S:Type} (ov:S->List (Nat × SV)) (hv:S->List (Nat × HB)) (rel:S->Prop) (μ : S->Nat) (s0:S) (h0:rel s0) (he:Ent m σ (stO σ ov hv s0))
 (hb:∀ s,rel s->f (stO σ ov hv s) (Zr5 m (stO σ ov hv) rel μ s K)):ZuF m f σ K :=
 loop (stO σ ov hv) rel μ s0 h0 he hb
theorem Zd5 {m:Nat} {f:CT} {σ σ1:St} {K:Ex->St->Prop} {S:Type} (hg:Ent m σ σ1) (ov:S->List (Nat × SV)) (hv:S->List (Nat × HB)) (rel:S->Prop) (μ : S->Nat) (s0:S) (h0:rel s0) (he:Ent m σ1 (stO σ1 ov hv s0))
 (hb:∀ s,rel s->f (stO σ1 ov hv s) (Zr5 m (stO σ1 ov hv) rel μ s K)):ZuF m f σ K :=
 loop (stO σ1 ov hv) rel μ s0 h0 (Yg hg he) hb
theorem gh {m:Nat} {r:CT} {σ σ1:St} {K:Ex->St->Prop} (hg:Ent m σ σ1) (h:r σ1 K):GH m r σ K:=⟨σ1,hg,h⟩
theorem Zz2 {C:Cx} {E:Env} {hp:List (Nat × HB)} {n:Nat->Prop} {w:World} {m k v m':Nat} {xs:List (List SV)} {T:TypeId} (hmc:MC C m) (hm:m<=k) (h:HSim C E hp n w) (hk:lkh k hp = .row v m' xs T) :
 (xs=[]/\∃ a,E.hv k v = .slice a 0 0)\/∃ b cap,E.hv k v = .slice (some ⟨b,0,none⟩) xs.length cap/\xs.length<=cap/\cap≠0/\xs.length<=9223372036854775807/\RR w E n (okS C E ((k,.gone) :: hp)) b m' xs 0:=by
 have hb:=h.bk k
 rw [hk] at hb;simp only [Z2] at hb
 rcases hb with ⟨_,h1 | ⟨b,cap,cs,h1,h2,h3,⟨h4,h4'⟩,h5,h6,h7⟩⟩
 . exact .inl h1
 . have hoc:occ E k (lkh k hp) b:=by rw [hk];exact ⟨_,_,h1,h4'⟩
   have hok:okS C E ((k,.gone) :: hp) b:=by
    refine ⟨?_,fun j ho=>?_⟩
    . rcases h.lo k b hoc with q | q
      . exact .inr q
      . have:=hmc.2 k b q;have:=hmc.1;omega
    . rw [Zp] at ho
      split at ho
      . exact ho.elim
      . exact absurd (h.dj j k b ho hoc).symm (by omega)
   exact .inr ⟨b,cap,h1,h4,h4',h5,WH (cs:=cs) (ok:=okS C E hp) hok (fun j c hj=>by rw [cell_of_row _ _ _ _ _ _ h2];simpa using hj) (UR h k).2 xs 0 h6 (by simpa using h7)⟩
theorem ZqK {m:Nat} {σ : St} (t k:Nat) (s:SV) (hg:σ.gs=[]) (hs:∀ j b u,s≠.gd j b u) (hR:∀ C E w y,MC C m->HSim C E σ.hp (ltn σ.n) w->R w E (ltn σ.n) (okS C E σ.hp) (lk t σ.fr) y->R w E (ltn σ.n) (okS C E ((k,.gone) :: σ.hp)) s y) :
 Ent m σ ⟨(t,s) :: σ.fr,(k,.gone) :: σ.hp,σ.n,σ.N,σ.gs⟩:=fun C E a w hmc h=>by
 obtain ⟨g1,g2⟩:=UR h.hs k
 have hR0:∀ u,R w E (ltn σ.n) (okS C E σ.hp) (lk u σ.fr) (a.tmps.getD u undef):=fun u=>ZvE (h.fr u) (fun j b u' e=>by have:=h.gs u j b u' e;rw [hg] at this;simp at this)
 refine ⟨E,fun u=>?_,h.sz,Wa g2 h.df,fun u j b s' hu=>?_,g1⟩
 . rw [ZI]
   split
   . rename_i hu;subst hu
     have:=hR C E w _ hmc h.hs (hR0 _)
     cases s<;>first | exact this | exact absurd rfl (hs _ _ _)
   . refine XB g2 (fun _ _=>Ele.rfl) (fun k hk=>hk) (fun j b s hs=>?_) (h.fr u)
     have:=h.gs u j b s hs;rw [hg] at this;simp at this
 . rw [ZI] at hu
   split at hu
   . exact absurd hu (hs _ _ _)
   . exact h.gs u j b s' hu
theorem Zbf {m:Nat} {σ : St} (t k v:Nat) {m':Nat} {xs:List (List SV)} {T:TypeId} (hm:Nat.ble m k=true) (hg:σ.gs=[]) (hl:lk t σ.fr = .mr k v) (hk:lkh k σ.hp = .row v m' xs T) :
 Ent m σ ⟨(t,.sl false m' xs) :: σ.fr,(k,.gone) :: σ.hp,σ.n,σ.N,σ.gs⟩ :=
 ZqK t k _ hg (fun _ _ _ e=>by cases e) fun C E w y hmc hh hR=>by
  rw [hl] at hR
  simp only [R] at hR ⊢
  rcases Zz2 hmc (Nat.le_of_ble_eq_true hm) hh hk with ⟨h1,a0,h2⟩ | ⟨b,cap,h1,h4,h4',h5,h7⟩
  . exact ⟨a0,0,0,by rw [hR.2.2.1,h2],by simp [h1],⟨Nat.le_refl _,fun h=>by cases h⟩,by simp [h1],.inl h1⟩
  . exact ⟨_,_,_,hR.2.2.1.trans h1,rfl,⟨h4,fun h=>by cases h⟩,h5,.inr ⟨b,0,rfl,h7⟩⟩
theorem ZlG {m:Nat} {σ : St} (k v:Nat) {mm:Nat} {xs:List (List SV)} {T:TypeId} (o m':Nat) (T':TypeId) (hg:σ.gs=[]) (hk:lkh k σ.hp = .row v mm xs T) :
 Ent m σ ⟨σ.fr,(k,.rws v mm xs T o m' [] T') :: σ.hp,σ.n,σ.N,σ.gs⟩:=fun C E a w hmc h=>by
 have hocc:∀ b,occ E k (.rws v mm xs T o m' [] T') b↔occ E k (lkh k σ.hp) b:=fun b=>by
  rw [hk];simp only [occ,Zh8,List.length_nil,Nat.le_zero]
  exact ⟨fun ⟨i,hi,h⟩=>by subst hi;exact h,fun h=>⟨0,rfl,h⟩⟩
 have hst:ZE w w (okS C E σ.hp) (okS C E ((k,.rws v mm xs T o m' [] T') :: σ.hp)):=fun b hb _=>⟨(ZgH hocc b).2 hb,rfl⟩
 have hH:HSim C E ((k,.rws v mm xs T o m' [] T') :: σ.hp) (ltn σ.n) w:=by
  have hkn:k < σ.n:=by
   rcases Classical.em (k < σ.n) with h' | h'
   . exact h'
   . have:=h.hs.kn k h';rw [hk] at this;cases this
  refine ⟨fun j hj=>?_,fun j=>?_,fun j j' b h1 h2=>h.hs.dj j j' b ((W8 hocc j b).1 h1) ((W8 hocc j' b).1 h2),fun j b h1=>h.hs.lo j b ((W8 hocc j b).1 h1),h.hs.kp,h.hs.pin⟩
  . rw [Zp,if_neg (by rintro rfl;exact hj hkn)];exact h.hs.kn j hj
  . rw [Zp]
    by_cases hj:j=k
    . subst hj;rw [if_pos rfl]
      have hb:=Yl (n:=ltn σ.n) (n':=ltn σ.n) hst (fun _ _=>Ele.rfl) (fun _ h=>h) (.inr (show ltn σ.n j from hkn)) (fun _ _=>rfl) rfl (h.hs.bk j)
      rw [hk] at hb;simp only [Z2] at hb ⊢
      refine ⟨hb.1,Nat.zero_le _,fun i m1 rows TT hr=>?_,fun i j b hi hj _ _=>by simp at hi hj;omega⟩
      cases i with
      | zero =>
       simp only [YB,Uc,List.length_nil,Option.some.injEq,Prod.mk.injEq] at hr
       obtain ⟨rfl,rfl,rfl⟩:=hr
       exact hb.2
      | succ i=>simp [YB] at hr
    . rw [if_neg hj]
      refine Yl hst (fun _ _=>Ele.rfl) (fun _ h=>h) ?_ (fun _ _=>rfl) rfl (h.hs.bk j)
      rcases Classical.em (j < σ.n) with h' | h'
      . exact .inr h'
      . exact .inl (h.hs.kn j h')
 exact ⟨E,Yi h hst (fun _ _=>Ele.rfl) (Nat.le_refl _) hH⟩
theorem Zgo {p:SV->SV->Prop} (hp:∀ s,p s s) {k o:Nat} {x:SV} {row:List SV} (hcell:row[o]? = some x):∀ {N u:Nat} {xs:List (List SV)},xs[N]? = some row->p x (.mr k (u+N)) ->
 F2 p (Uc k o u N xs).flatten (Uc k o u (N+1) (xs.set N (row.set o .any))).flatten
 | 0,u,[],h,_=>by simp at h
 | 0,u,r :: xs,h,hx=>by
  simp at h;subst h
  simp only [Uc,List.set_cons_zero,List.flatten_cons,List.set_set]
  exact Zd3 (ZfS hp hx hcell) (ZcP hp _)
 | N+1,u,[],h,_=>by simp at h
 | N+1,u,r :: xs,h,hx=>by
  simp only [Uc,List.set_cons_succ,List.flatten_cons]
  exact Zd3 (ZcP hp _) (Zgo hp hcell (by simpa using h) (by rw [show u+1+N=u+(N+1) from by omega];exact hx))
theorem ZkZ {m:Nat} {σ : St} (k q:Nat) {v mm vq o m':Nat} {xs:List (List SV)} {T T':TypeId} {inn:List (List (List SV))} {ys:List (List SV)} (row:List SV) (hm:Nat.ble m q=true) (hk:lkh k σ.hp = .rws v mm xs T o m' inn T') (hq:lkh q σ.hp = .row vq m' ys T')
 (hrow:xs[inn.length]? = some row) (hcell:row[o]? = some (.mr q vq)) :
 Ent m σ ⟨σ.fr,(k,.rws v mm (xs.set inn.length (row.set o .any)) T o m' (inn ++ [ys]) T') :: (q,.gone) :: σ.hp,σ.n,σ.N,σ.gs⟩:=fun C E a w hmc h=>by
 have hne:k≠q:=by rintro rfl;rw [hk] at hq;cases hq
 have hnk:∀ j,lkh j σ.hp≠.gone->j < σ.n:=fun j hj=>by
  rcases Classical.em (j < σ.n) with h' | h'
  . exact h'
  . exact absurd (h.hs.kn j h') hj
 have hkn:k < σ.n:=hnk k (by rw [hk];simp)
 have hqn:q < σ.n:=hnk q (by rw [hq];simp)
 have hbk:=h.hs.bk k
 have hbq:=h.hs.bk q
 rw [hk] at hbk;rw [hq] at hbq
 simp only [Z2] at hbk hbq
 obtain ⟨a1,a2,a3,a4⟩:=hbk
 obtain ⟨b1,b2⟩:=hbq
 have hNl:inn.length < xs.length:=(List.getElem?_eq_some_iff.1 hrow).1
 let E':Env:=⟨E.β,fun j u=>if j=k/\u=E.iss k then E.hv q vq else E.hv j u,fun j=>if j=k then E.iss k+1 else E.iss j⟩
 have hv0:∀ j u,u < E.iss j->E'.hv j u=E.hv j u:=fun j u hu=>by
  simp only [E'];rw [if_neg];rintro ⟨rfl,rfl⟩;omega
 have hvj:∀ j u,j≠k->E'.hv j u=E.hv j u:=fun j u hj=>by simp only [E'];rw [if_neg (fun e=>hj e.1)]
 have hvn:E'.hv k (v+(inn.length+1))=E.hv q vq:=if_pos ⟨rfl,by omega⟩
 have hik:E'.iss k=E.iss k+1:=if_pos rfl
 have hE:∀ j,Ele E E' j j:=fun j=>⟨rfl,by simp only [E'];split<;>(try subst j)<;>omega,fun u hu=>hv0 j u hu⟩
 let hp':List (Nat × HB):=(k,.rws v mm (xs.set inn.length (row.set o .any)) T o m' (inn ++ [ys]) T') :: (q,.gone) :: σ.hp
 have lk':lkh k hp' = .rws v mm (xs.set inn.length (row.set o .any)) T o m' (inn ++ [ys]) T':=by simp only [hp'];rw [Zp,if_pos rfl]
 have lq':lkh q hp' = .gone:=by simp only [hp'];rw [Zp,if_neg hne.symm,Zp,if_pos rfl]
 have lj':∀ j,j≠k->j≠q->lkh j hp'=lkh j σ.hp:=fun j h1 h2=>by simp only [hp'];rw [Zp,if_neg h1,Zp,if_neg h2]
 have hoq:∀ b,Zh8 (E.hv q vq) b->occ E q (lkh q σ.hp) b:=fun b hb=>by rw [hq];exact hb
 have hok:∀ i b,i<=inn.length->Zh8 (E.hv k (v+i)) b->occ E k (lkh k σ.hp) b:=fun i b hi hb=>by rw [hk];exact ⟨i,hi,hb⟩
 have hoc:∀ j b,occ E' j (lkh j hp') b->(j≠q/\occ E j (lkh j σ.hp) b)\/(j=k/\occ E q (lkh q σ.hp) b):=fun j b ho=>by
  by_cases h1:j=k
  . subst h1
    rw [lk'] at ho
    obtain ⟨i,hi,hb⟩:=ho
    simp only [List.length_append,List.length_cons,List.length_nil] at hi
    by_cases hi2:i=inn.length+1
    . subst hi2;rw [hvn] at hb;exact .inr ⟨rfl,hoq b hb⟩
    . rw [hv0 _ _ (by omega)] at hb;exact .inl ⟨hne,hok i b (by omega) hb⟩
  . by_cases h2:j=q
    . subst h2;rw [lq'] at ho;exact ho.elim
    . rw [lj' j h1 h2] at ho
      refine .inl ⟨h2,?_⟩
      cases hl:lkh j σ.hp<;>rw [hl] at ho<;>simp only [occ] at ho ⊢<;>first | exact ho | (simp only [hvj j _ h1] at ho;exact ho)
 have hoc2:∀ j b,occ E j (lkh j σ.hp) b->∃ j',occ E' j' (lkh j' hp') b:=fun j b ho=>by
  by_cases h1:j=k
  . subst h1
    rw [hk] at ho
    obtain ⟨i,hi,hb⟩:=ho
    exact ⟨j,by rw [lk'];exact ⟨i,by simp;omega,by rw [hv0 _ _ (by omega)];exact hb⟩⟩
  . by_cases h2:j=q
    . subst h2
      rw [hq] at ho
      exact ⟨k,by rw [lk'];exact ⟨inn.length+1,by simp,by rw [hvn];exact ho⟩⟩
    . refine ⟨j,?_⟩
      rw [lj' j h1 h2]
      cases hl:lkh j σ.hp<;>rw [hl] at ho<;>simp only [occ] at ho ⊢<;>first | exact ho | (simp only [hvj j _ h1];exact ho)
 have hst:ZE w w (okS C E σ.hp) (okS C E' hp'):=fun b hb _=>⟨⟨hb.1,fun j ho=>by
  rcases hoc j b ho with ⟨_,q⟩ | ⟨_,q⟩
  . exact hb.2 _ q
  . exact hb.2 _ q⟩,rfl⟩
 have mono:∀ j,Z2 w E' (ltn σ.n) (okS C E' hp') j (lkh j σ.hp)\/j=k:=fun j=>by
  by_cases h1:j=k
  . exact .inr h1
  . refine .inl (Yl hst (fun j _=>hE j) (fun _ h=>h) ?_ (fun _ _=>rfl) (by simp only [E'];rw [if_neg h1]) (h.hs.bk j))
    rcases Classical.em (j < σ.n) with h' | h'
    . exact .inr h'
    . exact .inl (h.hs.kn j h')
 have hH:HSim C E' hp' (ltn σ.n) w:=by
  refine ⟨fun j hj=>?_,fun j=>?_,fun j j' b h1 h2=>?_,fun j b h1=>?_,h.hs.kp,fun j hj=>⟨(h.hs.pin j hj).1,(h.hs.pin j hj).2.trans (hE j)⟩⟩
  . have e1:j≠k:=by rintro rfl;exact hj hkn
    have e2:j≠q:=by rintro rfl;exact hj hqn
    rw [lj' j e1 e2];exact h.hs.kn j hj
  . by_cases e1:j=k
    . subst e1
      rw [lk']
      simp only [Z2,List.length_append,List.length_cons,List.length_nil,List.length_set]
      refine ⟨by rw [hik];omega,by omega,fun i m1 rows TT hr=>?_,fun x y b hx hy e1 e2=>?_⟩
      . cases i with
        | zero =>
         simp only [YB,Option.some.injEq,Prod.mk.injEq,List.length_append,List.length_cons,List.length_nil] at hr
         obtain ⟨rfl,rfl,rfl⟩:=hr
         have h0:=a3 0 _ _ _ rfl
         rw [hv0 _ _ (by omega)]
         have hl1:=Xq j o (v+1) inn.length xs
         have hl2:(Uc j o (v+1) (inn.length+(0+1)) (xs.set inn.length (row.set o .any))).length=xs.length:=by rw [Xq];simp
         rcases h0 with ⟨q1,q2⟩ | ⟨b,cap,cs,q1,q2,q3,q4,q5,q6,q7⟩
         . have h9:=congrArg List.length q1;rw [hl1,List.length_nil] at h9;omega
         . rw [hl1] at q1 q4 q5 q7
           refine .inr ⟨b,cap,cs,by rw [hl2];exact q1,q2,q3,by rw [hl2];exact q4,by rw [hl2];exact q5,?_,?_⟩
           . refine Vv.2 fun r hr=>?_
             rcases List.mem_or_eq_of_mem_set hr with hr | rfl
             . exact Vv.1 q6 r hr
             . rw [List.length_set];exact Vv.1 q6 row (List.mem_of_getElem? hrow)
           . rw [hl2]
             refine Zak (Zgo (p:=fun s s'=>∀ y,R w E (ltn σ.n) (okS C E σ.hp) s y->R w E' (ltn σ.n) (okS C E' hp') s' y) (fun s y hy=>ZN hst.c (fun j _=>hE j) (fun _ h=>h) _ _ hy) hcell hrow fun y hy=>?_) q7
             simp only [R] at hy ⊢
             refine ⟨hkn,by rw [hik];omega,?_,hy.2.2.2⟩
             rw [show v+1+inn.length=v+(inn.length+1) from by omega,hvn];exact hy.2.2.1
        | succ i =>
         simp only [YB] at hr
         split at hr
         case h_2=>cases hr
         rename_i r hr1
         simp only [Option.some.injEq,Prod.mk.injEq] at hr
         obtain ⟨rfl,rfl,rfl⟩:=hr
         by_cases hi:i < inn.length
         . rw [List.getElem?_append_left hi] at hr1
           rw [hv0 _ _ (by omega)]
           exact (a3 (i+1) m' r T' (by simp only [YB,hr1])).mono hst.c (fun j _=>hE j) (fun _ h=>h) (fun _ _=>rfl)
         . have hi2:i=inn.length:=by have:=(List.getElem?_eq_some_iff.1 hr1).1;simp at this;omega
           subst hi2
           simp at hr1;subst hr1
           rw [hvn]
           exact ZsK.mono hst.c (fun j _=>hE j) (fun _ h=>h) (fun _ _=>rfl) b2
      . have key:∀ z,z<=inn.length+(0+1)->∀ b,Zh8 (E'.hv j (v+z)) b->(z<=inn.length/\Zh8 (E.hv j (v+z)) b)\/(z=inn.length+1/\Zh8 (E.hv q vq) b):=fun z hz b hb=>by
         by_cases h1:z=inn.length+1
         . subst h1;rw [hvn] at hb;exact .inr ⟨rfl,hb⟩
         . rw [hv0 _ _ (by omega)] at hb;exact .inl ⟨by omega,hb⟩
        rcases key x hx b e1 with ⟨x1,x2⟩ | ⟨x1,x2⟩<;>rcases key y hy b e2 with ⟨y1,y2⟩ | ⟨y1,y2⟩
        . exact a4 x y b x1 y1 x2 y2
        . exact absurd (h.hs.dj j q b (hok x b x1 x2) (hoq b y2)) hne
        . exact absurd (h.hs.dj j q b (hok y b y1 y2) (hoq b x2)) hne
        . omega
    . by_cases e2:j=q
      . subst e2;rw [lq'];trivial
      . rw [lj' j e1 e2]
        rcases mono j with h' | h'
        . exact h'
        . exact absurd h' e1
  . rcases hoc j b h1 with ⟨x1,x2⟩ | ⟨x1,x2⟩<;>rcases hoc j' b h2 with ⟨y1,y2⟩ | ⟨y1,y2⟩
    . exact h.hs.dj j j' b x2 y2
    . exact absurd (h.hs.dj j q b x2 y2) x1
    . exact absurd (h.hs.dj j' q b y2 x2) y1
    . rw [x1,y1]
  . rcases hoc j b h1 with ⟨x1,x2⟩ | ⟨x1,x2⟩
    . exact h.hs.lo j b x2
    . rcases h.hs.lo q b x2 with h' | h'
      . exact .inl h'
      . have h3:=hmc.2 q b h'
        have h4:=hmc.1
        have h5:=Nat.le_of_ble_eq_true hm
        omega
 exact ⟨E',Yi h hst (fun j _=>hE j) (Nat.le_refl _) hH⟩
theorem Us {m:Nat} {b:Bool} {s s':SV} {hp hp':List (Nat × HB)} {n n':Nat} (h:Ent m ⟨[(0,s)],hp,n,1,[]⟩ ⟨[(0,s')],hp',n',1,[]⟩) (hg:∀ j b u,s'≠.gd j b u):ZdV m ⟨b,s,hp,n⟩ ⟨b,s',hp',n'⟩:=by
 refine ⟨rfl,fun C E w y hm hH hR=>?_⟩
 have hng:=UO hR
 have hS:Sim C E ⟨[(0,s)],hp,n,1,[]⟩ { tmps:=#[y],defers:=C.ds } w:=by
  refine ⟨fun t=>?_,rfl,ZaF,fun t j b u ht=>?_,hH⟩
  . simp only [ZI]
    split
    . rename_i ht;subst ht
      show FR w E (ltn n) _ _ s y
      cases s<;>first | exact hR | exact absurd rfl (hng _ _ _)
    . exact trivial
  . simp only [ZI] at ht
    split at ht
    . exact absurd ht (hng _ _ _)
    . cases ht
 obtain ⟨E',h'⟩:=h C E _ w hm hS
 refine ⟨E',h'.hs,?_⟩
 have:=h'.fr 0
 exact ZvE this (fun j b u e=>hg j b u (by simpa [lk] using e))
theorem ZBt {m:Nat} {b:Bool} {s s':SV} {hp hp':List (Nat × HB)} {n n':Nat} (ρ : Nat->Nat) (hf:mtS ρ n' s' s) (hp0:mtP ρ hp' hp n' n') (hb:hpb n' hp') (hρ : ∀ i,i < n'->∀ j,j < n'->ρ i = ρ j->i=j) (hm:Nat.ble m n'=true) (hfix:∀ i,i < m->ρ i=i):ZdV m ⟨b,s,hp,n⟩ ⟨b,s',hp',n'⟩ :=
 Us (ent ρ (show mtF ρ n' [] [(0,s')] [(0,s)] from ⟨hf,trivial⟩) hp0 hb hρ rfl hm hfix) (Zdc hf)
theorem YG {m:Nat} {b:Bool} {s s':SV} {hp hp':List (Nat × HB)} {n n':Nat} (hf:mtS id n' s' s) (hp0:mtP id hp' hp n' n') (hb:hpb n' hp') (hm:Nat.ble m n'=true):ZdV m ⟨b,s,hp,n⟩ ⟨b,s',hp',n'⟩ :=
 ZBt id hf hp0 hb (fun _ _ _ _ h=>h) hm (fun _ _=>rfl)
theorem callm {P:Program} {f:FuncId} {args args0:List SV} {d:Option Nat} {σ : St} {r:KT} {K:RK} {hp0:List (Nat × HB)} {n0:Nat} {o:Ot} (ρ : Nat->Nat) (hc:CtM P f hp0 n0 args0 (· = o)) (h1:mtL ρ n0 args0 args) (h2:mtP ρ hp0 σ.hp n0 n0) (h3:ZBA ρ n0) (h4:∀ i,i < n0->ρ i < σ.n)
 (h5:cmK o.pn (rnS (exR ρ n0 σ.n) o.res) (hpM ρ n0 σ.n o σ.hp) (σ.n+(o.n - n0)) d σ r K):Zdk P f args d σ r K :=
 ⟨hp0,n0,args0,_,ρ,hc,h1,h2,h3,h4,fun _ e=>e ▸ h5⟩
def rho:List Nat->Nat->Nat
 | [],_=>0
 | a :: _,0=>a
 | _ :: l,k+1=>rho l k
theorem W0:∀ (l:List Nat) (k:Nat) (h:k < l.length),rho l k=l[k]
 | a :: _,0,_=>rfl
 | _ :: l,k+1,h=>by simpa [rho] using W0 l k (by simpa using h)
theorem V5 {P:Program} {f:FuncId} {args args0:List SV} {d:Option Nat} {σ : St} {r:KT} {K:RK} {hp0:List (Nat × HB)} {n0:Nat} {o:Ot} (l:List Nat) (hc:CtM P f hp0 n0 args0 (· = o)) (hn:Nat.beq l.length n0=true) (hi:ZaG l=true) (hl:Zah σ.n l=true)
 (h1:mtL (rho l) n0 args0 args) (h2:mtP (rho l) hp0 σ.hp n0 n0) (h5:cmK o.pn (rnS (exR (rho l) n0 σ.n) o.res) (hpM (rho l) n0 σ.n o σ.hp) (σ.n+(o.n - n0)) d σ r K):Zdk P f args d σ r K:=by
 have hn:=Nat.eq_of_beq_eq_true hn
 refine callm (rho l) hc h1 h2 (fun i hi' j hj e=>?_) (fun i hi'=>?_) h5
 . rw [W0 l i (by omega),W0 l j (by omega)] at e
   have hp:=List.pairwise_iff_getElem.1 (XI hi)
   rcases Nat.lt_trichotomy i j with h | h | h
   . exact absurd e (hp i j _ _ h)
   . exact h
   . exact absurd e.symm (hp j i _ _ h)
 . rw [W0 l i (by omega)];exact UK hl _ (List.getElem_mem _)
theorem Zk {m0:Nat} {σ σ':St} (hf:mtF id σ'.n [] σ'.fr σ.fr) (hp:mtP id σ'.hp σ.hp σ'.n σ'.n) (hb:hpb σ'.n σ'.hp) (hN:Nat.beq σ'.N σ.N=true) (hm:Nat.ble m0 σ'.n=true):Ent m0 σ σ':=ent id hf hp hb (fun _ _ _ _ h=>h) hN hm (fun _ _=>rfl)
theorem ZzY {fr:List (Nat × SV)} {j j':Nat} {w w' b:Bool} {p:Prop} (hl:lk j fr = .gd j' w' (.v (.bool b))) (h:b=w->p):Ze7 (some (j,w)) fr p:=fun hg=>h (by have:=(ZgW hg hl).2;simpa using this)
theorem imp_v {fr:List (Nat × SV)} {j:Nat} {w b:Bool} {p:Prop} (hl:lk j fr = .v (.bool b)) (h:b=w->p):Ze7 (some (j,w)) fr p:=fun hg=>h (Zzb hg hl)
theorem Ztb {xs:List (List SV)} {i:Int} {σ : St} {r:KT} {L:RK} {d:Option Nat} {j j':Nat} {w w' b:Bool} (n:Nat) (row:List SV) (hl:lk j σ.fr = .gd j' w' (.v (.bool b))) (h:b=w->i=(n:Int)/\xs[n]? = some row) (hk:Yw d (.ps row 0) (some (j,w)) σ r L) :
 IXS (some (j,w)) xs i d σ r L:=⟨row,ZzY hl fun e=>⟨n,(h e).1,(h e).2⟩,hk⟩
theorem Zm1 {g:Option (Nat × Bool)} {m b:Nat} {xs ys:List (List SV)} {d:Option Nat} {σ : St} {r:KT} {L:RK} (h:(xs.length+ys.length) * b<=140737488355328) (hk:Yw d (.sl false m (xs ++ ys)) g σ r L):APP g m b xs ys d σ r L:=⟨ZB.2 fun _=>h,hk⟩
theorem UA {g:Option (Nat × Bool)} {k v m len:Nat} {i:Int} {d:Option Nat} {σ : St} {r:KT} {L:RK} (n:Nat) (hi:i=(n:Int)) (hn:n < len) (hk:Yw d (.pr k v m n 0) g σ r L):IXR g k v m len i d σ r L:=⟨n,ZB.2 fun _=>⟨hi,hn⟩,hk⟩
theorem ZcE {α : Type} {l:List α} {f:α->List SV} {g:Option (Nat × Bool)} {i o m:Nat} {ag:Bool} {d:Option Nat} {σ : St} {r:KT} {L:RK} (hn:i < l.length) (hk:Wx (XU (f l[i]) o m ag) d g σ r L):LDR g (l.map f) i o m ag d σ r L:=⟨f l[i],ZB.2 fun _=>by simp [hn],hk⟩
theorem ZiI {α : Type} {l:List α} {f:α->List SV} {j o k v m:Nat} {c:List SV} {T:TypeId} {σ : St} {r:KT} {L:RK} (y:α) (hn:j < l.length) (ho:o+c.length<=(f l[j]).length) (he:Zs (f l[j]) o c=f y)
 (h:r ⟨σ.fr,(k,.row v m ((l.set j y).map f) T) :: σ.hp,σ.n,σ.N,σ.gs⟩ L):STR v (l.map f) j o k m c T σ r L :=
 ⟨f l[j],by simp [hn],ho,by rw [he,<- List.map_set];exact h⟩
theorem ZsH {k v m len:Nat} {i:Int} {d:Option Nat} {σ : St} {r:KT} {L:RK} {j:Nat} {w b:Bool} (n:Nat) (hl:lk j σ.fr = .v (.bool b)) (h:b=w->i=(n:Int)/\n < len) (hk:Yw d (.pr k v m n 0) (some (j,w)) σ r L):IXR (some (j,w)) k v m len i d σ r L:=⟨n,imp_v hl h,hk⟩
theorem Ut {r:List SV} (h:KFL r):∀ n,KFR (List.replicate n r)
 | 0=>trivial
 | n+1=>⟨h,Ut h n⟩
theorem Xd {P:Program} {f:FuncId} {args args0:List SV} {d:Option Nat} {σ : St} {r:KT} {K:RK} {hp0:List (Nat × HB)} {n0:Nat} {Z6:Ot->Prop} (l:List Nat) (hc:CtM P f hp0 n0 args0 Z6) (hn:Nat.beq l.length n0=true) (hi:ZaG l=true) (hl:Zah σ.n l=true)
 (h1:mtL (rho l) n0 args0 args) (h2:mtP (rho l) hp0 σ.hp n0 n0) (h5:∀ o,Z6 o->cmK o.pn (rnS (exR (rho l) n0 σ.n) o.res) (hpM (rho l) n0 σ.n o σ.hp) (σ.n+(o.n - n0)) d σ r K):Zdk P f args d σ r K:=by
 have hn:=Nat.eq_of_beq_eq_true hn
 refine ⟨hp0,n0,args0,Z6,rho l,hc,h1,h2,fun i hi' j hj e=>?_,fun i hi'=>?_,h5⟩
 . rw [W0 l i (by omega),W0 l j (by omega)] at e
   have hp:=List.pairwise_iff_getElem.1 (XI hi)
   rcases Nat.lt_trichotomy i j with h | h | h
   . exact absurd e (hp i j _ _ h)
   . exact h
   . exact absurd e.symm (hp j i _ _ h)
 . rw [W0 l i (by omega)]
   exact UK hl _ (List.getElem_mem _)
theorem Vx {P:Program} {d:Option Nat} {op:BinOp} {t t' ty u:Nat} {c x v:Value} {σ : St} {r:KT} {K:RK} (hl:lk u σ.fr = .v x) (hop:op = .and\/op = .shr) (hr:∀ w:World,(binOp op t x c).run P w = .ok v w) (hv:v.oneCell'=true) (hk:Yw d (.v v) none σ r K) :
 RAW P d (.binOp op t (.tmp u) (.const c) t') ty σ r K:=by
 intro o C E a w next Q h1 h2 h3 hs hn hq
 have hx:a.eval (.tmp u)=x:=by
  have:=hs.fr u
  rw [hl] at this
  simp only [FR,R] at this
  exact this
 have hrun:(execOp a.eval o).run P w = .ok (.value v) w:=by
  obtain ⟨dst,op',ty',pos,after,guard⟩:=o
  simp only at h2;subst h2
  have hc:a.eval (.const c)=c:=rfl
  simp only [execOp,hx,hc]
  rcases hop with rfl | rfl<;>simp [Sem.run_bind,eqGuard,hr]
 refine ZD hrun (by simp) ?_
 show next (a.put o.dst v) w
 rcases Zat hk with ⟨g1,g2⟩ | ⟨t,g1,g2,g3,g4,g5⟩
 . have hS:=hs
   rw [h1,g1]
   exact hn _ E _ _ g2 hS
 . rw [h1,g1]
   exact hn _ E _ _ g5 (XM hs (fun b hb _=>⟨hb,rfl⟩) (fun _ _=>Ele.rfl) (Nat.le_refl _) hs.hs g2 g3 (fun j b u e=>by rw [e] at g4;cases g4) (by simp only [R]))
theorem w64_0:IntKind.i64.wrap 0=0:=rfl
theorem w64_1:IntKind.i64.wrap 1=1:=rfl
theorem w64_2:IntKind.i64.wrap 2=2:=rfl
theorem w64_3:IntKind.i64.wrap 3=3:=rfl
theorem w64_4:IntKind.i64.wrap 4=4:=rfl
theorem w64_5:IntKind.i64.wrap 5=5:=rfl
theorem w64_6:IntKind.i64.wrap 6=6:=rfl
theorem UI {a b A B:Int} (h1:0<=a) (h2:a<=A) (h3:0<=b) (h4:b<=B):0<=a * b/\a * b<=A * B:=⟨Int.mul_nonneg h1 h3,Int.mul_le_mul h2 h4 h3 (by omega)⟩
def lkB (b:Bool) (s:SV) (t:Nat) (r:List (Nat × SV)):SV:=bif b then s else lk t r
def lkhB (b:Bool) (s:HB) (t:Nat) (r:List (Nat × HB)):HB:=bif b then s else lkh t r
def Zvh (b:Bool) (t:Nat) (r:List Nat):Bool:=bif b then true else Xy t r
def blkE (b:Bool) (i:Nat) (K:Ex->St->Prop) (σ : St):Prop:=bif b then K .n σ else K (.ex i) σ
def Zs6 (b:Bool) (s:SV):Option (List SV):=bif b then some [s] else none
def ZzJ (c:Bool) (b:BinOp) (k:IntKind) (x y:Int):Option SV:=bif c then ZgY b k x y else none
def Zwd (b:Bool) (l:List SV) (o m:Nat):Option SV:=bif b then some (.agg ((l.drop o).take m)) else none
theorem lkB_t (s:SV) (t:Nat) (r:List (Nat × SV)):lkB true s t r=s:=rfl
theorem lkB_f (s:SV) (t:Nat) (r:List (Nat × SV)):lkB false s t r=lk t r:=rfl
theorem ZyR (s:HB) (t:Nat) (r:List (Nat × HB)):lkhB true s t r=s:=rfl
theorem ZAs (s:HB) (t:Nat) (r:List (Nat × HB)):lkhB false s t r=lkh t r:=rfl
theorem ZtH (t:Nat) (r:List Nat):Zvh true t r=true:=rfl
theorem ZtU (t:Nat) (r:List Nat):Zvh false t r=Xy t r:=rfl
theorem ZyX (i:Nat) (K:Ex->St->Prop) (σ : St):blkE true i K σ = K .n σ:=rfl
theorem Zzw (i:Nat) (K:Ex->St->Prop) (σ : St):blkE false i K σ = K (.ex i) σ:=rfl
theorem ZqJ (s:SV):Zs6 true s=some [s]:=rfl
theorem Ztp (b:BinOp) (k:IntKind) (x y:Int):ZzJ true b k x y=ZgY b k x y:=rfl
theorem Zw0 (l:List SV) (o m:Nat):Zwd true l o m=some (.agg ((l.drop o).take m)):=rfl
def mmE (k:IntKind):Option Int->Option SV
 | some z=>some (.v (.int k z))
 | none=>none
def chkB (b:Bool) (l:List SV) (ls:List (List SV)):Option (List (List SV)):=bif b then some (l :: ls) else none
theorem ZyS (l:List SV) (ls:List (List SV)):chkB true l ls=some (l :: ls):=rfl
theorem ZAh (b:Bool):V3 true b=b:=rfl
theorem Zzu (b:Bool):V3 false b=false:=rfl
def vwP (g:SV->SV) (o:Nat):HB->SV
 | .cells l _=>.ps (Zcx g l) o
 | _=>.any
def vwM (v:Nat):HB->SV
 | .row v' m xs _=>vwN (Nat.beq v v') m xs
 | .rws v' m xs _ o m' inn _=>vwN (Nat.beq v v') m (ZbP o m' inn xs)
 | _=>.any
def cvtM (v:Nat):HB->SV
 | .row v' m xs _=>vwN (Nat.beq v v') m xs
 | _=>.any
def rvH (o m:Nat) (ag:Bool):HB->Option SV
 | .cells l _=>XU l o m ag
 | _=>none
def rvX (hp:List (Nat × HB)) (m:Nat) (ag:Bool):SV->Option SV
 | .p k o=>rvH o m ag (lkh k hp)
 | _=>none
def pvF (o m:Nat) (ag:Bool):SV->Option SV
 | .agg l=>XU l o m ag
 | _=>none
def pvC (k:IntKind):SV->Option SV
 | .v (.int _ n)=>some (.v (.int k (k.wrap n)))
 | _=>none
def pvE (i:Nat):SV->Option SV
 | .tup l=>nth l i
 | _=>none
theorem e_lk (t u:Nat) (s:SV) (r:List (Nat × SV)):lk t ((u,s) :: r)=lkB (Nat.beq t u) s t r:=rfl
theorem e_lk0 (t:Nat):lk t [] = .any:=rfl
theorem e_lkh (t u:Nat) (s:HB) (r:List (Nat × HB)):lkh t ((u,s) :: r)=lkhB (Nat.beq t u) s t r:=rfl
theorem ZAU (t:Nat):lkh t [] = .gone:=rfl
theorem ZA0 (t u:Nat) (r:List Nat):Xy t (u :: r)=Zvh (Nat.beq t u) t r:=rfl
theorem ZtX (t:Nat):Xy t []=false:=rfl
theorem e_blk (id i:Nat) (K:Ex->St->Prop) (σ : St):ZsC id K (.ex i) σ = blkE (Nat.beq i id) i K σ:=rfl
theorem Zl7 (g:Option (Nat × Bool)) (fr:List (Nat × SV)) (x:Value):Xv g fr (.v x)=(.v x):=rfl
theorem Zn7 (t:Nat) (r:List (Nat × SV)) (x:Value):YC ((t,(.v x)) :: r)=(t,(.v x)) :: YC r:=rfl
theorem Zup (hp:List (Nat × HB)) (x:Value):cvt hp (.v x)=(.v x):=rfl
theorem Zue (hp:List (Nat × HB)) (g:SV->SV) (x:Value):vwS hp g (.v x)=(.v x):=rfl
theorem Ztw (x:Value):vw0 (.v x)=(.v x):=rfl
theorem ZjX (x:Value):Yu (.v x)=Zs6 (ZiK x) (.v x):=rfl
theorem Zqa (x:Value):ZaT (.v x)=ZiK x:=rfl
theorem Zlb (g:Option (Nat × Bool)) (fr:List (Nat × SV)) (k o:Nat):Xv g fr (.p k o)=(.p k o):=rfl
theorem ZpT (t:Nat) (r:List (Nat × SV)) (k o:Nat):YC ((t,(.p k o)) :: r)=(t,(.p k o)) :: YC r:=rfl
theorem Zvs (hp:List (Nat × HB)) (k o:Nat):cvt hp (.p k o)=(.p k o):=rfl
theorem Zwz (hp:List (Nat × HB)) (g:SV->SV) (k o:Nat):vwS hp g (.p k o)=vwP g o (lkh k hp):=rfl
theorem ZvO (k o:Nat):vw0 (.p k o) = .any:=rfl
theorem ZkY (k o:Nat):Yu (.p k o)=some [(.p k o)]:=rfl
theorem ZoQ (k o:Nat):ZaT (.p k o)=true:=rfl
theorem Zfr (g:Option (Nat × Bool)) (fr:List (Nat × SV)) (l:List SV):Xv g fr (.agg l)=(.agg l):=rfl
theorem Zhs (t:Nat) (r:List (Nat × SV)) (l:List SV):YC ((t,(.agg l)) :: r)=(t,(.agg l)) :: YC r:=rfl
theorem ZjK (hp:List (Nat × HB)) (l:List SV):cvt hp (.agg l) = .agg (Zlx hp l):=rfl
theorem ZjL (hp:List (Nat × HB)) (g:SV->SV) (l:List SV):vwS hp g (.agg l) = .agg (Zcx g l):=rfl
theorem Zmz (l:List SV):vw0 (.agg l) = .any:=rfl
theorem ZfM (l:List SV):Yu (.agg l)=some l:=rfl
theorem Zh0 (l:List SV):ZaT (.agg l)=false:=rfl
theorem Zis (g:Option (Nat × Bool)) (fr:List (Nat × SV)) (c:Bool) (m:Nat) (xs:List (List SV)):Xv g fr (.sl c m xs)=(.sl c m xs):=rfl
theorem ZkG (t:Nat) (r:List (Nat × SV)) (c:Bool) (m:Nat) (xs:List (List SV)):YC ((t,(.sl c m xs)) :: r)=(t,(.sl c m xs)) :: YC r:=rfl
theorem Zqm (hp:List (Nat × HB)) (c:Bool) (m:Nat) (xs:List (List SV)):cvt hp (.sl c m xs)=(.sl c m xs):=rfl
theorem Zsh (hp:List (Nat × HB)) (g:SV->SV) (c:Bool) (m:Nat) (xs:List (List SV)):vwS hp g (.sl c m xs)=(.sl c m xs):=rfl
theorem Zne (c:Bool) (m:Nat) (xs:List (List SV)):vw0 (.sl c m xs)=(.sl c m xs):=rfl
theorem Zg1 (c:Bool) (m:Nat) (xs:List (List SV)):Yu (.sl c m xs)=some [(.sl c m xs)]:=rfl
theorem Zji (c:Bool) (m:Nat) (xs:List (List SV)):ZaT (.sl c m xs)=true:=rfl
theorem ZxQ (l:List SV):pmS [] l=[]:=rfl
theorem Zg6 (g:Option (Nat × Bool)) (fr:List (Nat × SV)) (k v:Nat):Xv g fr (.mr k v)=(.mr k v):=rfl
theorem Zjj (t:Nat) (r:List (Nat × SV)) (k v:Nat):YC ((t,(.mr k v)) :: r)=(t,(.mr k v)) :: YC r:=rfl
theorem ZnL (hp:List (Nat × HB)) (k v:Nat):cvt hp (.mr k v)=cvtM v (lkh k hp):=rfl
theorem Zq8 (hp:List (Nat × HB)) (g:SV->SV) (k v:Nat):vwS hp g (.mr k v)=vwM v (lkh k hp):=rfl
theorem ZpS (k v:Nat):vw0 (.mr k v) = .any:=rfl
theorem ZgX (k v:Nat):Yu (.mr k v)=some [(.mr k v)]:=rfl
theorem Zj0 (k v:Nat):ZaT (.mr k v)=true:=rfl
theorem Ziz (g:Option (Nat × Bool)) (fr:List (Nat × SV)) (k v m i o:Nat):Xv g fr (.pr k v m i o)=(.pr k v m i o):=rfl
theorem ZiD (g:Option (Nat × Bool)) (fr:List (Nat × SV)) (k v m i o:Nat):Xv g fr (.ms k v m i o)=(.ms k v m i o):=rfl
theorem ZjB (t:Nat) (r:List (Nat × SV)) (k v m i o:Nat):YC ((t,(.pr k v m i o)) :: r)=(t,(.pr k v m i o)) :: YC r:=rfl
theorem Zjk (t:Nat) (r:List (Nat × SV)) (k v m i o:Nat):YC ((t,(.ms k v m i o)) :: r)=(t,(.ms k v m i o)) :: YC r:=rfl
theorem Zru (hp:List (Nat × HB)) (k v m i o:Nat):cvt hp (.pr k v m i o)=(.pr k v m i o):=rfl
theorem Zos (hp:List (Nat × HB)) (k v m i o:Nat):cvt hp (.ms k v m i o)=(.ms k v m i o):=rfl
theorem Zow (hp:List (Nat × HB)) (g:SV->SV) (k v m i o:Nat):vwS hp g (.pr k v m i o)=(.pr k v m i o):=rfl
theorem ZnO (hp:List (Nat × HB)) (g:SV->SV) (k v m i o:Nat):vwS hp g (.ms k v m i o)=(.ms k v m i o):=rfl
theorem Zox (k v m i o:Nat):vw0 (.pr k v m i o) = .any:=rfl
theorem ZqP (k v m i o:Nat):vw0 (.ms k v m i o) = .any:=rfl
theorem Zhv (k v m i o:Nat):Yu (.pr k v m i o)=some [(.pr k v m i o)]:=rfl
theorem Zii (k v m i o:Nat):Yu (.ms k v m i o)=some [(.ms k v m i o)]:=rfl
theorem ZiX (k v m i o:Nat):ZaT (.pr k v m i o)=true:=rfl
theorem ZlJ (k v m i o:Nat):ZaT (.ms k v m i o)=true:=rfl
theorem Zin (g:Option (Nat × Bool)) (fr:List (Nat × SV)) (row:List SV) (o:Nat):Xv g fr (.ps row o)=(.ps row o):=rfl
theorem ZlN (t:Nat) (r:List (Nat × SV)) (row:List SV) (o:Nat):YC ((t,(.ps row o)) :: r)=(t,(.ps row o)) :: YC r:=rfl
theorem Zp2 (hp:List (Nat × HB)) (row:List SV) (o:Nat):cvt hp (.ps row o)=(.ps row o):=rfl
theorem Zpq (hp:List (Nat × HB)) (g:SV->SV) (l:List SV) (o:Nat):vwS hp g (.ps l o) = .ps (Zcx g l) o:=rfl
theorem ZpD (row:List SV) (o:Nat):vw0 (.ps row o) = .any:=rfl
theorem Zil (row:List SV) (o:Nat):Yu (.ps row o)=some [(.ps row o)]:=rfl
theorem Zl5 (row:List SV) (o:Nat):ZaT (.ps row o)=true:=rfl
theorem ZhO (g:Option (Nat × Bool)) (fr:List (Nat × SV)) (f:FuncId) (l:List SV):Xv g fr (.cl f l)=(.cl f l):=rfl
theorem Zll (t:Nat) (r:List (Nat × SV)) (f:FuncId) (l:List SV):YC ((t,(.cl f l)) :: r)=(t,(.cl f l)) :: YC r:=rfl
theorem Znt (hp:List (Nat × HB)) (f:FuncId) (l:List SV):cvt hp (.cl f l)=(.cl f l):=rfl
theorem Zqj (hp:List (Nat × HB)) (g:SV->SV) (f:FuncId) (l:List SV):vwS hp g (.cl f l) = .cl f (Zcx g l):=rfl
theorem ZpE (f:FuncId) (l:List SV):vw0 (.cl f l) = .any:=rfl
theorem Zg9 (f:FuncId) (l:List SV):Yu (.cl f l)=some [(.cl f l)]:=rfl
theorem ZlE (f:FuncId) (l:List SV):ZaT (.cl f l)=true:=rfl
theorem Zfc (g:Option (Nat × Bool)) (fr:List (Nat × SV)) (l:List SV):Xv g fr (.tup l)=(.tup l):=rfl
theorem Zhc (t:Nat) (r:List (Nat × SV)) (l:List SV):YC ((t,(.tup l)) :: r)=(t,(.tup l)) :: YC r:=rfl
theorem Zmb (hp:List (Nat × HB)) (l:List SV):cvt hp (.tup l) = .tup (Zlx hp l):=rfl
theorem ZlO (hp:List (Nat × HB)) (g:SV->SV) (l:List SV):vwS hp g (.tup l) = .tup (Zcx g l):=rfl
theorem Zk0 (l:List SV):vw0 (.tup l) = .any:=rfl
theorem Zhy (l:List SV):ZaT (.tup l)=false:=rfl
theorem ZkI (g:Option (Nat × Bool)) (fr:List (Nat × SV)) (φ : VP):Xv g fr (.q φ)=(.q φ):=rfl
theorem Zrt (t:Nat) (r:List (Nat × SV)) (φ : VP):YC ((t,(.q φ)) :: r)=(t,(.q φ)) :: YC r:=rfl
theorem Zvl (hp:List (Nat × HB)) (φ : VP):cvt hp (.q φ)=(.q φ):=rfl
theorem Zwv (hp:List (Nat × HB)) (g:SV->SV) (φ : VP):vwS hp g (.q φ)=(.q φ):=rfl
theorem ZvX (φ : VP):vw0 (.q φ)=(.q φ):=rfl
theorem ZjQ (φ : VP):Yu (.q φ)=some [(.q φ)]:=rfl
theorem Zpa (φ : VP):ZaT (.q φ)=true:=rfl
theorem Zit (g:Option (Nat × Bool)) (fr:List (Nat × SV)) (k:Nat):Xv g fr (.mp k)=(.mp k):=rfl
theorem ZjP (t:Nat) (r:List (Nat × SV)) (k:Nat):YC ((t,(.mp k)) :: r)=(t,(.mp k)) :: YC r:=rfl
theorem Zp3 (hp:List (Nat × HB)) (k:Nat):cvt hp (.mp k)=(.mp k):=rfl
theorem Zm8 (hp:List (Nat × HB)) (g:SV->SV) (k:Nat):vwS hp g (.mp k) = .any:=rfl
theorem ZqS (k:Nat):vw0 (.mp k) = .any:=rfl
theorem Zif (k:Nat):Yu (.mp k)=some [(.mp k)]:=rfl
theorem Zk7 (k:Nat):ZaT (.mp k)=true:=rfl
theorem Zhz (g:Option (Nat × Bool)) (fr:List (Nat × SV)) (k:Nat):Xv g fr (.yl k)=(.yl k):=rfl
theorem Zkc (t:Nat) (r:List (Nat × SV)) (k:Nat):YC ((t,(.yl k)) :: r)=(t,(.yl k)) :: YC r:=rfl
theorem Zhm (k:Nat):Yu (.yl k)=some [(.yl k)]:=rfl
theorem Zj5 (k:Nat):ZaT (.yl k)=true:=rfl
theorem Ze6 (g:Option (Nat × Bool)) (fr:List (Nat × SV)) (T:TypeId) (s:SV):Xv g fr (.ifc T s)=(.ifc T s):=rfl
theorem ZhG (t:Nat) (r:List (Nat × SV)) (T:TypeId) (s:SV):YC ((t,(.ifc T s)) :: r)=(t,(.ifc T s)) :: YC r:=rfl
theorem Zi7 (hp:List (Nat × HB)) (T:TypeId) (s:SV):cvt hp (.ifc T s) = .ifc T (cvt hp s):=rfl
theorem Zk1 (hp:List (Nat × HB)) (g:SV->SV) (T:TypeId) (s:SV):vwS hp g (.ifc T s) = .ifc T (g s):=rfl
theorem Zl8 (T:TypeId) (s:SV):vw0 (.ifc T s) = .any:=rfl
theorem ZfN (T:TypeId) (s:SV):Yu (.ifc T s)=some [(.ifc T s)]:=rfl
theorem Zik (T:TypeId) (s:SV):ZaT (.ifc T s)=true:=rfl
theorem ZfA (P:Program) (Y:Hd) (d:Option Nat) (σ : St) (r:KT) (K:RK) (f:FuncId) (as:List X):stp P Y d (.callm f as) σ r K=Zdk P f (Zaf (rdG none σ.fr) as) d σ r K:=rfl
theorem ZfK (P:Program) (Y:Hd) (d:Option Nat) (σ : St) (r:KT) (K:RK) (x:X) (as:List X):stp P Y d (.calvm x as) σ r K=ZhN P Y (rdG none σ.fr x) (Zaf (rdG none σ.fr) as) d σ r K:=rfl
theorem e_yld (asg body:Nat->CT) (ps:List Nat) (kl:Nat) (rec:Loop) (fr:List (Nat × SV)) (N k:Nat) (args:List SV) (d:Option Nat) (σ : St) (r:KT) (K:RK):YLD (hdR asg body ps kl rec fr N) k args d σ r K =
 rfB (Nat.beq k kl) (Zs0 rec (lkh kl σ.hp)/\rfB (ZmY args ps) (asg σ.n ⟨pmS ps args ++ fr,σ.hp,σ.n,N,[]⟩ (asE kl rec (body σ.n) (bdE kl rec fun o=>cmK o.pn o.res o.hp o.n d σ r K)))):=rfl
theorem e_exR (ρ : Nat->Nat) (n0 n k:Nat):exR ρ n0 n k=exB (Nat.blt k n0) (ρ k) (n+(k - n0)):=rfl
theorem e_hpM (ρ : Nat->Nat) (n0 n:Nat) (o:Ot) (hp:List (Nat × HB)):hpM ρ n0 n o hp=rnP (exR ρ n0 n) o.hp ++ (Zcc ρ n0 ++ hp):=rfl
theorem ZkX (P:Program) (Y:Hd) (m:Nat) (g:X) (ps:List Nat) (asg body:SC) (σ : St) (K:Ex->St->Prop):sx P Y m (.rfun g ps asg body) σ K=rfK P (fun n=>sx P Y0 n asg) (fun n=>sx P Y0 n body) (rdG none σ.fr g) ps σ K:=rfl
theorem Zfj (g:Option (Nat × Bool)) (fr:List (Nat × SV))  : Xv g fr (.any)=(.any):=rfl
theorem Zio (t:Nat) (r:List (Nat × SV))  : YC ((t,(.any)) :: r)=(t,(.any)) :: YC r:=rfl
theorem Zmu (hp:List (Nat × HB))  : cvt hp (.any)=(.any):=rfl
theorem Zj2 (hp:List (Nat × HB)) (g:SV->SV)  : vwS hp g (.any)=(.any):=rfl
theorem Zjn  : vw0 (.any) = .any:=rfl
theorem Zih  : ZaT (.any)=false:=rfl
theorem Zjl (t j:Nat) (w:Bool) (s:SV) (r:List (Nat × SV)):YC ((t,.gd j w s) :: r)=(t,.any) :: YC r:=rfl
theorem ZwN  : YC []=[]:=rfl
theorem Zfa (fr:List (Nat × SV)) (j:Nat) (w:Bool) (s:SV):Xv none fr (.gd j w s) = .any:=rfl
theorem Zhj (fr:List (Nat × SV)) (j j0:Nat) (w w0:Bool) (s:SV):Xv (some (j0,w0)) fr (.gd j w s)=ZfB (alw 8 fr j0 w0 j w) s:=rfl
theorem Zfb (b:Bool):ZiK (.bool b)=true:=rfl
theorem ZhC (k:IntKind) (n:Int):ZiK (.int k n)=true:=rfl
theorem ZdU (s:ByteArray):ZiK (.string s)=true:=rfl
theorem ZcD (p:Option Addr):ZiK (.pointer p)=true:=rfl
theorem Zep (a:Option Addr) (l c:Nat):ZiK (.slice a l c)=true:=rfl
theorem Zcv  : ZiK .nilFunc=true:=rfl
theorem Zbs  : ZiK .nilIface=true:=rfl
theorem e_rdG (g:Option (Nat × Bool)) (fr:List (Nat × SV)) (x:X):rdG g fr x=Xv g fr (rd fr x):=rfl
theorem ZyP (fr:List (Nat × SV)) (n:Nat):rd fr (.t n)=lk n fr:=rfl
theorem Zzy (fr:List (Nat × SV)) (x:Value):rd fr (.c x) = .v x:=rfl
theorem ZAe (fr:List (Nat × SV)) (i:Nat):rd fr (.f i) = .cl i []:=rfl
theorem e_alw (f:Nat) (fr:List (Nat × SV)) (j0:Nat) (w0:Bool) (j:Nat) (w:Bool):alw (f+1) fr j0 w0 j w=Zyi (ZhL (Nat.beq j0 j) w0 w) (lk j0 fr) (alw f fr) j w:=rfl
theorem ZzH (fr:List (Nat × SV)) (j0:Nat) (w0:Bool) (j:Nat) (w:Bool):alw 0 fr j0 w0 j w=false:=rfl
theorem e_vw1 (hp:List (Nat × HB)) (s:SV):vw1 hp s=vwS hp vw0 s:=rfl
theorem e_vw2 (hp:List (Nat × HB)) (s:SV):vw2 hp s=vwS hp (vw1 hp) s:=rfl
theorem e_vw3 (hp:List (Nat × HB)) (s:SV):vw3 hp s=vwS hp (vw2 hp) s:=rfl
theorem e_vw4 (hp:List (Nat × HB)) (s:SV):vw4 hp s=vwS hp (vw3 hp) s:=rfl
theorem Zpb (fr:List (Nat × SV)) (hp:List (Nat × HB)) (n N:Nat):V2 ⟨fr,hp,n,N,[]⟩=⟨fr,hp,n,N,[]⟩:=rfl
theorem ZnB (fr:List (Nat × SV)) (hp:List (Nat × HB)) (n N j:Nat) (l:List Nat):V2 ⟨fr,hp,n,N,j :: l⟩=⟨YC fr,hp,n,N,[]⟩:=rfl
theorem ZAa (b:BinOp) (k j:IntKind) (x y:Int):ZyE b (.v (.int k x)) (.v (.int j y))=ZzJ (ZdB k j) b k x y:=rfl
theorem Zkk (b:Bool):uni .not (.v (.bool b))=some (.v (.bool (!b))):=rfl
theorem Zkj (k:IntKind) (n:Int):uni .neg (.v (.int k n))=some (.v (.int k (k.wrap (0 - n)))):=rfl
theorem ZgV (k:IntKind) (x y:Int):ZgY .add k x y=some (.v (.int k (k.wrap (x+y)))):=rfl
theorem Zhg (k:IntKind) (x y:Int):ZgY .sub k x y=some (.v (.int k (k.wrap (x - y)))):=rfl
theorem Zg4 (k:IntKind) (x y:Int):ZgY .mul k x y=some (.v (.int k (k.wrap (x * y)))):=rfl
theorem Zh2 (k:IntKind) (x y:Int):ZgY .eql k x y=some (.v (.bool (x == y))):=rfl
theorem Zij (k:IntKind) (x y:Int):ZgY .neq k x y=some (.v (.bool (x != y))):=rfl
theorem Zhh (k:IntKind) (x y:Int):ZgY .lss k x y=some (.v (.bool (decide (x < y)))):=rfl
theorem ZhW (k:IntKind) (x y:Int):ZgY .leq k x y=some (.v (.bool (decide (x<=y)))):=rfl
theorem Ziu (k:IntKind) (x y:Int):ZgY .gtr k x y=some (.v (.bool (decide (x > y)))):=rfl
theorem Ziv (k:IntKind) (x y:Int):ZgY .geq k x y=some (.v (.bool (decide (x ≥ y)))):=rfl
theorem ZjC  : ZdB .i8 .i8=true:=rfl
theorem ZhF  : ZdB .i16 .i16=true:=rfl
theorem Ziw  : ZdB .i32 .i32=true:=rfl
theorem Zim  : ZdB .i64 .i64=true:=rfl
theorem Zlu  : ZdB .u8 .u8=true:=rfl
theorem ZhK  : ZdB .u16 .u16=true:=rfl
theorem ZhS  : ZdB .u32 .u32=true:=rfl
theorem Zig  : ZdB .u64 .u64=true:=rfl
theorem ZnX (o:Nat) (k q:Nat):UM o (.p k q)=some (.p k (q+o)):=rfl
theorem ZrQ (k q:Nat):Zee (.p k q)=some (.p k q):=rfl
theorem ZkO (o:Nat) (k v m i q:Nat):UM o (.pr k v m i q)=some (.pr k v m i (q+o)):=rfl
theorem Zjz (k v m i q:Nat):Zee (.pr k v m i q)=some (.pr k v m i q):=rfl
theorem Zkg (o:Nat) (row:List SV) (q:Nat):UM o (.ps row q)=some (.ps row (q+o)):=rfl
theorem ZjE (row:List SV) (q:Nat):Zee (.ps row q)=some (.ps row q):=rfl
theorem ZoD (l:List SV) (o m:Nat):XU l o m true=Zwd (Nat.ble (o+m) l.length) l o m:=rfl
theorem Zoj (l:List SV) (o m:Nat):XU l o m false=nth l o:=rfl
theorem ZAi (mx:Bool) (x:Int):mmf mx x []=some x:=rfl
theorem Zuy (k:IntKind) (x y:Int) (r:List SV):mmf true x (.v (.int k y) :: r)=mmf true (max x y) r:=rfl
theorem Zv4 (k:IntKind) (x y:Int) (r:List SV):mmf false x (.v (.int k y) :: r)=mmf false (min x y) r:=rfl
theorem e_mm (mx:Bool) (k:IntKind) (x:Int) (r:List SV):mmS mx (.v (.int k x) :: r)=mmE k (mmf mx x r):=rfl
theorem e_bld (ρ : X->SV) (z:List SV) (ps:List (Nat × Nat × X)):bld ρ z ps=Zm3 z (ZrM ρ ps):=rfl
theorem ZiA (ρ : X->SV) (z:List Value) (ps:List (Nat × Nat × X)):pv ρ (.build z ps)=Zz0 (bld ρ (lit z) ps):=rfl
theorem ZyQ (l:List SV) (m:Nat) (ls:List (List SV)):Zyk (some l) m (some ls)=chkB (chk l m) l ls:=rfl
theorem Zrk (s:SV) (l:List SV):Yv (s :: l)=V3 (ZaT s) (Yv l):=rfl
theorem Zk8  : Yv []=true:=rfl
theorem ZpH (fr:List (Nat × SV)) (g:Option (Nat × Bool)) (t:Nat) (b:X):Zhu fr g (.t t) (.c (.bool true)) b=ZgU (rdG g fr (.t t)) (rdG (some (t,false)) fr b):=rfl
theorem Zsw (fr:List (Nat × SV)) (g:Option (Nat × Bool)) (t n:Nat):Zhu fr g (.t t) (.t n) (.c (.bool false))=ZfX (rdG g fr (.t t)) (rdG (some (t,true)) fr (.t n)):=rfl
theorem Zpw (fr:List (Nat × SV)) (g:Option (Nat × Bool)) (t:Nat):Zhu fr g (.t t) (.c (.bool false)) (.c (.bool false))=ZfX (rdG g fr (.t t)) (rdG (some (t,true)) fr (.c (.bool false))):=rfl
theorem Zmr:ZfX (.v (.bool false)) (.v undef)=some (.v (.bool false)):=rfl
theorem ZlX:ZgU (.v (.bool true)) (.v undef)=some (.v (.bool true)):=rfl
theorem e_rvR (rs:List RV) (σ : St):rvR rs σ = rvE (rvs σ rs):=rfl
theorem Zzl (σ : St):rvs σ []=some []:=rfl
theorem Zt3 (σ : St) (t:Nat):rv1 σ (.tmp t)=some (rdG none σ.fr (.t t)):=rfl
theorem Zvy (σ : St) (t m:Nat) (ag:Bool):rv1 σ (.cell t m ag)=rvX σ.hp m ag (rdG none σ.fr (.t t)):=rfl
theorem ZpU (P:Program) (Y:Hd) (d:Option Nat) (σ : St) (r:KT) (K:RK) (x:X):stp P Y d (.mv x) σ r K=Yo P none d (.mv x) σ r K:=rfl
theorem ZhV (P:Program) (Y:Hd) (d:Option Nat) (σ : St) (r:KT) (K:RK) (c a b:X):stp P Y d (.pick c a b) σ r K=Yo P none d (.pick c a b) σ r K:=rfl
theorem ZfC (P:Program) (Y:Hd) (d:Option Nat) (σ : St) (r:KT) (K:RK) (z:List Value) (ps:List (Nat × Nat × X)):stp P Y d (.build z ps) σ r K=Yo P none d (.build z ps) σ r K:=rfl
theorem Zj8 (P:Program) (Y:Hd) (d:Option Nat) (σ : St) (r:KT) (K:RK) (m:Nat) (T:TypeId) (ps:List X):stp P Y d (.bsl m T ps) σ r K=Yo P none d (.bsl m T ps) σ r K:=rfl
theorem ZnD (P:Program) (Y:Hd) (d:Option Nat) (σ : St) (r:KT) (K:RK) (x:X) (m:Nat) (ag:Bool):stp P Y d (.ld x m ag) σ r K=Yo P none d (.ld x m ag) σ r K:=rfl
theorem ZhY (P:Program) (Y:Hd) (d:Option Nat) (σ : St) (r:KT) (K:RK) (x:X):stp P Y d (.nilc x) σ r K=Yo P none d (.nilc x) σ r K:=rfl
theorem ZkP (P:Program) (Y:Hd) (d:Option Nat) (σ : St) (r:KT) (K:RK) (b:BinOp) (x y:X):stp P Y d (.bin b x y) σ r K=Yo P none d (.bin b x y) σ r K:=rfl
theorem Zli (P:Program) (Y:Hd) (d:Option Nat) (σ : St) (r:KT) (K:RK) (b:BinOp) (x y:X):stp P Y d (.div b x y) σ r K=Yo P none d (.div b x y) σ r K:=rfl
theorem ZpF (P:Program) (Y:Hd) (d:Option Nat) (σ : St) (r:KT) (K:RK) (u:UnOp) (x:X):stp P Y d (.un u x) σ r K=Yo P none d (.un u x) σ r K:=rfl
theorem Zg7 (P:Program) (Y:Hd) (d:Option Nat) (σ : St) (r:KT) (K:RK) (x:X) (o:Nat):stp P Y d (.addo x o) σ r K=Yo P none d (.addo x o) σ r K:=rfl
theorem Zjb (P:Program) (Y:Hd) (d:Option Nat) (σ : St) (r:KT) (K:RK) (x:X) (o m:Nat) (ag:Bool):stp P Y d (.fld x o m ag) σ r K=Yo P none d (.fld x o m ag) σ r K:=rfl
theorem ZmI (P:Program) (Y:Hd) (d:Option Nat) (σ : St) (r:KT) (K:RK) (x i:X) (len m:Nat) (ag:Bool):stp P Y d (.idx x i len m ag) σ r K=Yo P none d (.idx x i len m ag) σ r K:=rfl
theorem ZjJ (P:Program) (Y:Hd) (d:Option Nat) (σ : St) (r:KT) (K:RK) (x i:X) (len m:Nat):stp P Y d (.ixa x i len m) σ r K=Yo P none d (.ixa x i len m) σ r K:=rfl
theorem Zmh (P:Program) (Y:Hd) (d:Option Nat) (σ : St) (r:KT) (K:RK) (x i:X) (m:Nat):stp P Y d (.ixs x i m) σ r K=Yo P none d (.ixs x i m) σ r K:=rfl
theorem Zme (P:Program) (Y:Hd) (d:Option Nat) (σ : St) (r:KT) (K:RK) (x:X):stp P Y d (.len x) σ r K=Yo P none d (.len x) σ r K:=rfl
theorem Zqs (P:Program) (Y:Hd) (d:Option Nat) (σ : St) (r:KT) (K:RK) (mx:Bool) (xs:List X):stp P Y d (.mm mx xs) σ r K=Yo P none d (.mm mx xs) σ r K:=rfl
theorem Zhn (P:Program) (Y:Hd) (d:Option Nat) (σ : St) (r:KT) (K:RK) (f:FuncId) (as:List X):stp P Y d (.call f as) σ r K=Yo P none d (.call f as) σ r K:=rfl
theorem Zg2 (P:Program) (Y:Hd) (d:Option Nat) (σ : St) (r:KT) (K:RK) (x:X) (as:List X):stp P Y d (.calv x as) σ r K=Yo P none d (.calv x as) σ r K:=rfl
theorem ZmO (P:Program) (Y:Hd) (d:Option Nat) (σ : St) (r:KT) (K:RK) (f:FuncId) (cs:List X):stp P Y d (.mkf f cs) σ r K=Yo P none d (.mkf f cs) σ r K:=rfl
theorem ZhT (P:Program) (Y:Hd) (d:Option Nat) (σ : St) (r:KT) (K:RK) (k:IntKind) (x:X):stp P Y d (.conv k x) σ r K=Yo P none d (.conv k x) σ r K:=rfl
theorem ZlS (P:Program) (Y:Hd) (d:Option Nat) (σ : St) (r:KT) (K:RK) (x:X) (i:Nat):stp P Y d (.ext x i) σ r K=Yo P none d (.ext x i) σ r K:=rfl
theorem e_rvs (σ : St) (r:RV) (rs:List RV):rvs σ (r :: rs)=rvC σ.hp (rv1 σ r) (rvs σ rs):=rfl
theorem ZnY (ρ : X->SV) (x:X) (o m:Nat) (ag:Bool):pv ρ (.fld x o m ag)=pvF o m ag (ρ x):=rfl
theorem Zlo (ρ : X->SV) (k:IntKind) (x:X):pv ρ (.conv k x)=pvC k (ρ x):=rfl
theorem ZrP (ρ : X->SV) (x:X) (i:Nat):pv ρ (.ext x i)=pvE i (ρ x):=rfl
theorem Zx9 (fr:List (Nat × SV)):Zys [] fr=True:=rfl
theorem ZBb (t:Nat) (s:SV) (r fr:List (Nat × SV)):Zys ((t,s) :: r) fr=(lk t fr=s/\Zys r fr):=rfl
theorem ZlQ (P:Program) (Y:Hd) (d:Option Nat) (σ : St) (r:KT) (K:RK) (ng ag:Bool) (cls:List Nat) (x y:X):stp P Y d (.eqs ng ag cls x y) σ r K=Yo P none d (.eqs ng ag cls x y) σ r K:=rfl
theorem Zkt (P:Program) (Y:Hd) (d:Option Nat) (σ : St) (r:KT) (K:RK) (x h k:X):stp P Y d (.slc x h k) σ r K=Yo P none d (.slc x h k) σ r K:=rfl
theorem Zkb (P:Program) (Y:Hd) (d:Option Nat) (σ : St) (r:KT) (K:RK) (m:Nat) (x:X) (lo hi:Option X):stp P Y d (.sub m x lo hi) σ r K=Yo P none d (.sub m x lo hi) σ r K:=rfl
theorem ZmM (P:Program) (Y:Hd) (d:Option Nat) (σ : St) (r:KT) (K:RK) (m b:Nat) (T:TypeId) (x y:X):stp P Y d (.app m b T x y) σ r K=Yo P none d (.app m b T x y) σ r K:=rfl
theorem Zqz (l):Zz0 (some l)=some (SV.agg l):=rfl
theorem ZqO: Zz0 none=none:=rfl
theorem ZvQ (k z):mmE k (some z)=some (SV.v (Value.int k z)):=rfl
theorem Zyb (k):mmE k none=none:=rfl
theorem Zw3 (g o l T):vwP g o (HB.cells l T)=SV.ps (Zcx g l) o:=rfl
theorem Zv8 (m a):vwN true m a=SV.sl false m a:=rfl
theorem ZuT (m a):vwN false m a=SV.any:=rfl
theorem Zwk (v a m b T):vwM v (HB.row a m b T)=vwN (Nat.beq v a) m b:=rfl
theorem Zvm (v a m b T o c d e):vwM v (HB.rws a m b T o c d e)=vwN (Nat.beq v a) m (ZbP o c d b):=rfl
theorem Zr1 (v a m b T):cvtM v (HB.row a m b T)=vwN (Nat.beq v a) m b:=rfl
theorem Zrz (m v a b c T):ZiM m v (HB.row a b c T)=Zh9 c (V3 (Nat.beq m b) (Nat.beq v a)):=rfl
theorem Zq1 (m v l T):ZiM m v (HB.cells l T)=none:=rfl
theorem ZqA (m v φ):ZiM m v (HB.ob φ)=none:=rfl
theorem Zod (m v a b):ZiM m v (HB.map a b)=none:=rfl
theorem Zsi (m v a b c d):ZiM m v (HB.it a b c d)=none:=rfl
theorem ZoI (m v a b):ZiM m v (HB.lp a b)=none:=rfl
theorem Zoh (m v a):ZiM m v (HB.lb a)=none:=rfl
theorem ZnM (m v a b c T o d e f):ZiM m v (HB.rws a b c T o d e f)=none:=rfl
theorem ZrR (m v):ZiM m v HB.gone=none:=rfl
theorem ZoY (a):Zh9 a true=some a:=rfl
theorem Zp8 (a):Zh9 a false=none:=rfl
theorem Zuv: rvE (some [])=some (SV.tup []):=rfl
theorem Zu0 (s):rvE (some [s])=some s:=rfl
theorem Ztu (a b l):rvE (some (a :: b :: l))=some (SV.tup (a :: b :: l)):=rfl
theorem Zul: rvE none=none:=rfl
theorem Ztz (s l):rvD s (some l)=some (s :: l):=rfl
theorem Zyf (s):rvD s none=none:=rfl
theorem ZuU (hp x s):rvC hp (some s) x=rvD (cvt hp s) x:=rfl
theorem Zx8 (hp x):rvC hp none x=none:=rfl
theorem Zto (o m a l T):rvH o m a (HB.cells l T)=XU l o m a:=rfl
theorem Zwu (hp m a k o):rvX hp m a (SV.p k o)=rvH o m a (lkh k hp):=rfl
theorem Zt5 (o m a l):pvF o m a (SV.agg l)=XU l o m a:=rfl
theorem Zvd (k a n):pvC k (SV.v (Value.int a n))=some (SV.v (Value.int k (IntKind.wrap k n))):=rfl
theorem ZwM (i l):pvE i (SV.tup l)=nth l i:=rfl
theorem ZoM (x a b c d):ZAM false true false x a b c d=c { fr:=(x,a) :: St.fr b,hp:=St.hp b,n:=St.n b,N:=St.N b,gs:=St.gs b } d:=rfl
theorem Zrw (x a b c d e f):ZBk false true false x a b c d e f=e { fr:=(x,SV.gd a b c) :: St.fr d,hp:=St.hp d,n:=St.n d,N:=St.N d,gs:=a :: St.gs d } f:=rfl
theorem Zq7 (s σ r K):Yw none s none σ r K=r σ K:=rfl
theorem ZpQ (s σ r K a):Yw none s (some a) σ r K=False:=rfl
theorem Zpz (s σ r K t):Yw (some t) s none σ r K=ZAM (Xy t (St.gs σ)) (Nat.blt t (St.N σ)) (gdS s) t s σ r K:=rfl
theorem ZpN (s σ r K t j w):Yw (some t) s (some (j,w)) σ r K=ZBk (Xy t (St.gs σ)) (Nat.blt t (St.N σ)) (Nat.beq t j) t j w s σ r K:=rfl
theorem Zoy (d g σ r K s):Wx (some s) d g σ r K=Yw d s g σ r K:=rfl
theorem ZrU (d g σ r K):Wx none d g σ r K=False:=rfl
theorem ZmP (x):ZfB true x=x:=rfl
theorem Zk5 (x):ZfB false x=SV.any:=rfl
theorem Zrx (x a b c):Zyi true x a b c=true:=rfl
theorem Zrp (x a b c d s):Zyi false (SV.gd c d s) x a b=x c d a b:=rfl
theorem ZmC (x a):ZhL true x a=bbq x a:=rfl
theorem Zj6 (x a):ZhL false x a=false:=rfl
theorem Ztn: bbq true true=true:=rfl
theorem Zv6: bbq false false=true:=rfl
theorem Zka (x y):ZgU (SV.v (Value.bool x)) (SV.v (Value.bool y))=some (SV.v (Value.bool (x || y))):=rfl
theorem Zke (x a):ZgU (SV.v (Value.bool x)) (SV.v (Value.tuple a))=bif x then some (SV.v (Value.bool true)) else none:=rfl
theorem Zlp (x y):ZfX (SV.v (Value.bool x)) (SV.v (Value.bool y))=some (SV.v (Value.bool (x && y))):=rfl
theorem ZkH (x a):ZfX (SV.v (Value.bool x)) (SV.v (Value.tuple a))=bif x then none else some (SV.v (Value.bool false)):=rfl
theorem Znd (m r):ZyF m (some r)=some (SV.sl true m r):=rfl
theorem Zsj (m):ZyF m none=none:=rfl
theorem ZjZ (P g d σ r K a f b):ZqZ P g d σ r K (SV.cl f b) a=ZyA P g f (a ++ b) d σ r K:=rfl
theorem Znr (g d σ r K k v m a j):ZAf g d σ r K true k v m a j=IXR g k v m a j d σ r K:=rfl
theorem Zp9 (g d σ r K k v m a j):ZAf g d σ r K false k v m a j=False:=rfl
theorem Zqx (g d σ r K k v m j a b c T):Zy5 g d σ r K (HB.row a b c T) k v m j=ZAf g d σ r K (V3 (Nat.beq m b) (Nat.beq v a)) k v m (List.length c) j:=rfl
theorem Zre (g d σ r K k v m j a b c T o e f l):Zy5 g d σ r K (HB.rws a b c T o e f l) k v m j = ∃ i rows TT,v=a+i/\YB k a b c T o e f l i=some (m,rows,TT)/\IXR g k v m (List.length rows) j d σ r K:=rfl
theorem ZnV (g d σ r K a j):ZAQ g d σ r K true a j=IXS g a j d σ r K:=rfl
theorem Zpg (g d σ r K a j):ZAQ g d σ r K false a j=False:=rfl
theorem Zqo (g d σ r K m k j c a b):Zzm g d σ r K (SV.v (Value.int k j)) (SV.sl c a b) m=ZAQ g d σ r K (Nat.beq m a) b j:=rfl
theorem ZoB (g d σ r K m k j a v):Zzm g d σ r K (SV.v (Value.int k j)) (SV.mr a v) m=Zy5 g d σ r K (lkh a (St.hp σ)) a v m j:=rfl
theorem Zqc (g d σ r K x a m k n):ZBo g d σ r K (SV.v (Value.int k n)) x a m=IXA g a n (fun n=>UM (n * m) x) d σ r K:=rfl
theorem ZrN (g d σ r K a m b k j l):ZBB g d σ r K (SV.v (Value.int k j)) (SV.agg l) a m b=IXA g a j (fun n=>XU l (n * m) m b) d σ r K:=rfl
theorem ZuB (g d σ r K o m a l T):ldC g d σ r K (HB.cells l T) o m a=Wx (XU l o m a) d g σ r K:=rfl
theorem ZxZ (g d σ r K a i o m b):ldB g d σ r K true a i o m b=LDR g a i o m b d σ r K:=rfl
theorem Zuk (g d σ r K a i o m b):ldB g d σ r K false a i o m b=False:=rfl
theorem ZuW (g d σ r K k v a i o m b c e f T):ldR g d σ r K k (HB.row c e f T) v a i o m b=ldB g d σ r K (V3 (Nat.beq a e) (Nat.beq v c)) f i o m b:=rfl
theorem Zwc (g d σ r K k v b i o m c e f j T l p q s):ldR g d σ r K k (HB.rws e f j T l p q s) v b i o m c = ∃ a rows TT,v=e+a/\YB k e f j T l p q s a=some (b,rows,TT)/\LDR g rows i o m c d σ r K:=rfl
theorem Zwh (g d σ r K m a k o):ldK g d σ r K (SV.p k o) m a=ldC g d σ r K (lkh k (St.hp σ)) o m a:=rfl
theorem ZxN (g d σ r K m a b o):ldK g d σ r K (SV.ps b o) m a=Wx (XU b o m a) d g σ r K:=rfl
theorem Zxg (g d σ r K m a k v b i o):ldK g d σ r K (SV.pr k v b i o) m a=ldR g d σ r K k (lkh k (St.hp σ)) v b i o m a:=rfl
theorem ZqM (g d σ r K b k u v):ZAn g d σ r K true b k u v=DIV g b k u v d σ r K:=rfl
theorem ZpO (g d σ r K b k u v):ZAn g d σ r K false b k u v=False:=rfl
theorem Zog (g d σ r K b k a j c):ZBy g d σ r K b (SV.v (Value.int k a)) (SV.v (Value.int j c))=ZAn g d σ r K (ZdB k j) b k a c:=rfl
theorem ZoJ (g d σ r K a):Zz3 g d σ r K true a=Yw d (SV.v (Value.int IntKind.i64 ↑(List.length a))) g σ r K:=rfl
theorem Zsk (g d σ r K a):Zz3 g d σ r K false a=False:=rfl
theorem ZqW (g d σ r K k v a m b T):ZzE g d σ r K k (HB.row a m b T) v=Zz3 g d σ r K (Nat.beq v a) b:=rfl
theorem ZnS (g d σ r K k v b m c T o e f i):ZzE g d σ r K k (HB.rws b m c T o e f i) v = ∃ a mm rows TT,v=b+a/\YB k b m c T o e f i a=some (mm,rows,TT)/\Yw d (SV.v (Value.int IntKind.i64 ↑(List.length rows))) g σ r K:=rfl
theorem Zn4 (g d σ r K k v):Zyx g d σ r K (SV.mr k v)=ZzE g d σ r K k (lkh k (St.hp σ)) v:=rfl
theorem Zng (g d σ r K k v m i l):Zyx g d σ r K (SV.ms k v m i l)=Yw d (SV.v (Value.int IntKind.i64 ↑l)) g σ r K:=rfl
theorem ZoA (g d σ r K c m a):Zyx g d σ r K (SV.sl c m a)=Yw d (SV.v (Value.int IntKind.i64 ↑(List.length a))) g σ r K:=rfl
theorem Zo8 (P g d σ r K f a):Yo P g d (SI.call f a) σ r K=ZyA P g f (Zaf (rdG g (St.fr σ)) a) d σ r K:=rfl
theorem ZoK (P g d σ r K x a):Yo P g d (SI.calv x a) σ r K=ZqZ P g d σ r K (rdG g (St.fr σ) x) (Zaf (rdG g (St.fr σ)) a):=rfl
theorem Zn3 (P g d σ r K f a):Yo P g d (SI.callm f a) σ r K=False:=rfl
theorem ZoZ (P g d σ r K x a):Yo P g d (SI.calvm x a) σ r K=False:=rfl
theorem ZrD (P g d σ r K c a b):Yo P g d (SI.pick c a b) σ r K=Wx (Zhu (St.fr σ) g c a b) d g σ r K:=rfl
theorem Zpv (P g d σ r K m T a):Yo P g d (SI.bsl m T a) σ r K=Wx (ZyF m (ZiJ (rdG g (St.fr σ)) m a)) d g σ r K:=rfl
theorem Zpf (P g d σ r K x a m):Yo P g d (SI.ixs x a m) σ r K=Zzm g d σ r K (rdG g (St.fr σ) a) (rdG g (St.fr σ) x) m:=rfl
theorem ZnR (P g d σ r K x a b m):Yo P g d (SI.ixa x a b m) σ r K=ZBo g d σ r K (rdG g (St.fr σ) a) (rdG g (St.fr σ) x) b m:=rfl
theorem ZnT (P g d σ r K x a b m c):Yo P g d (SI.idx x a b m c) σ r K=ZBB g d σ r K (rdG g (St.fr σ) a) (rdG g (St.fr σ) x) b m c:=rfl
theorem Zmw (P g d σ r K x m a):Yo P g d (SI.ld x m a) σ r K=ldK g d σ r K (rdG g (St.fr σ) x) m a:=rfl
theorem Zj7 (P g d σ r K b x y):Yo P g d (SI.div b x y) σ r K=ZBy g d σ r K b (rdG g (St.fr σ) x) (rdG g (St.fr σ) y):=rfl
theorem ZkJ (P g d σ r K x):Yo P g d (SI.len x) σ r K=Zyx g d σ r K (rdG g (St.fr σ) x):=rfl
theorem ZjA (P g d σ r K x):Yo P g d (SI.mv x) σ r K=Yw d (rdG g (St.fr σ) x) g σ r K:=rfl
theorem Zmp (P g d σ r K z a):Yo P g d (SI.build z a) σ r K=Wx (pv (rdG g (St.fr σ)) (SI.build z a)) d g σ r K:=rfl
theorem Zlw (P g d σ r K x):Yo P g d (SI.nilc x) σ r K=Wx (Zee (rdG g (St.fr σ) x)) d g σ r K:=rfl
theorem Zkw (P g d σ r K b x y):Yo P g d (SI.bin b x y) σ r K=Wx (ZyE b (rdG g (St.fr σ) x) (rdG g (St.fr σ) y)) d g σ r K:=rfl
theorem ZlB (P g d σ r K u x):Yo P g d (SI.un u x) σ r K=Wx (uni u (rdG g (St.fr σ) x)) d g σ r K:=rfl
theorem ZjM (P g d σ r K x o):Yo P g d (SI.addo x o) σ r K=Wx (UM o (rdG g (St.fr σ) x)) d g σ r K:=rfl
theorem Zku (P g d σ r K x o m a):Yo P g d (SI.fld x o m a) σ r K=Wx (pv (rdG g (St.fr σ)) (SI.fld x o m a)) d g σ r K:=rfl
theorem ZkQ (P g d σ r K a b):Yo P g d (SI.mm a b) σ r K=Wx (mmS a (Zaf (rdG g (St.fr σ)) b)) d g σ r K:=rfl
theorem Zlg (P g d σ r K f a):Yo P g d (SI.mkf f a) σ r K=Yw d (SV.cl f (Zaf (rdG g (St.fr σ)) a)) g σ r K:=rfl
theorem ZlZ (P g d σ r K k x):Yo P g d (SI.conv k x) σ r K=Wx (pv (rdG g (St.fr σ)) (SI.conv k x)) d g σ r K:=rfl
theorem ZlL (P g d σ r K x a):Yo P g d (SI.ext x a) σ r K=Wx (pv (rdG g (St.fr σ)) (SI.ext x a)) d g σ r K:=rfl
theorem ZkB (P g d σ r K x h k):Yo P g d (SI.slc x h k) σ r K=ZBg g (rdG g (St.fr σ) x) (rdG g (St.fr σ) h) (rdG g (St.fr σ) k) d σ r K:=rfl
theorem Zki (P g d σ r K m x a b):Yo P g d (SI.sub m x a b) σ r K=Zzj g m (rdG g (St.fr σ)) a b (rdG g (St.fr σ) x) d σ r K:=rfl
theorem ZmT (P g d σ r K m b T x y):Yo P g d (SI.cln m b T x y) σ r K=False:=rfl
theorem Zmx (P g d σ r K m b T x y):Yo P g d (SI.appm m b T x y) σ r K=False:=rfl
theorem ZmH (P g d σ r K m x y):Yo P g d (SI.cpy m x y) σ r K=False:=rfl
theorem Zml (P g d σ r K m b z T x):Yo P g d (SI.mks m b z T x) σ r K=False:=rfl
theorem ZmN (P g d σ r K x):Yo P g d (SI.isn x) σ r K=False:=rfl
theorem Zmm (P g d σ r K m b T x y):Yo P g d (SI.app m b T x y) σ r K=Zyt g m b (Zmg m (rdG g (St.fr σ) x)) (ZvC m (St.hp σ) (rdG g (St.fr σ) y)) d σ r K:=rfl
theorem ZkN (P g d σ r K x m T):Yo P g d (SI.box x m T) σ r K=False:=rfl
theorem ZlP (P g d σ r K z T):Yo P g d (SI.alloc z T) σ r K=False:=rfl
theorem Zlk (P g d σ r K x y m):Yo P g d (SI.st x y m) σ r K=False:=rfl
theorem Zkn (P g d σ r K a b c x y):Yo P g d (SI.eqs a b c x y) σ r K=Wx (eqR a (Zrb c b (rdG g (St.fr σ) x) (rdG g (St.fr σ) y))) d g σ r K:=rfl
theorem Zlc (P g d σ r K a b):Yo P g d (SI.raw a b) σ r K=False:=rfl
theorem ZjG (P g d σ r K a b):Yo P g d (SI.rv a b) σ r K=False:=rfl
theorem ZmB (P g d σ r K a x b):Yo P g d (SI.rb a x b) σ r K=False:=rfl
theorem ZpB (x a b c d e):ZBu false true x a b c d e=d { fr:=(x,SV.p (St.n c) 0) :: St.fr c,hp:=(St.n c,HB.cells a b) :: St.hp c,n:=St.n c+1,N:=St.N c,gs:=St.gs c } e:=rfl
theorem Zsu (T σ r K t a):ZiN (some t) (some a) T σ r K=ZBu (Xy t (St.gs σ)) (Nat.blt t (St.N σ)) t a T σ r K:=rfl
theorem Zlz (x a b c d e f g i j):Zu7 false true x a b c d e f g i j=i { fr:=(x,SV.v (Value.int IntKind.i64 ↑e)) :: St.fr g,hp:=(a,HB.row b c d f) :: St.hp g,n:=St.n g,N:=St.N g,gs:=St.gs g } j:=rfl
theorem Zri (k v m a N T σ r K b):Zzi (some b) k v m a N T σ r K=Zu7 (Xy b (St.gs σ)) (Nat.blt b (St.N σ)) b k v m a N T σ r K:=rfl
theorem ZnA (k v m a N T σ r K):Zzi none k v m a N T σ r K=r { fr:=St.fr σ,hp:=(k,HB.row v m a T) :: St.hp σ,n:=St.n σ,N:=St.N σ,gs:=St.gs σ } K:=rfl
theorem Zr7 (d k v m i L a T σ r K c b e):ZsB d k v m i L a T (SV.sl c b e) σ r K=Ze0 (Nat.beq m b) (CPY d k v m i L a e T σ r K):=rfl
theorem Zrj (d k v m i L a T σ r K):ZsB d k v m i L a T (SV.v (Value.slice none 0 0)) σ r K=CPY d k v m i L a [] T σ r K:=rfl
theorem Zo2 (d k v m i L a T σ r K b c):ZsB d k v m i L a T (SV.mr b c) σ r K=Ze0 (V3 (Nat.beq k b) (Nat.beq v c)) (CPY d k v m i L a a T σ r K):=rfl
theorem ZnW (d k v m i L a T σ r K b c e f g):ZsB d k v m i L a T (SV.ms b c e f g) σ r K=Ze0 (V3 (V3 (Nat.beq k b) (Nat.beq v c)) (Nat.beq m e)) (f+g<=List.length a/\CPY d k v m i L a (List.take g (List.drop f a)) T σ r K):=rfl
theorem ZzQ (n m):lO (some m) n=m:=rfl
theorem ZzG (n):lO none n=n:=rfl
theorem Zq5 (d m k v i a s σ r K b c e T):Zw8 d m k v i a (HB.row b c e T) s σ r K=Ze0 (V3 (Nat.beq m c) (Nat.beq v b)) (ZsB d k v m i (lO a (List.length e)) e T s σ r K):=rfl
theorem Zr9 (d m a σ r K k v):Zyr d m (SV.mr k v) a σ r K=Zw8 d m k v 0 none (lkh k (St.hp σ)) a σ r K:=rfl
theorem Znp (d m a σ r K k v b i l):Zyr d m (SV.ms k v b i l) a σ r K=Ze0 (Nat.beq m b) (Zw8 d m k v i (some l) (lkh k (St.hp σ)) a σ r K):=rfl
theorem ZrL (g k v m a d σ r K i j):Zyz g k v m a (some i) (some j) d σ r K=SBM g i j k v m a d σ r K:=rfl
theorem Zro (g k v m a d σ r K b):Zyz g k v m a (some b) none d σ r K=False:=rfl
theorem Zsm (g k v m a b d σ r K):Zyz g k v m a none b d σ r K=False:=rfl
theorem ZnJ (p):Ze0 true p=p:=rfl
theorem Zsv (p):Ze0 false p=False:=rfl
theorem ZrY (g m ρ a b k v d σ r K c e f T):ZBr g m ρ a b k v (HB.row c e f T) d σ r K=Ze0 (V3 (Nat.beq m e) (Nat.beq v c)) (Zyz g k v m f (Zc0 0 ρ a) (Zc0 (↑(List.length f)) ρ b) d σ r K):=rfl
theorem ZqH (g m ρ a b d σ r K c e f):Zzj g m ρ a b (SV.sl c e f) d σ r K=bif Nat.beq m e then Zyw g m f (Zc0 0 ρ a) (Zc0 (↑(List.length f)) ρ b) d σ r K else False:=rfl
theorem ZnI (g m ρ a b d σ r K k v):Zzj g m ρ a b (SV.mr k v) d σ r K=ZBr g m ρ a b k v (lkh k (St.hp σ)) d σ r K:=rfl
theorem Zqg (x a b c d e f g i):verB false true x a b c d e f g i=g { fr:=(x,SV.mr a b) :: St.fr f,hp:=(a,HB.row b c d e) :: St.hp f,n:=St.n f,N:=St.N f,gs:=St.gs f } i:=rfl
theorem ZqI (k v m a T σ r K b):ZyT (some b) k v m a T σ r K=verB (Xy b (St.gs σ)) (Nat.blt b (St.N σ)) b k v m a T σ r K:=rfl
theorem Zr4 (k v m a T σ r K):ZyT none k v m a T σ r K=False:=rfl
theorem ZpL (b d k v m a c T σ r K):ZAI true b d k v m a c T σ r K=APM b d k v m a c T σ r K:=rfl
theorem Zn0 (b d k v m a c T σ r K):ZAI false b d k v m a c T σ r K=False:=rfl
theorem Zsr (b d k v m a T σ r K c e f g):ZBs b d k v m (HB.row c e f g) a T σ r K=ZAI (V3 (Nat.beq m e) (V3 (Nat.beq v c) (Nat.beq T g))) b d k v m f a T σ r K:=rfl
theorem Zr2 (b d m a T σ r K k v):ZBm b d m (SV.mr k v) a T σ r K=ZBs b d k v m (lkh k (St.hp σ)) a T σ r K:=rfl
theorem Zr0 (b d m s T σ r K a):Zyj b d m s (some a) T σ r K=ZBm b d m s a T σ r K:=rfl
theorem Zo5 (b d m s T σ r K):Zyj b d m s none T σ r K=False:=rfl
theorem Znq (x a b c d e f g):ZyI true x a b c d e f g=f { fr:=St.fr e,hp:=(x,HB.cells (Zs b a d) c) :: St.hp e,n:=St.n e,N:=St.N e,gs:=St.gs e } g:=rfl
theorem Zry (x a b c d e f g):ZyI false x a b c d e f g=False:=rfl
theorem Zwa (k o m c σ r K l T):stC k o m (HB.cells l T) c σ r K=ZyI (Nat.ble (o+m) (List.length l)) k o l T c σ r K:=rfl
theorem Znz (x a b c d e f g i j k):ZyD true x a b c d e f g i j k=STR x a b c d e f g i j k:=rfl
theorem Zqd (x a b c d e f g i j k):ZyD false x a b c d e f g i j k=False:=rfl
theorem ZxB (k v a j o c σ r K b m d T):stR k v a j o (HB.row b m d T) c σ r K=ZyD (V3 (Nat.beq a m) (Nat.beq v b)) b d j o k a c T σ r K:=rfl
theorem Zt4 (k v a j o c σ r K b m d T e f g i):stR k v a j o (HB.rws b m d T e f g i) c σ r K=STW b m d T e f g i v a j o k c σ r K:=rfl
theorem Zxf (m c σ r K k o):stX (SV.p k o) m c σ r K=stC k o m (lkh k (St.hp σ)) c σ r K:=rfl
theorem Zva (m c σ r K k v a j o):stX (SV.pr k v a j o) m c σ r K=stR k v a j o (lkh k (St.hp σ)) c σ r K:=rfl
theorem Ziy (x a b c d e):Zd8 true true x a b c d e=stX x a b c d e:=rfl
theorem ZhR (m x σ r K a):Zer none (some a) m x σ r K=Zd8 (chk a m) (Yv a) x m a σ r K:=rfl
theorem Zus (P Y d σ r K x y m):stp P Y d (SI.st x y m) σ r K=Zer d (Yu (rdG none (St.fr σ) y)) m (rdG none (St.fr σ) x) σ r K:=rfl
theorem ZvI (P Y d σ r K x m T):stp P Y d (SI.box x m T) σ r K=ZiN d (Yu (rdG none (St.fr σ) x)) T σ r K:=rfl
theorem Zvw (P Y d σ r K z T):stp P Y d (SI.alloc z T) σ r K=ZiN d (some (lit z)) T σ r K:=rfl
theorem ZwB (P Y d σ r K m b T x y):stp P Y d (SI.cln m b T x y) σ r K=ZsL b d m (Zmg m (rdG none (St.fr σ) x)) (Zib m (rdG none (St.fr σ) y)) T σ r K:=rfl
theorem Zuc (P Y d σ r K m b z T x):stp P Y d (SI.mks m b z T x) σ r K=ZBd b d m z (rdG none (St.fr σ) x) T σ r K:=rfl
theorem Zwt (P Y d σ r K m x y):stp P Y d (SI.cpy m x y) σ r K=Zyr d m (rdG none (St.fr σ) x) (rdG none (St.fr σ) y) σ r K:=rfl
theorem Zwb (P Y d σ r K m b T x y):stp P Y d (SI.appm m b T x y) σ r K=Zyj b d m (rdG none (St.fr σ) x) (Zib m (rdG none (St.fr σ) y)) T σ r K:=rfl
theorem Zvo (P Y d σ r K f a):stp P Y d (SI.callm f a) σ r K=Zdk P f (Zaf (rdG none (St.fr σ)) a) d σ r K:=rfl
theorem ZxV (P Y d σ r K x a):stp P Y d (SI.calvm x a) σ r K=ZhN P Y (rdG none (St.fr σ) x) (Zaf (rdG none (St.fr σ)) a) d σ r K:=rfl
theorem Znu (P Y d σ r K x):stp P Y d (SI.isn x) σ r K=ZBC d (rdG none (St.fr σ) x) σ r K:=rfl
theorem Zop (P Y d σ r K a b):stp P Y d (SI.raw a b) σ r K=RAW P d a b σ r K:=rfl
theorem Zm5 (P Y d σ r K a b):stp P Y d (SI.rv a b) σ r K = ∃ s,RBE P a b σ s/\Yw d s none σ r K:=rfl
theorem ZqV (P Y d σ r K a x b):stp P Y d (SI.rb a x b) σ r K = ∃ k h1 s,rdG none (St.fr σ) x=SV.mp k/\WK (lkh k (St.hp σ)) h1/\RBB P a (x :: b) k (lkh k (St.hp σ)) h1 σ s/\Yw d s none { fr:=St.fr σ,hp:=(k,h1) :: St.hp σ,n:=St.n σ,N:=St.N σ,gs:=St.gs σ } r K:=rfl
theorem Zi4 (d σ r K):Zu9 d σ r K=Yw d (SV.v undef) none σ r K:=rfl
theorem ZAR (P Y j w d i σ r K b):gK P Y (SV.v (Value.bool b)) j w d i σ r K=GB P Y b j w d i σ r K:=rfl
theorem Zzf (P Y j w d i σ r K a c b):gK P Y (SV.gd a c (SV.v (Value.bool b))) j w d i σ r K=Yo P (some (j,w)) d i σ r K:=rfl
theorem ZwK (P Y σ r K d i af):st1 P Y { d:=d,i:=i,g:=none,af:=af } σ r K=stp P Y d i σ r K:=rfl
theorem ZwD (P Y σ r K d i j w af):st1 P Y { d:=d,i:=i,g:=some (j,w),af:=af } σ r K=gK P Y (lk j (St.fr σ)) j w d i σ r K:=rfl
theorem Zo9 (f g σ K b):ZBh (SV.v (Value.bool b)) f g σ K=BR b f g σ K:=rfl
theorem ZrZ (k x y):Zf2 BinOp.quo k x y=IntKind.wrap k (Int.tdiv x y):=rfl
theorem ZwW (a N):st0 a N={ fr:=We 0 a,hp:=[],n:=0,N:=N,gs:=[] }:=rfl
theorem Znj (ρ):Zaf ρ []=[]:=rfl
theorem ZqR (ρ a r):Zaf ρ (a :: r) = ρ a :: Zaf ρ r:=rfl
theorem ZnF (g):Zcx g []=[]:=rfl
theorem ZnC (g s l):Zcx g (s :: l)=g s :: Zcx g l:=rfl
theorem ZnN (ρ m):ZiJ ρ m []=some []:=rfl
theorem Zob (ρ m a r):ZiJ ρ m (a :: r)=Zyk (Yu (ρ a)) m (ZiJ ρ m r):=rfl
theorem Zq3 (hp):Zlx hp []=[]:=rfl
theorem Znb (hp s l):Zlx hp (s :: l)=cvt hp s :: Zlx hp l:=rfl
theorem ZvJ: lit []=[]:=rfl
theorem ZvR (a r):lit (a :: r)=SV.v a :: lit r:=rfl
theorem ZwZ: chk [] 0=true:=rfl
theorem Zv5 (a l n):chk (a :: l) (Nat.succ n)=chk l n:=rfl
theorem Zvc (x):nth [] x=none:=rfl
theorem ZvT (s a):nth (s :: a) 0=some s:=rfl
theorem Zuu (a l n):nth (a :: l) (Nat.succ n)=nth l n:=rfl
theorem ZhP (a l c b):Zs (a :: l) 0 (c :: b)=c :: Zs l 0 b:=rfl
theorem ZhA (x a l o):Zs (a :: l) (Nat.succ o) x=a :: Zs l o x:=rfl
theorem ZpP (o l t):Zyn o l t true=some ((o,l) :: t):=rfl
theorem Zsl (o l t):Zyn o l t false=none:=rfl
theorem Zov (o m l t):Zyv o m (some l) (some t)=Zyn o l t (chk l m):=rfl
theorem Zo0 (ρ):ZrM ρ []=some []:=rfl
theorem ZrF (ρ o m a r):ZrM ρ ((o,m,a) :: r)=Zyv o m (Yu (ρ a)) (ZrM ρ r):=rfl
theorem Zv1 (x):spl x []=x:=rfl
theorem Zu4 (x o l r):spl x ((o,l) :: r)=spl (Zs x o l) r:=rfl
theorem ZpY (z t):Zm3 z (some t)=some (spl z t):=rfl
theorem Znv (z):Zm3 z none=none:=rfl
theorem ZrX (x):We x []=[]:=rfl
theorem Zq2 (x s l):We x (s :: l)=(x,s) :: We (x+1) l:=rfl
theorem ZtR (j w s):gdS (SV.gd j w s)=true:=rfl
theorem ZtW (a):gdS (SV.v a)=false:=rfl
theorem ZtC (k o):gdS (SV.p k o)=false:=rfl
theorem Zvu (l):gdS (SV.agg l)=false:=rfl
theorem Zvf (c m a):gdS (SV.sl c m a)=false:=rfl
theorem Zuo (k v):gdS (SV.mr k v)=false:=rfl
theorem ZwF (k v m i o):gdS (SV.pr k v m i o)=false:=rfl
theorem Zuj (k v m i l):gdS (SV.ms k v m i l)=false:=rfl
theorem Zvv (a o):gdS (SV.ps a o)=false:=rfl
theorem ZoT (f a):gdS (SV.cl f a)=false:=rfl
theorem Zrc (l):gdS (SV.tup l)=false:=rfl
theorem ZpM (φ):gdS (SV.q φ)=false:=rfl
theorem Zol (k):gdS (SV.mp k)=false:=rfl
theorem Zoc (k):gdS (SV.yl k)=false:=rfl
theorem Znw (T s):gdS (SV.ifc T s)=false:=rfl
theorem Zrs: gdS SV.any=false:=rfl
theorem ZwU (ρ k o):rnS ρ (SV.p k o)=SV.p (ρ k) o:=rfl
theorem ZxD (ρ k v):rnS ρ (SV.mr k v)=SV.mr (ρ k) v:=rfl
theorem Ztt (ρ k v m i o):rnS ρ (SV.pr k v m i o)=SV.pr (ρ k) v m i o:=rfl
theorem Zui (ρ k v m i o):rnS ρ (SV.ms k v m i o)=SV.ms (ρ k) v m i o:=rfl
theorem Zxy (ρ k):rnS ρ (SV.mp k)=SV.mp (ρ k):=rfl
theorem ZvV (ρ k):rnS ρ (SV.yl k)=SV.yl (ρ k):=rfl
theorem Zuh (ρ l):rnS ρ (SV.agg l)=SV.agg (rnL ρ l):=rfl
theorem Zwp (ρ l):rnS ρ (SV.tup l)=SV.tup (rnL ρ l):=rfl
theorem Zur (ρ f l):rnS ρ (SV.cl f l)=SV.cl f (rnL ρ l):=rfl
theorem Zqb (ρ T s):rnS ρ (SV.ifc T s)=SV.ifc T (rnS ρ s):=rfl
theorem Zqw (ρ a):rnS ρ (SV.v a)=SV.v a:=rfl
theorem ZqF (ρ c m a):rnS ρ (SV.sl c m a)=SV.sl c m a:=rfl
theorem Zqr (ρ l o):rnS ρ (SV.ps l o)=SV.ps l o:=rfl
theorem Zo7 (ρ φ):rnS ρ (SV.q φ)=SV.q φ:=rfl
theorem Zoq (ρ j w s):rnS ρ (SV.gd j w s)=SV.gd j w s:=rfl
theorem ZoS (ρ):rnS ρ SV.any=SV.any:=rfl
theorem ZtY (ρ):rnL ρ []=[]:=rfl
theorem Zx7 (ρ s l):rnL ρ (s :: l)=rnS ρ s :: rnL ρ l:=rfl
theorem ZvA (ρ l T):rnH ρ (HB.cells l T)=HB.cells (rnL ρ l) T:=rfl
theorem Zt6 (ρ v m a T):rnH ρ (HB.row v m a T)=HB.row v m a T:=rfl
theorem ZuO (ρ φ):rnH ρ (HB.ob φ)=HB.ob φ:=rfl
theorem Zug (ρ a c):rnH ρ (HB.map a c)=HB.map a c:=rfl
theorem Zv3 (ρ a b c d):rnH ρ (HB.it a b c d)=HB.it (ρ a) b c d:=rfl
theorem Zum (ρ a b):rnH ρ (HB.lp a b)=HB.lp a b:=rfl
theorem ZuK (ρ a):rnH ρ (HB.lb a)=HB.lb a:=rfl
theorem Zt0 (ρ v m a T o b c d):rnH ρ (HB.rws v m a T o b c d)=HB.rws v m a T o b c d:=rfl
theorem ZvG (ρ):rnH ρ HB.gone=HB.gone:=rfl
theorem Zw6 (ρ):rnP ρ []=[]:=rfl
theorem Zu1 (ρ u s r):rnP ρ ((u,s) :: r)=(ρ u,rnH ρ s) :: rnP ρ r:=rfl
theorem Zjp (ρ):Zcc ρ 0=[]:=rfl
theorem ZkW (ρ j):Zcc ρ (Nat.succ j)=(ρ j,HB.gone) :: Zcc ρ j:=rfl
theorem Zt8 (b x y):exB b x y=bif b then x else y:=rfl
theorem ZvL (a hp n d σ r K):cmK false a hp n d σ r K=Yw d a none { fr:=St.fr σ,hp:=hp,n:=n,N:=St.N σ,gs:=St.gs σ } r K:=rfl
theorem ZuD (a hp n d σ r K):cmK true a hp n d σ r K=K (Ex.pan a) { fr:=St.fr σ,hp:=hp,n:=n,N:=St.N σ,gs:=St.gs σ }:=rfl
theorem ZiV (P Y a d σ r K f b):ZhN P Y (SV.cl f b) a d σ r K=Zdk P f (a ++ b) d σ r K:=rfl
theorem Zmj (P Y a d σ r K k):ZhN P Y (SV.yl k) a d σ r K=YLD Y k a d σ r K:=rfl
theorem Zts (p T a s):mtI p T (SV.ifc a s)=(a=T/\p s):=rfl
theorem Zv9 (p l):mtO p (some l)=p l:=rfl
theorem Zvb (p):mtO p none=False:=rfl
theorem ZwG (σ K hp n a):itE σ K hp n (HB.lp a none)=K Ex.n { fr:=St.fr σ,hp:=(St.n σ,HB.gone) :: hp,n:=n,N:=St.N σ,gs:=[] }:=rfl
theorem Zvt (σ K hp n a i):itE σ K hp n (HB.lp a (some (Ex.ex i)))=K (Ex.ex i) { fr:=St.fr σ,hp:=(St.n σ,HB.gone) :: hp,n:=n,N:=St.N σ,gs:=[] }:=rfl
theorem ZuG (σ K hp n a):itE σ K hp n (HB.lp a (some Ex.ret))=K Ex.ret { fr:=St.fr σ,hp:=(St.n σ,HB.gone) :: hp,n:=n,N:=St.N σ,gs:=[] }:=rfl
theorem Zwg (σ K o):itP σ K o=match Ot.pn o with | false=>itE σ K (Ot.hp o) (Ot.n o) (lkh (St.n σ) (Ot.hp o)) | true=>K (Ex.pan (Ot.res o)) { fr:=St.fr σ,hp:=Ot.hp o,n:=Ot.n o,N:=St.N σ,gs:=[] }:=rfl
theorem Zsg (a r):Zs0 a (HB.lp r none)=(r=a):=rfl
theorem ZoF (a r):ZmX a (HB.lb r)=(r=a):=rfl
theorem Zt1 (p a s l):pmS (p :: a) (s :: l)=(p,s) :: pmS a l:=rfl
theorem ZrO: ZmY [] []=true:=rfl
theorem Zrd (a l b m):ZmY (a :: l) (b :: m)=ZmY l m:=rfl
theorem Zkd (N):Zah N []=true:=rfl
theorem ZjT (N j r):Zah N (j :: r)=bif Nat.blt j N then Zah N r else false:=rfl
theorem Zx6 (p):rfB true p=p:=rfl
theorem ZvY (p):rfB false p=False:=rfl
theorem ZuV (P a b c σ K f d):rfK P a b (SV.cl f d) c σ K=gs0 (St.gs σ) (rfB (Zah (St.N σ) c) (RFUN P a b f d c σ K)):=rfl
theorem ZnQ (a hp n s):Zs2 a hp n (some s)=a { pn:=false,res:=s,hp:=hp,n:=n }:=rfl
theorem Zr8 (a hp n):Zs2 a hp n none=False:=rfl
theorem ZoO (x s):ZyH (some s) x=rvD s x:=rfl
theorem Zp4 (x):ZyH none x=none:=rfl
theorem ZrV (σ):Ze1 σ []=some []:=rfl
theorem ZoV (σ r a):Ze1 σ (r :: a)=ZyH (rv1 σ r) (Ze1 σ a):=rfl
theorem ZqB (a b x):Zct a b Ex.n x=Zs2 b (St.hp x) (St.n x) (rvE (Ze1 x a)):=rfl
theorem ZnK (a b x):Zct a b Ex.ret x=Zs2 b (St.hp x) (St.n x) (rvE (Ze1 x a)):=rfl
theorem Zqn (a b x s):Zct a b (Ex.pan s) x=b { pn:=true,res:=s,hp:=St.hp x,n:=St.n x }:=rfl
theorem Zni (a b x c):Zct a b (Ex.ex c) x=False:=rfl
theorem ZwO (a b Φ x):bdE a b Φ Ex.n x=(ZmX b (lkh a (St.hp x))/\Φ { pn:=false,res:=SV.v (Value.bool true),hp:=(a,HB.lp b none) :: St.hp x,n:=St.n x }):=rfl
theorem Zvk (a b Φ x i):bdE a b Φ (Ex.ex i) x=(ZmX b (lkh a (St.hp x))/\Φ { pn:=false,res:=SV.v (Value.bool false),hp:=(a,HB.lp b (some (Ex.ex i))) :: St.hp x,n:=St.n x }):=rfl
theorem ZxK (a b Φ x):bdE a b Φ Ex.ret x=(ZmX b (lkh a (St.hp x))/\Φ { pn:=false,res:=SV.v (Value.bool false),hp:=(a,HB.lp b (some Ex.ret)) :: St.hp x,n:=St.n x }):=rfl
theorem ZvD (a b Φ x s):bdE a b Φ (Ex.pan s) x = Φ { pn:=true,res:=s,hp:=St.hp x,n:=St.n x }:=rfl
theorem Zxz (a b c K x):asE a b c K Ex.n x=(Zs0 b (lkh a (St.hp x))/\c { fr:=St.fr x,hp:=(a,HB.lb b) :: St.hp x,n:=St.n x,N:=St.N x,gs:=St.gs x } K):=rfl
theorem Zu8 (a b c K x i):asE a b c K (Ex.ex i) x=False:=rfl
theorem ZwC (a b c K x):asE a b c K Ex.ret x=False:=rfl
theorem Ztv (a b c K x s):asE a b c K (Ex.pan s) x=False:=rfl
theorem ZtK (x):rho [] x=0:=rfl
theorem Zu5 (a b):rho (a :: b) 0=a:=rfl
theorem Zud (a l k):rho (a :: l) (Nat.succ k)=rho l k:=rfl
theorem ZtS (ρ a x):mtS ρ a SV.any x=True:=rfl
theorem Zx1 (ρ a x k o):mtS ρ a (SV.p k o) x=(k < a/\x=SV.p (ρ k) o):=rfl
theorem Zwj (ρ a x k v):mtS ρ a (SV.mr k v) x=(k < a/\x=SV.mr (ρ k) v):=rfl
theorem ZuZ (ρ a x k v m i o):mtS ρ a (SV.pr k v m i o) x=(k < a/\x=SV.pr (ρ k) v m i o):=rfl
theorem ZxX (ρ a x k v m i o):mtS ρ a (SV.ms k v m i o) x=(k < a/\x=SV.ms (ρ k) v m i o):=rfl
theorem ZvN (ρ a x l):mtS ρ a (SV.agg l) x=mtO (mtL ρ a l) (Zc6 x):=rfl
theorem Zu3 (ρ a x l):mtS ρ a (SV.tup l) x=mtO (mtL ρ a l) (Zyq x):=rfl
theorem Zx5 (ρ a x f l):mtS ρ a (SV.cl f l) x=mtO (mtL ρ a l) (clL f x):=rfl
theorem Zxl (ρ a x b):mtS ρ a (SV.v b) x=(x=SV.v b):=rfl
theorem ZqT (ρ a x c m b):mtS ρ a (SV.sl c m b) x=(x=SV.sl c m b/\KFR b):=rfl
theorem ZrH (ρ a x l o):mtS ρ a (SV.ps l o) x=(x=SV.ps l o/\KFL l):=rfl
theorem Zp6 (ρ a x k):mtS ρ a (SV.mp k) x=(k < a/\x=SV.mp (ρ k)):=rfl
theorem Zr6 (ρ a x k):mtS ρ a (SV.yl k) x=(k < a/\x=SV.yl (ρ k)):=rfl
theorem Zn6 (ρ a x T t):mtS ρ a (SV.ifc T t) x=mtI (mtS ρ a t) T x:=rfl
theorem Zm6 (ρ a x φ):mtS ρ a (SV.q φ) x=(x=SV.q φ):=rfl
theorem ZqN (ρ a x j w s):mtS ρ a (SV.gd j w s) x=False:=rfl
theorem Zxp (ρ a x):mtL ρ a [] x=(x=[]):=rfl
theorem Zwf (ρ a x s l):mtL ρ a (s :: l) x=mtB (mtS ρ a s) (mtL ρ a l) x:=rfl
theorem Zw9 (ρ a x):mtH ρ a HB.gone x=True:=rfl
theorem ZtF (ρ a l T b c):mtH ρ a (HB.cells l T) (HB.cells b c)=(c=T/\mtL ρ a l b):=rfl
theorem ZuH (ρ a x v m b T):mtH ρ a (HB.row v m b T) x=(x=HB.row v m b T/\KFR b):=rfl
theorem ZxM (ρ a x φ):mtH ρ a (HB.ob φ) x=(x=HB.ob φ):=rfl
theorem ZwL (ρ a x b c):mtH ρ a (HB.map b c) x=(x=HB.map b c/\∀ (e:Nat × Value × SV),e ∈ b->KF (Prod.snd (Prod.snd e))):=rfl
theorem ZxP (ρ d x e a b c):mtH ρ d (HB.it e a b c) x=(e < d/\x=HB.it (ρ e) a b c):=rfl
theorem ZuC (ρ a x r b):mtH ρ a (HB.lp r b) x=(x=HB.lp r b):=rfl
theorem Zxe (ρ a x r):mtH ρ a (HB.lb r) x=(x=HB.lb r):=rfl
theorem Zty (ρ a x v m b T o c d e):mtH ρ a (HB.rws v m b T o c d e) x=(x=HB.rws v m b T o c d e/\KFR b/\∀ (r:List (List SV)),r ∈ d->KFR r):=rfl
theorem ZoE (ρ a l T v m b c):mtH ρ a (HB.cells l T) (HB.row v m b c)=False:=rfl
theorem Zpi (ρ a l T φ):mtH ρ a (HB.cells l T) (HB.ob φ)=False:=rfl
theorem Zrq (ρ a l T b c):mtH ρ a (HB.cells l T) (HB.map b c)=False:=rfl
theorem ZpJ (ρ a l T b c d e):mtH ρ a (HB.cells l T) (HB.it b c d e)=False:=rfl
theorem ZpK (ρ a l T b c):mtH ρ a (HB.cells l T) (HB.lp b c)=False:=rfl
theorem Zn8 (ρ a l T b):mtH ρ a (HB.cells l T) (HB.lb b)=False:=rfl
theorem ZrA (ρ a l T v m b c o d e f):mtH ρ a (HB.cells l T) (HB.rws v m b c o d e f)=False:=rfl
theorem Zny (ρ a l T):mtH ρ a (HB.cells l T) HB.gone=False:=rfl
theorem ZvZ (p):mtM true p=True:=rfl
theorem Zuw (p):mtM false p=p:=rfl
theorem Zwe (ρ a x b):mtF ρ a x [] b=True:=rfl
theorem Zun (ρ a x b t s r):mtF ρ a x ((t,s) :: r) b=(mtM (Xy t x) (mtS ρ a s (lk t b))/\mtF ρ a (t :: x) r b):=rfl
theorem ZtT (ρ a hp b):mtP ρ a hp b 0=True:=rfl
theorem ZwY (ρ a hp b j):mtP ρ a hp b (Nat.succ j)=(mtH ρ b (lkh j a) (lkh (ρ j) hp)/\mtP ρ a hp b j):=rfl
theorem Zwn (a):hpb a []=True:=rfl
theorem Zxd (a u s r):hpb a ((u,s) :: r)=(u < a/\hpb a r):=rfl
theorem Zx3 (a b):eqC 0 (SV.v (Value.bool a)) (SV.v (Value.bool b))=some (a == b):=rfl
theorem ZxJ (k a j b):eqC 1 (SV.v (Value.int k a)) (SV.v (Value.int j b))=bif ZdB k j then some (a == b) else none:=rfl
theorem ZxY (a b):eqC 2 (SV.v (Value.string a)) (SV.v (Value.string b))=some (ByteArray.toList a == ByteArray.toList b):=rfl
theorem ZuP (a b):eqA (some a) (some b)=some (a && b):=rfl
theorem Zql: Ziq [] [] []=some true:=rfl
theorem ZoH (c a b d y e):Ziq (c :: a) (b :: d) (y :: e)=eqA (eqC c b y) (Ziq a d e):=rfl
theorem Zpd (c a b):Zrb c true (SV.agg a) (SV.agg b)=Ziq c a b:=rfl
theorem Zph (c a b):Zrb c false (SV.v (Value.bool a)) (SV.v (Value.bool b))=some (a == b):=rfl
theorem ZtL (a b):eqR a (some b)=some (SV.v (Value.bool (ngB a b))):=rfl
theorem Zut (a):eqR a none=none:=rfl
theorem ZxU (x):ngB true x = !x:=rfl
theorem ZtG (x):ngB false x=x:=rfl
theorem ZqL (m hp c a b):ZvC m hp (SV.sl c a b)=Zh9 b (Nat.beq m a):=rfl
theorem Zsb (m hp):ZvC m hp (SV.v (Value.slice none 0 0))=some []:=rfl
theorem ZrW (m hp k v):ZvC m hp (SV.mr k v)=ZiM m v (lkh k hp):=rfl
theorem ZqY (m a b):Zmg m (SV.sl true a b)=Zh9 b (Nat.beq m a):=rfl
theorem Zoa (m):Zmg m (SV.v (Value.slice none 0 0))=some []:=rfl
theorem Zso (g m b d σ r K a c):Zyt g m b (some a) (some c) d σ r K=APP g m b a c d σ r K:=rfl
theorem Zno (g m b d σ r K a):Zyt g m b (some a) none d σ r K=False:=rfl
theorem Zqf (g m b y d σ r K):Zyt g m b none y d σ r K=False:=rfl
theorem ZrG (l):Zc6 (SV.agg l)=some l:=rfl
theorem Zpo (l):Zyq (SV.tup l)=some l:=rfl
theorem Zwo (f a b):clL f (SV.cl a b)=bif Nat.beq a f then some b else none:=rfl
theorem ZxE (p q):mtB p q []=False:=rfl
theorem Ztq (p q s l):mtB p q (s :: l)=(p s/\q l):=rfl
theorem Zi1 (x a b c d e f):Zot false true x a b c d e f=e { fr:=(x,SV.mr (St.n d) 0) :: St.fr d,hp:=(St.n d,HB.row 0 a b c) :: St.hp d,n:=St.n d+1,N:=St.N d,gs:=St.gs d } f:=rfl
theorem ZoR (m a T σ r K b):Zoi (some b) m a T σ r K=Zot (Xy b (St.gs σ)) (Nat.blt b (St.N σ)) b m a T σ r K:=rfl
theorem ZoU (m a T σ r K):Zoi none m a T σ r K=False:=rfl
theorem Zrv (b d m T σ r K a):ZsL b d m (some []) (some a) T σ r K=CLN b d m a T σ r K:=rfl
theorem Znn (b d m y T σ r K a c):ZsL b d m (some (a :: c)) y T σ r K=False:=rfl
theorem Zsq (b d m T σ r K):ZsL b d m (some []) none T σ r K=False:=rfl
theorem Zor (b d m y T σ r K):ZsL b d m none y T σ r K=False:=rfl
theorem Zn2 (b d m z T σ r K k n):ZBd b d m z (SV.v (Value.int k n)) T σ r K=MKS b d m (lit z) n T σ r K:=rfl
theorem ZpI (d σ r K c m a):ZBC d (SV.sl c m a) σ r K=ISN d a σ r K:=rfl
theorem Zon (g d σ r K c m a b n e j):ZBg g (SV.sl c m a) (SV.v (Value.int b n)) (SV.v (Value.int e j)) d σ r K=SLC g n j m a d σ r K:=rfl
theorem Zpr (g m a d σ r K i j):Zyw g m a (some i) (some j) d σ r K=SUB g i j m a d σ r K:=rfl
theorem Zsa (g m a d σ r K b):Zyw g m a (some b) none d σ r K=False:=rfl
theorem Zo3 (g m a b d σ r K):Zyw g m a none b d σ r K=False:=rfl
theorem Zpj (a ρ):Zc0 a ρ none=some a:=rfl
theorem ZoP (a ρ b):Zc0 a ρ (some b)=match ρ b with | SV.v (Value.int k n)=>some n | x=>none:=rfl
theorem Zp1 (m c a b):Zib m (SV.sl c a b)=Zh9 b (Nat.beq m a):=rfl
theorem Zqu (m):Zib m (SV.v (Value.slice none 0 0))=some []:=rfl
theorem Zpc (x h j w):Zyi false (.v x) h j w=false:=rfl
theorem Zhw (x l):Zs (x :: l) 0 []=x :: l:=rfl
theorem Zh6:Zs [] 0 []=[]:=rfl
attribute [go_sem] ZpW Zrn ZqG ZrE w64_0 w64_1 w64_2 w64_3 w64_4 w64_5 w64_6 e_stO ZAt Zxu Zn9 Zvj ZAd ZnU ZpC Zuz Zpx ZnG Zr3 ZzR Zt2 ZAu Zxx ZtN phx_1 phx_2 phK_n ZxI Zzs ZtO ZAc Zss Zw5 ZwT Zub ZpX sx_gh Zqk Zya ZBc Zx2 Zsn ZAl Znm ZAA ZnE ZA6 Zyg ZqU lkB_t lkB_f ZyR ZAs ZtH ZtU ZyX Zzw ZqJ Ztp Zw0 ZyS ZAh Zzu e_lk e_lk0 e_lkh ZAU ZA0 ZtX e_blk Zl7 Zn7 Zup Zue Ztw ZjX Zqa Zlb ZpT Zvs Zwz ZvO ZkY ZoQ Zfr Zhs ZjK ZjL Zmz ZfM Zh0 Zis ZkG Zqm Zsh Zne Zg1 Zji ZxQ Zg6 Zjj ZnL Zq8 ZpS ZgX Zj0 Ziz ZiD ZjB Zjk Zru Zos Zow ZnO Zox ZqP Zhv Zii ZiX ZlJ Zin ZlN Zp2 Zpq ZpD Zil Zl5 ZhO Zll Znt Zqj ZpE Zg9 ZlE Zfc Zhc Zmb ZlO Zk0 Zhy ZkI Zrt Zvl Zwv ZvX ZjQ Zpa Zit ZjP Zp3 Zm8 ZqS Zif Zk7 Zhz Zkc Zhm Zj5 Ze6 ZhG Zi7 Zk1 Zl8 ZfN Zik ZfA ZfK e_yld e_exR e_hpM ZkX Zfj Zio Zmu Zj2 Zjn Zih Zjl ZwN Zfa Zhj Zfb ZhC ZdU ZcD Zep Zcv Zbs e_rdG ZyP Zzy ZAe e_alw ZzH e_vw1 e_vw2 e_vw3 e_vw4 Zpb ZnB ZAa Zkk Zkj ZgV Zhg Zg4 Zh2 Zij Zhh ZhW Ziu Ziv ZjC ZhF Ziw Zim Zlu ZhK ZhS Zig ZnX ZrQ ZkO Zjz Zkg ZjE ZoD Zoj ZAi Zuy Zv4 e_mm e_bld ZiA ZyQ Zrk Zk8 ZpH Zsw Zpw Zmr ZlX e_rvR Zzl Zt3 Zvy ZpU ZhV ZfC Zj8 ZnD ZhY ZkP Zli ZpF Zg7 Zjb ZmI ZjJ Zmh Zme Zqs Zhn Zg2 ZmO ZhT ZlS e_rvs ZnY Zlo ZrP Zx9 ZBb ZlQ Zkt Zkb ZmM Zqz ZqO ZvQ Zyb Zw3 Zv8 ZuT Zwk Zvm Zr1 Zrz Zq1 ZqA Zod Zsi ZoI Zoh ZnM ZrR ZoY Zp8 Zuv Zu0 Ztu Zul Ztz Zyf ZuU Zx8 Zto Zwu Zt5 Zvd ZwM ZoM Zrw Zq7 ZpQ Zpz ZpN Zoy ZrU ZmP Zk5 Zrx Zrp ZmC Zj6 Ztn Zv6 Zka Zke Zlp ZkH Znd Zsj ZjZ Znr Zp9 Zqx Zre ZnV Zpg Zqo ZoB Zqc ZrN ZuB ZxZ Zuk ZuW Zwc Zwh ZxN Zxg ZqM ZpO Zog ZoJ Zsk ZqW ZnS Zn4 Zng ZoA Zo8 ZoK Zn3 ZoZ ZrD Zpv Zpf ZnR ZnT Zmw Zj7 ZkJ ZjA Zmp Zlw Zkw ZlB ZjM Zku ZkQ Zlg ZlZ ZlL ZkB Zki ZmT Zmx ZmH Zml ZmN Zmm ZkN ZlP Zlk Zkn Zlc ZjG ZmB ZpB Zsu Zlz Zri ZnA Zr7 Zrj Zo2 ZnW ZzQ ZzG Zq5 Zr9 Znp ZrL Zro Zsm ZnJ Zsv ZrY ZqH ZnI Zqg ZqI Zr4 ZpL Zn0 Zsr Zr2 Zr0 Zo5 Znq Zry Zwa Znz Zqd ZxB Zt4 Zxf Zva Ziy ZhR Zus ZvI Zvw ZwB Zuc Zwt Zwb Zvo ZxV Znu Zop Zm5 ZqV Zi4 ZAR Zzf ZwK ZwD Zo9 ZrZ ZwW Znj ZqR ZnF ZnC ZnN Zob Zq3 Znb ZvJ ZvR ZwZ Zv5 Zvc ZvT Zuu ZhP ZhA ZpP Zsl Zov Zo0 ZrF Zv1 Zu4 ZpY Znv ZrX Zq2 ZtR ZtW ZtC Zvu Zvf Zuo ZwF Zuj Zvv ZoT Zrc ZpM Zol Zoc Znw Zrs ZwU ZxD Ztt Zui Zxy ZvV Zuh Zwp Zur Zqb Zqw ZqF Zqr Zo7 Zoq ZoS ZtY Zx7 ZvA Zt6 ZuO Zug Zv3 Zum ZuK Zt0 ZvG Zw6 Zu1 Zjp ZkW Zt8 ZvL ZuD ZiV Zmj Zts Zv9 Zvb ZwG Zvt ZuG Zwg Zsg ZoF Zt1 ZrO Zrd Zkd ZjT Zx6 ZvY ZuV ZnQ Zr8 ZoO Zp4 ZrV ZoV ZqB ZnK Zqn Zni ZwO Zvk ZxK ZvD Zxz Zu8 ZwC Ztv ZtK Zu5 Zud ZtS Zx1 Zwj ZuZ ZxX ZvN Zu3 Zx5 Zxl ZqT ZrH Zp6 Zr6 Zn6 Zm6 ZqN Zxp Zwf Zw9 ZtF ZuH ZxM ZwL ZxP ZuC Zxe Zty ZoE Zpi Zrq ZpJ ZpK Zn8 ZrA Zny ZvZ Zuw Zwe Zun ZtT ZwY Zwn Zxd Zx3 ZxJ ZxY ZuP Zql ZoH Zpd Zph ZtL Zut ZxU ZtG ZqL Zsb ZrW ZqY Zoa Zso Zno Zqf ZrG Zpo Zwo ZxE Ztq Zi1 ZoR ZoU Zrv Znn Zsq Zor Zn2 ZpI Zon Zpr Zsa Zo3 Zpj ZoP Zp1 Zqu Zpc Zhw Zh6 List.drop List.take List.length List.cons_append List.nil_append Nat.beq Nat.blt Nat.ble Nat.zero_add Nat.add_zero Nat.mul_one Nat.zero_mul Nat.one_mul cond_true cond_false List.set
section typed
variable {K V:Type} [DecidableEq K]
def mpS (key:K->Value) (val:V->SV) (L:List (Nat × K × V)):List (Nat × Value × SV):=L.map fun e=>(e.1,key e.2.1,val e.2.2)
def XN (k:K):List (Nat × K × V)->Option V
 | []=>none
 | e :: l=>if e.2.1=k then some e.2.2 else XN k l
def Uw (c:Nat) (k:K) (v:V):List (Nat × K × V)->List (Nat × K × V)
 | []=>[(c,k,v)]
 | e :: l=>if e.2.1=k then (e.1,k,v) :: l else e :: Uw c k v l
def UP (k:K):List (Nat × K × V)->List (Nat × K × V)
 | []=>[]
 | e :: l=>if e.2.1=k then l else e :: UP k l
def Zcu (c:Nat) (k:K) (L:List (Nat × K × V)):Nat:=bif (XN k L).isSome then c else c+1
def fI (k:K):List K->List MapEntry->Nat->Option (Nat × Value)
 | q :: ks,e :: ys,i=>if q=k then some (i,e.val) else fI k ks ys (i+1)
 | _,_,_=>none
structure KeyT (P:Program) (kt:TypeId) (key:K->Value) (sv:K->SV):Prop where
 chk:∀ (em:Bool) (k:K) (w:World),(Instr.checkKey em 10000 kt (key k)).run P w = .ok () w
 fnd:∀ (k:K) (ks:List K) (ys:List MapEntry) (w:World),ys.map (·.key)=ks.map key->(Instr.findKey kt (key k) ys).run P w = .ok (fI k ks ys 0) w
 same:∀ k,Instr.sameBits 10000 (key k) (key k)=true
 svR:∀ {w:World} {E:Env} {n ok:Nat->Prop} (k:K) (y:Value),R w E n ok (sv k) y↔y=key k
theorem Zcg {w:World} {E:Env} {n ok:Nat->Prop} {key:K->Value} {val:V->SV} (k:K):∀ (L:List (Nat × K × V)) (ys:List MapEntry) (i:Nat),RM w E n ok (mpS key val L) ys ->
 (XN k L=none/\fI k (L.map (·.2.1)) ys i=none/\UP k L=L/\∀ {w':World} {E':Env} {n' ok':Nat->Prop} c v' y',R w' E' n' ok' (val v') y'->RM w' E' n' ok' (mpS key val L) ys->RM w' E' n' ok' (mpS key val (Uw c k v' L)) (ys ++ [⟨key k,y',c⟩])) \/
 ∃ j v e,XN k L=some v/\fI k (L.map (·.2.1)) ys i=some (i+j,e.val)/\ys[j]? = some e/\e.key=key k/\R w E n ok (val v) e.val /\
  (∀ {w':World} {E':Env} {n' ok':Nat->Prop},RM w' E' n' ok' (mpS key val L) ys->RM w' E' n' ok' (mpS key val (UP k L)) (ys.eraseIdx j)/\∀ c v' y',R w' E' n' ok' (val v') y'->RM w' E' n' ok' (mpS key val (Uw c k v' L)) (ys.modify j fun e=>{ e with key:=key k,val:=y' }))
 | [],ys,i,h=>by
  simp only [mpS,List.map_nil,RM] at h
  subst h
  exact .inl ⟨rfl,rfl,rfl,fun c v' y' hR _=>by simp only [Uw,mpS,List.map_cons,List.map_nil,List.nil_append,RM];exact ⟨y',[],rfl,hR,rfl⟩⟩
 | e :: l,ys,i,h=>by
  simp only [mpS,List.map_cons,RM] at h
  obtain ⟨y,r,rfl,h1,h2⟩:=h
  by_cases hk:e.2.1=k
  . refine .inr ⟨0,e.2.2,⟨key e.2.1,y,e.1⟩,by simp [XN,hk],by simp [fI,hk],rfl,by simp [hk],h1,fun {w' E' n' ok'} h'=>?_⟩
    simp only [mpS,List.map_cons,RM] at h'
    obtain ⟨y0,r0,e0,h3,h4⟩:=h'
    cases e0
    refine ⟨by simpa [UP,hk,mpS] using h4,fun c v' y' hR=>?_⟩
    simp only [Uw,hk,if_true,mpS,List.map_cons,RM]
    exact ⟨y',r,by simp,hR,h4⟩
  . rcases Zcg k l r (i+1) h2 with ⟨a1,a2,a3,a4⟩ | ⟨j,v,e',b1,b2,b3,b4,b5,b6⟩
    . refine .inl ⟨by simp [XN,hk,a1],by simp [fI,hk,a2],by simp [UP,hk,a3],fun {w' E' n' ok'} c v' y' hR h'=>?_⟩
      simp only [mpS,List.map_cons,RM] at h'
      obtain ⟨y0,r0,e0,h3,h4⟩:=h'
      cases e0
      simp only [Uw,hk,if_false,mpS,List.map_cons,RM]
      exact ⟨y,_,rfl,h3,a4 c v' y' hR h4⟩
    . refine .inr ⟨j+1,v,e',by simp [XN,hk,b1],by simp [fI,hk,b2];omega,by simpa using b3,b4,b5,fun {w' E' n' ok'} h'=>?_⟩
      simp only [mpS,List.map_cons,RM] at h'
      obtain ⟨y0,r0,e0,h3,h4⟩:=h'
      cases e0
      obtain ⟨c1,c2⟩:=b6 h4
      refine ⟨?_,fun c v' y' hR=>?_⟩
      . simp only [UP,hk,if_false,mpS,List.map_cons,RM]
        exact ⟨y,_,by simp,h3,c1⟩
      . simp only [Uw,hk,if_false,mpS,List.map_cons,RM]
        exact ⟨y,_,by simp,h3,c2 c v' y' hR⟩
omit [DecidableEq K] in
theorem ZbX {w:World} {E:Env} {n ok:Nat->Prop} {key:K->Value} {val:V->SV}:∀ {L:List (Nat × K × V)} {ys:List MapEntry},RM w E n ok (mpS key val L) ys->ys.map (·.key)=(L.map (·.2.1)).map key
 | [],ys,h=>by simp only [mpS,List.map_nil,RM] at h;subst h;rfl
 | e :: l,ys,h=>by
  simp only [mpS,List.map_cons,RM] at h
  obtain ⟨y,r,rfl,h1,h2⟩:=h
  simp only [List.map_cons,List.cons.injEq,true_and]
  exact ZbX h2
theorem Zth {w:World} {E:Env} {n ok:Nat->Prop}:∀ {L:List (Nat × Value × SV)} {ys:List MapEntry},RM w E n ok L ys->ys.length=L.length
 | [],ys,h=>by simp only [RM] at h;subst h;rfl
 | e :: l,ys,h=>by simp only [RM] at h;obtain ⟨y,r,rfl,h1,h2⟩:=h;simp [Zth h2]
theorem Zl3 {w:World} {E:Env} {n ok:Nat->Prop}:∀ {L:List (Nat × Value × SV)} {ys:List MapEntry},RM w E n ok L ys->∀ e ∈ ys,∃ x ∈ L,e.born=x.1/\e.key=x.2.1/\R w E n ok x.2.2 e.val
 | [],ys,h=>by simp only [RM] at h;subst h;simp
 | e :: l,ys,h=>by
  simp only [RM] at h;obtain ⟨y,r,rfl,h1,h2⟩:=h
  intro e' he'
  rcases List.mem_cons.1 he' with rfl | he'
  . exact ⟨e,by simp,rfl,rfl,h1⟩
  . obtain ⟨x,hx,h⟩:=Zl3 h2 e' he';exact ⟨x,by simp [hx],h⟩
theorem ZlY {w:World} {E:Env} {n ok:Nat->Prop}:∀ {L:List (Nat × Value × SV)} {ys:List MapEntry},RM w E n ok L ys->∀ x ∈ L,∃ e ∈ ys,e.born=x.1
 | [],ys,h=>by simp
 | e :: l,ys,h=>by
  simp only [RM] at h;obtain ⟨y,r,rfl,h1,h2⟩:=h
  intro x hx
  rcases List.mem_cons.1 hx with rfl | hx
  . exact ⟨_,List.mem_cons_self,rfl⟩
  . obtain ⟨e',he',h⟩:=ZlY h2 x hx;exact ⟨e',by simp [he'],h⟩
theorem Zzn {P:Program} {kt:TypeId} {kd:IntKind} (hu:P.underlying kt=some (.int kd)):KeyT P kt (fun n:Int=>.int kd n) (fun n=>.v (.int kd n)):=by
 refine ⟨fun em k w=>MapKept.run_checkKey hu (by simp [MapKept.IsKey]) em _,fun k ks ys w h=>?_,fun k=>by simp [Instr.sameBits],fun k y=>by simp only [R]⟩
 have:∀ (ks:List Int) (ys:List MapEntry) (i:Nat),ys.map (·.key)=ks.map (fun n:Int=>Value.int kd n)->Instr.findNow (.int kd) (.int kd k) ys i=some (fI k ks ys i):=by
  intro ks ys
  induction ys generalizing ks with
  | nil=>intro i h;cases ks with
   | nil=>rfl
   | cons a b=>simp at h
  | cons e ys ih=>intro i h;cases ks with
   | nil=>simp at h
   | cons a b =>
    simp only [List.map_cons,List.cons.injEq] at h
    simp only [Instr.findNow,h.1,Instr.sameNow,if_true,fI]
    by_cases ha:a=k
    . subst ha;simp
    . have:(k == a)=false:=by simpa using fun e=>ha e.symm
      simp [this,ha,ih b (i+1) h.2]
 exact MapKept.run_findKey hu (this ks ys 0 h)
end typed
section
variable {P:Program} {C:Cx} {E:Env} {σ : St} {a:Act} {w:World}
def ZaQ (σ : St):Operand->SV
 | .tmp u=>lk u σ.fr
 | .const x=>.v x
 | _=>.any
theorem Vp (h:Sim C E σ a w) {o:Operand} {s:SV} (hs:ZaQ σ o=s) (hg:∀ j b u,s≠.gd j b u):R w E (ltn σ.n) (okS C E σ.hp) s (a.eval o):=by
 cases o with
 | tmp u =>
  have:=ZvE (h.fr u) (fun j b u' e=>hg j b u' (by rw [<- hs];exact e))
  simp only [ZaQ] at hs;rw [hs] at this;exact this
 | const x=>simp only [ZaQ] at hs;subst hs;simp only [R];rfl
 | _=>simp only [ZaQ] at hs;subst hs;simp only [R]
theorem ZaC (h:Sim C E σ a w) {km c:Nat} {es:List (Nat × Value × SV)} (hk:lkh km σ.hp = .map es c) :
 ltn σ.n km/\∃ ys,w.heap[E.β km]? = some (.map ys c)/\RM w E (ltn σ.n) (okS C E σ.hp) es ys.toList:=by
 have hb:=h.hs.bk km
 rw [hk] at hb
 refine ⟨?_,hb⟩
 rcases Classical.em (ltn σ.n km) with q | q
 . exact q
 . rw [h.hs.kn km q] at hk;cases hk
theorem Zs8 {d:Option Nat} {s:SV} {r:KT} {K:RK} {y:Value} {w':World} {E':Env} {hp':List (Nat × HB)} {n':Nat} {next:Act->World->Prop} (hk:Yw d s none ⟨σ.fr,hp',n',σ.N,σ.gs⟩ r K) (h:Sim C E σ a w)
 (hst:ZE w w' (okS C E σ.hp) (okS C E' hp')) (hE:∀ k,k < σ.n->Ele E E' k k) (hn:σ.n<=n') (hh:HSim C E' hp' (ltn n') w') (hR:R w' E' (ltn n') (okS C E' hp') s y)
 (hnext:∀ σ' E' a' w',r σ' K->Sim C E' σ' a' w'->next a' w'):next (a.put d y) w':=by
 rcases Zat hk with ⟨g1,g2⟩ | ⟨t,g1,g2,g3,g4,g5⟩
 . rw [g1];exact hnext _ E' _ _ g2 (Yi (σ:=σ) h hst hE hn hh)
 . rw [g1]
   exact hnext _ E' _ _ g5 (XM (σ:=σ) h hst hE hn hh g2 g3 (fun j b u e=>by rw [e] at g4;cases g4) hR)
theorem WZ {d:Option Nat} {s:SV} {r:KT} {K:RK} {y:Value} {next:Act->World->Prop} (hk:Yw d s none σ r K) (h:Sim C E σ a w) (hR:R w E (ltn σ.n) (okS C E σ.hp) s y)
 (hnext:∀ σ' E' a' w',r σ' K->Sim C E' σ' a' w'->next a' w'):next (a.put d y) w :=
 Zs8 (hp':=σ.hp) (n':=σ.n) hk h (fun b hb _=>⟨hb,rfl⟩) (fun _ _=>Ele.rfl) (Nat.le_refl _) h.hs hR hnext
theorem Zkm {K':Type} [DecidableEq K'] {kt:TypeId} {key:K'->Value} {sv:K'->SV} (hK:KeyT P kt key sv) (k:K'):∀ j b u,sv k≠.gd j b u:=fun j b u e=>by
 have:=(hK.svR (w:=default) (E:=⟨fun _=>0,fun _ _=>undef,fun _=>0⟩) (n:=fun _=>True) (ok:=fun _=>True) k (key k)).2 rfl
 rw [e] at this;simp only [R] at this
theorem ZdZ {hp:List (Nat × HB)} {n:Nat->Prop} {q:Nat} {hb:HB} {o:Obj} (h:HSim C E hp n w) (hq:¬ n q) (hocc:∀ (E:Env) b,occ E q hb b↔b=E.β q)
 (hok:∀ E',(∀ k,n k->Ele E E' k k)->E'.β q=w.heap.size->Z2 (w.alloc o) E' (fun k=>n k\/k=q) (okS C E' ((q,hb) :: hp)) q hb) :
 ∃ E',(∀ k,n k->Ele E E' k k)/\E'.β q=w.heap.size/\HSim C E' ((q,hb) :: hp) (fun k=>n k\/k=q) (w.alloc o)/\ZE w (w.alloc o) (okS C E hp) (okS C E' ((q,hb) :: hp)):=by
 let E':Env:=⟨fun k=>if k=q then w.heap.size else E.β k,E.hv,E.iss⟩
 have hE:∀ k,n k->Ele E E' k k:=fun k hk=>⟨by simp [E',show k≠q from by rintro rfl;exact hq hk],Nat.le_refl _,fun _ _=>rfl⟩
 have hEn:E'.β q=w.heap.size:=by simp [E']
 have hbel:Below w.heap.size w (w.alloc o):=(Below.refl _ _).alloc (Nat.le_refl _) _
 have hoc:∀ j b,j≠q->(occ E' j (lkh j ((q,hb) :: hp)) b↔occ E j (lkh j hp) b):=fun j b hj=>by
  rw [Zp,if_neg hj]
  cases hl:lkh j hp<;>simp only [occ,E',if_neg hj]
 have hocn:∀ b,occ E' q (lkh q ((q,hb) :: hp)) b↔b=w.heap.size:=fun b=>by
  rw [Zp,if_pos rfl,hocc,hEn]
 have hlt:∀ b,b < w.heap.size->(okS C E' ((q,hb) :: hp) b↔okS C E hp b):=fun b hb'=>by
  unfold okS
  constructor
  . rintro ⟨h1,h2⟩
    refine ⟨h1,fun j hj=>?_⟩
    by_cases hjn:j=q
    . subst hjn;rw [h.kn j hq] at hj;exact hj
    . exact h2 j ((hoc j b hjn).2 hj)
  . rintro ⟨h1,h2⟩
    refine ⟨h1,fun j hj=>?_⟩
    by_cases hjn:j=q
    . subst hjn;rw [hocn] at hj;omega
    . exact h2 j ((hoc j b hjn).1 hj)
 have hst:ZE w (w.alloc o) (okS C E hp) (okS C E' ((q,hb) :: hp)):=fun b hb' hs=>by
  have hlt':b < w.heap.size:=by
   obtain ⟨o,ho⟩:=Option.isSome_iff_exists.1 hs
   exact (Array.getElem?_eq_some_iff.1 ho).1
  exact ⟨(hlt b hlt').2 hb',hbel.block b hlt'⟩
 refine ⟨E',hE,hEn,⟨fun j hj=>?_,fun j=>?_,fun j j' b h1 h2=>?_,fun j b h1=>?_,Vd h.kp hbel,fun k hk=>(by obtain ⟨p1,p2⟩:=h.pin k hk;exact ⟨.inl p1,p2.trans (hE k p1)⟩)⟩,hst⟩
 . rw [Zp,if_neg (fun e=>hj (.inr e))];exact h.kn j (fun e=>hj (.inl e))
 . rw [Zp]
   by_cases hj:j=q
   . subst hj;rw [if_pos rfl]
     exact hok E' hE hEn
   . rw [if_neg hj]
     refine Yl hst hE (fun _ h=>.inl h) ?_ (fun b ho=>hbel.block b (YL h ho)) (by simp [E',hj]) (h.bk j)
     rcases Classical.em (n j) with h' | h'
     . exact .inr h'
     . exact .inl (h.kn j h')
 . by_cases hj:j=q<;>by_cases hj':j'=q
   . omega
   . subst hj;rw [hocn] at h1;rw [hoc j' b hj'] at h2;have:=YL h h2;omega
   . subst hj';rw [hocn] at h2;rw [hoc j b hj] at h1;have:=YL h h1;omega
   . exact h.dj j j' b ((hoc j b hj).1 h1) ((hoc j' b hj').1 h2)
 . by_cases hj:j=q
   . subst hj;rw [hocn] at h1;exact .inl (by rw [h1];exact h.kp.size)
   . exact h.lo j b ((hoc j b hj).1 h1)
end
section
variable {P:Program} {K' V:Type} [DecidableEq K'] {key:K'->Value} {sv:K'->SV} {val:V->SV} {L:List (Nat × K' × V)} {km c:Nat} {kt et t ty:TypeId} {mx ix vx:Operand} {σ : St} {r:KT} {K:RK} {d:Option Nat} {k:K'}
theorem Zce {u:Nat} {rs:Option Operand} (hr:rs=none) (h1:Xy u σ.gs=false) (h2:Nat.blt u σ.N=true) (h:r ⟨(u,.mp σ.n) :: σ.fr,(σ.n,.map [] 0) :: σ.hp,σ.n+1,σ.N,σ.gs⟩ K) :
 RAW P (some u) (.makeMap t rs) ty σ r K:=by
 subst hr
 intro o C E a w next Q e1 e2 e3 hS hn hq
 obtain ⟨E',k1,k2,k3,k4⟩:=ZdZ (q:=σ.n) (hb:=.map [] 0) (o:=.map #[] 0) hS.hs (by simp [ltn]) (fun E b=>by simp only [occ]) (fun E' g1 g2=>by
  simp only [Z2,g2];exact ⟨#[],heap_alloc_new _ _,rfl⟩)
 have hV:(fun k=>ltn σ.n k\/k = σ.n)=ltn (σ.n+1):=by funext k;simp only [ltn,eq_iff_iff];omega
 rw [hV] at k3
 have hx:(execOp a.eval o).run P w = .ok (.value (.map (some w.heap.size))) (w.alloc (.map #[] 0)):=by
  obtain ⟨dst',op',ty',pos,after,guard⟩:=o
  simp only at e2;subst e2
  simp [execOp,Sem.run_bind,Instr.makeMap,Zdh,Sem.run_pure]
 refine ZD hx (by simp) ?_
 show next (a.put o.dst _) _
 rw [e1]
 refine hn _ E' _ _ h (XM hS k4 k1 (by omega) k3 (fun hh=>?_) (by simpa [Nat.blt_eq] using h2) (fun _ _ _ e=>by cases e) ?_)
 . rw [ZV.2 hh] at h1;cases h1
 . simp only [R,k2];exact ⟨by simp [ltn],trivial⟩
theorem Zfs {ok:Bool} {zs:SV} {z:Value} (hm:ZaQ σ mx = .mp km) (hh:lkh km σ.hp = .map (mpS key val L) c) (ht:P.underlying t=some (.map kt et)) (hK:KeyT P kt key sv) (hi:ZaQ σ ix=sv k)
 (hz:Xa P et=some z) (hzR:∀ w E n ok,R w E n ok zs z)
 (h1:∀ v,XN k L=some v->Yw d (bif ok then .tup [val v,.v (.bool true)] else val v) none σ r K) (h0:XN k L=none->Yw d (bif ok then .tup [zs,.v (.bool false)] else zs) none σ r K) :
 RAW P d (.lookup t mx ix ok) ty σ r K:=by
 intro o C E a w next Q e1 e2 e3 hS hn hq
 have hmv:=Vp hS hm (fun _ _ _=>by simp)
 have hiv:=(hK.svR k _).1 (Vp hS hi (Zkm hK k))
 simp only [R] at hmv
 obtain ⟨g0,ys,g1,g2⟩:=ZaC hS hh
 have hfn:=fun w=>hK.fnd k _ _ w (ZbX g2)
 have hex:∀ y,(Instr.lookup t (a.eval mx) (a.eval ix) ok).run P w = .ok y w->(execOp a.eval o).run P w = .ok (.value y) w:=fun y hy=>by
  obtain ⟨dst',op',ty',pos,after,guard⟩:=o
  simp only at e2;subst e2
  simp only [execOp,Sem.run_bind,hy,Result.andThen_ok,Sem.run_pure]
 rcases Zcg (w:=w) (E:=E) (n:=ltn σ.n) (ok:=okS C E σ.hp) k L ys.toList 0 g2 with ⟨a1,a2,-,-⟩ | ⟨j,v,e,b1,b2,b3,b4,b5,-⟩
 . have hrun:(Instr.lookup t (a.eval mx) (a.eval ix) ok).run P w = .ok (if ok then .tuple #[z,.bool false] else z) w:=by
    rw [hmv.2,hiv]
    simp only [Instr.lookup,Sem.run_bind,run_underlying ht,Result.andThen_ok,Ym g1 rfl,Sem.run_pure,hK.chk,hfn,a2,VW hz]
   refine ZD (hex _ hrun) (by simp) ?_
   show next (a.put o.dst _) _
   rw [e1]
   refine WZ (h0 a1) hS ?_ hn
   cases ok
   . exact hzR _ _ _ _
   . simp only [cond_true,if_true,R,RL];exact ⟨_,rfl,_,_,rfl,hzR _ _ _ _,_,_,rfl,rfl,rfl⟩
 . have hrun:(Instr.lookup t (a.eval mx) (a.eval ix) ok).run P w = .ok (if ok then .tuple #[e.val,.bool true] else e.val) w:=by
    rw [hmv.2,hiv]
    simp only [Instr.lookup,Sem.run_bind,run_underlying ht,Result.andThen_ok,Ym g1 rfl,Sem.run_pure,hK.chk,hfn,b2]
   refine ZD (hex _ hrun) (by simp) ?_
   show next (a.put o.dst _) _
   rw [e1]
   refine WZ (h1 v b1) hS ?_ hn
   cases ok
   . exact b5
   . simp only [cond_true,if_true,R,RL];exact ⟨_,rfl,_,_,rfl,b5,_,_,rfl,rfl,rfl⟩
theorem ZqD {v:V} {s:SV} {ins:Bool} (hm:ZaQ σ mx = .mp km) (hh:lkh km σ.hp = .map (mpS key val L) c) (ht:P.underlying t=some (.map kt et)) (hK:KeyT P kt key sv) (hi:ZaQ σ ix=sv k)
 (hv:ZaQ σ vx=s) (hvg:∀ j b u,s≠.gd j b u) (hsv:∀ w E n ok y,R w E n ok s y->R w E n ok (val v) y) (h:r ⟨σ.fr,(km,.map (mpS key val (Uw c k v L)) (Zcu c k L)) :: σ.hp,σ.n,σ.N,σ.gs⟩ K) :
 RAW P none (bif ins then .insert t mx ix vx else .mapUpdate t mx ix vx) ty σ r K:=by
 intro o C E a w next Q e1 e2 e3 hS hn hq
 have hmv:=Vp hS hm (fun _ _ _=>by simp)
 have hiv:=(hK.svR k _).1 (Vp hS hi (Zkm hK k))
 have hvv:=hsv _ _ _ _ _ (Vp hS hv hvg)
 simp only [R] at hmv
 obtain ⟨g0,ys,g1,g2⟩:=ZaC hS hh
 have hfn:=fun w=>hK.fnd k _ _ w (ZbX g2)
 have hex:∀ w',(Instr.mapUpdate t (a.eval mx) (a.eval ix) (a.eval vx)).run P w = .ok () w'->(execOp a.eval o).run P w = .ok .skip w':=fun w' hy=>by
  obtain ⟨dst',op',ty',pos,after,guard⟩:=o
  simp only at e2;subst e2
  cases ins<;>simp only [cond_true,cond_false,execOp,Sem.run_bind,hy,Result.andThen_ok,Sem.run_pure]
 have hfin:∀ ys',((ys':Array MapEntry),Zcu c k L)=(ys',Zcu c k L)->(∀ {w':World} {ok':Nat->Prop},RM w' E (ltn σ.n) ok' (mpS key val L) ys.toList->R w' E (ltn σ.n) ok' (val v) (a.eval vx)->RM w' E (ltn σ.n) ok' (mpS key val (Uw c k v L)) ys'.toList) ->
  next (a.put o.dst undef) (Ug w (E.β km) (.map ys' (Zcu c k L))):=fun ys' _ hRM=>by
  obtain ⟨q1,q2⟩:=Vf (k:=km) (hb:=.map (mpS key val (Uw c k v L)) (Zcu c k L)) (o:=.map ys' (Zcu c k L)) hS.hs (fun b=>by rw [hh];simp only [occ]) (fun b=>by simp only [occ]) (fun hlt hst=>by
   simp only [Z2]
   exact ⟨ys',X9 hlt,hRM (Zb4 hst.c (fun _ _=>Ele.rfl) (fun _ h=>h) _ _ g2) (ZN hst.c (fun _ _=>Ele.rfl) (fun _ h=>h) _ _ hvv)⟩)
  rw [e1]
  exact hn _ E _ _ h (Yi hS q2 (fun _ _=>Ele.rfl) (Nat.le_refl _) q1)
 rcases Zcg (w:=w) (E:=E) (n:=ltn σ.n) (ok:=okS C E σ.hp) k L ys.toList 0 g2 with ⟨a1,a2,-,a4⟩ | ⟨j,v0,e,b1,b2,b3,b4,b5,b6⟩
 . have hc:Zcu c k L=c+1:=by simp [Zcu,a1]
   have hrun:(Instr.mapUpdate t (a.eval mx) (a.eval ix) (a.eval vx)).run P w = .ok () (Ug w (E.β km) (.map (ys.push ⟨key k,a.eval vx,c⟩) (c+1))):=by
    rw [hmv.2,hiv]
    simp only [Instr.mapUpdate,Sem.run_bind,run_underlying ht,Result.andThen_ok,Ym g1 rfl,Sem.run_pure,hK.chk,hfn,a2,Y3 _ g1 rfl]
   refine ZD (hex _ hrun) (by simp) ?_
   show next (a.put o.dst undef) _
   rw [<- hc]
   exact hfin _ rfl fun h1 h2=>by rw [Array.toList_push];exact a4 c v _ h2 h1
 . have hc:Zcu c k L=c:=by simp [Zcu,b1]
   rw [Nat.zero_add] at b2
   have hek:((ys[j]?).map (·.key)).getD (key k)=key k:=by
    have:ys[j]? = some e:=by simpa using b3
    simp [this,b4]
   have hrun:(Instr.mapUpdate t (a.eval mx) (a.eval ix) (a.eval vx)).run P w = .ok () (Ug w (E.β km) (.map (ys.modify j fun e=>{ e with key:=key k,val:=a.eval vx }) c)):=by
    rw [hmv.2,hiv]
    simp only [Instr.mapUpdate,Sem.run_bind,run_underlying ht,Result.andThen_ok,Ym g1 rfl,Sem.run_pure,hK.chk,hfn,b2,hek,Instr.keyThatStays,hK.same,if_true,Y3 _ g1 rfl]
   refine ZD (hex _ hrun) (by simp) ?_
   show next (a.put o.dst undef) _
   have:=hfin (ys.modify j fun e=>{ e with key:=key k,val:=a.eval vx }) rfl fun {w' ok'} h1 h2=>by
    rw [Array.toList_modify];exact (b6 h1).2 c v _ h2
   rw [hc] at this;exact this
theorem Zdg {v:V} {ins:Bool} (hm:ZaQ σ mx = .mp km) (hh:lkh km σ.hp = .map (mpS key val L) c) (ht:P.underlying t=some (.map kt et)) (hK:KeyT P kt key sv) (hi:ZaQ σ ix=sv k)
 (hv:ZaQ σ vx=val v) (hvg:∀ j b u,val v≠.gd j b u) (h:r ⟨σ.fr,(km,.map (mpS key val (Uw c k v L)) (Zcu c k L)) :: σ.hp,σ.n,σ.N,σ.gs⟩ K) :
 RAW P none (bif ins then .insert t mx ix vx else .mapUpdate t mx ix vx) ty σ r K:=ZqD hm hh ht hK hi hv hvg (fun _ _ _ _ _ h=>h) h
theorem Zvn (hm:ZaQ σ mx = .mp km) (hh:lkh km σ.hp = .map (mpS key val L) c) (ht:P.underlying t=some (.map kt et)) (hK:KeyT P kt key sv) (hi:ZaQ σ ix=sv k) {ats:Array TypeId} (ha:ats[0]? = some t)
 (h:r ⟨σ.fr,(km,.map (mpS key val (UP k L)) c) :: σ.hp,σ.n,σ.N,σ.gs⟩ K) :
 RAW P none (.call { callee:=.builtin .delete,args:=#[mx,ix],argTypes:=ats }) ty σ r K:=by
 intro o C E a w next Q e1 e2 e3 hS hn hq
 have hmv:=Vp hS hm (fun _ _ _=>by simp)
 have hiv:=(hK.svR k _).1 (Vp hS hi (Zkm hK k))
 simp only [R] at hmv
 obtain ⟨g0,ys,g1,g2⟩:=ZaC hS hh
 have hfn:=fun w=>hK.fnd k _ _ w (ZbX g2)
 have hex:∀ w',(Builtin.delete_ ats ty #[a.eval mx,a.eval ix]).run P w = .ok (.tuple #[]) w'->(execOp a.eval o).run P w = .ok (.value (.tuple #[])) w':=fun w' hy=>by
  obtain ⟨dst',op',ty',pos,after,guard⟩:=o
  simp only at e2 e3;subst e2;subst e3
  simp [execOp,resolve,invoke,builtin,hy]
 have hfin:∀ ys':Array MapEntry,(∀ {w':World} {ok':Nat->Prop},RM w' E (ltn σ.n) ok' (mpS key val L) ys.toList->RM w' E (ltn σ.n) ok' (mpS key val (UP k L)) ys'.toList) ->
  next (a.put o.dst (.tuple #[])) (Ug w (E.β km) (.map ys' c)):=fun ys' hRM=>by
  obtain ⟨q1,q2⟩:=Vf (k:=km) (hb:=.map (mpS key val (UP k L)) c) (o:=.map ys' c) hS.hs (fun b=>by rw [hh];simp only [occ]) (fun b=>by simp only [occ]) (fun hlt hst=>by
   simp only [Z2]
   exact ⟨ys',X9 hlt,hRM (Zb4 hst.c (fun _ _=>Ele.rfl) (fun _ h=>h) _ _ g2)⟩)
  rw [e1]
  exact hn _ E _ _ h (Yi hS q2 (fun _ _=>Ele.rfl) (Nat.le_refl _) q1)
 rcases Zcg (w:=w) (E:=E) (n:=ltn σ.n) (ok:=okS C E σ.hp) k L ys.toList 0 g2 with ⟨a1,a2,a3,-⟩ | ⟨j,v0,e,b1,b2,b3,b4,b5,b6⟩
 . have hrun:(Builtin.delete_ ats ty #[a.eval mx,a.eval ix]).run P w = .ok (.tuple #[]) (Ug w (E.β km) (.map ys c)):=by
    rw [hmv.2,hiv]
    simp [Builtin.delete_,Sem.run_bind,ha,run_underlying ht,Result.andThen_ok,Ym g1 rfl,Sem.run_pure,hK.chk,hfn,a2,Y3 _ g1 rfl]
   refine ZD (hex _ hrun) (by simp) ?_
   show next (a.put o.dst _) _
   exact hfin _ fun h1=>by rw [a3];exact h1
 . rw [Nat.zero_add] at b2
   have hlt:j < ys.size:=by
    have:ys[j]? = some e:=by simpa using b3
    exact (Array.getElem?_eq_some_iff.1 this).1
   have hrun:(Builtin.delete_ ats ty #[a.eval mx,a.eval ix]).run P w = .ok (.tuple #[]) (Ug w (E.β km) (.map (ys.eraseIdxIfInBounds j) c)):=by
    rw [hmv.2,hiv]
    simp [Builtin.delete_,Sem.run_bind,ha,run_underlying ht,Result.andThen_ok,Ym g1 rfl,Sem.run_pure,hK.chk,hfn,b2,Y3 _ g1 rfl]
   refine ZD (hex _ hrun) (by simp) ?_
   show next (a.put o.dst _) _
   exact hfin _ fun {w' ok'} h1=>by
    have:(ys.eraseIdxIfInBounds j).toList=ys.toList.eraseIdx j:=by simp [Array.eraseIdxIfInBounds,hlt]
    rw [this];exact (b6 h1).1
theorem Zqt {es:List (Nat × Value × SV)} (hm:ZaQ σ mx = .mp km) (hh:lkh km σ.hp = .map es c) (ht:P.underlying t=some (.map kt et)) {ats:Array TypeId} (ha:ats[0]? = some t)
 (h:Yw d (.v (.int .i64 es.length)) none σ r K):RAW P d (.call { callee:=.builtin .len,args:=#[mx],argTypes:=ats }) ty σ r K:=by
 intro o C E a w next Q e1 e2 e3 hS hn hq
 have hmv:=Vp hS hm (fun _ _ _=>by simp)
 simp only [R] at hmv
 obtain ⟨g0,ys,g1,g2⟩:=ZaC hS hh
 have hl:=Zth g2
 have hrun:(Builtin.len_ ats ty #[a.eval mx]).run P w = .ok (.int .i64 es.length) w:=by
  rw [hmv.2]
  simp [Builtin.len_,Sem.run_bind,ha,run_underlying ht,Result.andThen_ok,Ym g1 rfl,Sem.run_pure,goInt,<- hl]
 have hx:(execOp a.eval o).run P w = .ok (.value (.int .i64 es.length)) w:=by
  obtain ⟨dst',op',ty',pos,after,guard⟩:=o
  simp only at e2 e3;subst e2;subst e3
  simp [execOp,resolve,invoke,builtin,hrun]
 refine ZD hx (by simp) ?_
 show next (a.put o.dst _) _
 rw [e1]
 exact WZ h hS (by simp only [R]) hn
theorem ZkD {u:Nat} {es:List (Nat × Value × SV)} (hm:ZaQ σ mx = .mp km) (hh:lkh km σ.hp = .map es c) (ht:P.underlying t=some (.map kt et)) (h1:Xy u σ.gs=false) (h2:Nat.blt u σ.N=true)
 (h:r ⟨(u,.p σ.n 0) :: σ.fr,(σ.n,.it km c [] c) :: σ.hp,σ.n+1,σ.N,σ.gs⟩ K):RAW P (some u) (.range t mx) ty σ r K:=by
 intro o C E a w next Q e1 e2 e3 hS hn hq
 have hmv:=Vp hS hm (fun _ _ _=>by simp)
 simp only [R] at hmv
 obtain ⟨g0,ys,g1,g2⟩:=ZaC hS hh
 obtain ⟨E',k1,k2,k3,k4⟩:=ZdZ (q:=σ.n) (hb:=.it km c [] c) (o:=.mapIter (some (E.β km)) c #[] c) hS.hs (by simp [ltn]) (fun E b=>by simp only [occ]) (fun E' q1 q2=>by
  simp only [Z2,q2];exact ⟨.inl g0,by rw [(q1 km g0).1];exact heap_alloc_new _ _⟩)
 have hV:(fun k=>ltn σ.n k\/k = σ.n)=ltn (σ.n+1):=by funext k;simp only [ltn,eq_iff_iff];omega
 rw [hV] at k3
 have hx:(execOp a.eval o).run P w = .ok (.value (.pointer (some ⟨w.heap.size,0,none⟩))) (w.alloc (.mapIter (some (E.β km)) c #[] c)):=by
  obtain ⟨dst',op',ty',pos,after,guard⟩:=o
  simp only at e2;subst e2
  simp only [execOp,hmv.2]
  simp [Sem.run_bind,Instr.range,run_underlying ht,Ym g1 rfl,Zdh,Sem.run_pure]
 refine ZD hx (by simp) ?_
 show next (a.put o.dst _) _
 rw [e1]
 refine hn _ E' _ _ h (XM hS k4 k1 (by omega) k3 (fun hh=>?_) (by simpa [Nat.blt_eq] using h2) (fun _ _ _ e=>by cases e) ?_)
 . rw [ZV.2 hh] at h1;cases h1
 . simp only [R,k2];exact ⟨by simp [ltn],trivial⟩
theorem Zlm (w:World) (ty:TypeId) (rr bm since last:Nat) (seen:Array Nat) (es:Array MapEntry) (clock:Nat)
 (hr:w.heap[rr]? = some (.mapIter (some bm) since seen last)) (hb:w.heap[bm]? = some (.map es clock)) (hold:∀ x ∈ es.toList,x.born < since) (hsc:since<=last) :
 ((∀ x ∈ es.toList,seen.contains x.born=true)/\(Instr.next (.pointer (some ⟨rr,0,none⟩)) false ty).run P w = .ok (.tuple #[.bool false]) w) \/
 ∃ e ∈ es.toList,seen.contains e.born=false/\∃ k,(Instr.next (.pointer (some ⟨rr,0,none⟩)) false ty).run P w = .ok (.tuple #[.bool true,e.key,e.val]) (Ug { w with drawn:=k } rr (.mapIter (some bm) since (seen.push e.born) clock)):=by
 have htest:(!seen.isEmpty && !es.isEmpty && es.all (fun x=>decide (x.born ≥ last)))=false:=by
  rw [Bool.eq_false_iff]
  intro hh
  simp only [Bool.and_eq_true,Bool.not_eq_true'] at hh
  obtain ⟨⟨-,h2⟩,h3⟩:=hh
  have h0:0 < es.size:=by
   rcases Nat.eq_zero_or_pos es.size with h0 | h0
   . simp [Array.isEmpty,h0] at h2
   . exact h0
  rw [Array.all_eq_true_iff_forall_mem] at h3
  have h4:=h3 _ (Array.getElem_mem h0)
  have h5:=hold es[0] (by simp)
  simp at h4;omega
 have hL:(Array.filter (fun e=>!seen.contains e.born) es).filter (fun x=>decide (x.born < since))=Array.filter (fun e=>!seen.contains e.born) es :=
  Array.filter_eq_self.2 fun x hx=>by
   simp only [Array.mem_filter] at hx;simpa using hold x (by simpa using hx.1)
 have hL2:(Array.filter (fun e=>!seen.contains e.born) es).filter (fun x=>decide (x.born ≥ since)) = #[]:=by
  rw [Array.filter_eq_empty_iff]
  intro x hx
  simp only [Array.mem_filter] at hx
  have:=hold x (by simpa using hx.1)
  simp;omega
 simp only [Instr.next,Sem.run_bind,Ym hr rfl,Ym hb rfl,Result.andThen_ok,htest,Bool.false_eq_true,if_false,hL,hL2,Array.append_empty]
 have hmem:∀ x,x ∈ Array.filter (fun e=>!seen.contains e.born) es↔x ∈ es.toList/\seen.contains x.born=false:=fun x=>by
  simp [Array.mem_filter]
 generalize hF:Array.filter (fun e=>!seen.contains e.born) es=F at hmem ⊢
 by_cases h0:F.size=0
 . left
   have hE:F = #[]:=Array.eq_empty_of_size_eq_zero h0
   subst hE
   refine ⟨fun x hx=>?_,?_⟩
   . cases hc:seen.contains x.born with
     | true=>rfl
     | false=>have:=(hmem x).2 ⟨hx,hc⟩;simp at this
   . simp [choose,Sem.run,Question.forced]
 . right
   have hne:F.isEmpty=false:=by simp [Array.isEmpty,h0]
   simp only [hne,Bool.false_eq_true,if_false,Array.empty_append,Array.size_map]
   have hch:∃ (j:Nat) (k:Nat),j < F.size/\(choose (Question.mapNext F.size)).run P w = .ok j { w with drawn:=k }:=by
    by_cases hf:F.size<=1
    . exact ⟨0,w.drawn,by omega,by simp [choose,Sem.run,Question.forced,hf]⟩
    . exact ⟨_,w.drawn+1,Nat.mod_lt _ (by omega),by
       simp only [choose,Sem.run,Question.forced,decide_eq_true_eq,hf,if_false,Question.cut]
       rfl⟩
   obtain ⟨j,k,hj,hrun⟩:=hch
   have hm:=(hmem F[j]).1 (Array.getElem_mem hj)
   refine ⟨F[j],hm.1,hm.2,k,?_⟩
   have hr1:({ w with drawn:=k }:World).heap[rr]? = some (.mapIter (some bm) since seen last):=hr
   simp only [hrun,Array.getElem?_map,Array.getElem?_eq_getElem hj,Option.map_some,Sem.run_bind,Result.andThen_ok,Y3 _ hr1 rfl,Sem.run_pure]
theorem Zsx {q since last:Nat} {seen:List Nat} (hm:ZaQ σ mx = .p q 0) (hq:lkh q σ.hp = .it km since seen last) (hh:lkh km σ.hp = .map (mpS key val L) c) (hold:∀ e ∈ L,e.1 < since) (hsc:since<=last) (hK:KeyT P kt key sv)
 (h0:(∀ e ∈ L,e.1 ∈ seen)->Yw d (.tup [.v (.bool false)]) none σ r K)
 (h1:∀ e ∈ L,e.1 ∉ seen->Yw d (.tup [.v (.bool true),sv e.2.1,val e.2.2]) none ⟨σ.fr,(q,.it km since (seen ++ [e.1]) c) :: σ.hp,σ.n,σ.N,σ.gs⟩ r K) :
 RAW P d (.next mx false) ty σ r K:=by
 intro o C E a w next Q e1 e2 e3 hS hn _
 have hmv:=Vp hS hm (fun _ _ _=>by simp)
 simp only [R] at hmv
 obtain ⟨g0,ys,g1,g2⟩:=ZaC hS hh
 have hb:=hS.hs.bk q
 rw [hq] at hb
 obtain ⟨-,hit⟩:=hb
 have hex:∀ y w',(Instr.next (a.eval mx) false ty).run P w = .ok y w'->(execOp a.eval o).run P w = .ok (.value y) w':=fun y w' hy=>by
  obtain ⟨dst',op',ty',pos,after,guard⟩:=o
  simp only at e2 e3;subst e2;subst e3
  simp only [execOp,Sem.run_bind,hy,Result.andThen_ok,Sem.run_pure]
 rw [hmv.2] at hex
 rcases Zlm (P:=P) w ty (E.β q) (E.β km) since last seen.toArray ys c hit g1 (fun x hx=>by
  obtain ⟨z,hz,z1,z2,z3⟩:=Zl3 g2 x hx
  obtain ⟨e,he,rfl⟩:=List.mem_map.1 hz
  rw [z1];exact hold e he) hsc with ⟨k1,k2⟩ | ⟨e,k1,k2,k,k3⟩
 . refine ZD (hex _ _ k2) (by simp) ?_
   show next (a.put o.dst _) _
   rw [e1]
   refine WZ (h0 fun e he=>?_) hS (by simp only [R,RL];exact ⟨_,rfl,_,_,rfl,rfl,rfl⟩) hn
   obtain ⟨y,hy,hyb⟩:=ZlY g2 (e.1,key e.2.1,val e.2.2) (List.mem_map.2 ⟨e,he,rfl⟩)
   have:=k1 y hy
   rw [hyb] at this
   simpa using this
 . refine ZD (hex _ _ k3) (by simp) ?_
   show next (a.put o.dst _) _
   obtain ⟨z,hz,z1,z2,z3⟩:=Zl3 g2 e k1
   obtain ⟨x,hx,rfl⟩:=List.mem_map.1 hz
   simp only at z1 z2 z3
   have hS':=Zbv hS k
   have hqn:ltn σ.n q:=by
    rcases Classical.em (ltn σ.n q) with h | h
    . exact h
    . rw [hS.hs.kn q h] at hq;cases hq
   obtain ⟨q1,q2⟩:=Vf (k:=q) (hb:=.it km since (seen ++ [x.1]) c) (o:=.mapIter (some (E.β km)) since (seen.toArray.push e.born) c) hS'.hs (fun b=>by rw [hq];simp only [occ]) (fun b=>by simp only [occ]) (fun hlt hst=>by
    simp only [Z2]
    refine ⟨g0,?_⟩
    rw [z1]
    have:(seen ++ [x.1]).toArray=seen.toArray.push x.1:=by simp
    rw [this]
    exact X9 hlt)
   rw [e1]
   refine Zs8 (h1 x hx (by rw [z1] at k2;simpa using k2)) hS' q2 (fun _ _=>Ele.rfl) (Nat.le_refl _) q1 ?_ hn
   simp only [R,RL]
   have e4:=(hK.svR (w:=Ug { w with drawn:=k } (E.β q) (.mapIter (some (E.β km)) since (seen.toArray.push e.born) c)) (E:=E) (n:=ltn σ.n) (ok:=okS C E ((q,.it km since (seen ++ [x.1]) c) :: σ.hp)) x.2.1 e.key).2 z2
   have z4:R { w with drawn:=k } E (ltn σ.n) (okS C E σ.hp) (val x.2.2) e.val:=ZN (w:=w) (w':={ w with drawn:=k }) (ok:=okS C E σ.hp) (fun b hb _=>⟨hb,rfl⟩) (fun _ _=>Ele.rfl) (fun _ h=>h) _ _ z3
   exact ⟨_,rfl,_,_,rfl,rfl,_,_,rfl,e4,_,_,rfl,ZN q2.c (fun _ _=>Ele.rfl) (fun _ h=>h) _ _ z4,rfl⟩
theorem Zls {q since:Nat} {seen:List Nat} {e:Nat × K' × V} (hm:ZaQ σ mx = .p q 0) (hq:lkh q σ.hp = .it km since (seen ++ [e.1]) c) (hh:lkh km σ.hp = .map (mpS key val L) c) (he:e ∈ L) (hn:(L.map (·.1)).Nodup) (hK:KeyT P kt key sv)
 (hk:Yw d (.tup [sv e.2.1,val e.2.2]) none σ r K):RAW P d (.entry mx) ty σ r K:=by
 intro o C E a w next Q e1 e2 e3 hS hnx _
 have hmv:=Vp hS hm (fun _ _ _=>by simp)
 simp only [R] at hmv
 obtain ⟨g0,ys,g1,g2⟩:=ZaC hS hh
 have hb:=hS.hs.bk q
 rw [hq] at hb
 obtain ⟨-,hit⟩:=hb
 have hfind:∀ (L:List (Nat × K' × V)) (ys:List MapEntry),RM w E (ltn σ.n) (okS C E σ.hp) (mpS key val L) ys->e ∈ L->(L.map (·.1)).Nodup->∃ y,ys.find? (·.born == e.1)=some y/\y.key=key e.2.1/\R w E (ltn σ.n) (okS C E σ.hp) (val e.2.2) y.val:=by
  intro L
  induction L with
  | nil=>intro ys _ he;cases he
  | cons x l ih =>
   intro ys h he hn
   simp only [mpS,List.map_cons,RM] at h
   obtain ⟨y,r,rfl,h1,h2⟩:=h
   simp only [List.map_cons,List.nodup_cons] at hn
   rcases List.mem_cons.1 he with rfl | he
   . exact ⟨⟨key e.2.1,y,e.1⟩,by simp,rfl,h1⟩
   . obtain ⟨y',q1,q2⟩:=ih r h2 he hn.2
     refine ⟨y',?_,q2⟩
     have:x.1≠e.1:=fun hx=>hn.1 (hx ▸ List.mem_map.2 ⟨e,he,rfl⟩)
     simp [this,q1]
 obtain ⟨y,f1,f2,f3⟩:=hfind L ys.toList g2 he hn
 have f1':ys.find? (·.born == e.1)=some y:=by rw [<- Array.find?_toList];exact f1
 have hrun:(Instr.entry (.pointer (some ⟨E.β q,0,none⟩))).run P w = .ok (.tuple #[y.key,y.val]) w:=by
  have:(seen ++ [e.1]).toArray.back? = some e.1:=by simp
  simp only [Instr.entry,Sem.run_bind,Ym hit rfl,Ym g1 rfl,Result.andThen_ok,this,bne_self_eq_false,Bool.false_eq_true,if_false,f1',Sem.run_pure]
 have hx:(execOp a.eval o).run P w = .ok (.value (.tuple #[y.key,y.val])) w:=by
  obtain ⟨dst',op',ty',pos,after,guard⟩:=o
  simp only at e2;subst e2
  simp only [execOp,Sem.run_bind,hmv.2,hrun,Result.andThen_ok,Sem.run_pure]
 refine ZD hx (by simp) ?_
 show next (a.put o.dst _) _
 rw [e1]
 refine WZ hk hS ?_ hnx
 simp only [R,RL]
 exact ⟨_,rfl,_,_,rfl,(hK.svR _ _).2 f2,_,_,rfl,f3,rfl⟩
end
section
variable {K V:Type} [DecidableEq K] {k k':K} {v:V} {c:Nat} {L:List (Nat × K × V)}
structure MW (L:List (Nat × K × V)) (c:Nat):Prop where
 bn:(L.map (·.1)).Nodup
 bl:∀ e ∈ L,e.1 < c
 kn:(L.map (·.2.1)).Nodup
omit [DecidableEq K] in
theorem MW.nil {c:Nat}:MW ([]:List (Nat × K × V)) c:=⟨List.nodup_nil,(fun e h=>by cases h),List.nodup_nil⟩
theorem Zgg:∀ {L:List (Nat × K × V)},XN k L=some v->∃ b,(b,k,v) ∈ L
 | [],h=>by cases h
 | e :: l,h=>by
  simp only [XN] at h
  split at h
  . rename_i hk;cases h;subst hk;exact ⟨e.1,by simp⟩
  . obtain ⟨b,hb⟩:=Zgg h;exact ⟨b,by simp [hb]⟩
theorem XF:∀ {L:List (Nat × K × V)},XN k L=none↔∀ e ∈ L,e.2.1≠k
 | []=>by simp [XN]
 | e :: l=>by
  simp only [XN]
  split
  . rename_i hk;simp [hk]
  . rename_i hk;rw [XF];simp [hk]
theorem Zi2:∀ {L:List (Nat × K × V)} {e:Nat × K × V},(L.map (·.2.1)).Nodup->e ∈ L->XN e.2.1 L=some e.2.2
 | x :: l,e,hn,he=>by
  simp only [List.map_cons,List.nodup_cons] at hn
  simp only [XN]
  rcases List.mem_cons.1 he with rfl | he
  . simp
  . rw [if_neg (fun hx:x.2.1=e.2.1=>hn.1 (by rw [hx];exact List.mem_map.2 ⟨e,he,rfl⟩))]
    exact Zi2 hn.2 he
theorem Za0:∀ {L:List (Nat × K × V)},XN k' (Uw c k v L)=if k'=k then some v else XN k' L
 | []=>by simp only [Uw,XN];by_cases h:k=k'<;>simp [h,eq_comm]
 | e :: l=>by
  simp only [Uw]
  by_cases he:e.2.1=k
  . rw [if_pos he]
    simp only [XN]
    by_cases hk:k=k'
    . subst hk;simp
    . rw [if_neg hk,if_neg (fun h=>hk h.symm),if_neg (fun h=>hk (he.symm.trans h))]
  . rw [if_neg he]
    simp only [XN]
    by_cases hk:e.2.1=k'
    . rw [if_pos hk,if_neg (fun h=>he (hk.trans h)),if_pos hk]
    . rw [if_neg hk,if_neg hk,Za0]
theorem Za4:∀ {L:List (Nat × K × V)},XN k L=none->Uw c k v L=L ++ [(c,k,v)]
 | [],_=>rfl
 | e :: l,h=>by
  simp only [XN] at h
  split at h
  . cases h
  . rename_i he;simp only [Uw,if_neg he,Za4 h,List.cons_append]
theorem ZgI:∀ {L:List (Nat × K × V)},(XN k L).isSome->(Uw c k v L).map (fun e=>(e.1,e.2.1))=L.map fun e=>(e.1,e.2.1)
 | [],h=>by simp [XN] at h
 | e :: l,h=>by
  simp only [XN] at h
  simp only [Uw]
  split
  . rename_i he;simp [he]
  . rename_i he;rw [if_neg he] at h;simp [ZgI h]
theorem MW.set (h:MW L c) (v:V):MW (Uw c k v L) (Zcu c k L):=by
 cases hg:XN k L with
 | none =>
  have hc:Zcu c k L=c+1:=by simp [Zcu,hg]
  rw [Za4 hg,hc]
  have hk:=XF.1 hg
  refine ⟨?_,fun e he=>?_,?_⟩
  . rw [List.map_append,List.nodup_append]
    refine ⟨h.bn,by simp,fun a ha b hb=>?_⟩
    obtain ⟨e,he,rfl⟩:=List.mem_map.1 ha
    simp only [List.map_cons,List.map_nil,List.mem_singleton] at hb
    have:=h.bl e he;omega
  . rcases List.mem_append.1 he with he | he
    . have:=h.bl e he;omega
    . simp only [List.mem_singleton] at he;subst he;simp
  . rw [List.map_append,List.nodup_append]
    refine ⟨h.kn,by simp,fun a ha b hb=>?_⟩
    obtain ⟨e,he,rfl⟩:=List.mem_map.1 ha
    simp only [List.map_cons,List.map_nil,List.mem_singleton] at hb
    rw [hb];exact hk e he
 | some v0 =>
  have hc:Zcu c k L=c:=by simp [Zcu,hg]
  have hm:=ZgI (c:=c) (v:=v) (k:=k) (L:=L) (by rw [hg];rfl)
  have e1:(Uw c k v L).map (·.1)=L.map (·.1):=by
   have:=congrArg (List.map Prod.fst) hm;simpa [List.map_map,Function.comp_def] using this
  have e2:(Uw c k v L).map (·.2.1)=L.map (·.2.1):=by
   have:=congrArg (List.map Prod.snd) hm;simpa [List.map_map,Function.comp_def] using this
  rw [hc]
  refine ⟨by rw [e1];exact h.bn,fun e he=>?_,by rw [e2];exact h.kn⟩
  have:e.1 ∈ L.map (·.1):=by rw [<- e1];exact List.mem_map.2 ⟨e,he,rfl⟩
  obtain ⟨x,hx,hxe⟩:=List.mem_map.1 this
  rw [<- hxe];exact h.bl x hx
theorem Ux:∀ {L:List (Nat × K × V)},(UP k L).Sublist L
 | []=>.slnil
 | e :: l=>by
  simp only [UP]
  split
  . exact List.sublist_cons_self _ _
  . exact Ux.cons_cons _
theorem MW.del (h:MW L c):MW (UP k L) c:=⟨(Ux.map _).nodup h.bn,fun e he=>h.bl e (Ux.subset he),(Ux.map _).nodup h.kn⟩
theorem ZgP:∀ {L:List (Nat × K × V)},(L.map (·.2.1)).Nodup->XN k' (UP k L)=if k'=k then none else XN k' L
 | [],_=>by simp [UP,XN]
 | e :: l,hn=>by
  simp only [List.map_cons,List.nodup_cons] at hn
  simp only [UP]
  by_cases he:e.2.1=k
  . rw [if_pos he]
    by_cases hk:k'=k
    . rw [if_pos hk,XF]
      intro x hx hxe
      exact hn.1 (by rw [he,<- hk,<- hxe];exact List.mem_map.2 ⟨x,hx,rfl⟩)
    . rw [if_neg hk];simp only [XN];rw [if_neg (fun h=>hk (h.symm.trans he))]
  . rw [if_neg he]
    simp only [XN]
    by_cases hk:e.2.1=k'
    . rw [if_pos hk,if_pos hk,if_neg (fun h=>he (hk.trans h))]
    . rw [if_neg hk,if_neg hk,ZgP hn.2]
theorem ZgO:∀ {L:List (Nat × K × V)},(XN k L).isSome->(UP k L).length+1=L.length
 | [],h=>by simp [XN] at h
 | e :: l,h=>by
  simp only [XN] at h
  simp only [UP]
  split
  . simp
  . rename_i he;rw [if_neg he] at h;simp [ZgO h]
omit [DecidableEq K] in
theorem ZC {key:K->Value} {val:V->SV}:(∀ e ∈ mpS key val L,KF e.2.2)↔∀ v ∈ L.map (·.2.2),KF (val v):=by
 simp only [mpS,List.mem_map]
 exact ⟨fun h v ⟨e,he,hv⟩=>hv ▸ h _ ⟨e,he,rfl⟩,fun h _ ⟨e,he,hx⟩=>hx ▸ h _ ⟨e,he,rfl⟩⟩
omit [DecidableEq K] in
theorem Zw {key:K->Value} {val:V->SV}:(∀ (a:Nat) (b:Value) (c:SV),(a,b,c) ∈ mpS key val L->KF c)↔∀ v ∈ L.map (·.2.2),KF (val v):=by
 rw [<- ZC (key:=key)]
 exact ⟨fun h e he=>h e.1 e.2.1 e.2.2 he,fun h a b c he=>h _ he⟩
omit [DecidableEq K] in
def Znc (L:List (Nat × K × V)) (seen:List Nat):Nat:=(L.filter fun e=>!seen.contains e.1).length
omit [DecidableEq K] in
theorem ZpR {e:Nat × K × V} {seen:List Nat} (he:e ∈ L) (hs:e.1 ∉ seen):Znc L (seen ++ [e.1]) < Znc L seen:=by
 unfold Znc
 have hsub:(L.filter fun x=>!(seen ++ [e.1]).contains x.1)=(L.filter fun x=>!seen.contains x.1).filter fun x=>!(x.1 == e.1):=by
  rw [List.filter_filter]
  congr 1;funext x
  simp only [List.contains_append,Bool.not_or]
  rw [Bool.and_comm]
  congr 1
  simp only [List.contains_cons,List.contains_nil,Bool.or_false]
 rw [hsub]
 refine Nat.lt_of_le_of_ne (List.length_filter_le _ _) fun h=>?_
 have:=List.length_filter_eq_length_iff.1 h e (by simp [he,hs])
 simp at this
end
end Go.Sx
namespace Go.Sx
open Go Go.RowKit
def Xs (s s':SV):Prop:=∀ (w:World) (E:Env) (n ok:Nat->Prop) (y:Value),R w E n ok s y->R w E n ok s' y
theorem Xs.rfl {s:SV}:Xs s s:=fun _ _ _ _ _ h=>h
theorem YR {c:Bool} {m:Nat}:Xs (.v (.slice none 0 0)) (.sl c m []):=fun w E n ok y h=>by
 simp only [R] at h ⊢
 exact ⟨none,0,0,h,by simp,⟨Nat.le_refl _,fun _=>Eq.refl _⟩,by simp,by simp⟩
theorem ZcN {c:Bool} {m:Nat} {xs:List (List SV)}:Xs (.sl c m xs) (.sl false m xs):=fun w E n ok y h=>by
 simp only [R] at h ⊢
 obtain ⟨a,len,cap,h1,h2,h3,h4,h5⟩:=h
 exact ⟨a,len,cap,h1,h2,⟨h3.1,fun h=>by cases h⟩,h4,h5⟩
theorem Wn {l l':List SV} (h:∀ (w:World) (E:Env) (n ok:Nat->Prop) (ys:List Value),RL w E n ok l ys->RL w E n ok l' ys):Xs (.tup l) (.tup l'):=fun w E n ok y hy=>by
 simp only [R] at hy ⊢
 obtain ⟨cs,h1,h2⟩:=hy
 exact ⟨cs,h1,h _ _ _ _ _ h2⟩
theorem Z0 {s s':SV} {l l':List SV} (h1:Xs s s') (h2:∀ (w:World) (E:Env) (n ok:Nat->Prop) (ys:List Value),RL w E n ok l ys->RL w E n ok l' ys):∀ (w:World) (E:Env) (n ok:Nat->Prop) (ys:List Value),RL w E n ok (s :: l) ys->RL w E n ok (s' :: l') ys:=fun w E n ok ys h=>by
 simp only [RL] at h ⊢
 obtain ⟨y,r,q1,q2,q3⟩:=h
 exact ⟨y,r,q1,h1 _ _ _ _ _ q2,h2 _ _ _ _ _ q3⟩
def ZpG (rs:List RV) (res:SV):Ex->St->Prop
 | .ex _,_=>False
 | .n,σ=>∃ s,rvR rs σ = some s/\Xs s res
 | .ret,σ=>∃ s,rvR rs σ = some s/\Xs s res
 | .pan _,_=>False
theorem Zzz (rs:List RV) (res:SV) (σ : St):ZpG rs res .n σ = ∃ s,rvR rs σ = some s/\Xs s res:=rfl
theorem Zsc (rs:List RV) (res:SV) (σ : St):ZpG rs res .ret σ = ∃ s,rvR rs σ = some s/\Xs s res:=rfl
attribute [go_sem] Zzz Zsc
section
variable {P:Program}
theorem WE {f:FuncId} {fn:Func} {code:Code} {ir:SC} {args:List SV} {res:SV} {rs:List RV} {N:Nat} (hf:P.funcs[f]? = some fn) (hb:fn.body=some code) (hnm:YI P f=true) (hc:XK P ir code=true)
 (hr:Wg P rs fn.results.toList=true) (hN:fn.ntmps=N) (hA:args.length<=N) (ka:KFL args) (kr:KF res) (h:sx P Y0 0 ir (st0 args N) (ZpG rs res)):Ct P f args res:=by
 refine ⟨hnm,ka,kr,fun w ok vs hR=>?_⟩
 let C:Cx:=⟨w,ok,fun _ _=>False,[],none,E0,0⟩
 have hok:∀ b,ok b->okS C E0 [] b:=fun b hb=>⟨.inl hb,fun _ h=>h⟩
 refine Zam (C:=C) (E:=E0) (hp0:=[]) (n0:=0) hf hb hc hN hA rfl rfl ⟨Nat.le_refl _,fun _ _ h=>h.elim⟩
  ⟨fun k _=>rfl,fun k=>trivial,fun k k' b h=>h.elim,fun k b h=>h.elim,⟨rfl,rfl,rfl,Nat.le_refl _,fun _ _ _=>rfl⟩,fun k hk=>absurd hk (Nat.not_lt_zero k)⟩
  (ZJ (fun b hb _=>⟨hok b hb,rfl⟩) (fun _ h=>Ele.rfl) (fun _ h=>h.elim) _ _ hR) Zcf h fun e σ hk C' E a w' c1 c2 c3 c4 c5 hs=>?_
 have hpass:∀ k b,¬ C'.pass k b:=fun k b=>by rw [c3];exact fun h=>h
 have hend:(∃ s,rvR rs σ = some s/\Xs s res)->∃ v,(results fn a.tmps).run P w' = .ok v w'/\∃ y,Ending.returned v = .returned y/\R w' E0 (fun _=>False) (fun b=>ok b\/w.heap.size<=b) res y/\Below w.heap.size w w':=fun ⟨s,hrr,hw⟩=>by
  obtain ⟨v,h1,h2⟩:=UC (P:=P) (fn:=fn) (a:=a) (w:=w') (E:=E) (n:=ltn σ.n) (ok:=okF C') hrr fun l hl=>ZiW hs hpass rs _ l hr hl
  have hkp:=hs.hs.kp
  have e1:okF C'=fun b=>ok b\/w.heap.size<=b:=by funext b;simp only [okF,c1,c2];rfl
  rw [e1] at h2
  have e0:C'.w0=w:=c1
  refine ⟨v,h1,v,rfl,ZiL res v kr (hw _ _ _ _ _ h2),?_⟩
  have q:=hkp
  exact ⟨by rw [<- e0];exact q.os,by rw [<- e0];exact q.tape,by rw [<- e0];exact q.output,by rw [<- e0];exact q.size,fun b hb=>by rw [<- e0];exact q.block b (by rw [e0];exact hb) (fun k=>hpass k b)⟩
 cases e with
 | ex i=>exact hk.elim
 | pan s=>exact hk.elim
 | n=>exact hend hk
 | ret=>exact hend hk
end
theorem Ct.args {P:Program} {f:FuncId} {args args0:List SV} {res:SV} (h:Ct P f args res) (ka:KFL args0) (hw:∀ (w:World) (E:Env) (n ok:Nat->Prop) (ys:List Value),RL w E n ok args0 ys->RL w E n ok args ys):Ct P f args0 res :=
 ⟨h.1,ka,h.3,fun w ok vs hR=>h.4 w ok vs (hw _ _ _ _ _ hR)⟩
inductive FB where
 | tail (c:SC)
 | seq (a:SC) (b:FB)
 | dfr (ops:List Ins) (mx kx:X) (t:TypeId) (b:FB)
 | rcv (ops:List Ins) (cx:X) (b:FB)
def Zzv (mx kx:X) (t:TypeId) (o:Oper):Bool :=
 match o.op,o.dst,o.guard with
 | .defer c,none,none=>(match c.callee with | .builtin .delete=>true | _=>false) && (match c.args.toList with | [m,k]=>Y6 mx m && Y6 kx k | _=>false) && (match c.argTypes[0]? with | some u=>u == t | none=>false)
 | _,_,_=>false
def Zsz (cx:X) (o:Oper):Bool :=
 match o.op,o.dst,o.guard with
 | .defer c,none,none=>(match c.callee with | .value y=>Y6 cx y | _=>false) && c.args.isEmpty
 | _,_,_=>false
def ZaS (P:Program):FB->Code->Bool
 | .tail c,code=>XK P c code
 | .seq a b,code=>(match code with | .seq x y=>XK P a x && ZaS P b y | _=>false)
 | .dfr ops mx kx t b,code=>(match code with
  | .seq (.region _ os false) y=>ZaB P os ops (os.toList.take ops.length) && (match os.toList.drop ops.length with | [o]=>Zzv mx kx t o | _=>false) && ZaS P b y
  | _=>false)
 | .rcv ops cx b,code=>(match code with
  | .seq (.region _ os false) y=>ZaB P os ops (os.toList.take ops.length) && (match os.toList.drop ops.length with | [o]=>Zsz cx o | _=>false) && ZaS P b y
  | _=>false)
def ZwJ (P:Program) (t:TypeId) (kv:Value) (hb hb':HB):Prop :=
 ∃ (K V:Type) (_:DecidableEq K) (key:K->Value) (val:V->SV) (sv:K->SV) (L:List (Nat × K × V)) (k:K) (kt et:TypeId) (c:Nat),
  hb = .map (mpS key val L) c/\hb' = .map (mpS key val (UP k L)) c/\kv=key k/\P.underlying t=some (.map kt et)/\KeyT P kt key sv
theorem delR {P:Program} {K V:Type} [DecidableEq K] {t:TypeId} {key:K->Value} {val:V->SV} {sv:K->SV} {L:List (Nat × K × V)} {k:K} {c:Nat} {kt et:TypeId} (ht:P.underlying t=some (.map kt et)) (hK:KeyT P kt key sv) :
 ZwJ P t (key k) (.map (mpS key val L) c) (.map (mpS key val (UP k L)) c):=⟨K,V,inferInstance,key,val,sv,L,k,kt,et,c,rfl,rfl,rfl,ht,hK⟩
def dK (P:Program) (t:TypeId) (km:Nat) (kv:Value) (K:Ex->St->Prop):Ex->St->Prop
 | .n,σ=>∃ hb',ZwJ P t kv (lkh km σ.hp) hb'/\K .n ⟨σ.fr,(km,hb') :: σ.hp,σ.n,σ.N,σ.gs⟩
 | .ret,σ=>∃ hb',ZwJ P t kv (lkh km σ.hp) hb'/\K .ret ⟨σ.fr,(km,hb') :: σ.hp,σ.n,σ.N,σ.gs⟩
 | _,_=>False
def fxS (f:St->(Ex->St->Prop)->Prop) (K:Ex->St->Prop):Ex->St->Prop
 | .n,σ=>f σ K
 | .ex _,_=>False
 | .ret,σ=>K .ret σ
 | .pan s,σ=>K (.pan s) σ
def mpO:SV->Option Nat
 | .mp k=>some k
 | _=>none
def vO:SV->Option Value
 | .v x=>some x
 | _=>none
def ZAP (P:Program) (t:TypeId) (f:Nat->St->(Ex->St->Prop)->Prop) (km:Option Nat) (kv:Option Value) (σ : St) (K:Ex->St->Prop):Prop :=
 match km,kv with
 | some km,some kv=>Nat.blt km σ.n=true/\f σ.n σ (dK P t km kv K)
 | _,_=>False
def Zrl (t:Nat) (o:Oper):Bool :=
 match o.op,o.dst,o.guard with
 | .call c,some u,none=>u == t && (match c.callee with | .builtin .recover=>true | _=>false) && c.args.isEmpty
 | _,_,_=>false
structure RcF (P:Program) (g:FuncId) (t:Nat) (l:List Ins) (c:SC) (N:Nat):Prop where
 ex:∃ fn id os y0 o1,P.funcs[g]? = some fn/\fn.body=some (.seq (.region id os false) y0)/\os[0]? = some o1/\Zrl t o1=true/\ZaB P os l (os.toList.drop 1)=true/\XK P c y0=true/\fn.ntmps=N/\t < N/\fn.results = #[]
 bd:YI P g=true
def rcK (σ : St) (k:St->Prop):Ex->St->Prop
 | .n,σ'=>k ⟨σ.fr,σ'.hp,σ'.n,σ.N,σ.gs⟩
 | .ret,σ'=>k ⟨σ.fr,σ'.hp,σ'.n,σ.N,σ.gs⟩
 | _,_=>False
def rcR (P:Program) (t:Nat) (l:List Ins) (c:SC) (N:Nat) (caps:List SV) (s:SV) (σ : St) (k:St->Prop):Prop :=
 Nat.ble caps.length N=true/\rx P Y0 l ⟨(t,s) :: We 0 caps,σ.hp,σ.n,N,[]⟩ (Zc5 (fxS (fun σ' K=>sx P Y0 σ.n c σ' K) (rcK σ k)))
def Zy9 (P:Program) (f:Nat->St->(Ex->St->Prop)->Prop) (rk:FuncId->List SV->Ex->St->Prop) (s:SV) (σ : St):Prop :=
 match s with
 | .cl g caps=>f σ.n σ (rk g caps)
 | _=>False
def rK (P:Program) (K:Ex->St->Prop) (g:FuncId) (caps:List SV):Ex->St->Prop
 | .n,σ=>∃ t l c N,RcF P g t l c N/\rcR P t l c N caps (.v .nilIface) σ (K .n)
 | .ret,σ=>∃ t l c N,RcF P g t l c N/\rcR P t l c N caps (.v .nilIface) σ (K .ret)
 | .pan s,σ=>∃ t l c N,RcF P g t l c N/\rcR P t l c N caps s σ (K .ret)
 | .ex _,_=>False
def fx (P:Program):Nat->FB->St->(Ex->St->Prop)->Prop
 | m,.tail c,σ,K=>sx P Y0 m c σ K
 | m,.seq a b,σ,K=>sx P Y0 m a σ (fxS (fx P m b) K)
 | _,.dfr ops mx kx t b,σ,K=>rx P Y0 ops σ (Zc5 (fxS (fun σ K=>ZAP P t (fun n=>fx P n b) (mpO (rdG none σ.fr mx)) (vO (rdG none σ.fr kx)) σ K) K))
 | _,.rcv ops cx b,σ,K=>rx P Y0 ops σ (Zc5 (fxS (fun σ K=>Zy9 P (fun n=>fx P n b) (rK P K) (rdG none σ.fr cx) σ) K))
theorem Zw7 (P:Program) (m:Nat) (c:SC) (σ : St) (K:Ex->St->Prop):fx P m (.tail c) σ K=sx P Y0 m c σ K:=rfl
theorem ZA9 (P:Program) (m:Nat) (a:SC) (b:FB) (σ : St) (K:Ex->St->Prop):fx P m (.seq a b) σ K=sx P Y0 m a σ (fxS (fx P m b) K):=rfl
theorem ZzV (P:Program) (m:Nat) (ops:List Ins) (mx kx:X) (t:TypeId) (b:FB) (σ : St) (K:Ex->St->Prop):fx P m (.dfr ops mx kx t b) σ K=rx P Y0 ops σ (Zc5 (fxS (fun σ K=>ZAP P t (fun n=>fx P n b) (mpO (rdG none σ.fr mx)) (vO (rdG none σ.fr kx)) σ K) K)):=rfl
theorem ZA4 (P:Program) (m:Nat) (ops:List Ins) (cx:X) (b:FB) (σ : St) (K:Ex->St->Prop):fx P m (.rcv ops cx b) σ K=rx P Y0 ops σ (Zc5 (fxS (fun σ K=>Zy9 P (fun n=>fx P n b) (rK P K) (rdG none σ.fr cx) σ) K)):=rfl
theorem ZwV (P:Program) (f:Nat->St->(Ex->St->Prop)->Prop) (rk:FuncId->List SV->Ex->St->Prop) (g:FuncId) (caps:List SV) (σ : St):Zy9 P f rk (.cl g caps) σ = f σ.n σ (rk g caps):=rfl
theorem rK_n (P:Program) (K:Ex->St->Prop) (g:FuncId) (caps:List SV) (σ : St):rK P K g caps .n σ = ∃ t l c N,RcF P g t l c N/\rcR P t l c N caps (.v .nilIface) σ (K .n):=rfl
theorem ZzI (P:Program) (K:Ex->St->Prop) (g:FuncId) (caps:List SV) (σ : St):rK P K g caps .ret σ = ∃ t l c N,RcF P g t l c N/\rcR P t l c N caps (.v .nilIface) σ (K .ret):=rfl
theorem ZAH (P:Program) (K:Ex->St->Prop) (g:FuncId) (caps:List SV) (s:SV) (σ : St):rK P K g caps (.pan s) σ = ∃ t l c N,RcF P g t l c N/\rcR P t l c N caps s σ (K .ret):=rfl
theorem e_rcR (P:Program) (t:Nat) (l:List Ins) (c:SC) (N:Nat) (caps:List SV) (s:SV) (σ : St) (k:St->Prop):rcR P t l c N caps s σ k=(Nat.ble caps.length N=true/\rx P Y0 l ⟨(t,s) :: We 0 caps,σ.hp,σ.n,N,[]⟩ (Zc5 (fxS (fun σ' K=>sx P Y0 σ.n c σ' K) (rcK σ k)))):=rfl
theorem rcK_n (σ : St) (k:St->Prop) (σ':St):rcK σ k .n σ'=k ⟨σ.fr,σ'.hp,σ'.n,σ.N,σ.gs⟩:=rfl
theorem Zxn (σ : St) (k:St->Prop) (σ':St):rcK σ k .ret σ'=k ⟨σ.fr,σ'.hp,σ'.n,σ.N,σ.gs⟩:=rfl
attribute [go_sem] ZA4 ZwV rK_n ZzI ZAH e_rcR rcK_n Zxn
theorem fxS_n (f:St->(Ex->St->Prop)->Prop) (K:Ex->St->Prop) (σ : St):fxS f K .n σ = f σ K:=rfl
theorem Zvg (f:St->(Ex->St->Prop)->Prop) (K:Ex->St->Prop) (σ : St):fxS f K .ret σ = K .ret σ:=rfl
theorem ZAO (P:Program) (t:TypeId) (f:Nat->St->(Ex->St->Prop)->Prop) (km:Nat) (kv:Value) (σ : St) (K:Ex->St->Prop):ZAP P t f (some km) (some kv) σ K=(Nat.blt km σ.n=true/\f σ.n σ (dK P t km kv K)):=rfl
theorem ZzU (k:Nat):mpO (.mp k)=some k:=rfl
theorem vO_v (x:Value):vO (.v x)=some x:=rfl
theorem dK_n (P:Program) (t:TypeId) (km:Nat) (kv:Value) (K:Ex->St->Prop) (σ : St):dK P t km kv K .n σ = ∃ hb',ZwJ P t kv (lkh km σ.hp) hb'/\K .n ⟨σ.fr,(km,hb') :: σ.hp,σ.n,σ.N,σ.gs⟩:=rfl
theorem Zz7 (P:Program) (t:TypeId) (km:Nat) (kv:Value) (K:Ex->St->Prop) (σ : St):dK P t km kv K .ret σ = ∃ hb',ZwJ P t kv (lkh km σ.hp) hb'/\K .ret ⟨σ.fr,(km,hb') :: σ.hp,σ.n,σ.N,σ.gs⟩:=rfl
attribute [go_sem] Zw7 ZA9 ZzV fxS_n Zvg ZAO ZzU vO_v dK_n Zz7
section
variable {P:Program}
theorem Zi9 {C:Cx} {Y:Hd} (hY:Zez P C Y) {ops:Array Oper} {Q:Exit->Act->World->Prop} {K:RK} {os2:List Oper} (hn:∀ σ E a w,K .n σ->Sim C E σ a w->UZ C.rd P ops Q os2 a w)
 (hp:∀ s σ' E a w y,K (.pan s) σ'->Sim C E σ' a w->R w E (ltn σ'.n) (okS C E σ'.hp) s y->Q (.panic [{ v:=y,recovered:=false }]) a w):∀ (l:List Ins) (os:List Oper),ZaB P ops l os=true ->
 ∀ (σ : St) E a w,rx P Y l σ K->Sim C E σ a w->UZ C.rd P ops Q (os ++ os2) a w
 | [],[],_,σ,E,a,w,hr,h=>hn σ E a w hr h
 | io :: l,o :: os,hc,σ,E,a,w,hr,h=>by
  simp only [ZaB,Bool.and_eq_true] at hc
  have ih:=Zi9 hY hn hp l os hc.2
  exact UQ (next:=UZ C.rd P ops Q (os ++ os2)) hc.1 hr h (fun σ' E' a' w' h1 h2=>ih σ' E' a' w' h1 h2) (fun s σ' E' w' y h1 h2 h3=>hp s σ' E' a w' y h1 h2 h3) hY
 | [],_ :: _,h,_,_,_,_,_,_=>by simp [ZaB] at h
 | _ :: _,[],h,_,_,_,_,_,_=>by simp [ZaB] at h
theorem Zua {C:Cx} {E:Env} {σ : St} {a:Act} {w:World} (h:Sim C E σ a w) {t:TypeId} {km:Nat} {kv:Value} {hb':HB} {ats:Array TypeId} {ty:TypeId} {cc:Array Bool} (ha:ats[0]? = some t) (hd:ZwJ P t kv (lkh km σ.hp) hb') :
 ∃ x w',(invoke (.builtin .delete ats ty cc) #[.map (some (E.β km)),kv]).run P w = .ok (.value x) w'/\Sim C E ⟨σ.fr,(km,hb') :: σ.hp,σ.n,σ.N,σ.gs⟩ a w'/\ZE w w' (okS C E σ.hp) (okS C E ((km,hb') :: σ.hp)):=by
 obtain ⟨K,V,_,key,val,sv,L,k,kt,et,c,hh,rfl,rfl,ht,hK⟩:=hd
 obtain ⟨g0,ys,g1,g2⟩:=ZaC h hh
 have hfn:=fun w=>hK.fnd k _ _ w (ZbX g2)
 have hex:∀ w',(Builtin.delete_ ats ty #[.map (some (E.β km)),key k]).run P w = .ok (.tuple #[]) w'->(invoke (.builtin .delete ats ty cc) #[.map (some (E.β km)),key k]).run P w = .ok (.value (.tuple #[])) w':=fun w' hy=>by
  simp [invoke,builtin,hy]
 have hfin:∀ ys':Array MapEntry,(∀ {w':World} {ok':Nat->Prop},RM w' E (ltn σ.n) ok' (mpS key val L) ys.toList->RM w' E (ltn σ.n) ok' (mpS key val (UP k L)) ys'.toList) ->
  Sim C E ⟨σ.fr,(km,.map (mpS key val (UP k L)) c) :: σ.hp,σ.n,σ.N,σ.gs⟩ a (Ug w (E.β km) (.map ys' c))/\ZE w (Ug w (E.β km) (.map ys' c)) (okS C E σ.hp) (okS C E ((km,.map (mpS key val (UP k L)) c) :: σ.hp)):=fun ys' hRM=>by
  obtain ⟨q1,q2⟩:=Vf (k:=km) (hb:=.map (mpS key val (UP k L)) c) (o:=.map ys' c) h.hs (fun b=>by rw [hh];simp only [occ]) (fun b=>by simp only [occ]) (fun hlt hst=>by
   simp only [Z2]
   exact ⟨ys',X9 hlt,hRM (Zb4 hst.c (fun _ _=>Ele.rfl) (fun _ h=>h) _ _ g2)⟩)
  exact ⟨Yi h q2 (fun _ _=>Ele.rfl) (Nat.le_refl _) q1,q2⟩
 rcases Zcg (w:=w) (E:=E) (n:=ltn σ.n) (ok:=okS C E σ.hp) k L ys.toList 0 g2 with ⟨a1,a2,a3,-⟩ | ⟨j,v0,e,b1,b2,b3,b4,b5,b6⟩
 . have hrun:(Builtin.delete_ ats ty #[.map (some (E.β km)),key k]).run P w = .ok (.tuple #[]) (Ug w (E.β km) (.map ys c)):=by
    simp [Builtin.delete_,Sem.run_bind,ha,run_underlying ht,Result.andThen_ok,Ym g1 rfl,Sem.run_pure,hK.chk,hfn,a2,Y3 _ g1 rfl]
   exact ⟨_,_,hex _ hrun,hfin _ fun h1=>by rw [a3];exact h1⟩
 . rw [Nat.zero_add] at b2
   have hlt:j < ys.size:=by
    have:ys[j]? = some e:=by simpa using b3
    exact (Array.getElem?_eq_some_iff.1 this).1
   have hrun:(Builtin.delete_ ats ty #[.map (some (E.β km)),key k]).run P w = .ok (.tuple #[]) (Ug w (E.β km) (.map (ys.eraseIdxIfInBounds j) c)):=by
    simp [Builtin.delete_,Sem.run_bind,ha,run_underlying ht,Result.andThen_ok,Ym g1 rfl,Sem.run_pure,hK.chk,hfn,b2,Y3 _ g1 rfl]
   exact ⟨_,_,hex _ hrun,hfin _ fun {w' ok'} h1=>by
    have:(ys.eraseIdxIfInBounds j).toList=ys.toList.eraseIdx j:=by simp [Array.eraseIdxIfInBounds,hlt]
    rw [this];exact (b6 h1).1⟩
theorem Ze5 {C C':Cx} {E E':Env} {σ σ':St} {a a':Act} {w w':World} (h:Sim C E σ a w) (h':Sim C' E' σ' a' w') (c1:C'.w0=w) (c2:C'.okp=okS C E σ.hp) (c3:C'.pass=fun k b=>occ E k (lkh k σ.hp) b) (c4:C'.e0=E) (c5:C'.m0 = σ.n) (hm:C.m0<=σ.n) :
 Sim { C with ds:=a'.defers } E' σ' a' w':=by
 have hok:∀ b,okS C' E' σ'.hp b->okS C E' σ'.hp b:=fun b hb=>by
  obtain ⟨g1,g2⟩:=hb
  refine ⟨?_,g2⟩
  rw [c1,c2] at g1
  rcases g1 with g1 | g1
  . exact g1.1
  . exact .inr (Nat.le_trans h.hs.kp.size g1)
 have hst:YS w' w' (okS C' E' σ'.hp) (okS C E' σ'.hp):=fun b hb _=>⟨hok b hb,rfl⟩
 refine ⟨fun t=>?_,h'.sz,ZaF,h'.gs,⟨h'.hs.kn,fun k=>?_,h'.hs.dj,fun k b ho=>?_,⟨?_,?_,?_,?_,fun b h1 h2=>?_⟩,fun k hk=>?_⟩⟩
 . have:=h'.fr t
   cases hq:lk t σ'.fr<;>rw [hq] at this<;>try exact ZN hst (fun _ _=>Ele.rfl) (fun _ h=>h) _ _ this
   exact ⟨fun hg=>ZN hst (fun _ _=>Ele.rfl) (fun _ h=>h) _ _ (this.1 hg),this.2⟩
 . refine XW hst (fun _ _=>Ele.rfl) (fun _ h=>h) ?_ (fun b ho=>rfl) rfl (h'.hs.bk k)
   rcases Classical.em (ltn σ'.n k) with hk | hk
   . exact .inr hk
   . exact .inl (h'.hs.kn k hk)
 . rcases h'.hs.lo k b ho with g | g
   . rw [c1] at g;exact .inl (Nat.le_trans h.hs.kp.size g)
   . rw [c3] at g;exact h.hs.lo k b g
 . have:=h'.hs.kp.os;rw [c1] at this;exact this.trans h.hs.kp.os
 . have:=h'.hs.kp.tape;rw [c1] at this;exact this.trans h.hs.kp.tape
 . have:=h'.hs.kp.output;rw [c1] at this;exact this.trans h.hs.kp.output
 . have:=h'.hs.kp.size;rw [c1] at this;exact Nat.le_trans h.hs.kp.size this
 . have h1':b < C.w0.heap.size:=h1
   have h2':∀ k,¬ C.pass k b:=h2
   have hb:=h'.hs.kp.block b (by rw [c1];exact Nat.lt_of_lt_of_le h1' h.hs.kp.size) (fun k hk=>by
    rw [c3] at hk
    rcases h.hs.lo k b hk with g | g
    . exact absurd h1' (Nat.not_lt.2 g)
    . exact h2' k g)
   rw [c1] at hb
   exact hb.trans (h.hs.kp.block b h1' h2')
 . have hk':k < C.m0:=hk
   have p1:=h.hs.pin k hk'
   have p2:=h'.hs.pin k (by rw [c5];exact Nat.lt_of_lt_of_le hk' hm)
   rw [c4] at p2
   exact ⟨p2.1,p1.2.trans p2.2⟩
theorem Wm {fn:Func} {R':Ending->World->Prop} {C:Cx} {K:Ex->St->Prop}
 (hK:∀ e σ',K e σ'->∀ (C':Cx) E' a' w',C'.w0=C.w0->C'.okp=C.okp->C'.pass=C.pass->C'.e0=C.e0->C'.m0=C.m0->Sim C' E' σ' a' w'->match e with
  | .n | .ret=>Lv P fn a'.tmps R' C.ds .returning w'
  | .ex _=>False
  | .pan s=>∀ y,R w' E' (ltn σ'.n) (okS C' E' σ'.hp) s y->Lv P fn a'.tmps R' C.ds (.panicking [{ v:=y,recovered:=false }]) w')
 (e:Ex) (σ':St) (hk:K e σ') (E':Env) (a':Act) (w':World) (hs:Sim C E' σ' a' w'):ExQ C (Ys P fn R') e σ' E' a' w':=by
 obtain ⟨ms,d1,d2,d3⟩:=hs.df
 have key:=hK e σ' hk
 cases e with
 | ex i=>exact (key C E' a' w' rfl rfl rfl rfl rfl hs).elim
 | n =>
  show Lv P fn a'.tmps R' a'.defers .returning w'
  rw [d1]
  refine XV ms _ _ (by simp) d2.1 (fun m hm=>(d3 m hm).2.2) fun w'' hu=>?_
  exact key { C with ds:=a'.defers } E' a' w'' rfl rfl rfl rfl rfl (Wz hs d3 hu)
 | ret =>
  show Lv P fn a'.tmps R' a'.defers .returning w'
  rw [d1]
  refine XV ms _ _ (by simp) d2.1 (fun m hm=>(d3 m hm).2.2) fun w'' hu=>?_
  exact key { C with ds:=a'.defers } E' a' w'' rfl rfl rfl rfl rfl (Wz hs d3 hu)
 | pan s =>
  intro y hy
  show Lv P fn a'.tmps R' a'.defers (.panicking _) w'
  rw [d1]
  refine XV ms _ _ (by simp) d2.1 (fun m hm=>(d3 m hm).2.2) fun w'' hu=>?_
  have hst:YS w' w'' (okS C E' σ'.hp) (okS C E' σ'.hp):=fun b hb q=>⟨hb,hu.other b fun hm'=>by rcases q with ⟨cs,T,fz,e⟩ | ⟨es,c,e⟩<;>(rw [(d3 b hm').2.2] at e;cases e)⟩
  exact key { C with ds:=a'.defers } E' a' w'' rfl rfl rfl rfl rfl (Wz hs d3 hu) y (ZN hst (fun _ _=>Ele.rfl) (fun _ h=>h) _ _ hy)
theorem Zju {C:Cx} {E:Env} {σ : St} {a:Act} {w:World} (h:Sim C E σ a w) (ds:List Deferred):Sim ⟨w,okS C E σ.hp,fun k b=>occ E k (lkh k σ.hp) b,ds,none,E,σ.n⟩ E σ { a with defers:=ds } w:=by
 have hst:YS w w (okS C E σ.hp) (okS ⟨w,okS C E σ.hp,fun k b=>occ E k (lkh k σ.hp) b,ds,none,E,σ.n⟩ E σ.hp):=fun b hb _=>⟨⟨.inl hb,hb.2⟩,rfl⟩
 refine ⟨fun t=>?_,h.sz,ZaF,h.gs,⟨h.hs.kn,fun k=>?_,h.hs.dj,fun k b ho=>.inr ho,⟨rfl,rfl,rfl,Nat.le_refl _,fun _ _ _=>rfl⟩,fun k hk=>⟨hk,Ele.rfl⟩⟩⟩
 . have:=h.fr t
   show FR w E (ltn σ.n) _ σ.fr (lk t σ.fr) (a.tmps.getD t undef)
   cases hq:lk t σ.fr<;>rw [hq] at this<;>try exact ZN hst (fun _ _=>Ele.rfl) (fun _ h=>h) _ _ this
   exact ⟨fun hg=>ZN hst (fun _ _=>Ele.rfl) (fun _ h=>h) _ _ (this.1 hg),this.2⟩
 . refine XW hst (fun _ _=>Ele.rfl) (fun _ h=>h) ?_ (fun b ho=>rfl) rfl (h.hs.bk k)
   rcases Classical.em (ltn σ.n k) with hk | hk
   . exact .inr hk
   . exact .inl (h.hs.kn k hk)
def ZBn (v:Value) (u u':FrameMode):Prop:=(u = .returning/\v = .nilIface/\u' = .returning)\/(u = .panicking [{ v:=v,recovered:=false }]/\u' = .panicking [{ v:=v,recovered:=true }])
theorem Zq6 {b c₀:Frame} {a:Act} {k:List Item} {cs:List Frame} {w:World} {os:Array Oper} {o:Oper} {rest:List Nat} {t:Nat} {v:Value} {u u':FrameMode} (hb:b.kind = .deferred) (h0:os[0]? = some o) (hr:Zrl t o=true)
 (hc:c₀.mode=u) (hu:ZBn v u u'):step P (lone (b.at a (.inRegion os (0 :: rest) :: k)) (c₀ :: cs) w) = .next (lone (b.at (a.put (some t) v) (.inRegion os rest :: k)) ({ c₀ with mode:=u' } :: cs) w):=by
 obtain ⟨dst,op,ty,pos,after,guard⟩:=o
 unfold Zrl at hr
 split at hr
 case h_2=>cases hr
 rename_i c x e1 e2 e3
 simp only at e1 e2 e3
 subst e1;subst e2;subst e3
 simp only [Bool.and_eq_true,beq_iff_eq] at hr
 obtain ⟨⟨rfl,hr1⟩,hr2⟩:=hr
 split at hr1
 case h_2=>cases hr1
 rename_i hcal
 have hw:Region.wanted (⟨some x,.call c,ty,pos,after,none⟩:Oper) (yielded os a.tmps)=true:=rfl
 have hg:=stepG_op (P:=P) (b:=b) (k:=k) (cs:=c₀ :: cs) (w:=w) (rest:=rest) h0 hw
 have hfin:∀ v,(b.at a (.inRegion os (0 :: rest) :: k)).finish v=b.at (a.put (some x) v) (.inRegion os rest :: k):=by
  intro v;rw [Frame.finish_at,h0];rfl
 have hrun:(execOp a.eval (⟨some x,.call c,ty,pos,after,none⟩:Oper)).run P w = .ok .recover w:=by
  simp [execOp,resolve,hcal,invoke,builtin,Sem.run_bind,Sem.run_pure]
 have hk:(b.at a (.inRegion os (0 :: rest) :: k)).kind = .deferred:=hb
 have htr:=tryRecover_deferred hk (c₀ :: cs)
 refine step_lone_go ?_
 rw [hg,<- hfin]
 rcases hu with ⟨rfl,rfl,rfl⟩ | ⟨rfl,rfl⟩
 . have hrd:recoverD (c₀ :: cs)=none:=by simp [recoverD,hc]
   have hcc:({ c₀ with mode:=.returning }:Frame)=c₀:=by rw [<- hc]
   simp only [Frame.at] at htr ⊢
   simp [stepG.apply,hrun,htr,hrd,hcc]
 . have hrd:recoverD (c₀ :: cs)=some (v,{ c₀ with mode:=.panicking [{ v:=v,recovered:=true }] } :: cs):=by simp [recoverD,hc]
   simp only [Frame.at] at htr ⊢
   simp [stepG.apply,hrun,htr,hrd]
theorem Zs5 {fr:Frame} {cs:List Frame}:∀ (ms:List Nat) (w:World),fr.mode≠.run->fr.defers=ms.map Zdo->ms.Nodup->(∀ m ∈ ms,w.heap[m]? = some (.deferred (some []))) ->
 ∃ w',Unm ms w w'/\Steps P (lone fr cs w) (lone { fr with defers:=[] } cs w')
 | [],w,_,hd,_,_=>⟨w,Unm.refl w,by rw [show ({ fr with defers:=[] }:Frame)=fr by rw [<- show fr.defers=[] from hd]];exact Steps.refl P _⟩
 | m :: ms,w,hm,hd,hnd,hh=>by
  rw [List.nodup_cons] at hnd
  have hm0:=hh m (by simp)
  have hlt:=(Array.getElem?_eq_some_iff.1 hm0).1
  have h1:step P (lone fr cs w) = .next (lone { fr with defers:=ms.map Zdo } cs (Ug w m (.deferred none))) :=
   Ua hm hd rfl (by simp only [Instr.takeDeferred,Sem.run_bind,Ym hm0 rfl,Result.andThen_ok,Y3 _ hm0 rfl,Sem.run_pure])
  obtain ⟨w',g1,g2⟩:=Zs5 (fr:={ fr with defers:=ms.map Zdo }) (cs:=cs) ms (Ug w m (.deferred none)) hm rfl hnd.2 (fun k hk=>by
   rw [WQ (by rintro rfl;exact hnd.1 hk)];exact hh k (by simp [hk]))
  refine ⟨w',⟨g1.os,g1.tape,g1.output,by rw [g1.size,ZbU],fun b hb=>?_⟩,.head h1 g2⟩
  rw [List.mem_cons,not_or] at hb
  rw [g1.other b hb.2];exact WQ hb.1
theorem ZlA {g:FuncId} {fn:Func} {id:Nat} {os:Array Oper} {y0:Code} {o1:Oper} {t:Nat} {args:Array Value} {w:World} {u u':FrameMode} {v:Value} {R:Ending->FrameMode->World->Prop} {Q:Exit->Act->World->Prop}
 (hf:P.funcs[g]? = some fn) (hb:fn.body=some (.seq (.region id os false) y0)) (h0:os[0]? = some o1) (hrec:Zrl t o1=true) (hu:ZBn v u u')
 (h:UZ none P os (Exit.then (wpX none P y0 Q) Q) (os.toList.drop 1) (({ tmps:=args ++ Array.replicate (fn.ntmps - args.size) undef,defers:=[] }:Act).put (some t) v) w)
 (hQ:∀ e a w,Q e a w->(e = .normal\/e = .ret)/\∃ ms:List Nat,a.defers=ms.map Zdo/\ms.Nodup/\(∀ m ∈ ms,w.heap[m]? = some (.deferred (some [])))/\∀ w',Unm ms w w'->∃ val,(results fn a.tmps).run P w' = .ok val w'/\R (.returned val) u' w') :
 CallsD P g args u w R:=by
 intro c₀ cs hc
 let b:Frame:={ (default:Frame) with fn:=g,kind:=.deferred }
 let a0:Act:={ tmps:=args ++ Array.replicate (fn.ntmps - args.size) undef,defers:=[] }
 have henter:Frame.enter P g args .deferred=b.at a0 [.code (.seq (.region id os false) y0)]:=by
  simp [Frame.enter,Frame.at,hf,hb,b,a0]
 have hsz:0 < os.size:=(Array.getElem?_eq_some_iff.1 h0).1
 have hrange:List.range os.size=0 :: List.range' 1 (os.size - 1):=by
  rw [List.range_eq_range',show os.size=(os.size - 1)+1 from by omega,List.range'_succ];simp
 have h1:=Zbx (r:=none) (P:=P) (ops:=os) (os.toList.drop 1) 1 (fun j hj=>by simp [List.getElem?_drop,Nat.add_comm]) _ w h
 rw [List.length_drop,Array.length_toList] at h1
 obtain ⟨e,a1,w1,q,s⟩:=Za1 _ _ w h1 b [.code y0] ({ c₀ with mode:=u' } :: cs) rfl (by simp [b,hf])
 have s:=(arrivesIn_iff (b:=b) (fun _ _=>steps_iff.symm) rfl).1 s
 rw [Frame.atR_of_none (b:=b) rfl] at s
 have hpre:Steps P (lone (Frame.enter P g args .deferred) (c₀ :: cs) w) (lone (b.at (a0.put (some t) v) (.inRegion os (List.range' 1 (os.size - 1)) :: [.code y0])) ({ c₀ with mode:=u' } :: cs) w):=by
  rw [henter]
  refine .head step_seq (.head step_region ?_)
  rw [hrange]
  exact .one (Zq6 rfl h0 hrec hc hu)
 have fin:∀ (e:Exit) (a:Act) (w2:World) (todo:List Item),Q e a w2->Steps P (lone (Frame.enter P g args .deferred) (c₀ :: cs) w) (lone ({ b.at a todo with mode:=.returning }:Frame) ({ c₀ with mode:=u' } :: cs) w2) ->
  ∃ e u'' w' fr,R e u'' w'/\Comes P (lone (Frame.enter P g args .deferred) (c₀ :: cs) w) (lone fr ({ c₀ with mode:=u'' } :: cs) w') e/\fr.kind = .deferred/\fr.going P w' e:=fun e a w2 todo hq hs=>by
  obtain ⟨_,ms,d1,d2,d3,d4⟩:=hQ e a w2 hq
  obtain ⟨w3,g1,g2⟩:=Zs5 (P:=P) (fr:={ b.at a todo with mode:=.returning }) (cs:={ c₀ with mode:=u' } :: cs) ms w2 (by simp) d1 d2 d3
  obtain ⟨val,hr,hR⟩:=d4 w3 g1
  exact ⟨.returned val,u',w3,_,hR,Steps.trans hs g2,rfl,rfl,rfl,fn,hf,hr⟩
 have tl:∀ (a:Act) (w2:World),wpX none P y0 Q a w2->Steps P (lone (Frame.enter P g args .deferred) (c₀ :: cs) w) (lone (b.at a [.code y0]) ({ c₀ with mode:=u' } :: cs) w2) ->
  ∃ e u'' w' fr,R e u'' w'/\Comes P (lone (Frame.enter P g args .deferred) (c₀ :: cs) w) (lone fr ({ c₀ with mode:=u'' } :: cs) w') e/\fr.kind = .deferred/\fr.going P w' e:=fun a w2 hy hs=>by
  obtain ⟨e2,a2,w3,q2,s2⟩:=hy b [] ({ c₀ with mode:=u' } :: cs) rfl (by simp [b,hf])
  have s2:=(arrivesIn_iff (b:=b) (fun _ _=>steps_iff.symm) rfl).1 s2
  rw [Frame.atR_of_none (b:=b) rfl] at s2
  rcases (hQ e2 a2 w3 q2).1 with rfl | rfl
  . exact fin _ a2 w3 [] q2 (Steps.trans hs (Steps.trans s2 (.one step_end)))
  . obtain ⟨todo,s3⟩:=s2
    exact fin _ a2 w3 todo q2 (Steps.trans hs s3)
 cases e with
 | normal=>exact tl a1 w1 q (Steps.trans hpre s)
 | ret =>
  obtain ⟨todo,s3⟩:=s
  exact fin _ a1 w1 todo q (Steps.trans hpre s3)
 | panic chain=>rcases (hQ _ a1 w1 q).1 with h | h<;>cases h
 | exit id=>rcases (hQ _ a1 w1 q).1 with h | h<;>cases h
 | goto l=>rcases (hQ _ a1 w1 q).1 with h | h<;>cases h
 | outgrown=>rcases (hQ _ a1 w1 q).1 with h | h<;>cases h
theorem Zj9 {C:Cx} {E:Env} {hp0:List (Nat × HB)} {n0 N:Nat} {args:List SV} {vs:List Value} {w:World} (hN:args.length<=N) (hds:C.ds=[]) (hH:HSim C E hp0 (ltn n0) w) (hR:RL w E (ltn n0) (okS C E hp0) args vs) :
 Sim C E ⟨We 0 args,hp0,n0,N,[]⟩ { tmps:=vs.toArray ++ Array.replicate (N - vs.toArray.size) undef,defers:=[] } w:=by
 have hlen:=ZF hR
 have hng:∀ t j b s,lk t (We 0 args)≠.gd j b s:=by
  intro t j b s ht
  simp only [Uo,Nat.zero_le,if_true,Nat.sub_zero] at ht
  by_cases htl:t < args.length
  . have e1:args.getD t .any=args[t]:=by simp [htl]
    obtain ⟨y,h1,h2⟩:=VC hR (List.getElem?_eq_getElem htl)
    rw [e1] at ht;rw [ht] at h2;simp only [R] at h2
  . have e1:args.getD t .any = .any:=by simp [List.getElem?_eq_none (Nat.le_of_not_lt htl)]
    rw [e1] at ht;cases ht
 refine ⟨fun t=>?_,by simp;omega,by rw [<- hds];exact ZaF,fun t j b s ht=>absurd ht (hng t j b s),hH⟩
 have hng:=hng t
 have hFR:R w E (ltn n0) (okS C E hp0) (lk t (We 0 args)) ((vs.toArray ++ Array.replicate (N - vs.toArray.size) undef).getD t undef):=by
  simp only [Uo,Nat.zero_le,if_true,Nat.sub_zero]
  by_cases ht:t < args.length
  . have e1:args.getD t .any=args[t]:=by simp [ht]
    obtain ⟨y,h1,h2⟩:=VC hR (List.getElem?_eq_getElem ht)
    have e2:(vs.toArray ++ Array.replicate (N - vs.toArray.size) undef).getD t undef=y:=by
     have:t < vs.length:=by omega
     have h1':=(List.getElem?_eq_some_iff.1 h1).2
     simp [Array.getElem?_append,this,h1']
    rw [e1,e2];exact h2
  . have e1:args.getD t .any = .any:=by simp [List.getElem?_eq_none (Nat.le_of_not_lt ht)]
    rw [e1];simp only [R]
 simp only
 cases hq:lk t (We 0 args)<;>rw [hq] at hFR hng<;>first | exact hFR | exact absurd rfl (hng _ _ _)
theorem Zy4 {g:FuncId} {t N:Nat} {l:List Ins} {c:SC} (hF:RcF P g t l c N) {C:Cx} {E:Env} {σ : St} {a:Act} {w:World} (hS:Sim C E σ a w) (hm:C.m0<=σ.n) {caps:List SV} {vs:List Value} (hR:RL w E (ltn σ.n) (okS C E σ.hp) caps vs)
 {s:SV} {v:Value} (hv:R w E (ltn σ.n) (okS C E σ.hp) s v) {k:St->Prop} (hrun:rcR P t l c N caps s σ k) {u u':FrameMode} (hu:ZBn v u u') {R':Ending->FrameMode->World->Prop}
 (hk:∀ hp' n' E' w',k ⟨σ.fr,hp',n',σ.N,σ.gs⟩->Sim C E' ⟨σ.fr,hp',n',σ.N,σ.gs⟩ a w'->R' (.returned (.tuple #[])) u' w'):CallsD P g vs.toArray u w R':=by
 obtain ⟨fn,id,os,y0,o1,f1,f2,f3,f4,f5,f6,f7,f8,f9⟩:=hF.ex
 obtain ⟨hcl,hrun⟩:=hrun
 have hcl:=Nat.le_of_ble_eq_true hcl
 let C2:Cx:=⟨w,okS C E σ.hp,fun k b=>occ E k (lkh k σ.hp) b,[],none,E,σ.n⟩
 have hst:YS w w (okS C E σ.hp) (okS C2 E σ.hp):=fun b hb _=>⟨⟨.inl hb,hb.2⟩,rfl⟩
 have hin:=Zju hS []
 have hR2:RL w E (ltn σ.n) (okS C2 E σ.hp) caps vs:=ZJ hst (fun _ _=>Ele.rfl) (fun _ h=>h) _ _ hR
 have hv2:R w E (ltn σ.n) (okS C2 E σ.hp) s v:=ZN hst (fun _ _=>Ele.rfl) (fun _ h=>h) _ _ hv
 have h0:Sim C2 E ⟨We 0 caps,σ.hp,σ.n,N,[]⟩ { tmps:=vs.toArray ++ Array.replicate (N - vs.toArray.size) undef,defers:=[] } w:=Zj9 hcl rfl hin.hs hR2
 have h1:Sim C2 E ⟨(t,s) :: We 0 caps,σ.hp,σ.n,N,[]⟩ (Act.put { tmps:=vs.toArray ++ Array.replicate (N - vs.toArray.size) undef,defers:=[] } (some t) v) w :=
  XM h0 (fun b hb _=>⟨hb,rfl⟩) (fun _ _=>Ele.rfl) (Nat.le_refl _) hin.hs (by simp) f8 (UO hv) hv2
 let Q:Exit->Act->World->Prop:=fun e a2 w2=>(e = .normal\/e = .ret)/\∃ σ' E',k ⟨σ.fr,σ'.hp,σ'.n,σ.N,σ.gs⟩/\Sim C2 E' σ' a2 w2
 have hKQ:LkQ C2 (rcK σ k) Q:=fun e σ' hk' E' a' w' hs=>by
  cases e with
  | n=>exact ⟨.inl rfl,σ',E',hk',hs⟩
  | ret=>exact ⟨.inr rfl,σ',E',hk',hs⟩
  | ex i=>exact hk'.elim
  | pan s=>exact hk'.elim
 have hmc:MC C2 σ.n:=⟨Nat.le_refl _,fun j b ho=>by
  rcases Classical.em (ltn σ.n j) with hj | hj
  . exact hj
  . have ho':occ E j (lkh j σ.hp) b:=ho
    rw [hS.hs.kn j hj] at ho';exact ho'.elim⟩
 have hlist:=ZdL (P:=P) (C:=C2) (Y:=Y0) Zcf (ops:=os) (Q:=Exit.then (wpX none P y0 Q) Q) (K:=Zc5 (fxS (fun σ' K=>sx P Y0 σ.n c σ' K) (rcK σ k))) (fun e σ' hk' E' a' w' hs0=>by
  have hs:=Xp hs0
  cases e with
  | n =>
   have hwp:=YA c C2 Y0 σ.n y0 (V2 σ') (rcK σ k) Q E' a' w' hmc Zcf (.inl rfl) f6 hk' hKQ hs
   exact hwp
  | ret=>exact hKQ .ret _ hk' E' a' w' hs
  | ex i=>exact hk'.elim
  | pan s=>exact hk'.elim) l _ f5 _ E _ w hrun h1
 refine ZlA (u':=u') (v:=v) f1 f2 f3 f4 hu (Q:=Q) (by rw [f7];exact hlist) (fun e a2 w2 hq=>⟨hq.1,?_⟩)
 obtain ⟨_,σ',E',hk',hs'⟩:=hq
 obtain ⟨ms,d1,d2,d3⟩:=hs'.df
 refine ⟨ms,by rw [d1];simp [C2],d2.1,fun m hm'=>(d3 m hm').2.2,fun w3 hu3=>?_⟩
 refine ⟨.tuple #[],by simp [results,f9],?_⟩
 have hs3:=Wz hs' d3 hu3
 have hout:=Ze5 hS hs3 rfl rfl rfl rfl rfl hm
 obtain ⟨g1,g2⟩:=Ze3 (C:=C) hout.hs rfl rfl rfl rfl rfl
 have hpin:∀ j,j < σ.n->j < σ'.n/\Ele E E' j j:=fun j hj=>hs3.hs.pin j hj
 refine hk σ'.hp σ'.n E' w3 hk' (Yi hS (fun b hb hsome=>?_) (fun j hj=>(hpin j hj).2) ?_ g1)
 . obtain ⟨b1,b2⟩:=hb
   have hlt:b < w.heap.size:=by
    rcases Nat.lt_or_ge b w.heap.size with q | q
    . exact q
    . rw [Array.getElem?_eq_none q] at hsome;cases hsome
   refine ⟨⟨b1,fun j ho=>?_⟩,?_⟩
   . rcases hs3.hs.lo j b ho with q | q
     . exact absurd hlt (Nat.not_lt.2 q)
     . exact b2 j q
   . exact hs3.hs.kp.block b hlt (fun j q=>b2 j q)
 . rcases Nat.lt_or_ge σ'.n σ.n with q | q
   . exact absurd (hpin σ'.n q).1 (Nat.lt_irrefl _)
   . exact q
theorem Za5 {fn:Func} {R':Ending->World->Prop}:∀ (b:FB) (C:Cx) (m:Nat) (code:Code) (σ : St) (K:Ex->St->Prop) (E:Env) (a:Act) (w:World),MC C m->C.rd=none->ZaS P b code=true->fx P m b σ K->Sim C E σ a w ->
 (∀ e σ',K e σ'->∀ (C':Cx) E' a' w',C'.w0=C.w0->C'.okp=C.okp->C'.pass=C.pass->C'.e0=C.e0->C'.m0=C.m0->Sim C' E' σ' a' w'->match e with
  | .n | .ret=>Lv P fn a'.tmps R' C.ds .returning w'
  | .ex _=>False
  | .pan s=>∀ y,R w' E' (ltn σ'.n) (okS C' E' σ'.hp) s y->Lv P fn a'.tmps R' C.ds (.panicking [{ v:=y,recovered:=false }]) w') ->
 wpX none P code (Ys P fn R') a w
 | .tail c,C,m,code,σ,K,E,a,w,hm,hrd,hc,h,hS,hK=>by
  have hwp:=YA c C Y0 m code σ K (Ys P fn R') E a w hm Zcf (.inl hrd) hc h (fun e σ' hk E' a' w' hs=>Wm hK e σ' hk E' a' w' hs) hS
  rw [hrd] at hwp;exact hwp
 | .seq x b,C,m,code,σ,K,E,a,w,hm,hrd,hc,h,hS,hK=>by
  cases code<;>simp [ZaS] at hc
  rename_i cx cy
  refine ZdD ?_
  have hwp:=YA x C Y0 m cx σ (fxS (fx P m b) K) (Exit.then (wpX none P cy (Ys P fn R')) (Ys P fn R')) E a w hm Zcf (.inl hrd) hc.1 h (fun e σ' hk E' a' w' hs=>?_) hS
  . rw [hrd] at hwp;exact hwp
  cases e with
  | n=>exact Za5 b C m cy σ' K E' a' w' hm hrd hc.2 hk hs hK
  | ex i=>exact hk.elim
  | ret=>exact Wm hK .ret σ' hk E' a' w' hs
  | pan s=>exact Wm hK (.pan s) σ' hk E' a' w' hs
 | .dfr ops mx kx t b,C,m,code,σ,K,E,a,w,hm,hrd,hc,h,hS,hK=>by
  unfold ZaS at hc
  split at hc
  case h_2=>cases hc
  rename_i id os cy
  simp only [Bool.and_eq_true] at hc
  obtain ⟨⟨hc1,hc2⟩,hc3⟩:=hc
  split at hc2
  case h_2=>cases hc2
  rename_i o ho
  have hos:os.toList=os.toList.take ops.length ++ [o]:=by rw [<- ho,List.take_append_drop]
  refine ZdD (X8 ?_)
  rw [hos,<- hrd]
  refine Zi9 (C:=C) (Q:=Exit.then (wpX C.rd P cy (Ys P fn R')) (Ys P fn R')) (os2:=[o]) Zcf (K:=Zc5 (fxS (fun σ K=>ZAP P t (fun n=>fx P n b) (mpO (rdG none σ.fr mx)) (vO (rdG none σ.fr kx)) σ K) K)) (fun σ0 E1 a1 w1 hk0 hs0=>?_)
   (fun s σ' E' a' w' y hk hs hy=>Wm hK (.pan s) (V2 σ') hk E' a' w' (Xp hs) y (by rw [Zfv,ZdH];exact hy)) ops _ hc1 σ E a w h hS
  have hs:=Xp hs0
  simp only [Zc5,fxS] at hk0
  generalize V2 σ0 = σ1 at hs hk0
  obtain ⟨ms,d1,d2,d3⟩:=hs.df
  unfold ZAP at hk0
  split at hk0
  case h_2=>exact hk0.elim
  rename_i km kv hkm hkv
  obtain ⟨hlt,hfx⟩:=hk0
  have hlt:=Nat.le_of_ble_eq_true hlt
  have hmv:a1.tmps=a1.tmps/\evX a1 mx = .map (some (E1.β km)):=by
   have hR:=YK hs.fr (g:=none) trivial mx
   cases hq:rdG none σ1.fr mx<;>rw [hq] at hkm<;>simp only [mpO,Option.some.injEq,reduceCtorEq] at hkm
   subst hkm
   rw [hq] at hR;simp only [R] at hR
   exact ⟨rfl,hR.2⟩
  have hkv':evX a1 kx=kv:=by
   have hR:=YK hs.fr (g:=none) trivial kx
   cases hq:rdG none σ1.fr kx<;>rw [hq] at hkv<;>simp only [vO,Option.some.injEq,reduceCtorEq] at hkv
   subst hkv
   rw [hq] at hR;simp only [R] at hR
   exact hR
  have hmn:C.m0<=σ1.n:=by
   rcases Nat.lt_or_ge σ1.n C.m0 with q | q
   . exact absurd (hs.hs.pin σ1.n q).1 (Nat.lt_irrefl _)
   . exact q
  unfold Zzv at hc2
  split at hc2
  case h_2=>cases hc2
  rename_i c hop hdst hgd
  simp only [Bool.and_eq_true] at hc2
  obtain ⟨⟨e1,e2⟩,e3⟩:=hc2
  split at e1
  case h_2=>cases e1
  rename_i hcal
  split at e2
  case h_2=>cases e2
  rename_i om ok hargs
  simp only [Bool.and_eq_true] at e2
  split at e3
  case h_2=>cases e3
  rename_i u hu
  have hut:u=t:=by simpa using e3
  subst hut
  have hca:c.args = #[om,ok]:=by apply Array.toList_inj.1;rw [hargs]
  rw [hrd]
  simp only [UZ,Region.wanted,hgd]
  simp only [if_true]
  have hrun:(o.semAt none a1.eval).run P w1 = .ok (.defer { target:=.builtin .delete c.argTypes o.type (c.args.map fun | .const _=>true | _=>false),args:=#[.map (some (E1.β km)),kv] }) w1:=by
   rw [Oper.semAt_none]
   obtain ⟨dst',op',ty',pos,after,guard⟩:=o
   simp only at hop;subst hop
   simp only [execOp,Sem.run_bind,resolve,hcal,Sem.run_pure,Result.andThen_ok,hca]
   simp only [List.map_toArray,List.map_cons,List.map_nil,Zj e2.1 a1,Zj e2.2 a1,hmv.2,hkv']
   cases om<;>cases ok<;>rfl
  show o.wpq none P a1 w1 _ _
  unfold Oper.wpq
  rw [hrun]
  simp only [Oper.uponX,hdst]
  show Exit.then _ _ .normal _ w1
  simp only [Exit.then]
  show wpX none P cy (Ys P fn R') { a1 with defers:=_ :: a1.defers } w1
  refine Za5 b _ σ1.n cy σ1 (dK P u km kv K) E1 _ w1 ⟨Nat.le_refl _,fun k b ho=>?_⟩ rfl hc3 hfx (Zju hs _) (fun e σ' hk C2 E' a' w' c1 c2 c3 c4 c5 hs'=>?_)
  . rcases Classical.em (ltn σ1.n k) with hk | hk
    . exact hk
    . have ho':occ E1 k (lkh k σ1.hp) b:=ho
      rw [hs.hs.kn k hk] at ho';exact ho'.elim
  have main:∀ (hb':HB),ZwJ P u kv (lkh km σ'.hp) hb'->(∀ (C':Cx) E' a' w',C'.w0=C.w0->C'.okp=C.okp->C'.pass=C.pass->C'.e0=C.e0->C'.m0=C.m0->Sim C' E' ⟨σ'.fr,(km,hb') :: σ'.hp,σ'.n,σ'.N,σ'.gs⟩ a' w'->Lv P fn a'.tmps R' C.ds .returning w') ->
   Lv P fn a'.tmps R' ({ target:=.builtin .delete c.argTypes o.type (c.args.map fun | .const _=>true | _=>false),args:=#[.map (some (E1.β km)),kv] } :: a1.defers) .returning w':=fun hb' hdel hKK=>by
   obtain ⟨x,w2,hrun2,hs2,_⟩:=Zua hs' (ty:=o.type) (cc:=c.args.map fun | .const _=>true | _=>false) hu hdel
   have hβ : E'.β km=E1.β km:=by
    have:=(hs'.hs.pin km (by rw [c5];exact hlt)).2.1
    rw [c4] at this;exact this
   rw [hβ] at hrun2
   refine ⟨by simp,.inr (.inl ⟨.delete,c.argTypes,o.type,_,w2,x,rfl,hrun2,?_⟩)⟩
   rw [d1]
   have hsim:=Ze5 hs hs2 c1 c2 c3 c4 c5 hmn
   have hmark:∀ m ∈ ms,C.w0.heap.size<=m/\okS C E' ((km,hb') :: σ'.hp) m/\w2.heap[m]? = some (.deferred (some [])):=fun m hm=>by
    obtain ⟨p1,p2,p3⟩:=d3 m hm
    have hlt':m < w1.heap.size:=(Array.getElem?_eq_some_iff.1 p3).1
    have hnp:∀ k,¬ C2.pass k m:=fun k hk=>by rw [c3] at hk;exact p2.2 k hk
    refine ⟨p1,⟨p2.1,fun k ho=>?_⟩,?_⟩
    . rcases hs2.hs.lo k m ho with g | g
      . rw [c1] at g;exact absurd hlt' (Nat.not_lt.2 g)
      . exact hnp k g
    . have:=hs2.hs.kp.block m (by rw [c1];exact hlt') hnp
      rw [c1] at this;rw [this];exact p3
   refine XV ms _ _ (by simp) d2.1 (fun m hm=>(hmark m hm).2.2) fun w3 hu3=>?_
   exact hKK { C with ds:=a'.defers } E' a' w3 rfl rfl rfl rfl rfl (Wz (C:={ C with ds:=a'.defers }) hsim hmark hu3)
  cases e with
  | ex i=>exact hk.elim
  | pan s=>exact hk.elim
  | n =>
   obtain ⟨hb',h1,h2⟩:=hk
   exact main hb' h1 (fun C' E' a' w' q1 q2 q3 q4 q5 q6=>hK .n _ h2 C' E' a' w' q1 q2 q3 q4 q5 q6)
  | ret =>
   obtain ⟨hb',h1,h2⟩:=hk
   exact main hb' h1 (fun C' E' a' w' q1 q2 q3 q4 q5 q6=>hK .ret _ h2 C' E' a' w' q1 q2 q3 q4 q5 q6)
 | .rcv ops cx b,C,m,code,σ,K,E,a,w,hm,hrd,hc,h,hS,hK=>by
  unfold ZaS at hc
  split at hc
  case h_2=>cases hc
  rename_i id os cy
  simp only [Bool.and_eq_true] at hc
  obtain ⟨⟨hc1,hc2⟩,hc3⟩:=hc
  split at hc2
  case h_2=>cases hc2
  rename_i o ho
  have hos:os.toList=os.toList.take ops.length ++ [o]:=by rw [<- ho,List.take_append_drop]
  refine ZdD (X8 ?_)
  rw [hos,<- hrd]
  refine Zi9 (C:=C) (Q:=Exit.then (wpX C.rd P cy (Ys P fn R')) (Ys P fn R')) (os2:=[o]) Zcf (K:=Zc5 (fxS (fun σ K=>Zy9 P (fun n=>fx P n b) (rK P K) (rdG none σ.fr cx) σ) K)) (fun σ0 E1 a1 w1 hk0 hs0=>?_)
   (fun s σ' E' a' w' y hk hs hy=>Wm hK (.pan s) (V2 σ') hk E' a' w' (Xp hs) y (by rw [Zfv,ZdH];exact hy)) ops _ hc1 σ E a w h hS
  have hs:=Xp hs0
  simp only [Zc5,fxS] at hk0
  generalize V2 σ0 = σ1 at hs hk0
  obtain ⟨ms,d1,d2,d3⟩:=hs.df
  unfold Zy9 at hk0
  split at hk0
  case h_2=>exact hk0.elim
  rename_i g caps hcl
  have hRx:=YK hs.fr (g:=none) trivial cx
  rw [hcl] at hRx
  simp only [R] at hRx
  obtain ⟨cs,k1,k2⟩:=hRx
  have hmn:C.m0<=σ1.n:=by
   rcases Nat.lt_or_ge σ1.n C.m0 with q | q
   . exact absurd (hs.hs.pin σ1.n q).1 (Nat.lt_irrefl _)
   . exact q
  unfold Zsz at hc2
  split at hc2
  case h_2=>cases hc2
  rename_i cc hop hdst hgd
  simp only [Bool.and_eq_true] at hc2
  obtain ⟨e1,e2⟩:=hc2
  split at e1
  case h_2=>cases e1
  rename_i y hcal
  have hca:cc.args = #[]:=by simpa using e2
  rw [hrd]
  simp only [UZ,Region.wanted,hgd]
  simp only [if_true]
  have hrun:(o.semAt none a1.eval).run P w1 = .ok (.defer { target:=.fn (.func g) cs,args:=#[] }) w1:=by
   rw [Oper.semAt_none]
   obtain ⟨dst',op',ty',pos,after,guard⟩:=o
   simp only at hop;subst hop
   simp [execOp,resolve,hcal,hca,Zj e1 a1,k1,Deferred.ofValue,Sem.run_bind,Sem.run_pure]
  show o.wpq none P a1 w1 _ _
  unfold Oper.wpq
  rw [hrun]
  simp only [Oper.uponX,hdst]
  show Exit.then _ _ .normal _ w1
  simp only [Exit.then]
  show wpX none P cy (Ys P fn R') { a1 with defers:=_ :: a1.defers } w1
  refine Za5 b _ σ1.n cy σ1 (rK P K g caps) E1 _ w1 ⟨Nat.le_refl _,fun k b ho=>?_⟩ rfl hc3 hk0 (Zju hs _) (fun e σ' hk C2 E' a' w' c1 c2 c3 c4 c5 hs'=>?_)
  . rcases Classical.em (ltn σ1.n k) with hk | hk
    . exact hk
    . have ho':occ E1 k (lkh k σ1.hp) b:=ho
      rw [hs.hs.kn k hk] at ho';exact ho'.elim
  have hpin:∀ j,j < σ1.n->j < σ'.n/\Ele E1 E' j j:=fun j hj=>by
   have:=hs'.hs.pin j (by rw [c5];exact hj)
   rw [c4] at this;exact this
  have hstC:YS w1 w' (okS C E1 σ1.hp) (okS C2 E' σ'.hp):=fun b hb q=>by
   have hlt:b < w1.heap.size:=by rcases q with ⟨cells,T,fz,hcell⟩ | ⟨es,c,hcell⟩<;>exact (Array.getElem?_eq_some_iff.1 hcell).1
   refine ⟨⟨.inl (by rw [c2];exact hb),fun j ho=>?_⟩,?_⟩
   . rcases hs'.hs.lo j b ho with q | q
     . rw [c1] at q;exact absurd hlt (Nat.not_lt.2 q)
     . rw [c3] at q;exact hb.2 j q
   . have:=hs'.hs.kp.block b (by rw [c1];exact hlt) (fun j q=>by rw [c3] at q;exact hb.2 j q)
     rw [c1] at this;exact this
  have hcaps:RL w' E' (ltn σ'.n) (okS C2 E' σ'.hp) caps cs.toList:=ZJ hstC (fun j hj=>(hpin j hj).2) (fun j hj=>(hpin j hj).1) _ _ k2
  have fin:∀ (kk:St->Prop) (eK:Ex) (heK:eK = .n\/eK = .ret),(∀ σ,kk σ->K eK σ)->∀ hp' n' E3 w3,kk ⟨σ'.fr,hp',n',σ'.N,σ'.gs⟩->Sim C2 E3 ⟨σ'.fr,hp',n',σ'.N,σ'.gs⟩ a' w3->Lv P fn a'.tmps R' a1.defers .returning w3:=fun kk eK heK hkk hp' n' E3 w3 hq hs2=>by
   rw [d1]
   have hsim:=Ze5 hs hs2 c1 c2 c3 c4 c5 hmn
   have hmark:∀ m ∈ ms,C.w0.heap.size<=m/\okS C E3 hp' m/\w3.heap[m]? = some (.deferred (some [])):=fun m hm=>by
    obtain ⟨p1,p2,p3⟩:=d3 m hm
    have hlt':m < w1.heap.size:=(Array.getElem?_eq_some_iff.1 p3).1
    have hnp:∀ k,¬ C2.pass k m:=fun k hk=>by rw [c3] at hk;exact p2.2 k hk
    refine ⟨p1,⟨p2.1,fun k ho=>?_⟩,?_⟩
    . rcases hs2.hs.lo k m ho with g | g
      . rw [c1] at g;exact absurd hlt' (Nat.not_lt.2 g)
      . exact hnp k g
    . have:=hs2.hs.kp.block m (by rw [c1];exact hlt') hnp
      rw [c1] at this;rw [this];exact p3
   refine XV ms _ _ (by simp) d2.1 (fun m hm=>(hmark m hm).2.2) fun w4 hu4=>?_
   rcases heK with rfl | rfl
   . exact hK .n _ (hkk _ hq) { C with ds:=a'.defers } E3 a' w4 rfl rfl rfl rfl rfl (Wz (C:={ C with ds:=a'.defers }) hsim hmark hu4)
   . exact hK .ret _ (hkk _ hq) { C with ds:=a'.defers } E3 a' w4 rfl rfl rfl rfl rfl (Wz (C:={ C with ds:=a'.defers }) hsim hmark hu4)
  have hm2:C2.m0<=σ'.n:=by
   rw [c5]
   rcases Nat.lt_or_ge σ'.n σ1.n with q | q
   . exact absurd (hpin σ'.n q).1 (Nat.lt_irrefl _)
   . exact q
  have main:∀ (s:SV) (v:Value) (u u':FrameMode) (eK:Ex),(eK = .n\/eK = .ret)->R w' E' (ltn σ'.n) (okS C2 E' σ'.hp) s v->ZBn v u u'->(∃ t l c N,RcF P g t l c N/\rcR P t l c N caps s σ' (K eK)) ->
   Lv P fn a'.tmps R' ({ target:=.fn (.func g) cs,args:=#[] } :: a1.defers) u w':=fun s v u u' eK heK hv hu hex=>by
   obtain ⟨t,l,c,N,hF,hrun⟩:=hex
   have hset:u≠.run/\settle u' = .returning:=by
    rcases hu with ⟨rfl,rfl,rfl⟩ | ⟨rfl,rfl⟩
    . exact ⟨by simp,rfl⟩
    . exact ⟨by simp,rfl⟩
   refine ⟨hset.1,.inr (.inr ⟨.func g,cs,g,cs,rfl,by simp [invoke,Xj hF.bd],?_⟩)⟩
   have hcalls:=Zy4 hF hs' hm2 hcaps hv hrun hu (R':=fun e u'' w''=>match e with
    | .returned _=>Lv P fn a'.tmps R' a1.defers (settle u'') w''
    | .panicked chain=>Lv P fn a'.tmps R' a1.defers (raised u'' chain) w''
    | .outgrown=>R' .outgrown w'') (fun hp' n' E3 w3 hq hs3=>by
    show Lv P fn a'.tmps R' a1.defers (settle u') w3
    rw [hset.2]
    exact fin (K eK) eK heK (fun _ h=>h) hp' n' E3 w3 hq hs3)
   rw [show cs.toList.toArray=cs from rfl] at hcalls
   intro c₀ cs0 hc0
   obtain ⟨e2,u2,w2,fr2,q1,q2,q3,q4⟩:=hcalls c₀ cs0 hc0
   refine ⟨e2,u2,w2,fr2,?_,q2,q3,q4⟩
   cases e2<;>exact q1
  cases e with
  | ex i=>exact hk.elim
  | n=>exact main _ _ _ _ .n (.inl rfl) (by simp only [R]) (.inl ⟨rfl,rfl,rfl⟩) hk
  | ret=>exact main _ _ _ _ .ret (.inr rfl) (by simp only [R]) (.inl ⟨rfl,rfl,rfl⟩) hk
  | pan s=>intro y hy;exact main s y _ _ .ret (.inr rfl) hy (.inr ⟨rfl,rfl⟩) hk
theorem Zft {f:FuncId} {fn:Func} {code:Code} {fb:FB} {args:List SV} {N n0 m:Nat} {hp0:List (Nat × HB)} {C:Cx} {E:Env} {w:World} {vs:List Value} {K:Ex->St->Prop} {R':Ending->World->Prop}
 (hf:P.funcs[f]? = some fn) (hb:fn.body=some code) (hc:ZaS P fb code=true) (hN:fn.ntmps=N) (hA:args.length<=N) (hds:C.ds=[]) (hrd:C.rd=none) (hm:MC C m)
 (hH:HSim C E hp0 (ltn n0) w) (hR:RL w E (ltn n0) (okS C E hp0) args vs) (h:fx P m fb ⟨We 0 args,hp0,n0,N,[]⟩ K)
 (hK:∀ e σ,K e σ->∀ C' E a w',C'.w0=C.w0->C'.okp=C.okp->C'.pass=C.pass->C'.e0=C.e0->C'.m0=C.m0->Sim C' E σ a w'->match e with
  | .n | .ret=>∃ v,(results fn a.tmps).run P w' = .ok v w'/\R' (.returned v) w'
  | .ex _=>False
  | .pan s=>∀ y,R w' E (ltn σ.n) (okS C' E σ.hp) s y->R' (.panicked [{ v:=y,recovered:=false }]) w'):Calls P f vs.toArray w R':=by
 have hlen:=ZF hR
 have hng:∀ t j b s,lk t (We 0 args)≠.gd j b s:=by
  intro t j b s ht
  simp only [Uo,Nat.zero_le,if_true,Nat.sub_zero] at ht
  by_cases htl:t < args.length
  . have e1:args.getD t .any=args[t]:=by simp [htl]
    obtain ⟨y,h1,h2⟩:=VC hR (List.getElem?_eq_getElem htl)
    rw [e1] at ht;rw [ht] at h2;simp only [R] at h2
  . have e1:args.getD t .any = .any:=by simp [List.getElem?_eq_none (Nat.le_of_not_lt htl)]
    rw [e1] at ht;cases ht
 have hS:Sim C E ⟨We 0 args,hp0,n0,N,[]⟩ { tmps:=vs.toArray ++ Array.replicate (fn.ntmps - vs.toArray.size) undef,defers:=[] } w:=by
  refine ⟨fun t=>?_,by simp [hN];omega,by rw [<- hds];exact ZaF,fun t j b s ht=>absurd ht (hng t j b s),hH⟩
  have hng:=hng t
  have hFR:R w E (ltn n0) (okS C E hp0) (lk t (We 0 args)) ((vs.toArray ++ Array.replicate (fn.ntmps - vs.toArray.size) undef).getD t undef):=by
   simp only [Uo,Nat.zero_le,if_true,Nat.sub_zero]
   by_cases ht:t < args.length
   . have e1:args.getD t .any=args[t]:=by simp [ht]
     obtain ⟨y,h1,h2⟩:=VC hR (List.getElem?_eq_getElem ht)
     have e2:(vs.toArray ++ Array.replicate (fn.ntmps - vs.toArray.size) undef).getD t undef=y:=by
      have:t < vs.length:=by omega
      have h1':=(List.getElem?_eq_some_iff.1 h1).2
      simp [Array.getElem?_append,this,h1']
     rw [e1,e2];exact h2
   . have e1:args.getD t .any = .any:=by simp [List.getElem?_eq_none (Nat.le_of_not_lt ht)]
     rw [e1];simp only [R]
  simp only
  cases hq:lk t (We 0 args)<;>rw [hq] at hFR hng<;>first | exact hFR | exact absurd rfl (hng _ _ _)
 refine V6 hf hb ?_
 refine Za5 fb C m code _ K E _ w hm hrd hc h hS (fun e σ hk C' E a w' c1 c2 c3 c4 c5 hs=>?_)
 have key:=hK e σ hk C' E a w' c1 c2 c3 c4 c5 hs
 rw [hds]
 cases e with
 | ex i=>exact key
 | n=>exact key
 | ret=>exact key
 | pan s=>exact key
theorem ZhB {f:FuncId} {fn:Func} {code:Code} {fb:FB} {args:List SV} {rs:List RV} {N n0:Nat} {hp0:List (Nat × HB)} {Z6:Ot->Prop} (hf:P.funcs[f]? = some fn) (hb:fn.body=some code) (hc:ZaS P fb code=true)
 (hr:Wg P rs fn.results.toList=true) (hN:fn.ntmps=N) (hA:args.length<=N) (h:fx P n0 fb ⟨We 0 args,hp0,n0,N,[]⟩ (Zct rs Z6)):CtY P Y0 f hp0 n0 args Z6:=by
 intro C E w vs d1 d2 d3 d4 d5 d6 hY hH hR
 refine Zft hf hb hc hN hA d3 d2 ⟨Nat.le_of_eq d5,d6⟩ hH hR h fun e σ hk C' E' a w' c1 c2 c3 c4 c5 hs=>?_
 obtain ⟨g1,g2⟩:=Ze3 hs.hs c1 c2 c3 c4 c5
 have hend:Zs2 Z6 σ.hp σ.n (rvE (Ze1 σ rs))->∃ v,(results fn a.tmps).run P w' = .ok v w'/\∃ o E' y,Z6 o/\HSim C E' o.hp (ltn o.n) w'/\R w' E' (ltn o.n) (okS C E' o.hp) o.res y/\Ending.returned v=Zww o.pn y:=fun hrr=>by
  cases hq:rvE (Ze1 σ rs) with
  | none=>rw [hq] at hrr;exact hrr.elim
  | some s =>
   rw [hq] at hrr
   obtain ⟨v,h1,h2⟩:=UC (P:=P) (fn:=fn) (a:=a) (w:=w') (E:=E') (n:=ltn σ.n) (ok:=okS C' E' σ.hp) hq fun l hl=>ZfL hs rs _ l hr hl
   rw [g2] at h2
   exact ⟨v,h1,_,E',v,hrr,g1,h2,rfl⟩
 cases e with
 | ex i=>exact hk.elim
 | n=>exact hend hk
 | ret=>exact hend hk
 | pan s=>intro y hy;rw [g2] at hy;exact ⟨_,E',y,hk,g1,hy,rfl⟩
theorem ZcM {f:FuncId} {fn:Func} {code:Code} {fb:FB} {args:List SV} {rs:List RV} {N n0:Nat} {hp0:List (Nat × HB)} {Z6:Ot->Prop} (hf:P.funcs[f]? = some fn) (hb:fn.body=some code) (hnm:YI P f=true) (hc:ZaS P fb code=true)
 (hr:Wg P rs fn.results.toList=true) (hN:fn.ntmps=N) (hA:args.length<=N) (hh:hpb n0 hp0) (hx:∀ o,Z6 o->KX o.res/\KXP o.hp) (h:fx P n0 fb ⟨We 0 args,hp0,n0,N,[]⟩ (Zct rs fun o=>∃ o',Z6 o'/\ZdV n0 o o')):CtM P f hp0 n0 args Z6 :=
 ⟨hnm,hh,hx,(ZhB hf hb hc hr hN hA h).mono fun _ h=>h⟩
end
theorem Zcn {m:Nat} {σ : St} (t:Nat) {s':SV} (hg:σ.gs=[]) (hw:Xs (lk t σ.fr) s') (h2:∀ j b u,s'≠.gd j b u):Ent m σ ⟨(t,s') :: σ.fr,σ.hp,σ.n,σ.N,σ.gs⟩:=fun C E a w hmc h=>by
 have hR0:∀ u,R w E (ltn σ.n) (okS C E σ.hp) (lk u σ.fr) (a.tmps.getD u undef):=fun u=>ZvE (h.fr u) (fun j b u' e=>by have:=h.gs u j b u' e;rw [hg] at this;simp at this)
 have g2:ZE w w (okS C E σ.hp) (okS C E σ.hp):=fun b hb _=>⟨hb,rfl⟩
 refine ⟨E,fun u=>?_,h.sz,h.df,fun u j b s hu=>?_,h.hs⟩
 . rw [ZI]
   split
   . rename_i hu;subst hu
     have:=hw _ _ _ _ _ (hR0 u)
     cases s'<;>first | exact this | exact absurd rfl (h2 _ _ _)
   . refine XB g2 (fun _ _=>Ele.rfl) (fun k hk=>hk) (fun j b s hs=>?_) (h.fr u)
     have:=h.gs u j b s hs;rw [hg] at this;simp at this
 . rw [ZI] at hu
   split at hu
   . exact absurd hu (h2 _ _ _)
   . exact h.gs u j b s hu
end Go.Sx
