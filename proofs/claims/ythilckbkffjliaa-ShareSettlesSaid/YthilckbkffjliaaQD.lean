/- Walks and plain laws that lead to the given statement, part 4 of 10. -/
import Derived.Test.YthilckbkffjliaaQC
set_option linter.all false
open Nat renaming reduceAdd->rA,reduceMul->rM,reduceSub->rS,beq_refl->nbr
namespace Go.Sx
open Go Go.RowKit
variable {Y:Hd}
section
variable (P:Program) (m:Nat) (σ : St) (K:Ex->St->Prop) (L:RK)
theorem Zzf:rx P Y [] σ L=L .n σ:=rfl
theorem Zxl (io:Ins) (r:List Ins):rx P Y (io :: r) σ L=st1 P Y io σ (rx P Y r) L:=rfl
theorem ZAN (ops:List Ins):sx P Y m (.reg ops) σ K=rx P Y ops σ (Zce K):=rfl
theorem Zw5 (ord:List Nat) (p:Ph) (ps:List Ph):sx P Y m (.regs ord p ps) σ K=phx P Y p ps σ (Zce K):=rfl
theorem phx_1 (vs:List VI) (nA nB:Nat) (rest:List Ins):phx P Y ⟨vs,nA,nB,rest⟩ [] σ L=gs0 σ.gs (rxv P Y (ZcW σ.hp (rx P Y rest)) vs σ L):=rfl
theorem phx_2 (vs:List VI) (nA nB:Nat) (rest:List Ins) (q:Ph) (ps:List Ph):phx P Y ⟨vs,nA,nB,rest⟩ (q :: ps) σ L=gs0 σ.gs (rxv P Y (ZcW σ.hp (rx P Y rest)) vs σ (phK (phx P Y q ps) L)):=rfl
theorem phK_n (f:St->RK->Prop):phK f L .n σ = f σ L:=rfl
theorem Zwv (ord:List Nat) (vs:List VI) (nA nB:Nat) (rest:List Ins):sx P Y m (.regd ord vs nA nB rest) σ K=gs0 σ.gs (rxv P Y (ZcW σ.hp (rx P Y rest)) vs σ (Zce K)):=rfl
theorem Zue (r:KT):rxv P Y r [] σ L=r σ L:=rfl
theorem ZAj (r:KT) (io:Ins) (l:List VI):rxv P Y r (.op io :: l) σ L=st1 P Y io σ (rxv P Y r l) L:=rfl
theorem ZnV (r:KT) (x:X) (l:List VI):rxv P Y r (.hide x :: l) σ L=ZdH (rdG none σ.fr x) σ (rxv P Y r l) L:=rfl
theorem Zp7 (hp:List (Nat × HB)) (r:KT):ZcW hp r σ L=r ⟨σ.fr,hp,σ.n,σ.N,σ.gs⟩ L:=rfl
theorem Zvs (k o:Nat) (r:KT):ZdH (.p k o) σ r L=r ⟨σ.fr,(k,.gone) :: σ.hp,σ.n,σ.N,σ.gs⟩ L:=rfl
theorem ZpH (k v:Nat) (r:KT):ZdH (.mr k v) σ r L=r ⟨σ.fr,(k,.gone) :: σ.hp,σ.n,σ.N,σ.gs⟩ L:=rfl
theorem Zpw (k v m i o:Nat) (r:KT):ZdH (.pr k v m i o) σ r L=r ⟨σ.fr,(k,.gone) :: σ.hp,σ.n,σ.N,σ.gs⟩ L:=rfl
theorem ZqQ (k v m i o:Nat) (r:KT):ZdH (.ms k v m i o) σ r L=r ⟨σ.fr,(k,.gone) :: σ.hp,σ.n,σ.N,σ.gs⟩ L:=rfl
theorem Zs7 (p:Prop):gs0 [] p=p:=rfl
theorem ZyC (a b:SC):sx P Y m (.seq a b) σ K=sx P Y m a σ (Zxm (sx P Y m b) K):=rfl
theorem ZvQ (c:X) (a b:SC):sx P Y m (.cond c a b) σ K=ZA4 (rdG none σ.fr c) (sx P Y m a) (sx P Y m b) σ K:=rfl
theorem ZoM (id:Nat) (c:SC):sx P Y m (.block id c) σ K=sx P Y m c σ (ZrJ id K):=rfl
theorem Zs5 (c:SC):sx P Y m (.loop c) σ K=Zxh m (sx P Y m c) σ K:=rfl
theorem Zwq (id:Nat):sx P Y m (.exit id) σ K=K (.ex id) σ:=rfl
theorem Zyf:sx P Y m .ret σ K=K .ret σ:=rfl
theorem ZwJ:sx P Y m .skip σ K=K .n σ:=rfl
theorem Zpq (c:SC):sx P Y m (.scope c) σ K=sx P Y m c σ K:=rfl
theorem sx_gh (c:SC):sx P Y m (.gh c) σ K=GH m (sx P Y m c) σ K:=rfl
theorem Znw (l:Nat):sx P Y m (.label l) σ K=K .n σ:=rfl
theorem Ztj (e:Ex):Zce K e σ = K e (VA σ):=rfl
theorem ZyW (f:CT):Zxm f K .n σ = f σ K:=rfl
theorem Zvw (f:CT) (i:Nat):Zxm f K (.ex i) σ = K (.ex i) σ:=rfl
theorem Zpu (f:CT) (s:SV):Zxm f K (.pan s) σ = K (.pan s) σ:=rfl
theorem ZoH (f:CT):Zxm f K .ret σ = K .ret σ:=rfl
theorem Zyr (id:Nat):ZrJ id K .n σ = K .n σ:=rfl
theorem Zno (id:Nat) (s:SV):ZrJ id K (.pan s) σ = K (.pan s) σ:=rfl
theorem Zn3 (id:Nat):ZrJ id K .ret σ = K .ret σ:=rfl
theorem ZAD (rs:List RV) (res:SV):ZA1 rs res .n σ = (rvR rs σ = some res):=rfl
theorem Zob (rs:List RV) (res:SV):ZA1 rs res .ret σ = (rvR rs σ = some res):=rfl
theorem ZzO {S:Type} (st:S->St) (rel:S->Prop) (μ : S->Nat) (s:S):ZpJ m st rel μ s K .n σ = ∃ s',rel s'/\μ s' < μ s/\Ent m σ (st s'):=rfl
theorem Zte {S:Type} (st:S->St) (rel:S->Prop) (μ : S->Nat) (s:S) (i:Nat):ZpJ m st rel μ s K (.ex i) σ = K (.ex i) σ:=rfl
theorem ZpB {S:Type} (st:S->St) (rel:S->Prop) (μ : S->Nat) (s:S) (x:SV):ZpJ m st rel μ s K (.pan x) σ = K (.pan x) σ:=rfl
theorem ZmZ {S:Type} (st:S->St) (rel:S->Prop) (μ : S->Nat) (s:S):ZpJ m st rel μ s K .ret σ = K .ret σ:=rfl
end
section
variable {P:Program} {m:Nat} {σ : St} {K:Ex->St->Prop} {L:RK} {r:KT} {d:Option Nat} {g:Option (Nat × Bool)}
theorem br {b:Bool} {f h:CT} (h1:b=true->f σ K) (h2:b=false->h σ K):BR b f h σ K:=⟨h1,h2⟩
theorem Zw {b:Bool} {f h:CT} (hb:b=true) (h1:f σ K):BR b f h σ K:=⟨fun _=>h1,fun e=>by rw [hb] at e;cases e⟩
theorem Zu {b:Bool} {f h:CT} (hb:b=false) (h1:h σ K):BR b f h σ K:=⟨fun e=>by (rw [hb] at e;cases e),fun _=>h1⟩
theorem gb {b w:Bool} {j:Nat} {i:SI} (h:Yq P (some (j,w)) d i σ r L):GB P Y b j w d i σ r L:=.inr (.inr h)
theorem Wn {b w:Bool} {j:Nat} {i:SI} (hb:b=w) (h:stp P Y d i σ r L):GB P Y b j w d i σ r L:=.inl ⟨hb,h⟩
theorem W3 {b w:Bool} {j:Nat} {i:SI} (hb:b≠w) (h:Zvk d σ r L):GB P Y b j w d i σ r L:=.inr (.inl ⟨hb,h⟩)
theorem call {f:FuncId} {args:List SV} {res:SV} (h:Ct P f args res) (hk:Yy d res g σ r L):Zxs P g f args d σ r L:=⟨res,.inl (ZQ.2 fun _=>h),hk⟩
theorem Zal {f:FuncId} {args:List SV} {res:SV} (hf:FLT res) (h:Ct P f (ZbC (vw4 σ.hp) args) res) (hk:Yy d res g σ r L):Zxs P g f args d σ r L:=⟨res,.inr ⟨hf,ZQ.2 fun _=>h⟩,hk⟩
theorem Zrv {b:BinOp} {k:IntKind} {x y:Int} (h:y≠0) (hk:Yy d (.v (.int k (ZhN b k x y))) g σ r L):DIV g b k x y d σ r L:=⟨ZQ.2 fun _=>h,hk⟩
theorem ixs {xs:List (List SV)} {i:Int} (n:Nat) (row:List SV) (hi:i=(n:Int)) (hr:xs[n]? = some row) (hk:Yy d (.ps row 0) g σ r L):IXS g xs i d σ r L:=⟨row,ZQ.2 fun _=>⟨n,hi,hr⟩,hk⟩
theorem Zq {α : Type} {l:List α} {f:α->List SV} {i:Int} (n:Nat) (hn:n < l.length) (hi:i=(n:Int)) (hk:Yy d (.ps (f l[n]) 0) g σ r L):IXS g (l.map f) i d σ r L :=
 ixs n _ hi (by simp [hn]) hk
theorem ixa {len:Nat} {i:Int} {F:Nat->Option SV} (n:Nat) (hi:i=(n:Int)) (hn:n < len) (hk:Wf (F n) d g σ r L):IXA g len i F d σ r L:=⟨n,ZQ.2 fun _=>⟨hi,hn⟩,hk⟩
theorem loop {f:CT} {S:Type} (st:S->St) (rel:S->Prop) (μ : S->Nat) (s:S) (h0:rel s) (he:Ent m σ (st s)) (hb:∀ s,rel s->f (st s) (ZpJ m st rel μ s K)):Zxh m f σ K :=
 .inr ⟨S,st,rel,μ,⟨s,h0,he⟩,hb⟩
theorem Zkx {f:CT} (n:Nat) (h:ZxK f K n σ):Zxh m f σ K:=.inl ⟨n,h⟩
theorem ZU {f:CT} (n:Nat):ZxK f K (n+1) σ = f σ (ZxS (ZxK f K n) K):=rfl
theorem Zzb (p:St->Prop):ZxS p K .n σ = p σ:=rfl
theorem Zto (p:St->Prop) (i:Nat):ZxS p K (.ex i) σ = K (.ex i) σ:=rfl
theorem Zpt (p:St->Prop) (s:SV):ZxS p K (.pan s) σ = K (.pan s) σ:=rfl
theorem Znc (p:St->Prop):ZxS p K .ret σ = K .ret σ:=rfl
def Zxu:List (Nat × SV)->List (Nat × SV)->Prop
 | [],_=>True
 | (t,s) :: r,fr=>lk t fr=s/\Zxu r fr
def ZxU:List (Nat × SV)->Bool
 | []=>true
 | (_,.gd _ _ _) :: _=>false
 | _ :: r=>ZxU r
theorem ZjP:∀ {r fr:List (Nat × SV)},Zxu r fr->∀ t,lk t r = .any\/lk t r=lk t fr
 | [],_,_,t=>.inl rfl
 | (u,s) :: r,fr,h,t=>by
  rw [ZK]
  by_cases ht:t=u
  . subst ht;rw [if_pos rfl];exact .inr h.1.symm
  . rw [if_neg ht];exact ZjP h.2 t
theorem Zem:∀ {r:List (Nat × SV)},ZxU r=true->∀ t j b s,lk t r≠.gd j b s
 | [],_,t,j,b,s=>by simp [lk]
 | (u,s') :: r,h,t,j,b,s=>by
  rw [ZK]
  by_cases ht:t=u
  . rw [if_pos ht];rintro rfl;simp [ZxU] at h
  . rw [if_neg ht];exact Zem (by cases s'<;>first | exact h | simp [ZxU] at h) t j b s
end
section
variable {w:World} {E:Env} {ok ok':Nat->Prop} {ρ : Nat->Nat} {n':Nat} {n:Nat->Prop}
theorem ent {σ σ':St} (ρ : Nat->Nat) (hf:mtF ρ σ'.n [] σ'.fr σ.fr) (hp:mtP ρ σ'.hp σ.hp σ'.n σ'.n) (hb:hpb σ'.n σ'.hp) (hρ : ∀ i,i < σ'.n->∀ j,j < σ'.n->ρ i = ρ j->i=j) (hN:Nat.beq σ'.N σ.N=true) {m0:Nat} (hm:Nat.ble m0 σ'.n=true) (hfix:∀ i,i < m0->ρ i=i):Ent m0 σ σ':=by
 intro C E a w hm0 h
 have hN:=Nat.eq_of_beq_eq_true hN
 have hgone:=Zcr hb
 have hH:=Zk2 hp
 have hocc:∀ k b,occ (rnE E ρ) k (lkh k σ'.hp) b->k < σ'.n/\occ E (ρ k) (lkh (ρ k) σ.hp) b:=fun k b ho=>by
  by_cases hk:k < σ'.n
  . refine ⟨hk,?_⟩
    have:=hH k hk
    cases h1:lkh k σ'.hp<;>rw [h1] at ho this
    . cases h2:lkh (ρ k) σ.hp<;>rw [h2] at this<;>simp only [mtH] at this
      exact ho
    . simp only [mtH] at this;rw [this.1];exact ho
    . simp only [mtH] at this;rw [this];exact ho
    . simp only [mtH] at this;rw [this.1];exact ho
    . simp only [mtH] at this;rw [this.2];exact ho
    . simp only [mtH] at this;rw [this];exact ho
    . simp only [mtH] at this;rw [this];exact ho
    . simp only [mtH] at this;rw [this.1];exact ho
    . exact ho.elim
  . rw [hgone k hk] at ho;exact ho.elim
 have hst:ZC w w (okS C E σ.hp) (okS C (rnE E ρ) σ'.hp):=fun b hb _=>⟨⟨hb.1,fun k ho=>hb.2 _ (hocc k b ho).2⟩,rfl⟩
 refine ⟨rnE E ρ,fun t=>?_,by rw [hN];exact h.sz,Wa hst h.df,fun t j b s ht=>?_,⟨hgone,fun k=>?_,fun k k' b h1 h2=>?_,fun k b h1=>?_,h.hs.kp,fun k hk=>?_⟩⟩
 . rcases ZlG hf t rfl with h1 | h1
   . rw [h1];exact trivial
   . have:=mtS_R hst h1 (h.fr t)
     have hng:=Zco h1
     cases hs:lk t σ'.fr<;>rw [hs] at this hng<;>first | exact this | exact absurd rfl (hng _ _ _)
 . rcases ZlG hf t rfl with h1 | h1
   . rw [h1] at ht;cases ht
   . exact absurd ht (Zco h1 j b s)
 . by_cases hk:k < σ'.n
   . have:=hH k hk
     have hbk:=h.hs.bk (ρ k)
     cases h1:lkh k σ'.hp<;>rw [h1] at this
     . cases h2:lkh (ρ k) σ.hp<;>rw [h2] at this hbk<;>simp only [mtH] at this
       obtain ⟨rfl,this⟩:=this
       simp only [ZZ] at hbk ⊢
       obtain ⟨cs,k1,k2⟩:=hbk
       exact ⟨cs,k1,Za2 hst _ _ _ this k2⟩
     . simp only [mtH] at this
       rw [this.1] at hbk
       simp only [ZZ] at hbk ⊢
       obtain ⟨hi0,hbk⟩:=hbk
       refine ⟨hi0,?_⟩
       rcases hbk with q | ⟨b,cap,cs,q1,q2,q3,q4,q5,q6,q7⟩
       . exact .inl q
       . exact .inr ⟨b,cap,cs,q1,q2,q3,q4,q5,q6,ZG hst (fun _ h=>Ele.rfl) (fun _ h=>h.elim) _ _ (Zbs (E':=rnE E ρ) (n':=fun _=>False) _ _ (Vp this.2) q7)⟩
     . rename_i φ
       simp only [mtH] at this
       rw [this] at hbk
       simp only [ZZ] at hbk ⊢
       obtain ⟨o,k1,k2⟩:=hbk
       exact ⟨o,k1,φ.mono _ _ _ _ _ hst k2⟩
     . simp only [mtH] at this
       obtain ⟨this,hkf⟩:=this
       rw [this] at hbk
       simp only [ZZ] at hbk ⊢
       obtain ⟨ys,k1,k2⟩:=hbk
       exact ⟨ys,k1,Znh hst _ _ hkf k2⟩
     . simp only [mtH] at this
       rw [this.2] at hbk
       simp only [ZZ] at hbk ⊢
       exact ⟨this.1,hbk.2⟩
     . simp only [mtH] at this
       rw [this] at hbk
       simp only [ZZ] at hbk ⊢
       exact hbk
     . simp only [mtH] at this
       rw [this] at hbk
       simp only [ZZ] at hbk ⊢
       exact hbk
     . simp only [mtH] at this
       obtain ⟨this,k1,k2⟩:=this
       rw [this] at hbk
       exact VL (E:=E) (k:=ρ k) (E':=rnE E ρ) hst.c (fun _ _=>rfl) rfl hk k1 k2 hbk
     . trivial
   . rw [hgone k hk];trivial
 . have e1:=hocc k b h1
   have e2:=hocc k' b h2
   exact hρ k e1.1 k' e2.1 (h.hs.dj _ _ b e1.2 e2.2)
 . obtain ⟨e1,e2⟩:=hocc k b h1
   rcases h.hs.lo _ b e2 with q | q
   . exact .inl q
   . have q1:=Nat.lt_of_lt_of_le (hm0.2 _ _ q) hm0.1
     have q2:ρ k=k:=hρ _ (Nat.lt_of_lt_of_le q1 (Nat.le_of_ble_eq_true hm)) k e1 (hfix _ q1)
     rw [q2] at q;exact .inr q
 . have hk':k < m0:=Nat.lt_of_lt_of_le hk hm0.1
   obtain ⟨p1,p2,p3,p4⟩:=h.hs.pin k hk
   exact ⟨Nat.lt_of_lt_of_le hk' (Nat.le_of_ble_eq_true hm),by simp only [rnE,hfix k hk'];exact p2,by simp only [rnE,hfix k hk'];exact p3,by simp only [rnE,hfix k hk'];exact p4⟩
end
theorem Zqx {ρ : Nat->Nat} {n':Nat}:∀ {s:SV},KF s->mtS ρ n' s s:=by
 intro s
 exact SV.rec (motive_1:=fun s=>KF s->mtS ρ n' s s) (motive_2:=fun l=>KFL l->mtL ρ n' l l) (motive_3:=fun _=>True)
  (fun x _=>by simp [mtS]) (fun k o h=>by simp [KF] at h) (fun l ih h=>by simp only [KF] at h;simp only [mtS,Zad,mtO];exact ih h)
  (fun c m xs _ h=>by simp only [KF] at h;simp [mtS,h]) (fun k v h=>by simp [KF] at h) (fun k v m i o h=>by simp [KF] at h) (fun k v m i o h=>by simp [KF] at h)
  (fun l o _ h=>by simp only [KF] at h;simp [mtS,h]) (fun f l ih h=>by simp only [KF] at h;simp only [mtS,clL,nbr,cond_true,mtO];exact ih h)
  (fun l ih h=>by simp only [KF] at h;simp only [mtS,Zxw,mtO];exact ih h) (fun k h=>by simp [KF] at h) (fun k h=>by simp [KF] at h) (fun T s ih h=>by simp only [KF] at h;simp only [mtS,mtI];exact ⟨trivial,ih h⟩) (fun φ _=>by simp [mtS]) (fun j w s _ h=>by simp [KF] at h) (fun _=>by simp [mtS])
  (fun _=>by simp [mtL]) (fun s l h1 h2 h=>by simp only [KFL] at h;simp only [mtL,mtB];exact ⟨h1 h.1,h2 h.2⟩)
  trivial (fun _ _ _ _=>trivial) s
theorem Zd {ρ : Nat->Nat} {n':Nat}:∀ {l:List SV},KFL l->mtL ρ n' l l
 | [],_=>by simp [mtL]
 | s :: l,h=>by simp only [mtL,mtB];exact ⟨Zqx h.1,Zd h.2⟩
abbrev I (n:Int):SV:=.v (.int .i64 n)
abbrev B (b:Bool):SV:=.v (.bool b)
theorem Ze:∀ {xs ys:List (List SV)},KFR (xs ++ ys)↔KFR xs/\KFR ys
 | [],ys=>by simp [KFR]
 | x :: xs,ys=>by simp [KFR,Ze (xs:=xs) (ys:=ys),and_assoc]
theorem Zb {α : Type} {f:α->List SV} {l:List α}:KFR (l.map f)↔∀ x ∈ l,KFL (f x):=by
 induction l with
 | nil=>simp [KFR]
 | cons x l ih=>simp [KFR,ih]
theorem Zf {n:Int} (h1:-9223372036854775808<=n) (h2:n<=9223372036854775807):IntKind.i64.wrap n=n:=IntWalk.i64_in n ⟨h1,h2⟩
def stO {S:Type} (σ : St) (ov:S->List (Nat × SV)) (hv:S->List (Nat × HB)) (s:S):St:=⟨ov s ++ σ.fr,hv s ++ σ.hp,σ.n,σ.N,[]⟩
theorem e_stO {S:Type} (fr:List (Nat × SV)) (hp:List (Nat × HB)) (n N:Nat) (gs:List Nat) (ov:S->List (Nat × SV)) (hv:S->List (Nat × HB)) (s:S):stO ⟨fr,hp,n,N,gs⟩ ov hv s=⟨ov s ++ fr,hv s ++ hp,n,N,[]⟩:=rfl
theorem Yf {m:Nat} {f:CT} {σ : St} {K:Ex->St->Prop} {S:Type} (ov:S->List (Nat × SV)) (hv:S->List (Nat × HB)) (rel:S->Prop) (μ : S->Nat) (s0:S) (h0:rel s0) (he:Ent m σ (stO σ ov hv s0))
 (hb:∀ s,rel s->f (stO σ ov hv s) (ZpJ m (stO σ ov hv) rel μ s K)):Zxh m f σ K :=
 loop (stO σ ov hv) rel μ s0 h0 he hb
theorem Zai {m:Nat} {f:CT} {σ σ1:St} {K:Ex->St->Prop} {S:Type} (hg:Ent m σ σ1) (ov:S->List (Nat × SV)) (hv:S->List (Nat × HB)) (rel:S->Prop) (μ : S->Nat) (s0:S) (h0:rel s0) (he:Ent m σ1 (stO σ1 ov hv s0))
 (hb:∀ s,rel s->f (stO σ1 ov hv s) (ZpJ m (stO σ1 ov hv) rel μ s K)):Zxh m f σ K :=
 loop (stO σ1 ov hv) rel μ s0 h0 (YF hg he) hb
theorem gh {m:Nat} {r:CT} {σ σ1:St} {K:Ex->St->Prop} (hg:Ent m σ σ1) (h:r σ1 K):GH m r σ K:=⟨σ1,hg,h⟩
theorem Zy9 {C:Cx} {E:Env} {hp:List (Nat × HB)} {n:Nat->Prop} {w:World} {m k v m':Nat} {xs:List (List SV)} {T:TypeId} (hmc:MC C m) (hm:m<=k) (h:HSim C E hp n w) (hk:lkh k hp = .row v m' xs T) :
 (xs=[]/\∃ a,E.hv k v = .slice a 0 0)\/∃ b cap,E.hv k v = .slice (some ⟨b,0,none⟩) xs.length cap/\xs.length<=cap/\cap≠0/\xs.length<=9223372036854775807/\RR w E n (okS C E ((k,.gone) :: hp)) b m' xs 0:=by
 have hb:=h.bk k
 rw [hk] at hb;simp only [ZZ] at hb
 rcases hb with ⟨_,h1 | ⟨b,cap,cs,h1,h2,h3,⟨h4,h4'⟩,h5,h6,h7⟩⟩
 . exact .inl h1
 . have hoc:occ E k (lkh k hp) b:=by rw [hk];exact ⟨_,_,h1,h4'⟩
   have hok:okS C E ((k,.gone) :: hp) b:=by
    refine ⟨?_,fun j ho=>?_⟩
    . rcases h.lo k b hoc with q | q
      . exact .inr q
      . have:=hmc.2 k b q;have:=hmc.1;omega
    . rw [Zm] at ho
      split at ho
      . exact ho.elim
      . exact absurd (h.dj j k b ho hoc).symm (by omega)
   exact .inr ⟨b,cap,h1,h4,h4',h5,Wo (cs:=cs) (ok:=okS C E hp) hok (fun j c hj=>by rw [cell_of_row _ _ _ _ _ _ h2];simpa using hj) (Ut h k).2 xs 0 h6 (by simpa using h7)⟩
theorem ZnN {m:Nat} {σ : St} (t k:Nat) (s:SV) (hg:σ.gs=[]) (hs:∀ j b u,s≠.gd j b u) (hR:∀ C E w y,MC C m->HSim C E σ.hp (ltn σ.n) w->R w E (ltn σ.n) (okS C E σ.hp) (lk t σ.fr) y->R w E (ltn σ.n) (okS C E ((k,.gone) :: σ.hp)) s y) :
 Ent m σ ⟨(t,s) :: σ.fr,(k,.gone) :: σ.hp,σ.n,σ.N,σ.gs⟩:=fun C E a w hmc h=>by
 obtain ⟨g1,g2⟩:=Ut h.hs k
 have hR0:∀ u,R w E (ltn σ.n) (okS C E σ.hp) (lk u σ.fr) (a.tmps.getD u undef):=fun u=>ZxI (h.fr u) (fun j b u' e=>by have:=h.gs u j b u' e;rw [hg] at this;simp at this)
 refine ⟨E,fun u=>?_,h.sz,Wa g2 h.df,fun u j b s' hu=>?_,g1⟩
 . rw [ZK]
   split
   . rename_i hu;subst hu
     have:=hR C E w _ hmc h.hs (hR0 _)
     cases s<;>first | exact this | exact absurd rfl (hs _ _ _)
   . refine XR g2 (fun _ _=>Ele.rfl) (fun k hk=>hk) (fun j b s hs=>?_) (h.fr u)
     have:=h.gs u j b s hs;rw [hg] at this;simp at this
 . rw [ZK] at hu
   split at hu
   . exact absurd hu (hs _ _ _)
   . exact h.gs u j b s' hu
theorem WN {m:Nat} {σ : St} (t k v:Nat) {m':Nat} {xs:List (List SV)} {T:TypeId} (hm:Nat.ble m k=true) (hg:σ.gs=[]) (hl:lk t σ.fr = .mr k v) (hk:lkh k σ.hp = .row v m' xs T) :
 Ent m σ ⟨(t,.sl false m' xs) :: σ.fr,(k,.gone) :: σ.hp,σ.n,σ.N,σ.gs⟩ :=
 ZnN t k _ hg (fun _ _ _ e=>by cases e) fun C E w y hmc hh hR=>by
  rw [hl] at hR
  simp only [R] at hR ⊢
  rcases Zy9 hmc (Nat.le_of_ble_eq_true hm) hh hk with ⟨h1,a0,h2⟩ | ⟨b,cap,h1,h4,h4',h5,h7⟩
  . exact ⟨a0,0,0,by rw [hR.2.2.1,h2],by simp [h1],⟨Nat.le_refl _,fun h=>by cases h⟩,by simp [h1],.inl h1⟩
  . exact ⟨_,_,_,hR.2.2.1.trans h1,rfl,⟨h4,fun h=>by cases h⟩,h5,.inr ⟨b,0,rfl,h7⟩⟩
theorem ZsP {m:Nat} {σ : St} (k v:Nat) {mm:Nat} {xs:List (List SV)} {T:TypeId} (o m':Nat) (T':TypeId) (hg:σ.gs=[]) (hk:lkh k σ.hp = .row v mm xs T) :
 Ent m σ ⟨σ.fr,(k,.rws v mm xs T o m' [] T') :: σ.hp,σ.n,σ.N,σ.gs⟩:=fun C E a w hmc h=>by
 have hocc:∀ b,occ E k (.rws v mm xs T o m' [] T') b↔occ E k (lkh k σ.hp) b:=fun b=>by
  rw [hk];simp only [occ,ZbB,List.length_nil,Nat.le_zero]
  exact ⟨fun ⟨i,hi,h⟩=>by subst hi;exact h,fun h=>⟨0,rfl,h⟩⟩
 have hst:ZC w w (okS C E σ.hp) (okS C E ((k,.rws v mm xs T o m' [] T') :: σ.hp)):=fun b hb _=>⟨(Ze4 hocc b).2 hb,rfl⟩
 have hH:HSim C E ((k,.rws v mm xs T o m' [] T') :: σ.hp) (ltn σ.n) w:=by
  have hkn:k < σ.n:=by
   rcases Classical.em (k < σ.n) with h' | h'
   . exact h'
   . have:=h.hs.kn k h';rw [hk] at this;cases this
  refine ⟨fun j hj=>?_,fun j=>?_,fun j j' b h1 h2=>h.hs.dj j j' b ((WL hocc j b).1 h1) ((WL hocc j' b).1 h2),fun j b h1=>h.hs.lo j b ((WL hocc j b).1 h1),h.hs.kp,h.hs.pin⟩
  . rw [Zm,if_neg (by rintro rfl;exact hj hkn)];exact h.hs.kn j hj
  . rw [Zm]
    by_cases hj:j=k
    . subst hj;rw [if_pos rfl]
      have hb:=Yh (n:=ltn σ.n) (n':=ltn σ.n) hst (fun _ _=>Ele.rfl) (fun _ h=>h) (.inr (show ltn σ.n j from hkn)) (fun _ _=>rfl) rfl (h.hs.bk j)
      rw [hk] at hb;simp only [ZZ] at hb ⊢
      refine ⟨hb.1,Nat.zero_le _,fun i m1 rows TT hr=>?_,fun i j b hi hj _ _=>by simp at hi hj;omega⟩
      cases i with
      | zero =>
       simp only [Yt,Wg,List.length_nil,Option.some.injEq,Prod.mk.injEq] at hr
       obtain ⟨rfl,rfl,rfl⟩:=hr
       exact hb.2
      | succ i=>simp [Yt] at hr
    . rw [if_neg hj]
      refine Yh hst (fun _ _=>Ele.rfl) (fun _ h=>h) ?_ (fun _ _=>rfl) rfl (h.hs.bk j)
      rcases Classical.em (j < σ.n) with h' | h'
      . exact .inr h'
      . exact .inl (h.hs.kn j h')
 exact ⟨E,Yb h hst (fun _ _=>Ele.rfl) (Nat.le_refl _) hH⟩
theorem ZfS {p:SV->SV->Prop} (hp:∀ s,p s s) {k o:Nat} {x:SV} {row:List SV} (hcell:row[o]? = some x):∀ {N u:Nat} {xs:List (List SV)},xs[N]? = some row->p x (.mr k (u+N)) ->
 F2 p (Wg k o u N xs).flatten (Wg k o u (N+1) (xs.set N (row.set o .any))).flatten
 | 0,u,[],h,_=>by simp at h
 | 0,u,r :: xs,h,hx=>by
  simp at h;subst h
  simp only [Wg,List.set_cons_zero,List.flatten_cons,List.set_set]
  exact Za1 (ZeO hp hx hcell) (Uj hp _)
 | N+1,u,[],h,_=>by simp at h
 | N+1,u,r :: xs,h,hx=>by
  simp only [Wg,List.set_cons_succ,List.flatten_cons]
  exact Za1 (Uj hp _) (ZfS hp hcell (by simpa using h) (by rw [show u+1+N=u+(N+1) from by omega];exact hx))
theorem Zj6 {m:Nat} {σ : St} (k q:Nat) {v mm vq o m':Nat} {xs:List (List SV)} {T T':TypeId} {inn:List (List (List SV))} {ys:List (List SV)} (row:List SV) (hm:Nat.ble m q=true) (hk:lkh k σ.hp = .rws v mm xs T o m' inn T') (hq:lkh q σ.hp = .row vq m' ys T')
 (hrow:xs[inn.length]? = some row) (hcell:row[o]? = some (.mr q vq)) :
 Ent m σ ⟨σ.fr,(k,.rws v mm (xs.set inn.length (row.set o .any)) T o m' (inn ++ [ys]) T') :: (q,.gone) :: σ.hp,σ.n,σ.N,σ.gs⟩:=fun C E a w hmc h=>by
 have hne:k≠q:=by rintro rfl;rw [hk] at hq;cases hq
 have hnk:∀ j,lkh j σ.hp≠.gone->j < σ.n:=fun j hj=>by
  rcases Classical.em (j < σ.n) with h' | h'
  . exact h'
  . exact absurd (h.hs.kn j h') hj
 have hkn:k < σ.n:=hnk k (by rw [hk];simp)
 have hqn:q < σ.n:=hnk q (by rw [hq];simp)
 have hbk:=h.hs.bk k
 have hbq:=h.hs.bk q
 rw [hk] at hbk;rw [hq] at hbq
 simp only [ZZ] at hbk hbq
 obtain ⟨a1,a2,a3,a4⟩:=hbk
 obtain ⟨b1,b2⟩:=hbq
 have hNl:inn.length < xs.length:=(List.getElem?_eq_some_iff.1 hrow).1
 let E':Env:=⟨E.β,fun j u=>if j=k/\u=E.iss k then E.hv q vq else E.hv j u,fun j=>if j=k then E.iss k+1 else E.iss j⟩
 have hv0:∀ j u,u < E.iss j->E'.hv j u=E.hv j u:=fun j u hu=>by
  simp only [E'];rw [if_neg];rintro ⟨rfl,rfl⟩;omega
 have hvj:∀ j u,j≠k->E'.hv j u=E.hv j u:=fun j u hj=>by simp only [E'];rw [if_neg (fun e=>hj e.1)]
 have hvn:E'.hv k (v+(inn.length+1))=E.hv q vq:=if_pos ⟨rfl,by omega⟩
 have hik:E'.iss k=E.iss k+1:=if_pos rfl
 have hE:∀ j,Ele E E' j j:=fun j=>⟨rfl,by simp only [E'];split<;>(try subst j)<;>omega,fun u hu=>hv0 j u hu⟩
 let hp':List (Nat × HB):=(k,.rws v mm (xs.set inn.length (row.set o .any)) T o m' (inn ++ [ys]) T') :: (q,.gone) :: σ.hp
 have lk':lkh k hp' = .rws v mm (xs.set inn.length (row.set o .any)) T o m' (inn ++ [ys]) T':=by simp only [hp'];rw [Zm,if_pos rfl]
 have lq':lkh q hp' = .gone:=by simp only [hp'];rw [Zm,if_neg hne.symm,Zm,if_pos rfl]
 have lj':∀ j,j≠k->j≠q->lkh j hp'=lkh j σ.hp:=fun j h1 h2=>by simp only [hp'];rw [Zm,if_neg h1,Zm,if_neg h2]
 have hoq:∀ b,ZbB (E.hv q vq) b->occ E q (lkh q σ.hp) b:=fun b hb=>by rw [hq];exact hb
 have hok:∀ i b,i<=inn.length->ZbB (E.hv k (v+i)) b->occ E k (lkh k σ.hp) b:=fun i b hi hb=>by rw [hk];exact ⟨i,hi,hb⟩
 have hoc:∀ j b,occ E' j (lkh j hp') b->(j≠q/\occ E j (lkh j σ.hp) b)\/(j=k/\occ E q (lkh q σ.hp) b):=fun j b ho=>by
  by_cases h1:j=k
  . subst h1
    rw [lk'] at ho
    obtain ⟨i,hi,hb⟩:=ho
    simp only [List.length_append,List.length_cons,List.length_nil] at hi
    by_cases hi2:i=inn.length+1
    . subst hi2;rw [hvn] at hb;exact .inr ⟨rfl,hoq b hb⟩
    . rw [hv0 _ _ (by omega)] at hb;exact .inl ⟨hne,hok i b (by omega) hb⟩
  . by_cases h2:j=q
    . subst h2;rw [lq'] at ho;exact ho.elim
    . rw [lj' j h1 h2] at ho
      refine .inl ⟨h2,?_⟩
      cases hl:lkh j σ.hp<;>rw [hl] at ho<;>simp only [occ] at ho ⊢<;>first | exact ho | (simp only [hvj j _ h1] at ho;exact ho)
 have hoc2:∀ j b,occ E j (lkh j σ.hp) b->∃ j',occ E' j' (lkh j' hp') b:=fun j b ho=>by
  by_cases h1:j=k
  . subst h1
    rw [hk] at ho
    obtain ⟨i,hi,hb⟩:=ho
    exact ⟨j,by rw [lk'];exact ⟨i,by simp;omega,by rw [hv0 _ _ (by omega)];exact hb⟩⟩
  . by_cases h2:j=q
    . subst h2
      rw [hq] at ho
      exact ⟨k,by rw [lk'];exact ⟨inn.length+1,by simp,by rw [hvn];exact ho⟩⟩
    . refine ⟨j,?_⟩
      rw [lj' j h1 h2]
      cases hl:lkh j σ.hp<;>rw [hl] at ho<;>simp only [occ] at ho ⊢<;>first | exact ho | (simp only [hvj j _ h1];exact ho)
 have hst:ZC w w (okS C E σ.hp) (okS C E' hp'):=fun b hb _=>⟨⟨hb.1,fun j ho=>by
  rcases hoc j b ho with ⟨_,q⟩ | ⟨_,q⟩
  . exact hb.2 _ q
  . exact hb.2 _ q⟩,rfl⟩
 have mono:∀ j,ZZ w E' (ltn σ.n) (okS C E' hp') j (lkh j σ.hp)\/j=k:=fun j=>by
  by_cases h1:j=k
  . exact .inr h1
  . refine .inl (Yh hst (fun j _=>hE j) (fun _ h=>h) ?_ (fun _ _=>rfl) (by simp only [E'];rw [if_neg h1]) (h.hs.bk j))
    rcases Classical.em (j < σ.n) with h' | h'
    . exact .inr h'
    . exact .inl (h.hs.kn j h')
 have hH:HSim C E' hp' (ltn σ.n) w:=by
  refine ⟨fun j hj=>?_,fun j=>?_,fun j j' b h1 h2=>?_,fun j b h1=>?_,h.hs.kp,fun j hj=>⟨(h.hs.pin j hj).1,(h.hs.pin j hj).2.trans (hE j)⟩⟩
  . have e1:j≠k:=by rintro rfl;exact hj hkn
    have e2:j≠q:=by rintro rfl;exact hj hqn
    rw [lj' j e1 e2];exact h.hs.kn j hj
  . by_cases e1:j=k
    . subst e1
      rw [lk']
      simp only [ZZ,List.length_append,List.length_cons,List.length_nil,List.length_set]
      refine ⟨by rw [hik];omega,by omega,fun i m1 rows TT hr=>?_,fun x y b hx hy e1 e2=>?_⟩
      . cases i with
        | zero =>
         simp only [Yt,Option.some.injEq,Prod.mk.injEq,List.length_append,List.length_cons,List.length_nil] at hr
         obtain ⟨rfl,rfl,rfl⟩:=hr
         have h0:=a3 0 _ _ _ rfl
         rw [hv0 _ _ (by omega)]
         have hl1:=Xa j o (v+1) inn.length xs
         have hl2:(Wg j o (v+1) (inn.length+(0+1)) (xs.set inn.length (row.set o .any))).length=xs.length:=by rw [Xa];simp
         rcases h0 with ⟨q1,q2⟩ | ⟨b,cap,cs,q1,q2,q3,q4,q5,q6,q7⟩
         . have h9:=congrArg List.length q1;rw [hl1,List.length_nil] at h9;omega
         . rw [hl1] at q1 q4 q5 q7
           refine .inr ⟨b,cap,cs,by rw [hl2];exact q1,q2,q3,by rw [hl2];exact q4,by rw [hl2];exact q5,?_,?_⟩
           . refine Xr.2 fun r hr=>?_
             rcases List.mem_or_eq_of_mem_set hr with hr | rfl
             . exact Xr.1 q6 r hr
             . rw [List.length_set];exact Xr.1 q6 row (List.mem_of_getElem? hrow)
           . rw [hl2]
             refine VX (ZfS (p:=fun s s'=>∀ y,R w E (ltn σ.n) (okS C E σ.hp) s y->R w E' (ltn σ.n) (okS C E' hp') s' y) (fun s y hy=>ZI hst.c (fun j _=>hE j) (fun _ h=>h) _ _ hy) hcell hrow fun y hy=>?_) q7
             simp only [R] at hy ⊢
             refine ⟨hkn,by rw [hik];omega,?_,hy.2.2.2⟩
             rw [show v+1+inn.length=v+(inn.length+1) from by omega,hvn];exact hy.2.2.1
        | succ i =>
         simp only [Yt] at hr
         split at hr
         case h_2=>cases hr
         rename_i r hr1
         simp only [Option.some.injEq,Prod.mk.injEq] at hr
         obtain ⟨rfl,rfl,rfl⟩:=hr
         by_cases hi:i < inn.length
         . rw [List.getElem?_append_left hi] at hr1
           rw [hv0 _ _ (by omega)]
           exact (a3 (i+1) m' r T' (by simp only [Yt,hr1])).mono hst.c (fun j _=>hE j) (fun _ h=>h) (fun _ _=>rfl)
         . have hi2:i=inn.length:=by have:=(List.getElem?_eq_some_iff.1 hr1).1;simp at this;omega
           subst hi2
           simp at hr1;subst hr1
           rw [hvn]
           exact Zpi.mono hst.c (fun j _=>hE j) (fun _ h=>h) (fun _ _=>rfl) b2
      . have key:∀ z,z<=inn.length+(0+1)->∀ b,ZbB (E'.hv j (v+z)) b->(z<=inn.length/\ZbB (E.hv j (v+z)) b)\/(z=inn.length+1/\ZbB (E.hv q vq) b):=fun z hz b hb=>by
         by_cases h1:z=inn.length+1
         . subst h1;rw [hvn] at hb;exact .inr ⟨rfl,hb⟩
         . rw [hv0 _ _ (by omega)] at hb;exact .inl ⟨by omega,hb⟩
        rcases key x hx b e1 with ⟨x1,x2⟩ | ⟨x1,x2⟩<;>rcases key y hy b e2 with ⟨y1,y2⟩ | ⟨y1,y2⟩
        . exact a4 x y b x1 y1 x2 y2
        . exact absurd (h.hs.dj j q b (hok x b x1 x2) (hoq b y2)) hne
        . exact absurd (h.hs.dj j q b (hok y b y1 y2) (hoq b x2)) hne
        . omega
    . by_cases e2:j=q
      . subst e2;rw [lq'];trivial
      . rw [lj' j e1 e2]
        rcases mono j with h' | h'
        . exact h'
        . exact absurd h' e1
  . rcases hoc j b h1 with ⟨x1,x2⟩ | ⟨x1,x2⟩<;>rcases hoc j' b h2 with ⟨y1,y2⟩ | ⟨y1,y2⟩
    . exact h.hs.dj j j' b x2 y2
    . exact absurd (h.hs.dj j q b x2 y2) x1
    . exact absurd (h.hs.dj j' q b y2 x2) y1
    . rw [x1,y1]
  . rcases hoc j b h1 with ⟨x1,x2⟩ | ⟨x1,x2⟩
    . exact h.hs.lo j b x2
    . rcases h.hs.lo q b x2 with h' | h'
      . exact .inl h'
      . have h3:=hmc.2 q b h'
        have h4:=hmc.1
        have h5:=Nat.le_of_ble_eq_true hm
        omega
 exact ⟨E',Yb h hst (fun j _=>hE j) (Nat.le_refl _) hH⟩
theorem Zjv {m:Nat} {b:Bool} {s s':SV} {hp hp':List (Nat × HB)} {n n':Nat} (h:Ent m ⟨[(0,s)],hp,n,1,[]⟩ ⟨[(0,s')],hp',n',1,[]⟩) (hg:∀ j b u,s'≠.gd j b u):WW m ⟨b,s,hp,n⟩ ⟨b,s',hp',n'⟩:=by
 refine ⟨rfl,fun C E w y hm hH hR=>?_⟩
 have hng:=Ua hR
 have hS:Sim C E ⟨[(0,s)],hp,n,1,[]⟩ { tmps:=#[y],defers:=C.ds } w:=by
  refine ⟨fun t=>?_,rfl,U0,fun t j b u ht=>?_,hH⟩
  . simp only [ZK]
    split
    . rename_i ht;subst ht
      show FR w E (ltn n) _ _ s y
      cases s<;>first | exact hR | exact absurd rfl (hng _ _ _)
    . exact trivial
  . simp only [ZK] at ht
    split at ht
    . exact absurd ht (hng _ _ _)
    . cases ht
 obtain ⟨E',h'⟩:=h C E _ w hm hS
 refine ⟨E',h'.hs,?_⟩
 have:=h'.fr 0
 exact ZxI this (fun j b u e=>hg j b u (by simpa [lk] using e))
theorem entO {m:Nat} {b:Bool} {s s':SV} {hp hp':List (Nat × HB)} {n n':Nat} (ρ : Nat->Nat) (hf:mtS ρ n' s' s) (hp0:mtP ρ hp' hp n' n') (hb:hpb n' hp') (hρ : ∀ i,i < n'->∀ j,j < n'->ρ i = ρ j->i=j) (hm:Nat.ble m n'=true) (hfix:∀ i,i < m->ρ i=i):WW m ⟨b,s,hp,n⟩ ⟨b,s',hp',n'⟩ :=
 Zjv (ent ρ (show mtF ρ n' [] [(0,s')] [(0,s)] from ⟨hf,trivial⟩) hp0 hb hρ rfl hm hfix) (Zco hf)
theorem Zo {m:Nat} {b:Bool} {s s':SV} {hp hp':List (Nat × HB)} {n n':Nat} (hf:mtS id n' s' s) (hp0:mtP id hp' hp n' n') (hb:hpb n' hp') (hm:Nat.ble m n'=true):WW m ⟨b,s,hp,n⟩ ⟨b,s',hp',n'⟩ :=
 entO id hf hp0 hb (fun _ _ _ _ h=>h) hm (fun _ _=>rfl)
theorem callm {P:Program} {f:FuncId} {args args0:List SV} {d:Option Nat} {σ : St} {r:KT} {K:RK} {hp0:List (Nat × HB)} {n0:Nat} {o:Ot} (ρ : Nat->Nat) (hc:CtM P f hp0 n0 args0 (· = o)) (h1:mtL ρ n0 args0 args) (h2:mtP ρ hp0 σ.hp n0 n0) (h3:ZA7 ρ n0) (h4:∀ i,i < n0->ρ i < σ.n)
 (h5:cmK o.pn (rnS (exR ρ n0 σ.n) o.res) (hpM ρ n0 σ.n o σ.hp) (σ.n+(o.n - n0)) d σ r K):ZdL P f args d σ r K :=
 ⟨hp0,n0,args0,_,ρ,hc,h1,h2,h3,h4,fun _ e=>e ▸ h5⟩
def rho:List Nat->Nat->Nat
 | [],_=>0
 | a :: _,0=>a
 | _ :: l,k+1=>rho l k
theorem UP:∀ (l:List Nat) (k:Nat) (h:k < l.length),rho l k=l[k]
 | a :: _,0,_=>rfl
 | _ :: l,k+1,h=>by simpa [rho] using UP l k (by simpa using h)
theorem Zi {m0:Nat} {σ σ':St} (hf:mtF id σ'.n [] σ'.fr σ.fr) (hp:mtP id σ'.hp σ.hp σ'.n σ'.n) (hb:hpb σ'.n σ'.hp) (hN:Nat.beq σ'.N σ.N=true) (hm:Nat.ble m0 σ'.n=true):Ent m0 σ σ':=ent id hf hp hb (fun _ _ _ _ h=>h) hN hm (fun _ _=>rfl)
theorem Zz2 {fr:List (Nat × SV)} {j j':Nat} {w w' b:Bool} {p:Prop} (hl:lk j fr = .gd j' w' (.v (.bool b))) (h:b=w->p):Zew (some (j,w)) fr p:=fun hg=>h (by have:=(ZcF hg hl).2;simpa using this)
theorem Zjh {fr:List (Nat × SV)} {j:Nat} {w b:Bool} {p:Prop} (hl:lk j fr = .v (.bool b)) (h:b=w->p):Zew (some (j,w)) fr p:=fun hg=>h (Zwb hg hl)
theorem Zzg {xs:List (List SV)} {i:Int} {σ : St} {r:KT} {L:RK} {d:Option Nat} {j j':Nat} {w w' b:Bool} (n:Nat) (row:List SV) (hl:lk j σ.fr = .gd j' w' (.v (.bool b))) (h:b=w->i=(n:Int)/\xs[n]? = some row) (hk:Yy d (.ps row 0) (some (j,w)) σ r L) :
 IXS (some (j,w)) xs i d σ r L:=⟨row,Zz2 hl fun e=>⟨n,(h e).1,(h e).2⟩,hk⟩
theorem app0 {g:Option (Nat × Bool)} {m b:Nat} {xs ys:List (List SV)} {d:Option Nat} {σ : St} {r:KT} {L:RK} (h:(xs.length+ys.length) * b<=140737488355328) (hk:Yy d (.sl false m (xs ++ ys)) g σ r L):APP g m b xs ys d σ r L:=⟨ZQ.2 fun _=>h,hk⟩
theorem Yl {g:Option (Nat × Bool)} {k v m len:Nat} {i:Int} {d:Option Nat} {σ : St} {r:KT} {L:RK} (n:Nat) (hi:i=(n:Int)) (hn:n < len) (hk:Yy d (.pr k v m n 0) g σ r L):IXR g k v m len i d σ r L:=⟨n,ZQ.2 fun _=>⟨hi,hn⟩,hk⟩
theorem Xt {α : Type} {l:List α} {f:α->List SV} {g:Option (Nat × Bool)} {i o m:Nat} {ag:Bool} {d:Option Nat} {σ : St} {r:KT} {L:RK} (hn:i < l.length) (hk:Wf (XD (f l[i]) o m ag) d g σ r L):LDR g (l.map f) i o m ag d σ r L:=⟨f l[i],ZQ.2 fun _=>by simp [hn],hk⟩
theorem WT {α : Type} {l:List α} {f:α->List SV} {j o k v m:Nat} {c:List SV} {T:TypeId} {σ : St} {r:KT} {L:RK} (y:α) (hn:j < l.length) (ho:o+c.length<=(f l[j]).length) (he:Zn (f l[j]) o c=f y)
 (h:r ⟨σ.fr,(k,.row v m ((l.set j y).map f) T) :: σ.hp,σ.n,σ.N,σ.gs⟩ L):STR v (l.map f) j o k m c T σ r L :=
 ⟨f l[j],by simp [hn],ho,by rw [he,<- List.map_set];exact h⟩
theorem Zc2 {k v m len:Nat} {i:Int} {d:Option Nat} {σ : St} {r:KT} {L:RK} {j:Nat} {w b:Bool} (n:Nat) (hl:lk j σ.fr = .v (.bool b)) (h:b=w->i=(n:Int)/\n < len) (hk:Yy d (.pr k v m n 0) (some (j,w)) σ r L):IXR (some (j,w)) k v m len i d σ r L:=⟨n,Zjh hl h,hk⟩
theorem WH {r:List SV} (h:KFL r):∀ n,KFR (List.replicate n r)
 | 0=>trivial
 | n+1=>⟨h,WH h n⟩
theorem Zs {P:Program} {f:FuncId} {args args0:List SV} {d:Option Nat} {σ : St} {r:KT} {K:RK} {hp0:List (Nat × HB)} {n0:Nat} {Zx:Ot->Prop} (l:List Nat) (hc:CtM P f hp0 n0 args0 Zx) (hn:Nat.beq l.length n0=true) (hi:Zbf l=true) (hl:Zag σ.n l=true)
 (h1:mtL (rho l) n0 args0 args) (h2:mtP (rho l) hp0 σ.hp n0 n0) (h5:∀ o,Zx o->cmK o.pn (rnS (exR (rho l) n0 σ.n) o.res) (hpM (rho l) n0 σ.n o σ.hp) (σ.n+(o.n - n0)) d σ r K):ZdL P f args d σ r K:=by
 have hn:=Nat.eq_of_beq_eq_true hn
 refine ⟨hp0,n0,args0,Zx,rho l,hc,h1,h2,fun i hi' j hj e=>?_,fun i hi'=>?_,h5⟩
 . rw [UP l i (by omega),UP l j (by omega)] at e
   have hp:=List.pairwise_iff_getElem.1 (X6 hi)
   rcases Nat.lt_trichotomy i j with h | h | h
   . exact absurd e (hp i j _ _ h)
   . exact h
   . exact absurd e.symm (hp j i _ _ h)
 . rw [UP l i (by omega)]
   exact ZaP hl _ (List.getElem_mem _)
theorem Zbv {P:Program} {d:Option Nat} {op:BinOp} {t t' ty u:Nat} {c x v:Value} {σ : St} {r:KT} {K:RK} (hl:lk u σ.fr = .v x) (hop:op = .and\/op = .shr) (hr:∀ w:World,(binOp op t x c).run P w = .ok v w) (hv:v.oneCell'=true) (hk:Yy d (.v v) none σ r K) :
 RAW P d (.binOp op t (.tmp u) (.const c) t') ty σ r K:=by
 intro o C E a w next Q h1 h2 h3 hs hn hq
 have hx:a.eval (.tmp u)=x:=by
  have:=hs.fr u
  rw [hl] at this
  simp only [FR,R] at this
  exact this
 have hrun:(execOp a.eval o).run P w = .ok (.value v) w:=by
  obtain ⟨dst,op',ty',pos,after,guard⟩:=o
  simp only at h2;subst h2
  have hc:a.eval (.const c)=c:=rfl
  simp only [execOp,hx,hc]
  rcases hop with rfl | rfl<;>simp [Sem.run_bind,eqGuard,hr]
 refine Zz hrun (by simp) ?_
 show next (a.put o.dst v) w
 rcases UU hk with ⟨g1,g2⟩ | ⟨t,g1,g2,g3,g4,g5⟩
 . have hS:=hs
   rw [h1,g1]
   exact hn _ E _ _ g2 hS
 . rw [h1,g1]
   exact hn _ E _ _ g5 (Xu hs (fun b hb _=>⟨hb,rfl⟩) (fun _ _=>Ele.rfl) (Nat.le_refl _) hs.hs g2 g3 (fun j b u e=>by rw [e] at g4;cases g4) (by simp only [R]))
theorem w64_0:IntKind.i64.wrap 0=0:=rfl
theorem w64_1:IntKind.i64.wrap 1=1:=rfl
theorem w64_2:IntKind.i64.wrap 2=2:=rfl
theorem w64_3:IntKind.i64.wrap 3=3:=rfl
theorem w64_4:IntKind.i64.wrap 4=4:=rfl
theorem w64_5:IntKind.i64.wrap 5=5:=rfl
theorem w64_6:IntKind.i64.wrap 6=6:=rfl
def lkB (b:Bool) (s:SV) (t:Nat) (r:List (Nat × SV)):SV:=bif b then s else lk t r
def lkhB (b:Bool) (s:HB) (t:Nat) (r:List (Nat × HB)):HB:=bif b then s else lkh t r
def Zua (b:Bool) (t:Nat) (r:List Nat):Bool:=bif b then true else Xg t r
def blkE (b:Bool) (i:Nat) (K:Ex->St->Prop) (σ : St):Prop:=bif b then K .n σ else K (.ex i) σ
def Zse (b:Bool) (s:SV):Option (List SV):=bif b then some [s] else none
def ZzJ (c:Bool) (b:BinOp) (k:IntKind) (x y:Int):Option SV:=bif c then Zhm b k x y else none
def ZzB (b:Bool) (l:List SV) (o m:Nat):Option SV:=bif b then some (.agg ((l.drop o).take m)) else none
theorem lkB_t (s:SV) (t:Nat) (r:List (Nat × SV)):lkB true s t r=s:=rfl
theorem lkB_f (s:SV) (t:Nat) (r:List (Nat × SV)):lkB false s t r=lk t r:=rfl
theorem ZAw (s:HB) (t:Nat) (r:List (Nat × HB)):lkhB true s t r=s:=rfl
theorem Zyd (s:HB) (t:Nat) (r:List (Nat × HB)):lkhB false s t r=lkh t r:=rfl
theorem ZtK (t:Nat) (r:List Nat):Zua true t r=true:=rfl
theorem Zun (t:Nat) (r:List Nat):Zua false t r=Xg t r:=rfl
theorem ZAa (i:Nat) (K:Ex->St->Prop) (σ : St):blkE true i K σ = K .n σ:=rfl
theorem Zyn (i:Nat) (K:Ex->St->Prop) (σ : St):blkE false i K σ = K (.ex i) σ:=rfl
theorem ZpO (s:SV):Zse true s=some [s]:=rfl
theorem Zwi (b:BinOp) (k:IntKind) (x y:Int):ZzJ true b k x y=Zhm b k x y:=rfl
theorem ZwQ (l:List SV) (o m:Nat):ZzB true l o m=some (.agg ((l.drop o).take m)):=rfl
def mmE (k:IntKind):Option Int->Option SV
 | some z=>some (.v (.int k z))
 | none=>none
def chkB (b:Bool) (l:List SV) (ls:List (List SV)):Option (List (List SV)):=bif b then some (l :: ls) else none
theorem Zzi (l:List SV) (ls:List (List SV)):chkB true l ls=some (l :: ls):=rfl
theorem Zzz (b:Bool):Vy true b=b:=rfl
theorem ZAv (b:Bool):Vy false b=false:=rfl
def vwP (g:SV->SV) (o:Nat):HB->SV
 | .cells l _=>.ps (ZbC g l) o
 | _=>.any
def vwM (v:Nat):HB->SV
 | .row v' m xs _=>vwN (Nat.beq v v') m xs
 | .rws v' m xs _ o m' inn _=>vwN (Nat.beq v v') m (Zbi o m' inn xs)
 | _=>.any
def cvtM (v:Nat):HB->SV
 | .row v' m xs _=>vwN (Nat.beq v v') m xs
 | _=>.any
def rvH (o m:Nat) (ag:Bool):HB->Option SV
 | .cells l _=>XD l o m ag
 | _=>none
def rvX (hp:List (Nat × HB)) (m:Nat) (ag:Bool):SV->Option SV
 | .p k o=>rvH o m ag (lkh k hp)
 | _=>none
def pvF (o m:Nat) (ag:Bool):SV->Option SV
 | .agg l=>XD l o m ag
 | _=>none
def pvC (k:IntKind):SV->Option SV
 | .v (.int _ n)=>some (.v (.int k (k.wrap n)))
 | _=>none
def pvE (i:Nat):SV->Option SV
 | .tup l=>nth l i
 | _=>none
theorem e_lk (t u:Nat) (s:SV) (r:List (Nat × SV)):lk t ((u,s) :: r)=lkB (Nat.beq t u) s t r:=rfl
theorem e_lk0 (t:Nat):lk t [] = .any:=rfl
theorem e_lkh (t u:Nat) (s:HB) (r:List (Nat × HB)):lkh t ((u,s) :: r)=lkhB (Nat.beq t u) s t r:=rfl
theorem Zx3 (t:Nat):lkh t [] = .gone:=rfl
theorem ZAy (t u:Nat) (r:List Nat):Xg t (u :: r)=Zua (Nat.beq t u) t r:=rfl
theorem ZuV (t:Nat):Xg t []=false:=rfl
theorem e_blk (id i:Nat) (K:Ex->St->Prop) (σ : St):ZrJ id K (.ex i) σ = blkE (Nat.beq i id) i K σ:=rfl
theorem Zh6 (g:Option (Nat × Bool)) (fr:List (Nat × SV)) (x:Value):YQ g fr (.v x)=(.v x):=rfl
theorem Zqq (t:Nat) (r:List (Nat × SV)) (x:Value):YE ((t,(.v x)) :: r)=(t,(.v x)) :: YE r:=rfl
theorem ZtL (hp:List (Nat × HB)) (x:Value):cvt hp (.v x)=(.v x):=rfl
theorem Zve (hp:List (Nat × HB)) (g:SV->SV) (x:Value):vwS hp g (.v x)=(.v x):=rfl
theorem Zta (x:Value):vw0 (.v x)=(.v x):=rfl
theorem ZkT (x:Value):Yw (.v x)=Zse (Zab x) (.v x):=rfl
theorem Zn4 (x:Value):Wy (.v x)=Zab x:=rfl
theorem ZjQ (g:Option (Nat × Bool)) (fr:List (Nat × SV)) (k o:Nat):YQ g fr (.p k o)=(.p k o):=rfl
theorem Zme (t:Nat) (r:List (Nat × SV)) (k o:Nat):YE ((t,(.p k o)) :: r)=(t,(.p k o)) :: YE r:=rfl
theorem ZvG (hp:List (Nat × HB)) (k o:Nat):cvt hp (.p k o)=(.p k o):=rfl
theorem Ztw (hp:List (Nat × HB)) (g:SV->SV) (k o:Nat):vwS hp g (.p k o)=vwP g o (lkh k hp):=rfl
theorem Zuj (k o:Nat):vw0 (.p k o) = .any:=rfl
theorem Zlu (k o:Nat):Yw (.p k o)=some [(.p k o)]:=rfl
theorem ZnR (k o:Nat):Wy (.p k o)=true:=rfl
theorem Zex (g:Option (Nat × Bool)) (fr:List (Nat × SV)) (l:List SV):YQ g fr (.agg l)=(.agg l):=rfl
theorem Zgy (t:Nat) (r:List (Nat × SV)) (l:List SV):YE ((t,(.agg l)) :: r)=(t,(.agg l)) :: YE r:=rfl
theorem Zln (hp:List (Nat × HB)) (l:List SV):cvt hp (.agg l) = .agg (ZkW hp l):=rfl
theorem ZiC (hp:List (Nat × HB)) (g:SV->SV) (l:List SV):vwS hp g (.agg l) = .agg (ZbC g l):=rfl
theorem Zla (l:List SV):vw0 (.agg l) = .any:=rfl
theorem Zee (l:List SV):Yw (.agg l)=some l:=rfl
theorem ZgF (l:List SV):Wy (.agg l)=false:=rfl
theorem ZgV (g:Option (Nat × Bool)) (fr:List (Nat × SV)) (c:Bool) (m:Nat) (xs:List (List SV)):YQ g fr (.sl c m xs)=(.sl c m xs):=rfl
theorem Zjs (t:Nat) (r:List (Nat × SV)) (c:Bool) (m:Nat) (xs:List (List SV)):YE ((t,(.sl c m xs)) :: r)=(t,(.sl c m xs)) :: YE r:=rfl
theorem Zp9 (hp:List (Nat × HB)) (c:Bool) (m:Nat) (xs:List (List SV)):cvt hp (.sl c m xs)=(.sl c m xs):=rfl
theorem ZpM (hp:List (Nat × HB)) (g:SV->SV) (c:Bool) (m:Nat) (xs:List (List SV)):vwS hp g (.sl c m xs)=(.sl c m xs):=rfl
theorem ZoW (c:Bool) (m:Nat) (xs:List (List SV)):vw0 (.sl c m xs)=(.sl c m xs):=rfl
theorem Zhs (c:Bool) (m:Nat) (xs:List (List SV)):Yw (.sl c m xs)=some [(.sl c m xs)]:=rfl
theorem ZlY (c:Bool) (m:Nat) (xs:List (List SV)):Wy (.sl c m xs)=true:=rfl
theorem Zvd (l:List SV):pmS [] l=[]:=rfl
theorem Zg8 (g:Option (Nat × Bool)) (fr:List (Nat × SV)) (k v:Nat):YQ g fr (.mr k v)=(.mr k v):=rfl
theorem Zk9 (t:Nat) (r:List (Nat × SV)) (k v:Nat):YE ((t,(.mr k v)) :: r)=(t,(.mr k v)) :: YE r:=rfl
theorem Zos (hp:List (Nat × HB)) (k v:Nat):cvt hp (.mr k v)=cvtM v (lkh k hp):=rfl
theorem ZnD (hp:List (Nat × HB)) (g:SV->SV) (k v:Nat):vwS hp g (.mr k v)=vwM v (lkh k hp):=rfl
theorem ZmP (k v:Nat):vw0 (.mr k v) = .any:=rfl
theorem Zgo (k v:Nat):Yw (.mr k v)=some [(.mr k v)]:=rfl
theorem Zlj (k v:Nat):Wy (.mr k v)=true:=rfl
theorem Zg3 (g:Option (Nat × Bool)) (fr:List (Nat × SV)) (k v m i o:Nat):YQ g fr (.pr k v m i o)=(.pr k v m i o):=rfl
theorem Zg4 (g:Option (Nat × Bool)) (fr:List (Nat × SV)) (k v m i o:Nat):YQ g fr (.ms k v m i o)=(.ms k v m i o):=rfl
theorem Zk3 (t:Nat) (r:List (Nat × SV)) (k v m i o:Nat):YE ((t,(.pr k v m i o)) :: r)=(t,(.pr k v m i o)) :: YE r:=rfl
theorem ZjM (t:Nat) (r:List (Nat × SV)) (k v m i o:Nat):YE ((t,(.ms k v m i o)) :: r)=(t,(.ms k v m i o)) :: YE r:=rfl
theorem Zqp (hp:List (Nat × HB)) (k v m i o:Nat):cvt hp (.pr k v m i o)=(.pr k v m i o):=rfl
theorem Zpc (hp:List (Nat × HB)) (k v m i o:Nat):cvt hp (.ms k v m i o)=(.ms k v m i o):=rfl
theorem Zn5 (hp:List (Nat × HB)) (g:SV->SV) (k v m i o:Nat):vwS hp g (.pr k v m i o)=(.pr k v m i o):=rfl
theorem ZmI (hp:List (Nat × HB)) (g:SV->SV) (k v m i o:Nat):vwS hp g (.ms k v m i o)=(.ms k v m i o):=rfl
theorem Zqu (k v m i o:Nat):vw0 (.pr k v m i o) = .any:=rfl
theorem Zmx (k v m i o:Nat):vw0 (.ms k v m i o) = .any:=rfl
theorem ZgS (k v m i o:Nat):Yw (.pr k v m i o)=some [(.pr k v m i o)]:=rfl
theorem Zg9 (k v m i o:Nat):Yw (.ms k v m i o)=some [(.ms k v m i o)]:=rfl
theorem ZjC (k v m i o:Nat):Wy (.pr k v m i o)=true:=rfl
theorem Zkj (k v m i o:Nat):Wy (.ms k v m i o)=true:=rfl
theorem ZgT (g:Option (Nat × Bool)) (fr:List (Nat × SV)) (row:List SV) (o:Nat):YQ g fr (.ps row o)=(.ps row o):=rfl
theorem Zlf (t:Nat) (r:List (Nat × SV)) (row:List SV) (o:Nat):YE ((t,(.ps row o)) :: r)=(t,(.ps row o)) :: YE r:=rfl
theorem ZoP (hp:List (Nat × HB)) (row:List SV) (o:Nat):cvt hp (.ps row o)=(.ps row o):=rfl
theorem ZmW (hp:List (Nat × HB)) (g:SV->SV) (l:List SV) (o:Nat):vwS hp g (.ps l o) = .ps (ZbC g l) o:=rfl
theorem ZnT (row:List SV) (o:Nat):vw0 (.ps row o) = .any:=rfl
theorem Zhd (row:List SV) (o:Nat):Yw (.ps row o)=some [(.ps row o)]:=rfl
theorem ZhQ (row:List SV) (o:Nat):Wy (.ps row o)=true:=rfl
theorem ZgW (g:Option (Nat × Bool)) (fr:List (Nat × SV)) (f:FuncId) (l:List SV):YQ g fr (.cl f l)=(.cl f l):=rfl
theorem ZkU (t:Nat) (r:List (Nat × SV)) (f:FuncId) (l:List SV):YE ((t,(.cl f l)) :: r)=(t,(.cl f l)) :: YE r:=rfl
theorem ZoX (hp:List (Nat × HB)) (f:FuncId) (l:List SV):cvt hp (.cl f l)=(.cl f l):=rfl
theorem Zpk (hp:List (Nat × HB)) (g:SV->SV) (f:FuncId) (l:List SV):vwS hp g (.cl f l) = .cl f (ZbC g l):=rfl
theorem Zoy (f:FuncId) (l:List SV):vw0 (.cl f l) = .any:=rfl
theorem Zgf (f:FuncId) (l:List SV):Yw (.cl f l)=some [(.cl f l)]:=rfl
theorem Zke (f:FuncId) (l:List SV):Wy (.cl f l)=true:=rfl
theorem ZeE (g:Option (Nat × Bool)) (fr:List (Nat × SV)) (l:List SV):YQ g fr (.tup l)=(.tup l):=rfl
theorem Zhv (t:Nat) (r:List (Nat × SV)) (l:List SV):YE ((t,(.tup l)) :: r)=(t,(.tup l)) :: YE r:=rfl
theorem ZkS (hp:List (Nat × HB)) (l:List SV):cvt hp (.tup l) = .tup (ZkW hp l):=rfl
theorem ZlK (hp:List (Nat × HB)) (g:SV->SV) (l:List SV):vwS hp g (.tup l) = .tup (ZbC g l):=rfl
theorem ZiA (l:List SV):vw0 (.tup l) = .any:=rfl
theorem Zg5 (l:List SV):Wy (.tup l)=false:=rfl
theorem Zh2 (g:Option (Nat × Bool)) (fr:List (Nat × SV)) (φ : VP):YQ g fr (.q φ)=(.q φ):=rfl
theorem ZoR (t:Nat) (r:List (Nat × SV)) (φ : VP):YE ((t,(.q φ)) :: r)=(t,(.q φ)) :: YE r:=rfl
theorem ZuU (hp:List (Nat × HB)) (φ : VP):cvt hp (.q φ)=(.q φ):=rfl
theorem Zt3 (hp:List (Nat × HB)) (g:SV->SV) (φ : VP):vwS hp g (.q φ)=(.q φ):=rfl
theorem Zw7 (φ : VP):vw0 (.q φ)=(.q φ):=rfl
theorem Zkf (φ : VP):Yw (.q φ)=some [(.q φ)]:=rfl
theorem ZoI (φ : VP):Wy (.q φ)=true:=rfl
theorem ZgP (g:Option (Nat × Bool)) (fr:List (Nat × SV)) (k:Nat):YQ g fr (.mp k)=(.mp k):=rfl
theorem Zjx (t:Nat) (r:List (Nat × SV)) (k:Nat):YE ((t,(.mp k)) :: r)=(t,(.mp k)) :: YE r:=rfl
theorem ZmK (hp:List (Nat × HB)) (k:Nat):cvt hp (.mp k)=(.mp k):=rfl
theorem Zn7 (hp:List (Nat × HB)) (g:SV->SV) (k:Nat):vwS hp g (.mp k) = .any:=rfl
theorem ZmH (k:Nat):vw0 (.mp k) = .any:=rfl
theorem Zf9 (k:Nat):Yw (.mp k)=some [(.mp k)]:=rfl
theorem ZkQ (k:Nat):Wy (.mp k)=true:=rfl
theorem ZgI (g:Option (Nat × Bool)) (fr:List (Nat × SV)) (k:Nat):YQ g fr (.yl k)=(.yl k):=rfl
theorem ZiX (t:Nat) (r:List (Nat × SV)) (k:Nat):YE ((t,(.yl k)) :: r)=(t,(.yl k)) :: YE r:=rfl
theorem ZgH (k:Nat):Yw (.yl k)=some [(.yl k)]:=rfl
theorem Zh9 (k:Nat):Wy (.yl k)=true:=rfl
theorem Zd7 (g:Option (Nat × Bool)) (fr:List (Nat × SV)) (T:TypeId) (s:SV):YQ g fr (.ifc T s)=(.ifc T s):=rfl
theorem Zho (t:Nat) (r:List (Nat × SV)) (T:TypeId) (s:SV):YE ((t,(.ifc T s)) :: r)=(t,(.ifc T s)) :: YE r:=rfl
theorem Zlp (hp:List (Nat × HB)) (T:TypeId) (s:SV):cvt hp (.ifc T s) = .ifc T (cvt hp s):=rfl
theorem Zh4 (hp:List (Nat × HB)) (g:SV->SV) (T:TypeId) (s:SV):vwS hp g (.ifc T s) = .ifc T (g s):=rfl
theorem ZjZ (T:TypeId) (s:SV):vw0 (.ifc T s) = .any:=rfl
theorem ZeC (T:TypeId) (s:SV):Yw (.ifc T s)=some [(.ifc T s)]:=rfl
theorem Zhe (T:TypeId) (s:SV):Wy (.ifc T s)=true:=rfl
theorem Zd4 (P:Program) (Y:Hd) (d:Option Nat) (σ : St) (r:KT) (K:RK) (f:FuncId) (as:List X):stp P Y d (.callm f as) σ r K=ZdL P f (UN (rdG none σ.fr) as) d σ r K:=rfl
theorem ZeH (P:Program) (Y:Hd) (d:Option Nat) (σ : St) (r:KT) (K:RK) (x:X) (as:List X):stp P Y d (.calvm x as) σ r K=Zhk P Y (rdG none σ.fr x) (UN (rdG none σ.fr) as) d σ r K:=rfl
theorem e_yld (asg body:Nat->CT) (ps:List Nat) (kl:Nat) (rec:Loop) (fr:List (Nat × SV)) (N k:Nat) (args:List SV) (d:Option Nat) (σ : St) (r:KT) (K:RK):YLD (hdR asg body ps kl rec fr N) k args d σ r K =
 rfB (Nat.beq k kl) (Zsd rec (lkh kl σ.hp)/\rfB (Zl4 args ps) (asg σ.n ⟨pmS ps args ++ fr,σ.hp,σ.n,N,[]⟩ (asE kl rec (body σ.n) (bdE kl rec fun o=>cmK o.pn o.res o.hp o.n d σ r K)))):=rfl
theorem e_exR (ρ : Nat->Nat) (n0 n k:Nat):exR ρ n0 n k=exB (Nat.blt k n0) (ρ k) (n+(k - n0)):=rfl
theorem e_hpM (ρ : Nat->Nat) (n0 n:Nat) (o:Ot) (hp:List (Nat × HB)):hpM ρ n0 n o hp=rnP (exR ρ n0 n) o.hp ++ (ZaI ρ n0 ++ hp):=rfl
theorem Zh3 (P:Program) (Y:Hd) (m:Nat) (g:X) (ps:List Nat) (asg body:SC) (σ : St) (K:Ex->St->Prop):sx P Y m (.rfun g ps asg body) σ K=rfK P (fun n=>sx P Y0 n asg) (fun n=>sx P Y0 n body) (rdG none σ.fr g) ps σ K:=rfl
theorem Zef (g:Option (Nat × Bool)) (fr:List (Nat × SV))  : YQ g fr (.any)=(.any):=rfl
theorem Zg2 (t:Nat) (r:List (Nat × SV))  : YE ((t,(.any)) :: r)=(t,(.any)) :: YE r:=rfl
theorem ZjL (hp:List (Nat × HB))  : cvt hp (.any)=(.any):=rfl
theorem ZiI (hp:List (Nat × HB)) (g:SV->SV)  : vwS hp g (.any)=(.any):=rfl
theorem ZiF  : vw0 (.any) = .any:=rfl
theorem Zgi  : Wy (.any)=false:=rfl
theorem Zkh (t j:Nat) (w:Bool) (s:SV) (r:List (Nat × SV)):YE ((t,.gd j w s) :: r)=(t,.any) :: YE r:=rfl
theorem Zuk  : YE []=[]:=rfl
theorem Zd8 (fr:List (Nat × SV)) (j:Nat) (w:Bool) (s:SV):YQ none fr (.gd j w s) = .any:=rfl
theorem Zgs (fr:List (Nat × SV)) (j j0:Nat) (w w0:Bool) (s:SV):YQ (some (j0,w0)) fr (.gd j w s)=Zey (alw 8 fr j0 w0 j w) s:=rfl
theorem Zd9 (b:Bool):Zab (.bool b)=true:=rfl
theorem Zgw (k:IntKind) (n:Int):Zab (.int k n)=true:=rfl
theorem ZcX (s:ByteArray):Zab (.string s)=true:=rfl
theorem ZbN (p:Option Addr):Zab (.pointer p)=true:=rfl
theorem Zc6 (a:Option Addr) (l c:Nat):Zab (.slice a l c)=true:=rfl
theorem ZbL  : Zab .nilFunc=true:=rfl
theorem ZaR  : Zab .nilIface=true:=rfl
theorem e_rdG (g:Option (Nat × Bool)) (fr:List (Nat × SV)) (x:X):rdG g fr x=YQ g fr (rd fr x):=rfl
theorem ZyI (fr:List (Nat × SV)) (n:Nat):rd fr (.t n)=lk n fr:=rfl
theorem ZzP (fr:List (Nat × SV)) (x:Value):rd fr (.c x) = .v x:=rfl
theorem ZyD (fr:List (Nat × SV)) (i:Nat):rd fr (.f i) = .cl i []:=rfl
theorem e_alw (f:Nat) (fr:List (Nat × SV)) (j0:Nat) (w0:Bool) (j:Nat) (w:Bool):alw (f+1) fr j0 w0 j w=Zxr (ZgZ (Nat.beq j0 j) w0 w) (lk j0 fr) (alw f fr) j w:=rfl
theorem ZyA (fr:List (Nat × SV)) (j0:Nat) (w0:Bool) (j:Nat) (w:Bool):alw 0 fr j0 w0 j w=false:=rfl
theorem e_vw1 (hp:List (Nat × HB)) (s:SV):vw1 hp s=vwS hp vw0 s:=rfl
theorem e_vw2 (hp:List (Nat × HB)) (s:SV):vw2 hp s=vwS hp (vw1 hp) s:=rfl
theorem e_vw3 (hp:List (Nat × HB)) (s:SV):vw3 hp s=vwS hp (vw2 hp) s:=rfl
theorem e_vw4 (hp:List (Nat × HB)) (s:SV):vw4 hp s=vwS hp (vw3 hp) s:=rfl
theorem Zpy (fr:List (Nat × SV)) (hp:List (Nat × HB)) (n N:Nat):VA ⟨fr,hp,n,N,[]⟩=⟨fr,hp,n,N,[]⟩:=rfl
theorem Zpp (fr:List (Nat × SV)) (hp:List (Nat × HB)) (n N j:Nat) (l:List Nat):VA ⟨fr,hp,n,N,j :: l⟩=⟨YE fr,hp,n,N,[]⟩:=rfl
theorem ZyS (b:BinOp) (k j:IntKind) (x y:Int):Zxy b (.v (.int k x)) (.v (.int j y))=ZzJ (ZcY k j) b k x y:=rfl
theorem ZkA (b:Bool):uni .not (.v (.bool b))=some (.v (.bool (!b))):=rfl
theorem Ziy (k:IntKind) (n:Int):uni .neg (.v (.int k n))=some (.v (.int k (k.wrap (0 - n)))):=rfl
theorem Zhz (k:IntKind) (x y:Int):Zhm .add k x y=some (.v (.int k (k.wrap (x+y)))):=rfl
theorem ZhA (k:IntKind) (x y:Int):Zhm .sub k x y=some (.v (.int k (k.wrap (x - y)))):=rfl
theorem Zhh (k:IntKind) (x y:Int):Zhm .mul k x y=some (.v (.int k (k.wrap (x * y)))):=rfl
theorem Zhu (k:IntKind) (x y:Int):Zhm .eql k x y=some (.v (.bool (x == y))):=rfl
theorem ZgJ (k:IntKind) (x y:Int):Zhm .neq k x y=some (.v (.bool (x != y))):=rfl
theorem Zgm (k:IntKind) (x y:Int):Zhm .lss k x y=some (.v (.bool (decide (x < y)))):=rfl
theorem ZgM (k:IntKind) (x y:Int):Zhm .leq k x y=some (.v (.bool (decide (x<=y)))):=rfl
theorem ZgK (k:IntKind) (x y:Int):Zhm .gtr k x y=some (.v (.bool (decide (x > y)))):=rfl
theorem ZgC (k:IntKind) (x y:Int):Zhm .geq k x y=some (.v (.bool (decide (x ≥ y)))):=rfl
theorem ZkC  : ZcY .i8 .i8=true:=rfl
theorem Zhx  : ZcY .i16 .i16=true:=rfl
theorem Zhr  : ZcY .i32 .i32=true:=rfl
theorem Zgn  : ZcY .i64 .i64=true:=rfl
theorem ZlM  : ZcY .u8 .u8=true:=rfl
theorem Zge  : ZcY .u16 .u16=true:=rfl
theorem ZgG  : ZcY .u32 .u32=true:=rfl
theorem Zgb  : ZcY .u64 .u64=true:=rfl
theorem Zps (o:Nat) (k q:Nat):V3 o (.p k q)=some (.p k (q+o)):=rfl
theorem Zon (k q:Nat):ZdN (.p k q)=some (.p k q):=rfl
theorem Zip (o:Nat) (k v m i q:Nat):V3 o (.pr k v m i q)=some (.pr k v m i (q+o)):=rfl
theorem Zih (k v m i q:Nat):ZdN (.pr k v m i q)=some (.pr k v m i q):=rfl
theorem Zjb (o:Nat) (row:List SV) (q:Nat):V3 o (.ps row q)=some (.ps row (q+o)):=rfl
theorem Zjk (row:List SV) (q:Nat):ZdN (.ps row q)=some (.ps row q):=rfl
theorem Zm5 (l:List SV) (o m:Nat):XD l o m true=ZzB (Nat.ble (o+m) l.length) l o m:=rfl
theorem ZmU (l:List SV) (o m:Nat):XD l o m false=nth l o:=rfl
theorem Zza (mx:Bool) (x:Int):mmf mx x []=some x:=rfl
theorem ZuY (k:IntKind) (x y:Int) (r:List SV):mmf true x (.v (.int k y) :: r)=mmf true (max x y) r:=rfl
theorem Zsz (k:IntKind) (x y:Int) (r:List SV):mmf false x (.v (.int k y) :: r)=mmf false (min x y) r:=rfl
theorem e_mm (mx:Bool) (k:IntKind) (x:Int) (r:List SV):mmS mx (.v (.int k x) :: r)=mmE k (mmf mx x r):=rfl
theorem e_bld (ρ : X->SV) (z:List SV) (ps:List (Nat × Nat × X)):bld ρ z ps=ZlZ z (Zni ρ ps):=rfl
theorem ZgQ (ρ : X->SV) (z:List Value) (ps:List (Nat × Nat × X)):pv ρ (.build z ps)=ZzT (bld ρ (lit z) ps):=rfl
theorem ZyJ (l:List SV) (m:Nat) (ls:List (List SV)):ZxJ (some l) m (some ls)=chkB (chk l m) l ls:=rfl
theorem ZmS (s:SV) (l:List SV):ZW (s :: l)=Vy (Wy s) (ZW l):=rfl
theorem ZkD  : ZW []=true:=rfl
theorem ZpQ (fr:List (Nat × SV)) (g:Option (Nat × Bool)) (t:Nat) (b:X):Zhj fr g (.t t) (.c (.bool true)) b=Zgk (rdG g fr (.t t)) (rdG (some (t,false)) fr b):=rfl
theorem Zoh (fr:List (Nat × SV)) (g:Option (Nat × Bool)) (t n:Nat):Zhj fr g (.t t) (.t n) (.c (.bool false))=Zec (rdG g fr (.t t)) (rdG (some (t,true)) fr (.t n)):=rfl
theorem Zmc (fr:List (Nat × SV)) (g:Option (Nat × Bool)) (t:Nat):Zhj fr g (.t t) (.c (.bool false)) (.c (.bool false))=Zec (rdG g fr (.t t)) (rdG (some (t,true)) fr (.c (.bool false))):=rfl
theorem ZhU:Zec (.v (.bool false)) (.v undef)=some (.v (.bool false)):=rfl
theorem ZlD:Zgk (.v (.bool true)) (.v undef)=some (.v (.bool true)):=rfl
theorem e_rvR (rs:List RV) (σ : St):rvR rs σ = rvE (rvs σ rs):=rfl
theorem ZAP (σ : St):rvs σ []=some []:=rfl
theorem Zxa (σ : St) (t:Nat):rv1 σ (.tmp t)=some (rdG none σ.fr (.t t)):=rfl
theorem Zu3 (σ : St) (t m:Nat) (ag:Bool):rv1 σ (.cell t m ag)=rvX σ.hp m ag (rdG none σ.fr (.t t)):=rfl
theorem ZmB (P:Program) (Y:Hd) (d:Option Nat) (σ : St) (r:KT) (K:RK) (x:X):stp P Y d (.mv x) σ r K=Yq P none d (.mv x) σ r K:=rfl
theorem Zha (P:Program) (Y:Hd) (d:Option Nat) (σ : St) (r:KT) (K:RK) (c a b:X):stp P Y d (.pick c a b) σ r K=Yq P none d (.pick c a b) σ r K:=rfl
theorem ZeM (P:Program) (Y:Hd) (d:Option Nat) (σ : St) (r:KT) (K:RK) (z:List Value) (ps:List (Nat × Nat × X)):stp P Y d (.build z ps) σ r K=Yq P none d (.build z ps) σ r K:=rfl
theorem ZkP (P:Program) (Y:Hd) (d:Option Nat) (σ : St) (r:KT) (K:RK) (m:Nat) (T:TypeId) (ps:List X):stp P Y d (.bsl m T ps) σ r K=Yq P none d (.bsl m T ps) σ r K:=rfl
theorem Zmd (P:Program) (Y:Hd) (d:Option Nat) (σ : St) (r:KT) (K:RK) (x:X) (m:Nat) (ag:Bool):stp P Y d (.ld x m ag) σ r K=Yq P none d (.ld x m ag) σ r K:=rfl
theorem Zf8 (P:Program) (Y:Hd) (d:Option Nat) (σ : St) (r:KT) (K:RK) (x:X):stp P Y d (.nilc x) σ r K=Yq P none d (.nilc x) σ r K:=rfl
theorem Zk8 (P:Program) (Y:Hd) (d:Option Nat) (σ : St) (r:KT) (K:RK) (b:BinOp) (x y:X):stp P Y d (.bin b x y) σ r K=Yq P none d (.bin b x y) σ r K:=rfl
theorem Zka (P:Program) (Y:Hd) (d:Option Nat) (σ : St) (r:KT) (K:RK) (b:BinOp) (x y:X):stp P Y d (.div b x y) σ r K=Yq P none d (.div b x y) σ r K:=rfl
theorem ZqL (P:Program) (Y:Hd) (d:Option Nat) (σ : St) (r:KT) (K:RK) (u:UnOp) (x:X):stp P Y d (.un u x) σ r K=Yq P none d (.un u x) σ r K:=rfl
theorem ZgU (P:Program) (Y:Hd) (d:Option Nat) (σ : St) (r:KT) (K:RK) (x:X) (o:Nat):stp P Y d (.addo x o) σ r K=Yq P none d (.addo x o) σ r K:=rfl
theorem Zjd (P:Program) (Y:Hd) (d:Option Nat) (σ : St) (r:KT) (K:RK) (x:X) (o m:Nat) (ag:Bool):stp P Y d (.fld x o m ag) σ r K=Yq P none d (.fld x o m ag) σ r K:=rfl
theorem ZjO (P:Program) (Y:Hd) (d:Option Nat) (σ : St) (r:KT) (K:RK) (x i:X) (len m:Nat) (ag:Bool):stp P Y d (.idx x i len m ag) σ r K=Yq P none d (.idx x i len m ag) σ r K:=rfl
theorem ZkY (P:Program) (Y:Hd) (d:Option Nat) (σ : St) (r:KT) (K:RK) (x i:X) (len m:Nat):stp P Y d (.ixa x i len m) σ r K=Yq P none d (.ixa x i len m) σ r K:=rfl
theorem Zio (P:Program) (Y:Hd) (d:Option Nat) (σ : St) (r:KT) (K:RK) (x i:X) (m:Nat):stp P Y d (.ixs x i m) σ r K=Yq P none d (.ixs x i m) σ r K:=rfl
theorem ZlN (P:Program) (Y:Hd) (d:Option Nat) (σ : St) (r:KT) (K:RK) (x:X):stp P Y d (.len x) σ r K=Yq P none d (.len x) σ r K:=rfl
theorem Zm9 (P:Program) (Y:Hd) (d:Option Nat) (σ : St) (r:KT) (K:RK) (mx:Bool) (xs:List X):stp P Y d (.mm mx xs) σ r K=Yq P none d (.mm mx xs) σ r K:=rfl
theorem Zgr (P:Program) (Y:Hd) (d:Option Nat) (σ : St) (r:KT) (K:RK) (f:FuncId) (as:List X):stp P Y d (.call f as) σ r K=Yq P none d (.call f as) σ r K:=rfl
theorem Zhq (P:Program) (Y:Hd) (d:Option Nat) (σ : St) (r:KT) (K:RK) (x:X) (as:List X):stp P Y d (.calv x as) σ r K=Yq P none d (.calv x as) σ r K:=rfl
theorem ZkV (P:Program) (Y:Hd) (d:Option Nat) (σ : St) (r:KT) (K:RK) (f:FuncId) (cs:List X):stp P Y d (.mkf f cs) σ r K=Yq P none d (.mkf f cs) σ r K:=rfl
theorem Zhp (P:Program) (Y:Hd) (d:Option Nat) (σ : St) (r:KT) (K:RK) (k:IntKind) (x:X):stp P Y d (.conv k x) σ r K=Yq P none d (.conv k x) σ r K:=rfl
theorem Zlx (P:Program) (Y:Hd) (d:Option Nat) (σ : St) (r:KT) (K:RK) (x:X) (i:Nat):stp P Y d (.ext x i) σ r K=Yq P none d (.ext x i) σ r K:=rfl
theorem e_rvs (σ : St) (r:RV) (rs:List RV):rvs σ (r :: rs)=rvC σ.hp (rv1 σ r) (rvs σ rs):=rfl
theorem Zmb (ρ : X->SV) (x:X) (o m:Nat) (ag:Bool):pv ρ (.fld x o m ag)=pvF o m ag (ρ x):=rfl
theorem ZiV (ρ : X->SV) (k:IntKind) (x:X):pv ρ (.conv k x)=pvC k (ρ x):=rfl
theorem Zrr (ρ : X->SV) (x:X) (i:Nat):pv ρ (.ext x i)=pvE i (ρ x):=rfl
theorem Zxo (fr:List (Nat × SV)):Zxu [] fr=True:=rfl
theorem Zz0 (t:Nat) (s:SV) (r fr:List (Nat × SV)):Zxu ((t,s) :: r) fr=(lk t fr=s/\Zxu r fr):=rfl
theorem ZhS (P:Program) (Y:Hd) (d:Option Nat) (σ : St) (r:KT) (K:RK) (ng ag:Bool) (cls:List Nat) (x y:X):stp P Y d (.eqs ng ag cls x y) σ r K=Yq P none d (.eqs ng ag cls x y) σ r K:=rfl
theorem ZlF (P:Program) (Y:Hd) (d:Option Nat) (σ : St) (r:KT) (K:RK) (x h k:X):stp P Y d (.slc x h k) σ r K=Yq P none d (.slc x h k) σ r K:=rfl
theorem Zia (P:Program) (Y:Hd) (d:Option Nat) (σ : St) (r:KT) (K:RK) (m:Nat) (x:X) (lo hi:Option X):stp P Y d (.sub m x lo hi) σ r K=Yq P none d (.sub m x lo hi) σ r K:=rfl
theorem Zi4 (P:Program) (Y:Hd) (d:Option Nat) (σ : St) (r:KT) (K:RK) (m b:Nat) (T:TypeId) (x y:X):stp P Y d (.app m b T x y) σ r K=Yq P none d (.app m b T x y) σ r K:=rfl
theorem Zmt (l):ZzT (some l)=some (SV.agg l):=rfl
theorem Zor: ZzT none=none:=rfl
theorem Zv5 (k z):mmE k (some z)=some (SV.v (Value.int k z)):=rfl
theorem Zt4 (k):mmE k none=none:=rfl
theorem ZsF (g o l T):vwP g o (HB.cells l T)=SV.ps (ZbC g l) o:=rfl
theorem ZsN (m a):vwN true m a=SV.sl false m a:=rfl
theorem ZuG (m a):vwN false m a=SV.any:=rfl
theorem Zw2 (v a m b T):vwM v (HB.row a m b T)=vwN (Nat.beq v a) m b:=rfl
theorem ZsW (v a m b T o c d e):vwM v (HB.rws a m b T o c d e)=vwN (Nat.beq v a) m (Zbi o c d b):=rfl
theorem ZpC (v a m b T):cvtM v (HB.row a m b T)=vwN (Nat.beq v a) m b:=rfl
theorem Zoq (m v a b c T):ZhI m v (HB.row a b c T)=ZhD c (Vy (Nat.beq m b) (Nat.beq v a)):=rfl
theorem ZoD (m v l T):ZhI m v (HB.cells l T)=none:=rfl
theorem Zok (m v φ):ZhI m v (HB.ob φ)=none:=rfl
theorem Zoa (m v a b):ZhI m v (HB.map a b)=none:=rfl
theorem ZmF (m v a b c d):ZhI m v (HB.it a b c d)=none:=rfl
theorem Zpf (m v a b):ZhI m v (HB.lp a b)=none:=rfl
theorem ZmN (m v a):ZhI m v (HB.lb a)=none:=rfl
theorem Zns (m v a b c T o d e f):ZhI m v (HB.rws a b c T o d e f)=none:=rfl
theorem ZqZ (m v):ZhI m v HB.gone=none:=rfl
theorem Zmh (a):ZhD a true=some a:=rfl
theorem ZoE (a):ZhD a false=none:=rfl
theorem Zt5: rvE (some [])=some (SV.tup []):=rfl
theorem Zw4 (s):rvE (some [s])=some s:=rfl
theorem ZvN (a b l):rvE (some (a :: b :: l))=some (SV.tup (a :: b :: l)):=rfl
theorem Zux: rvE none=none:=rfl
theorem Zvz (s l):rvD s (some l)=some (s :: l):=rfl
theorem ZwW (s):rvD s none=none:=rfl
theorem Zup (hp x s):rvC hp (some s) x=rvD (cvt hp s) x:=rfl
theorem Zvf (hp x):rvC hp none x=none:=rfl
theorem Zwr (o m a l T):rvH o m a (HB.cells l T)=XD l o m a:=rfl
theorem Zwh (hp m a k o):rvX hp m a (SV.p k o)=rvH o m a (lkh k hp):=rfl
theorem ZsS (o m a l):pvF o m a (SV.agg l)=XD l o m a:=rfl
theorem Zwc (k a n):pvC k (SV.v (Value.int a n))=some (SV.v (Value.int k (IntKind.wrap k n))):=rfl
theorem Zv3 (i l):pvE i (SV.tup l)=nth l i:=rfl
theorem Zmz (x a b c d):ZyF false true false x a b c d=c { fr:=(x,a) :: St.fr b,hp:=St.hp b,n:=St.n b,N:=St.N b,gs:=St.gs b } d:=rfl
theorem Zmg (x a b c d e f):ZAU false true false x a b c d e f=e { fr:=(x,SV.gd a b c) :: St.fr d,hp:=St.hp d,n:=St.n d,N:=St.N d,gs:=a :: St.gs d } f:=rfl
theorem Zo6 (s σ r K):Yy none s none σ r K=r σ K:=rfl
theorem ZnP (s σ r K a):Yy none s (some a) σ r K=False:=rfl
theorem ZmY (s σ r K t):Yy (some t) s none σ r K=ZyF (Xg t (St.gs σ)) (Nat.blt t (St.N σ)) (gdS s) t s σ r K:=rfl
theorem Zpn (s σ r K t j w):Yy (some t) s (some (j,w)) σ r K=ZAU (Xg t (St.gs σ)) (Nat.blt t (St.N σ)) (Nat.beq t j) t j w s σ r K:=rfl
theorem ZqO (d g σ r K s):Wf (some s) d g σ r K=Yy d s g σ r K:=rfl
theorem Zo7 (d g σ r K):Wf none d g σ r K=False:=rfl
theorem ZiG (x):Zey true x=x:=rfl
theorem Zj7 (x):Zey false x=SV.any:=rfl
theorem ZqB (x a b c):Zxr true x a b c=true:=rfl
theorem Zpe (x a b c d s):Zxr false (SV.gd c d s) x a b=x c d a b:=rfl
theorem ZiH (x a):ZgZ true x a=bbq x a:=rfl
theorem Zjo (x a):ZgZ false x a=false:=rfl
theorem ZtQ: bbq true true=true:=rfl
theorem Zui: bbq false false=true:=rfl
theorem ZjG (x y):Zgk (SV.v (Value.bool x)) (SV.v (Value.bool y))=some (SV.v (Value.bool (x || y))):=rfl
theorem ZjW (x a):Zgk (SV.v (Value.bool x)) (SV.v (Value.tuple a))=bif x then some (SV.v (Value.bool true)) else none:=rfl
theorem Zj4 (x y):Zec (SV.v (Value.bool x)) (SV.v (Value.bool y))=some (SV.v (Value.bool (x && y))):=rfl
theorem ZkR (x a):Zec (SV.v (Value.bool x)) (SV.v (Value.tuple a))=bif x then none else some (SV.v (Value.bool false)):=rfl
theorem ZpU (m r):ZxL m (some r)=some (SV.sl true m r):=rfl
theorem ZmJ (m):ZxL m none=none:=rfl
theorem Zld (P g d σ r K a f b):Zqr P g d σ r K (SV.cl f b) a=Zxs P g f (a ++ b) d σ r K:=rfl
theorem ZmR (g d σ r K k v m a j):ZAf g d σ r K true k v m a j=IXR g k v m a j d σ r K:=rfl
theorem Zn2 (g d σ r K k v m a j):ZAf g d σ r K false k v m a j=False:=rfl
theorem Znu (g d σ r K k v m j a b c T):Zx4 g d σ r K (HB.row a b c T) k v m j=ZAf g d σ r K (Vy (Nat.beq m b) (Nat.beq v a)) k v m (List.length c) j:=rfl
theorem ZqT (g d σ r K k v m j a b c T o e f l):Zx4 g d σ r K (HB.rws a b c T o e f l) k v m j = ∃ i rows TT,v=a+i/\Yt k a b c T o e f l i=some (m,rows,TT)/\IXR g k v m (List.length rows) j d σ r K:=rfl
theorem ZoK (g d σ r K a j):Zyk g d σ r K true a j=IXS g a j d σ r K:=rfl
theorem Zmr (g d σ r K a j):Zyk g d σ r K false a j=False:=rfl
theorem ZpA (g d σ r K m k j c a b):Zy3 g d σ r K (SV.v (Value.int k j)) (SV.sl c a b) m=Zyk g d σ r K (Nat.beq m a) b j:=rfl
theorem Zol (g d σ r K m k j a v):Zy3 g d σ r K (SV.v (Value.int k j)) (SV.mr a v) m=Zx4 g d σ r K (lkh a (St.hp σ)) a v m j:=rfl
theorem ZoT (g d σ r K x a m k n):ZA2 g d σ r K (SV.v (Value.int k n)) x a m=IXA g a n (fun n=>V3 (n * m) x) d σ r K:=rfl
theorem Zn1 (g d σ r K a m b k j l):ZAW g d σ r K (SV.v (Value.int k j)) (SV.agg l) a m b=IXA g a j (fun n=>XD l (n * m) m b) d σ r K:=rfl
theorem ZsK (g d σ r K o m a l T):ldC g d σ r K (HB.cells l T) o m a=Wf (XD l o m a) d g σ r K:=rfl
theorem ZtJ (g d σ r K a i o m b):ldB g d σ r K true a i o m b=LDR g a i o m b d σ r K:=rfl
theorem ZwP (g d σ r K a i o m b):ldB g d σ r K false a i o m b=False:=rfl
theorem Zv4 (g d σ r K k v a i o m b c e f T):ldR g d σ r K k (HB.row c e f T) v a i o m b=ldB g d σ r K (Vy (Nat.beq a e) (Nat.beq v c)) f i o m b:=rfl
theorem ZuN (g d σ r K k v b i o m c e f j T l p q s):ldR g d σ r K k (HB.rws e f j T l p q s) v b i o m c = ∃ a rows TT,v=e+a/\Yt k e f j T l p q s a=some (b,rows,TT)/\LDR g rows i o m c d σ r K:=rfl
theorem ZsV (g d σ r K m a k o):ldK g d σ r K (SV.p k o) m a=ldC g d σ r K (lkh k (St.hp σ)) o m a:=rfl
theorem Ztp (g d σ r K m a b o):ldK g d σ r K (SV.ps b o) m a=Wf (XD b o m a) d g σ r K:=rfl
theorem Zth (g d σ r K m a k v b i o):ldK g d σ r K (SV.pr k v b i o) m a=ldR g d σ r K k (lkh k (St.hp σ)) v b i o m a:=rfl
theorem ZmO (g d σ r K b k u v):ZzV g d σ r K true b k u v=DIV g b k u v d σ r K:=rfl
theorem Zri (g d σ r K b k u v):ZzV g d σ r K false b k u v=False:=rfl
theorem Zrl (g d σ r K b k a j c):ZBg g d σ r K b (SV.v (Value.int k a)) (SV.v (Value.int j c))=ZzV g d σ r K (ZcY k j) b k a c:=rfl
theorem ZpF (g d σ r K a):ZAB g d σ r K true a=Yy d (SV.v (Value.int IntKind.i64 ↑(List.length a))) g σ r K:=rfl
theorem ZpE (g d σ r K a):ZAB g d σ r K false a=False:=rfl
theorem Zml (g d σ r K k v a m b T):ZyX g d σ r K k (HB.row a m b T) v=ZAB g d σ r K (Nat.beq v a) b:=rfl
theorem Zqo (g d σ r K k v b m c T o e f i):ZyX g d σ r K k (HB.rws b m c T o e f i) v = ∃ a mm rows TT,v=b+a/\Yt k b m c T o e f i a=some (mm,rows,TT)/\Yy d (SV.v (Value.int IntKind.i64 ↑(List.length rows))) g σ r K:=rfl
theorem ZqS (g d σ r K k v):ZxH g d σ r K (SV.mr k v)=ZyX g d σ r K k (lkh k (St.hp σ)) v:=rfl
theorem ZqK (g d σ r K k v m i l):ZxH g d σ r K (SV.ms k v m i l)=Yy d (SV.v (Value.int IntKind.i64 ↑l)) g σ r K:=rfl
theorem Zmv (g d σ r K c m a):ZxH g d σ r K (SV.sl c m a)=Yy d (SV.v (Value.int IntKind.i64 ↑(List.length a))) g σ r K:=rfl
theorem Zrs (P g d σ r K f a):Yq P g d (SI.call f a) σ r K=Zxs P g f (UN (rdG g (St.fr σ)) a) d σ r K:=rfl
theorem Zqz (P g d σ r K x a):Yq P g d (SI.calv x a) σ r K=Zqr P g d σ r K (rdG g (St.fr σ) x) (UN (rdG g (St.fr σ)) a):=rfl
theorem Zmo (P g d σ r K f a):Yq P g d (SI.callm f a) σ r K=False:=rfl
theorem Zqb (P g d σ r K x a):Yq P g d (SI.calvm x a) σ r K=False:=rfl
theorem Zna (P g d σ r K c a b):Yq P g d (SI.pick c a b) σ r K=Wf (Zhj (St.fr σ) g c a b) d g σ r K:=rfl
theorem Zpg (P g d σ r K m T a):Yq P g d (SI.bsl m T a) σ r K=Wf (ZxL m (ZhG (rdG g (St.fr σ)) m a)) d g σ r K:=rfl
theorem Znn (P g d σ r K x a m):Yq P g d (SI.ixs x a m) σ r K=Zy3 g d σ r K (rdG g (St.fr σ) a) (rdG g (St.fr σ) x) m:=rfl
theorem ZmT (P g d σ r K x a b m):Yq P g d (SI.ixa x a b m) σ r K=ZA2 g d σ r K (rdG g (St.fr σ) a) (rdG g (St.fr σ) x) b m:=rfl
theorem Zmf (P g d σ r K x a b m c):Yq P g d (SI.idx x a b m c) σ r K=ZAW g d σ r K (rdG g (St.fr σ) a) (rdG g (St.fr σ) x) b m c:=rfl
theorem Zi5 (P g d σ r K x m a):Yq P g d (SI.ld x m a) σ r K=ldK g d σ r K (rdG g (St.fr σ) x) m a:=rfl
theorem Zh5 (P g d σ r K b x y):Yq P g d (SI.div b x y) σ r K=ZBg g d σ r K b (rdG g (St.fr σ) x) (rdG g (St.fr σ) y):=rfl
theorem Zkm (P g d σ r K x):Yq P g d (SI.len x) σ r K=ZxH g d σ r K (rdG g (St.fr σ) x):=rfl
theorem Zkc (P g d σ r K x):Yq P g d (SI.mv x) σ r K=Yy d (rdG g (St.fr σ) x) g σ r K:=rfl
theorem Zi2 (P g d σ r K z a):Yq P g d (SI.build z a) σ r K=Wf (pv (rdG g (St.fr σ)) (SI.build z a)) d g σ r K:=rfl
theorem Zix (P g d σ r K x):Yq P g d (SI.nilc x) σ r K=Wf (ZdN (rdG g (St.fr σ) x)) d g σ r K:=rfl
theorem Zis (P g d σ r K b x y):Yq P g d (SI.bin b x y) σ r K=Wf (Zxy b (rdG g (St.fr σ) x) (rdG g (St.fr σ) y)) d g σ r K:=rfl
theorem ZjF (P g d σ r K u x):Yq P g d (SI.un u x) σ r K=Wf (uni u (rdG g (St.fr σ) x)) d g σ r K:=rfl
theorem Zil (P g d σ r K x o):Yq P g d (SI.addo x o) σ r K=Wf (V3 o (rdG g (St.fr σ) x)) d g σ r K:=rfl
theorem Zkr (P g d σ r K x o m a):Yq P g d (SI.fld x o m a) σ r K=Wf (pv (rdG g (St.fr σ)) (SI.fld x o m a)) d g σ r K:=rfl
theorem ZhZ (P g d σ r K a b):Yq P g d (SI.mm a b) σ r K=Wf (mmS a (UN (rdG g (St.fr σ)) b)) d g σ r K:=rfl
theorem ZhP (P g d σ r K f a):Yq P g d (SI.mkf f a) σ r K=Yy d (SV.cl f (UN (rdG g (St.fr σ)) a)) g σ r K:=rfl
theorem ZlQ (P g d σ r K k x):Yq P g d (SI.conv k x) σ r K=Wf (pv (rdG g (St.fr σ)) (SI.conv k x)) d g σ r K:=rfl
theorem Zjr (P g d σ r K x a):Yq P g d (SI.ext x a) σ r K=Wf (pv (rdG g (St.fr σ)) (SI.ext x a)) d g σ r K:=rfl
theorem ZlR (P g d σ r K x h k):Yq P g d (SI.slc x h k) σ r K=ZBq g (rdG g (St.fr σ) x) (rdG g (St.fr σ) h) (rdG g (St.fr σ) k) d σ r K:=rfl
theorem Zib (P g d σ r K m x a b):Yq P g d (SI.sub m x a b) σ r K=ZAM g m (rdG g (St.fr σ)) a b (rdG g (St.fr σ) x) d σ r K:=rfl
theorem ZiT (P g d σ r K m b T x y):Yq P g d (SI.cln m b T x y) σ r K=False:=rfl
theorem Zjm (P g d σ r K m b T x y):Yq P g d (SI.appm m b T x y) σ r K=False:=rfl
theorem Zj2 (P g d σ r K m x y):Yq P g d (SI.cpy m x y) σ r K=False:=rfl
theorem Zie (P g d σ r K m b z T x):Yq P g d (SI.mks m b z T x) σ r K=False:=rfl
theorem Zku (P g d σ r K x):Yq P g d (SI.isn x) σ r K=False:=rfl
theorem ZhW (P g d σ r K m b T x y):Yq P g d (SI.app m b T x y) σ r K=ZxN g m b (Zjw m (rdG g (St.fr σ) x)) (ZwX m (St.hp σ) (rdG g (St.fr σ) y)) d σ r K:=rfl
theorem Zk4 (P g d σ r K x m T):Yq P g d (SI.box x m T) σ r K=False:=rfl
theorem Zi3 (P g d σ r K z T):Yq P g d (SI.alloc z T) σ r K=False:=rfl
theorem Zkk (P g d σ r K x y m):Yq P g d (SI.st x y m) σ r K=False:=rfl
theorem Zh1 (P g d σ r K a b c x y):Yq P g d (SI.eqs a b c x y) σ r K=Wf (eqR a (ZpP c b (rdG g (St.fr σ) x) (rdG g (St.fr σ) y))) d g σ r K:=rfl
theorem ZkM (P g d σ r K a b):Yq P g d (SI.raw a b) σ r K=False:=rfl
theorem Zkw (P g d σ r K a b):Yq P g d (SI.rv a b) σ r K=False:=rfl
theorem Zik (P g d σ r K a x b):Yq P g d (SI.rb a x b) σ r K=False:=rfl
theorem Zp3 (x a b c d e):ZBc false true x a b c d e=d { fr:=(x,SV.p (St.n c) 0) :: St.fr c,hp:=(St.n c,HB.cells a b) :: St.hp c,n:=St.n c+1,N:=St.N c,gs:=St.gs c } e:=rfl
theorem ZmQ (T σ r K t a):ZhF (some t) (some a) T σ r K=ZBc (Xg t (St.gs σ)) (Nat.blt t (St.N σ)) t a T σ r K:=rfl
theorem ZiJ (x a b c d e f g i j):ZuR false true x a b c d e f g i j=i { fr:=(x,SV.v (Value.int IntKind.i64 ↑e)) :: St.fr g,hp:=(a,HB.row b c d f) :: St.hp g,n:=St.n g,N:=St.N g,gs:=St.gs g } j:=rfl
theorem Zo4 (k v m a N T σ r K b):ZAG (some b) k v m a N T σ r K=ZuR (Xg b (St.gs σ)) (Nat.blt b (St.N σ)) b k v m a N T σ r K:=rfl
theorem Zo1 (k v m a N T σ r K):ZAG none k v m a N T σ r K=r { fr:=St.fr σ,hp:=(k,HB.row v m a T) :: St.hp σ,n:=St.n σ,N:=St.N σ,gs:=St.gs σ } K:=rfl
theorem Zo3 (d k v m i L a T σ r K c b e):ZrB d k v m i L a T (SV.sl c b e) σ r K=ZdZ (Nat.beq m b) (CPY d k v m i L a e T σ r K):=rfl
theorem Zo8 (d k v m i L a T σ r K):ZrB d k v m i L a T (SV.v (Value.slice none 0 0)) σ r K=CPY d k v m i L a [] T σ r K:=rfl
theorem Zq3 (d k v m i L a T σ r K b c):ZrB d k v m i L a T (SV.mr b c) σ r K=ZdZ (Vy (Nat.beq k b) (Nat.beq v c)) (CPY d k v m i L a a T σ r K):=rfl
theorem Znz (d k v m i L a T σ r K b c e f g):ZrB d k v m i L a T (SV.ms b c e f g) σ r K=ZdZ (Vy (Vy (Nat.beq k b) (Nat.beq v c)) (Nat.beq m e)) (f+g<=List.length a/\CPY d k v m i L a (List.take g (List.drop f a)) T σ r K):=rfl
theorem ZAx (n m):lO (some m) n=m:=rfl
theorem Zy6 (n):lO none n=n:=rfl
theorem Zqc (d m k v i a s σ r K b c e T):Zvl d m k v i a (HB.row b c e T) s σ r K=ZdZ (Vy (Nat.beq m c) (Nat.beq v b)) (ZrB d k v m i (lO a (List.length e)) e T s σ r K):=rfl
theorem Zpa (d m a σ r K k v):ZxA d m (SV.mr k v) a σ r K=Zvl d m k v 0 none (lkh k (St.hp σ)) a σ r K:=rfl
theorem ZnO (d m a σ r K k v b i l):ZxA d m (SV.ms k v b i l) a σ r K=ZdZ (Nat.beq m b) (Zvl d m k v i (some l) (lkh k (St.hp σ)) a σ r K):=rfl
theorem ZnX (g k v m a d σ r K i j):ZxD g k v m a (some i) (some j) d σ r K=SBM g i j k v m a d σ r K:=rfl
theorem ZmD (g k v m a d σ r K b):ZxD g k v m a (some b) none d σ r K=False:=rfl
theorem Zoz (g k v m a b d σ r K):ZxD g k v m a none b d σ r K=False:=rfl
theorem Zq0 (p):ZdZ true p=p:=rfl
theorem ZpI (p):ZdZ false p=False:=rfl
theorem Znm (g m ρ a b k v d σ r K c e f T):ZA8 g m ρ a b k v (HB.row c e f T) d σ r K=ZdZ (Vy (Nat.beq m e) (Nat.beq v c)) (ZxD g k v m f (Zb6 0 ρ a) (Zb6 (↑(List.length f)) ρ b) d σ r K):=rfl
theorem ZpG (g m ρ a b d σ r K c e f):ZAM g m ρ a b (SV.sl c e f) d σ r K=bif Nat.beq m e then Zxv g m f (Zb6 0 ρ a) (Zb6 (↑(List.length f)) ρ b) d σ r K else False:=rfl
theorem ZqF (g m ρ a b d σ r K k v):ZAM g m ρ a b (SV.mr k v) d σ r K=ZA8 g m ρ a b k v (lkh k (St.hp σ)) d σ r K:=rfl
theorem ZqG (x a b c d e f g i):verB false true x a b c d e f g i=g { fr:=(x,SV.mr a b) :: St.fr f,hp:=(a,HB.row b c d e) :: St.hp f,n:=St.n f,N:=St.N f,gs:=St.gs f } i:=rfl
theorem Zpb (k v m a T σ r K b):ZzE (some b) k v m a T σ r K=verB (Xg b (St.gs σ)) (Nat.blt b (St.N σ)) b k v m a T σ r K:=rfl
theorem ZnM (k v m a T σ r K):ZzE none k v m a T σ r K=False:=rfl
theorem Zqd (b d k v m a c T σ r K):Zy7 true b d k v m a c T σ r K=APM b d k v m a c T σ r K:=rfl
theorem Zqy (b d k v m a c T σ r K):Zy7 false b d k v m a c T σ r K=False:=rfl
theorem ZnW (b d k v m a T σ r K c e f g):ZAZ b d k v m (HB.row c e f g) a T σ r K=Zy7 (Vy (Nat.beq m e) (Vy (Nat.beq v c) (Nat.beq T g))) b d k v m f a T σ r K:=rfl
theorem Zp8 (b d m a T σ r K k v):ZA6 b d m (SV.mr k v) a T σ r K=ZAZ b d k v m (lkh k (St.hp σ)) a T σ r K:=rfl
theorem Zq4 (b d m s T σ r K a):ZxG b d m s (some a) T σ r K=ZA6 b d m s a T σ r K:=rfl
theorem ZmX (b d m s T σ r K):ZxG b d m s none T σ r K=False:=rfl
theorem Zo5 (x a b c d e f g):ZxM true x a b c d e f g=f { fr:=St.fr e,hp:=(x,HB.cells (Zn b a d) c) :: St.hp e,n:=St.n e,N:=St.N e,gs:=St.gs e } g:=rfl
theorem Zq9 (x a b c d e f g):ZxM false x a b c d e f g=False:=rfl
theorem ZwE (k o m c σ r K l T):stC k o m (HB.cells l T) c σ r K=ZxM (Nat.ble (o+m) (List.length l)) k o l T c σ r K:=rfl
theorem Zq7 (x a b c d e f g i j k):Zxx true x a b c d e f g i j k=STR x a b c d e f g i j k:=rfl
theorem Zm0 (x a b c d e f g i j k):Zxx false x a b c d e f g i j k=False:=rfl
theorem ZtY (k v a j o c σ r K b m d T):stR k v a j o (HB.row b m d T) c σ r K=Zxx (Vy (Nat.beq a m) (Nat.beq v b)) b d j o k a c T σ r K:=rfl
theorem Zxn (k v a j o c σ r K b m d T e f g i):stR k v a j o (HB.rws b m d T e f g i) c σ r K=STW b m d T e f g i v a j o k c σ r K:=rfl
theorem Zv1 (m c σ r K k o):stX (SV.p k o) m c σ r K=stC k o m (lkh k (St.hp σ)) c σ r K:=rfl
theorem ZtE (m c σ r K k v a j o):stX (SV.pr k v a j o) m c σ r K=stR k v a j o (lkh k (St.hp σ)) c σ r K:=rfl
theorem Zht (x a b c d e):Zdf true true x a b c d e=stX x a b c d e:=rfl
theorem Zhb (m x σ r K a):Zdu none (some a) m x σ r K=Zdf (chk a m) (ZW a) x m a σ r K:=rfl
theorem Zs3 (P Y d σ r K x y m):stp P Y d (SI.st x y m) σ r K=Zdu d (Yw (rdG none (St.fr σ) y)) m (rdG none (St.fr σ) x) σ r K:=rfl
theorem ZwB (P Y d σ r K x m T):stp P Y d (SI.box x m T) σ r K=ZhF d (Yw (rdG none (St.fr σ) x)) T σ r K:=rfl
theorem Zuq (P Y d σ r K z T):stp P Y d (SI.alloc z T) σ r K=ZhF d (some (lit z)) T σ r K:=rfl
theorem ZuM (P Y d σ r K m b T x y):stp P Y d (SI.cln m b T x y) σ r K=Zrx b d m (Zjw m (rdG none (St.fr σ) x)) (Zea m (rdG none (St.fr σ) y)) T σ r K:=rfl
theorem ZvI (P Y d σ r K m b z T x):stp P Y d (SI.mks m b z T x) σ r K=ZAq b d m z (rdG none (St.fr σ) x) T σ r K:=rfl
theorem ZtH (P Y d σ r K m x y):stp P Y d (SI.cpy m x y) σ r K=ZxA d m (rdG none (St.fr σ) x) (rdG none (St.fr σ) y) σ r K:=rfl
theorem Zw0 (P Y d σ r K m b T x y):stp P Y d (SI.appm m b T x y) σ r K=ZxG b d m (rdG none (St.fr σ) x) (Zea m (rdG none (St.fr σ) y)) T σ r K:=rfl
theorem ZuO (P Y d σ r K f a):stp P Y d (SI.callm f a) σ r K=ZdL P f (UN (rdG none (St.fr σ)) a) d σ r K:=rfl
theorem ZuK (P Y d σ r K x a):stp P Y d (SI.calvm x a) σ r K=Zhk P Y (rdG none (St.fr σ) x) (UN (rdG none (St.fr σ)) a) d σ r K:=rfl
theorem Zo2 (P Y d σ r K x):stp P Y d (SI.isn x) σ r K=ZBe d (rdG none (St.fr σ) x) σ r K:=rfl
theorem Znl (P Y d σ r K a b):stp P Y d (SI.raw a b) σ r K=RAW P d a b σ r K:=rfl
theorem ZoL (P Y d σ r K a b):stp P Y d (SI.rv a b) σ r K = ∃ s,RBE P a b σ s/\Yy d s none σ r K:=rfl
theorem ZmV (P Y d σ r K a x b):stp P Y d (SI.rb a x b) σ r K = ∃ k h1 s,rdG none (St.fr σ) x=SV.mp k/\WK (lkh k (St.hp σ)) h1/\RBB P a (x :: b) k (lkh k (St.hp σ)) h1 σ s/\Yy d s none { fr:=St.fr σ,hp:=(k,h1) :: St.hp σ,n:=St.n σ,N:=St.N σ,gs:=St.gs σ } r K:=rfl
theorem ZlL (d σ r K):Zvk d σ r K=Yy d (SV.v undef) none σ r K:=rfl
theorem ZxV (P Y j w d i σ r K b):gK P Y (SV.v (Value.bool b)) j w d i σ r K=GB P Y b j w d i σ r K:=rfl
theorem ZAC (P Y j w d i σ r K a c b):gK P Y (SV.gd a c (SV.v (Value.bool b))) j w d i σ r K=Yq P (some (j,w)) d i σ r K:=rfl
theorem Ztd (P Y σ r K d i af):st1 P Y { d:=d,i:=i,g:=none,af:=af } σ r K=stp P Y d i σ r K:=rfl
theorem ZsL (P Y σ r K d i j w af):st1 P Y { d:=d,i:=i,g:=some (j,w),af:=af } σ r K=gK P Y (lk j (St.fr σ)) j w d i σ r K:=rfl
theorem ZoA (f g σ K b):ZA4 (SV.v (Value.bool b)) f g σ K=BR b f g σ K:=rfl
theorem Zqm (k x y):ZhN BinOp.quo k x y=IntKind.wrap k (Int.tdiv x y):=rfl
theorem ZtW (a N):st0 a N={ fr:=Y2 0 a,hp:=[],n:=0,N:=N,gs:=[] }:=rfl
theorem ZmM (ρ):UN ρ []=[]:=rfl
theorem Zo9 (ρ a r):UN ρ (a :: r) = ρ a :: UN ρ r:=rfl
theorem ZqR (g):ZbC g []=[]:=rfl
theorem Zq6 (g s l):ZbC g (s :: l)=g s :: ZbC g l:=rfl
theorem ZqH (ρ m):ZhG ρ m []=some []:=rfl
theorem ZoF (ρ m a r):ZhG ρ m (a :: r)=ZxJ (Yw (ρ a)) m (ZhG ρ m r):=rfl
theorem ZoC (hp):ZkW hp []=[]:=rfl
theorem Zox (hp s l):ZkW hp (s :: l)=cvt hp s :: ZkW hp l:=rfl
theorem ZsC: lit []=[]:=rfl
theorem Zxb (a r):lit (a :: r)=SV.v a :: lit r:=rfl
theorem Zw3: chk [] 0=true:=rfl
theorem ZvF (a l n):chk (a :: l) (Nat.succ n)=chk l n:=rfl
theorem ZvH (x):nth [] x=none:=rfl
theorem Zwz (s a):nth (s :: a) 0=some s:=rfl
theorem ZtM (a l n):nth (a :: l) (Nat.succ n)=nth l n:=rfl
theorem Zhl (a l c b):Zn (a :: l) 0 (c :: b)=c :: Zn l 0 b:=rfl
theorem Zhn (x a l o):Zn (a :: l) (Nat.succ o) x=a :: Zn l o x:=rfl
theorem Zoj (o l t):ZxO o l t true=some ((o,l) :: t):=rfl
theorem Zom (o l t):ZxO o l t false=none:=rfl
theorem ZqP (o m l t):ZxC o m (some l) (some t)=ZxO o l t (chk l m):=rfl
theorem Zrh (ρ):Zni ρ []=some []:=rfl
theorem Zrn (ρ o m a r):Zni ρ ((o,m,a) :: r)=ZxC o m (Yw (ρ a)) (Zni ρ r):=rfl
theorem Zu2 (x):spl x []=x:=rfl
theorem Zwk (x o l r):spl x ((o,l) :: r)=spl (Zn x o l) r:=rfl
theorem Zrd (z t):ZlZ z (some t)=some (spl z t):=rfl
theorem Zqi (z):ZlZ z none=none:=rfl
theorem ZnL (x):Y2 x []=[]:=rfl
theorem ZoY (x s l):Y2 x (s :: l)=(x,s) :: Y2 (x+1) l:=rfl
theorem Zuu (j w s):gdS (SV.gd j w s)=true:=rfl
theorem Zuz (a):gdS (SV.v a)=false:=rfl
theorem Zty (k o):gdS (SV.p k o)=false:=rfl
theorem Ztc (l):gdS (SV.agg l)=false:=rfl
theorem ZsA (c m a):gdS (SV.sl c m a)=false:=rfl
theorem Zvy (k v):gdS (SV.mr k v)=false:=rfl
theorem ZvA (k v m i o):gdS (SV.pr k v m i o)=false:=rfl
theorem Zwa (k v m i l):gdS (SV.ms k v m i l)=false:=rfl
theorem ZtR (a o):gdS (SV.ps a o)=false:=rfl
theorem Zqh (f a):gdS (SV.cl f a)=false:=rfl
theorem ZpR (l):gdS (SV.tup l)=false:=rfl
theorem ZpX (φ):gdS (SV.q φ)=false:=rfl
theorem Zmp (k):gdS (SV.mp k)=false:=rfl
theorem Zm4 (k):gdS (SV.yl k)=false:=rfl
theorem Zm6 (T s):gdS (SV.ifc T s)=false:=rfl
theorem Zrk: gdS SV.any=false:=rfl
theorem Zwy (ρ k o):rnS ρ (SV.p k o)=SV.p (ρ k) o:=rfl
theorem ZsB (ρ k v):rnS ρ (SV.mr k v)=SV.mr (ρ k) v:=rfl
theorem ZtX (ρ k v m i o):rnS ρ (SV.pr k v m i o)=SV.pr (ρ k) v m i o:=rfl
theorem Ztk (ρ k v m i o):rnS ρ (SV.ms k v m i o)=SV.ms (ρ k) v m i o:=rfl
theorem ZwH (ρ k):rnS ρ (SV.mp k)=SV.mp (ρ k):=rfl
theorem ZwV (ρ k):rnS ρ (SV.yl k)=SV.yl (ρ k):=rfl
theorem ZuD (ρ l):rnS ρ (SV.agg l)=SV.agg (rnL ρ l):=rfl
theorem Zxe (ρ l):rnS ρ (SV.tup l)=SV.tup (rnL ρ l):=rfl
theorem Ztu (ρ f l):rnS ρ (SV.cl f l)=SV.cl f (rnL ρ l):=rfl
theorem Znd (ρ T s):rnS ρ (SV.ifc T s)=SV.ifc T (rnS ρ s):=rfl
theorem ZoG (ρ a):rnS ρ (SV.v a)=SV.v a:=rfl
theorem Zms (ρ c m a):rnS ρ (SV.sl c m a)=SV.sl c m a:=rfl
theorem ZpN (ρ l o):rnS ρ (SV.ps l o)=SV.ps l o:=rfl
theorem Zre (ρ φ):rnS ρ (SV.q φ)=SV.q φ:=rfl
theorem ZnS (ρ j w s):rnS ρ (SV.gd j w s)=SV.gd j w s:=rfl
theorem Zmi (ρ):rnS ρ SV.any=SV.any:=rfl
theorem Zxj (ρ):rnL ρ []=[]:=rfl
theorem Zxc (ρ s l):rnL ρ (s :: l)=rnS ρ s :: rnL ρ l:=rfl
theorem Zt0 (ρ l T):rnH ρ (HB.cells l T)=HB.cells (rnL ρ l) T:=rfl
theorem Zuo (ρ v m a T):rnH ρ (HB.row v m a T)=HB.row v m a T:=rfl
theorem ZvY (ρ φ):rnH ρ (HB.ob φ)=HB.ob φ:=rfl
theorem Ztl (ρ a c):rnH ρ (HB.map a c)=HB.map a c:=rfl
theorem ZuZ (ρ a b c d):rnH ρ (HB.it a b c d)=HB.it (ρ a) b c d:=rfl
theorem Zvi (ρ a b):rnH ρ (HB.lp a b)=HB.lp a b:=rfl
theorem Zt6 (ρ a):rnH ρ (HB.lb a)=HB.lb a:=rfl
theorem ZtB (ρ v m a T o b c d):rnH ρ (HB.rws v m a T o b c d)=HB.rws v m a T o b c d:=rfl
theorem Zti (ρ):rnH ρ HB.gone=HB.gone:=rfl
theorem Zsx (ρ):rnP ρ []=[]:=rfl
theorem Zv8 (ρ u s r):rnP ρ ((u,s) :: r)=(ρ u,rnH ρ s) :: rnP ρ r:=rfl
theorem ZiN (ρ):ZaI ρ 0=[]:=rfl
theorem ZiB (ρ j):ZaI ρ (Nat.succ j)=(ρ j,HB.gone) :: ZaI ρ j:=rfl
theorem ZvR (b x y):exB b x y=bif b then x else y:=rfl
theorem ZsU (a hp n d σ r K):cmK false a hp n d σ r K=Yy d a none { fr:=St.fr σ,hp:=hp,n:=n,N:=St.N σ,gs:=St.gs σ } r K:=rfl
theorem ZwU (a hp n d σ r K):cmK true a hp n d σ r K=K (Ex.pan a) { fr:=St.fr σ,hp:=hp,n:=n,N:=St.N σ,gs:=St.gs σ }:=rfl
theorem ZlJ (P Y a d σ r K f b):Zhk P Y (SV.cl f b) a d σ r K=ZdL P f (a ++ b) d σ r K:=rfl
theorem Zim (P Y a d σ r K k):Zhk P Y (SV.yl k) a d σ r K=YLD Y k a d σ r K:=rfl
theorem Zu1 (p T a s):mtI p T (SV.ifc a s)=(a=T/\p s):=rfl
theorem ZtV (p l):mtO p (some l)=p l:=rfl
theorem Zwu (p):mtO p none=False:=rfl
theorem ZsY (σ K hp n a):itE σ K hp n (HB.lp a none)=K Ex.n { fr:=St.fr σ,hp:=(St.n σ,HB.gone) :: hp,n:=n,N:=St.N σ,gs:=[] }:=rfl
theorem ZtN (σ K hp n a i):itE σ K hp n (HB.lp a (some (Ex.ex i)))=K (Ex.ex i) { fr:=St.fr σ,hp:=(St.n σ,HB.gone) :: hp,n:=n,N:=St.N σ,gs:=[] }:=rfl
theorem ZwO (σ K hp n a):itE σ K hp n (HB.lp a (some Ex.ret))=K Ex.ret { fr:=St.fr σ,hp:=(St.n σ,HB.gone) :: hp,n:=n,N:=St.N σ,gs:=[] }:=rfl
theorem ZwG (σ K o):itP σ K o=match Ot.pn o with | false=>itE σ K (Ot.hp o) (Ot.n o) (lkh (St.n σ) (Ot.hp o)) | true=>K (Ex.pan (Ot.res o)) { fr:=St.fr σ,hp:=Ot.hp o,n:=Ot.n o,N:=St.N σ,gs:=[] }:=rfl
theorem Zqt (a r):Zsd a (HB.lp r none)=(r=a):=rfl
theorem Zq5 (a r):Zl0 a (HB.lb r)=(r=a):=rfl
theorem ZwR (p a s l):pmS (p :: a) (s :: l)=(p,s) :: pmS a l:=rfl
theorem Zm8: Zl4 [] []=true:=rfl
theorem Zqw (a l b m):Zl4 (a :: l) (b :: m)=Zl4 l m:=rfl
theorem ZjN (N):Zag N []=true:=rfl
theorem Zig (N j r):Zag N (j :: r)=bif Nat.blt j N then Zag N r else false:=rfl
theorem ZtI (p):rfB true p=p:=rfl
theorem ZsO (p):rfB false p=False:=rfl
theorem Zws (P a b c σ K f d):rfK P a b (SV.cl f d) c σ K=gs0 (St.gs σ) (rfB (Zag (St.N σ) c) (RFUN P a b f d c σ K)):=rfl
theorem Zp0 (a hp n s):Zsb a hp n (some s)=a { pn:=false,res:=s,hp:=hp,n:=n }:=rfl
theorem ZqE (a hp n):Zsb a hp n none=False:=rfl
theorem Zmu (x s):ZxP (some s) x=rvD s x:=rfl
theorem Znf (x):ZxP none x=none:=rfl
theorem Znv (σ):Zd0 σ []=some []:=rfl
theorem Zmk (σ r a):Zd0 σ (r :: a)=ZxP (rv1 σ r) (Zd0 σ a):=rfl
theorem ZnJ (a b x):WC a b Ex.n x=Zsb b (St.hp x) (St.n x) (rvE (Zd0 x a)):=rfl
theorem ZqN (a b x):WC a b Ex.ret x=Zsb b (St.hp x) (St.n x) (rvE (Zd0 x a)):=rfl
theorem ZpK (a b x s):WC a b (Ex.pan s) x=b { pn:=true,res:=s,hp:=St.hp x,n:=St.n x }:=rfl
theorem ZpV (a b x c):WC a b (Ex.ex c) x=False:=rfl
theorem Zu4 (a b Φ x):bdE a b Φ Ex.n x=(Zl0 b (lkh a (St.hp x))/\Φ { pn:=false,res:=SV.v (Value.bool true),hp:=(a,HB.lp b none) :: St.hp x,n:=St.n x }):=rfl
theorem Zwo (a b Φ x i):bdE a b Φ (Ex.ex i) x=(Zl0 b (lkh a (St.hp x))/\Φ { pn:=false,res:=SV.v (Value.bool false),hp:=(a,HB.lp b (some (Ex.ex i))) :: St.hp x,n:=St.n x }):=rfl
theorem Zvr (a b Φ x):bdE a b Φ Ex.ret x=(Zl0 b (lkh a (St.hp x))/\Φ { pn:=false,res:=SV.v (Value.bool false),hp:=(a,HB.lp b (some Ex.ret)) :: St.hp x,n:=St.n x }):=rfl
theorem ZsZ (a b Φ x s):bdE a b Φ (Ex.pan s) x = Φ { pn:=true,res:=s,hp:=St.hp x,n:=St.n x }:=rfl
theorem Zut (a b c K x):asE a b c K Ex.n x=(Zsd b (lkh a (St.hp x))/\c { fr:=St.fr x,hp:=(a,HB.lb b) :: St.hp x,n:=St.n x,N:=St.N x,gs:=St.gs x } K):=rfl
theorem Zv2 (a b c K x i):asE a b c K (Ex.ex i) x=False:=rfl
theorem Zs1 (a b c K x):asE a b c K Ex.ret x=False:=rfl
theorem Zvc (a b c K x s):asE a b c K (Ex.pan s) x=False:=rfl
theorem ZsQ (x):rho [] x=0:=rfl
theorem Zvv (a b):rho (a :: b) 0=a:=rfl
theorem Zs2 (a l k):rho (a :: l) (Nat.succ k)=rho l k:=rfl
theorem ZtP (ρ a x):mtS ρ a SV.any x=True:=rfl
theorem ZtG (ρ a x k o):mtS ρ a (SV.p k o) x=(k < a/\x=SV.p (ρ k) o):=rfl
theorem ZtT (ρ a x k v):mtS ρ a (SV.mr k v) x=(k < a/\x=SV.mr (ρ k) v):=rfl
theorem ZvT (ρ a x k v m i o):mtS ρ a (SV.pr k v m i o) x=(k < a/\x=SV.pr (ρ k) v m i o):=rfl
theorem Zv7 (ρ a x k v m i o):mtS ρ a (SV.ms k v m i o) x=(k < a/\x=SV.ms (ρ k) v m i o):=rfl
theorem Zvu (ρ a x l):mtS ρ a (SV.agg l) x=mtO (mtL ρ a l) (Zad x):=rfl
theorem Zsu (ρ a x l):mtS ρ a (SV.tup l) x=mtO (mtL ρ a l) (Zxw x):=rfl
theorem Zt8 (ρ a x f l):mtS ρ a (SV.cl f l) x=mtO (mtL ρ a l) (clL f x):=rfl
theorem Zsq (ρ a x b):mtS ρ a (SV.v b) x=(x=SV.v b):=rfl
theorem ZmC (ρ a x c m b):mtS ρ a (SV.sl c m b) x=(x=SV.sl c m b/\KFR b):=rfl
theorem ZpS (ρ a x l o):mtS ρ a (SV.ps l o) x=(x=SV.ps l o/\KFL l):=rfl
theorem Zoc (ρ a x k):mtS ρ a (SV.mp k) x=(k < a/\x=SV.mp (ρ k)):=rfl
theorem Zqn (ρ a x k):mtS ρ a (SV.yl k) x=(k < a/\x=SV.yl (ρ k)):=rfl
theorem Zp1 (ρ a x T t):mtS ρ a (SV.ifc T t) x=mtI (mtS ρ a t) T x:=rfl
theorem ZqW (ρ a x φ):mtS ρ a (SV.q φ) x=(x=SV.q φ):=rfl
theorem Znq (ρ a x j w s):mtS ρ a (SV.gd j w s) x=False:=rfl
theorem ZwL (ρ a x):mtL ρ a [] x=(x=[]):=rfl
theorem Ztf (ρ a x s l):mtL ρ a (s :: l) x=mtB (mtS ρ a s) (mtL ρ a l) x:=rfl
theorem Zwm (ρ a x):mtH ρ a HB.gone x=True:=rfl
theorem ZuJ (ρ a l T b c):mtH ρ a (HB.cells l T) (HB.cells b c)=(c=T/\mtL ρ a l b):=rfl
theorem ZwA (ρ a x v m b T):mtH ρ a (HB.row v m b T) x=(x=HB.row v m b T/\KFR b):=rfl
theorem ZsT (ρ a x φ):mtH ρ a (HB.ob φ) x=(x=HB.ob φ):=rfl
theorem Zu0 (ρ a x b c):mtH ρ a (HB.map b c) x=(x=HB.map b c/\∀ (e:Nat × Value × SV),e ∈ b->KF (Prod.snd (Prod.snd e))):=rfl
theorem ZtC (ρ d x e a b c):mtH ρ d (HB.it e a b c) x=(e < d/\x=HB.it (ρ e) a b c):=rfl
theorem Zvh (ρ a x r b):mtH ρ a (HB.lp r b) x=(x=HB.lp r b):=rfl
theorem Zvm (ρ a x r):mtH ρ a (HB.lb r) x=(x=HB.lb r):=rfl
theorem Zwn (ρ a x v m b T o c d e):mtH ρ a (HB.rws v m b T o c d e) x=(x=HB.rws v m b T o c d e/\KFR b/\∀ (r:List (List SV)),r ∈ d->KFR r):=rfl
theorem Zpr (ρ a l T v m b c):mtH ρ a (HB.cells l T) (HB.row v m b c)=False:=rfl
theorem ZoB (ρ a l T φ):mtH ρ a (HB.cells l T) (HB.ob φ)=False:=rfl
theorem ZqJ (ρ a l T b c):mtH ρ a (HB.cells l T) (HB.map b c)=False:=rfl
theorem Zmw (ρ a l T b c d e):mtH ρ a (HB.cells l T) (HB.it b c d e)=False:=rfl
theorem Zou (ρ a l T b c):mtH ρ a (HB.cells l T) (HB.lp b c)=False:=rfl
theorem ZqV (ρ a l T b):mtH ρ a (HB.cells l T) (HB.lb b)=False:=rfl
theorem Zrb (ρ a l T v m b c o d e f):mtH ρ a (HB.cells l T) (HB.rws v m b c o d e f)=False:=rfl
theorem ZoN (ρ a l T):mtH ρ a (HB.cells l T) HB.gone=False:=rfl
theorem ZuA (p):mtM true p=True:=rfl
theorem Zuw (p):mtM false p=p:=rfl
theorem Zwf (ρ a x b):mtF ρ a x [] b=True:=rfl
theorem Ztn (ρ a x b t s r):mtF ρ a x ((t,s) :: r) b=(mtM (Xg t x) (mtS ρ a s (lk t b))/\mtF ρ a (t :: x) r b):=rfl
theorem Zxf (ρ a hp b):mtP ρ a hp b 0=True:=rfl
theorem Zs0 (ρ a hp b j):mtP ρ a hp b (Nat.succ j)=(mtH ρ b (lkh j a) (lkh (ρ j) hp)/\mtP ρ a hp b j):=rfl
theorem ZuQ (a):hpb a []=True:=rfl
theorem ZvJ (a u s r):hpb a ((u,s) :: r)=(u < a/\hpb a r):=rfl
theorem ZwY (a b):eqC 0 (SV.v (Value.bool a)) (SV.v (Value.bool b))=some (a == b):=rfl
theorem Zw8 (k a j b):eqC 1 (SV.v (Value.int k a)) (SV.v (Value.int j b))=bif ZcY k j then some (a == b) else none:=rfl
theorem Zwp (a b):eqC 2 (SV.v (Value.string a)) (SV.v (Value.string b))=some (ByteArray.toList a == ByteArray.toList b):=rfl
theorem Zvo (a b):eqA (some a) (some b)=some (a && b):=rfl
theorem Zow: Zhg [] [] []=some true:=rfl
theorem Zpz (c a b d y e):Zhg (c :: a) (b :: d) (y :: e)=eqA (eqC c b y) (Zhg a d e):=rfl
theorem Znx (c a b):ZpP c true (SV.agg a) (SV.agg b)=Zhg c a b:=rfl
theorem ZpL (c a b):ZpP c false (SV.v (Value.bool a)) (SV.v (Value.bool b))=some (a == b):=rfl
theorem ZsJ (a b):eqR a (some b)=some (SV.v (Value.bool (ngB a b))):=rfl
theorem ZsX (a):eqR a none=none:=rfl
theorem Zww (x):ngB true x = !x:=rfl
theorem Zwe (x):ngB false x=x:=rfl
theorem Zp4 (m hp c a b):ZwX m hp (SV.sl c a b)=ZhD b (Nat.beq m a):=rfl
theorem Znt (m hp):ZwX m hp (SV.v (Value.slice none 0 0))=some []:=rfl
theorem Zof (m hp k v):ZwX m hp (SV.mr k v)=ZhI m v (lkh k hp):=rfl
theorem ZnC (m a b):Zjw m (SV.sl true a b)=ZhD b (Nat.beq m a):=rfl
theorem Zqg (m):Zjw m (SV.v (Value.slice none 0 0))=some []:=rfl
theorem Zmy (g m b d σ r K a c):ZxN g m b (some a) (some c) d σ r K=APP g m b a c d σ r K:=rfl
theorem Zoo (g m b d σ r K a):ZxN g m b (some a) none d σ r K=False:=rfl
theorem Zn8 (g m b y d σ r K):ZxN g m b none y d σ r K=False:=rfl
theorem ZoS (l):Zad (SV.agg l)=some l:=rfl
theorem ZnH (l):Zxw (SV.tup l)=some l:=rfl
theorem Ztq (f a b):clL f (SV.cl a b)=bif Nat.beq a f then some b else none:=rfl
theorem Zwg (p q):mtB p q []=False:=rfl
theorem ZvO (p q s l):mtB p q (s :: l)=(p s/\q l):=rfl
theorem ZjX (x a b c d e f):Zp6 false true x a b c d e f=e { fr:=(x,SV.mr (St.n d) 0) :: St.fr d,hp:=(St.n d,HB.row 0 a b c) :: St.hp d,n:=St.n d+1,N:=St.N d,gs:=St.gs d } f:=rfl
theorem Zro (m a T σ r K b):Zoi (some b) m a T σ r K=Zp6 (Xg b (St.gs σ)) (Nat.blt b (St.N σ)) b m a T σ r K:=rfl
theorem Zpl (m a T σ r K):Zoi none m a T σ r K=False:=rfl
theorem Zqe (b d m T σ r K a):Zrx b d m (some []) (some a) T σ r K=CLN b d m a T σ r K:=rfl
theorem Zrw (b d m y T σ r K a c):Zrx b d m (some (a :: c)) y T σ r K=False:=rfl
theorem Zra (b d m T σ r K):Zrx b d m (some []) none T σ r K=False:=rfl
theorem ZqM (b d m y T σ r K):Zrx b d m none y T σ r K=False:=rfl
theorem Zot (b d m z T σ r K k n):ZAq b d m z (SV.v (Value.int k n)) T σ r K=MKS b d m (lit z) n T σ r K:=rfl
theorem ZnI (d σ r K c m a):ZBe d (SV.sl c m a) σ r K=ISN d a σ r K:=rfl
theorem ZnA (g d σ r K c m a b n e j):ZBq g (SV.sl c m a) (SV.v (Value.int b n)) (SV.v (Value.int e j)) d σ r K=SLC g n j m a d σ r K:=rfl
theorem ZpD (g m a d σ r K i j):Zxv g m a (some i) (some j) d σ r K=SUB g i j m a d σ r K:=rfl
theorem Zqj (g m a d σ r K b):Zxv g m a (some b) none d σ r K=False:=rfl
theorem ZmG (g m a b d σ r K):Zxv g m a none b d σ r K=False:=rfl
theorem Zne (a ρ):Zb6 a ρ none=some a:=rfl
theorem ZmA (a ρ b):Zb6 a ρ (some b)=match ρ b with | SV.v (Value.int k n)=>some n | x=>none:=rfl
theorem ZoO (m c a b):Zea m (SV.sl c a b)=ZhD b (Nat.beq m a):=rfl
theorem Zop (m):Zea m (SV.v (Value.slice none 0 0))=some []:=rfl
theorem Zru (x h j w):Zxr false (.v x) h j w=false:=rfl
theorem Zgv (x l):Zn (x :: l) 0 []=x :: l:=rfl
theorem Zgd:Zn [] 0 []=[]:=rfl
attribute [go_sem] Zpu Zno Zpt ZpB w64_0 w64_1 w64_2 w64_3 w64_4 w64_5 w64_6 e_stO Zzb Zto Znc Zue ZAj ZnV Zp7 Zvs Zpw ZpH ZqQ Zzf Zxl ZAN Zwv Zw5 phx_1 phx_2 phK_n Zs7 ZyC ZvQ Zyf ZoM Zs5 Zwq ZwJ Zpq sx_gh Znw Ztj ZyW Zvw ZoH Zyr Zn3 ZAD Zob ZzO Zte ZmZ lkB_t lkB_f ZAw Zyd ZtK Zun ZAa Zyn ZpO Zwi ZwQ Zzi Zzz ZAv e_lk e_lk0 e_lkh Zx3 ZAy ZuV e_blk Zh6 Zqq ZtL Zve Zta ZkT Zn4 ZjQ Zme ZvG Ztw Zuj Zlu ZnR Zex Zgy Zln ZiC Zla Zee ZgF ZgV Zjs Zp9 ZpM ZoW Zhs ZlY Zvd Zg8 Zk9 Zos ZnD ZmP Zgo Zlj Zg3 Zg4 Zk3 ZjM Zqp Zpc Zn5 ZmI Zqu Zmx ZgS Zg9 ZjC Zkj ZgT Zlf ZoP ZmW ZnT Zhd ZhQ ZgW ZkU ZoX Zpk Zoy Zgf Zke ZeE Zhv ZkS ZlK ZiA Zg5 Zh2 ZoR ZuU Zt3 Zw7 Zkf ZoI ZgP Zjx ZmK Zn7 ZmH Zf9 ZkQ ZgI ZiX ZgH Zh9 Zd7 Zho Zlp Zh4 ZjZ ZeC Zhe Zd4 ZeH e_yld e_exR e_hpM Zh3 Zef Zg2 ZjL ZiI ZiF Zgi Zkh Zuk Zd8 Zgs Zd9 Zgw ZcX ZbN Zc6 ZbL ZaR e_rdG ZyI ZzP ZyD e_alw ZyA e_vw1 e_vw2 e_vw3 e_vw4 Zpy Zpp ZyS ZkA Ziy Zhz ZhA Zhh Zhu ZgJ Zgm ZgM ZgK ZgC ZkC Zhx Zhr Zgn ZlM Zge ZgG Zgb Zps Zon Zip Zih Zjb Zjk Zm5 ZmU Zza ZuY Zsz e_mm e_bld ZgQ ZyJ ZmS ZkD ZpQ Zoh Zmc ZhU ZlD e_rvR ZAP Zxa Zu3 ZmB Zha ZeM ZkP Zmd Zf8 Zk8 Zka ZqL ZgU Zjd ZjO ZkY Zio ZlN Zm9 Zgr Zhq ZkV Zhp Zlx e_rvs Zmb ZiV Zrr Zxo Zz0 ZhS ZlF Zia Zi4 Zmt Zor Zv5 Zt4 ZsF ZsN ZuG Zw2 ZsW ZpC Zoq ZoD Zok Zoa ZmF Zpf ZmN Zns ZqZ Zmh ZoE Zt5 Zw4 ZvN Zux Zvz ZwW Zup Zvf Zwr Zwh ZsS Zwc Zv3 Zmz Zmg Zo6 ZnP ZmY Zpn ZqO Zo7 ZiG Zj7 ZqB Zpe ZiH Zjo ZtQ Zui ZjG ZjW Zj4 ZkR ZpU ZmJ Zld ZmR Zn2 Znu ZqT ZoK Zmr ZpA Zol ZoT Zn1 ZsK ZtJ ZwP Zv4 ZuN ZsV Ztp Zth ZmO Zri Zrl ZpF ZpE Zml Zqo ZqS ZqK Zmv Zrs Zqz Zmo Zqb Zna Zpg Znn ZmT Zmf Zi5 Zh5 Zkm Zkc Zi2 Zix Zis ZjF Zil Zkr ZhZ ZhP ZlQ Zjr ZlR Zib ZiT Zjm Zj2 Zie Zku ZhW Zk4 Zi3 Zkk Zh1 ZkM Zkw Zik Zp3 ZmQ ZiJ Zo4 Zo1 Zo3 Zo8 Zq3 Znz ZAx Zy6 Zqc Zpa ZnO ZnX ZmD Zoz Zq0 ZpI Znm ZpG ZqF ZqG Zpb ZnM Zqd Zqy ZnW Zp8 Zq4 ZmX Zo5 Zq9 ZwE Zq7 Zm0 ZtY Zxn Zv1 ZtE Zht Zhb Zs3 ZwB Zuq ZuM ZvI ZtH Zw0 ZuO ZuK Zo2 Znl ZoL ZmV ZlL ZxV ZAC Ztd ZsL ZoA Zqm ZtW ZmM Zo9 ZqR Zq6 ZqH ZoF ZoC Zox ZsC Zxb Zw3 ZvF ZvH Zwz ZtM Zhl Zhn Zoj Zom ZqP Zrh Zrn Zu2 Zwk Zrd Zqi ZnL ZoY Zuu Zuz Zty Ztc ZsA Zvy ZvA Zwa ZtR Zqh ZpR ZpX Zmp Zm4 Zm6 Zrk Zwy ZsB ZtX Ztk ZwH ZwV ZuD Zxe Ztu Znd ZoG Zms ZpN Zre ZnS Zmi Zxj Zxc Zt0 Zuo ZvY Ztl ZuZ Zvi Zt6 ZtB Zti Zsx Zv8 ZiN ZiB ZvR ZsU ZwU ZlJ Zim Zu1 ZtV Zwu ZsY ZtN ZwO ZwG Zqt Zq5 ZwR Zm8 Zqw ZjN Zig ZtI ZsO Zws Zp0 ZqE Zmu Znf Znv Zmk ZnJ ZqN ZpK ZpV Zu4 Zwo Zvr ZsZ Zut Zv2 Zs1 Zvc ZsQ Zvv Zs2 ZtP ZtG ZtT ZvT Zv7 Zvu Zsu Zt8 Zsq ZmC ZpS Zoc Zqn Zp1 ZqW Znq ZwL Ztf Zwm ZuJ ZwA ZsT Zu0 ZtC Zvh Zvm Zwn Zpr ZoB ZqJ Zmw Zou ZqV Zrb ZoN ZuA Zuw Zwf Ztn Zxf Zs0 ZuQ ZvJ ZwY Zw8 Zwp Zvo Zow Zpz Znx ZpL ZsJ ZsX Zww Zwe Zp4 Znt Zof ZnC Zqg Zmy Zoo Zn8 ZoS ZnH Ztq Zwg ZvO ZjX Zro Zpl Zqe Zrw Zra ZqM Zot ZnI ZnA ZpD Zqj ZmG Zne ZmA ZoO Zop Zru Zgv Zgd List.drop List.take List.length List.cons_append List.nil_append Nat.beq Nat.blt Nat.ble Nat.zero_add Nat.add_zero Nat.mul_one Nat.zero_mul Nat.one_mul cond_true cond_false List.set
end Go.Sx
