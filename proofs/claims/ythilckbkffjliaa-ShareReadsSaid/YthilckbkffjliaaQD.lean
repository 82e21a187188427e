/- Walks and plain laws that lead to the given statement, part 4 of 9. -/
import Derived.Test.YthilckbkffjliaaQC
set_option linter.all false
open Nat renaming reduceAdd->rA,reduceMul->rM,reduceSub->rS,beq_refl->nbr
namespace Go.Sx
open Go Go.RowKit
variable {Y:Hd}
section
variable (P:Program) (m:Nat) (σ : St) (K:Ex->St->Prop) (L:RK)
theorem Zye:rx P Y [] σ L=L .n σ:=rfl
theorem Zt5 (io:Ins) (r:List Ins):rx P Y (io :: r) σ L=st1 P Y io σ (rx P Y r) L:=rfl
theorem Zzs (ops:List Ins):sx P Y m (.reg ops) σ K=rx P Y ops σ (Zbs K):=rfl
theorem ZtW (ord:List Nat) (p:Ph) (ps:List Ph):sx P Y m (.regs ord p ps) σ K=phx P Y p ps σ (Zbs K):=rfl
theorem phx_1 (vs:List VI) (nA nB:Nat) (rest:List Ins):phx P Y ⟨vs,nA,nB,rest⟩ [] σ L=gs0 σ.gs (rxv P Y (ZbV σ.hp (rx P Y rest)) vs σ L):=rfl
theorem phx_2 (vs:List VI) (nA nB:Nat) (rest:List Ins) (q:Ph) (ps:List Ph):phx P Y ⟨vs,nA,nB,rest⟩ (q :: ps) σ L=gs0 σ.gs (rxv P Y (ZbV σ.hp (rx P Y rest)) vs σ (phK (phx P Y q ps) L)):=rfl
theorem phK_n (f:St->RK->Prop):phK f L .n σ = f σ L:=rfl
theorem Zuv (ord:List Nat) (vs:List VI) (nA nB:Nat) (rest:List Ins):sx P Y m (.regd ord vs nA nB rest) σ K=gs0 σ.gs (rxv P Y (ZbV σ.hp (rx P Y rest)) vs σ (Zbs K)):=rfl
theorem ZrH (r:KT):rxv P Y r [] σ L=r σ L:=rfl
theorem Zyj (r:KT) (io:Ins) (l:List VI):rxv P Y r (.op io :: l) σ L=st1 P Y io σ (rxv P Y r l) L:=rfl
theorem ZmS (r:KT) (x:X) (l:List VI):rxv P Y r (.hide x :: l) σ L=Zde (rdG none σ.fr x) σ (rxv P Y r l) L:=rfl
theorem Zn9 (hp:List (Nat × HB)) (r:KT):ZbV hp r σ L=r ⟨σ.fr,hp,σ.n,σ.N,σ.gs⟩ L:=rfl
theorem Zsz (k o:Nat) (r:KT):Zde (.p k o) σ r L=r ⟨σ.fr,(k,.gone) :: σ.hp,σ.n,σ.N,σ.gs⟩ L:=rfl
theorem ZoD (k v:Nat) (r:KT):Zde (.mr k v) σ r L=r ⟨σ.fr,(k,.gone) :: σ.hp,σ.n,σ.N,σ.gs⟩ L:=rfl
theorem ZnL (k v m i o:Nat) (r:KT):Zde (.pr k v m i o) σ r L=r ⟨σ.fr,(k,.gone) :: σ.hp,σ.n,σ.N,σ.gs⟩ L:=rfl
theorem Zp0 (k v m i o:Nat) (r:KT):Zde (.ms k v m i o) σ r L=r ⟨σ.fr,(k,.gone) :: σ.hp,σ.n,σ.N,σ.gs⟩ L:=rfl
theorem Zry (p:Prop):gs0 [] p=p:=rfl
theorem Zw2 (a b:SC):sx P Y m (.seq a b) σ K=sx P Y m a σ (Zuo (sx P Y m b) K):=rfl
theorem Zsc (c:X) (a b:SC):sx P Y m (.cond c a b) σ K=ZzP (rdG none σ.fr c) (sx P Y m a) (sx P Y m b) σ K:=rfl
theorem Zp7 (id:Nat) (c:SC):sx P Y m (.block id c) σ K=sx P Y m c σ (ZqK id K):=rfl
theorem ZuE (c:SC):sx P Y m (.loop c) σ K=ZuJ m (sx P Y m c) σ K:=rfl
theorem ZtD (id:Nat):sx P Y m (.exit id) σ K=K (.ex id) σ:=rfl
theorem ZxI:sx P Y m .ret σ K=K .ret σ:=rfl
theorem ZrD:sx P Y m .skip σ K=K .n σ:=rfl
theorem Znt (c:SC):sx P Y m (.scope c) σ K=sx P Y m c σ K:=rfl
theorem sx_gh (c:SC):sx P Y m (.gh c) σ K=GH m (sx P Y m c) σ K:=rfl
theorem ZnD (l:Nat):sx P Y m (.label l) σ K=K .n σ:=rfl
theorem Zsr (e:Ex):Zbs K e σ = K e (W1 σ):=rfl
theorem Zx0 (f:CT):Zuo f K .n σ = f σ K:=rfl
theorem Zr6 (f:CT) (i:Nat):Zuo f K (.ex i) σ = K (.ex i) σ:=rfl
theorem ZpQ (f:CT) (s:SV):Zuo f K (.pan s) σ = K (.pan s) σ:=rfl
theorem Zmz (f:CT):Zuo f K .ret σ = K .ret σ:=rfl
theorem Zxs (id:Nat):ZqK id K .n σ = K .n σ:=rfl
theorem Zoa (id:Nat) (s:SV):ZqK id K (.pan s) σ = K (.pan s) σ:=rfl
theorem Zqi (id:Nat):ZqK id K .ret σ = K .ret σ:=rfl
theorem ZxP (rs:List RV) (res:SV):ZzE rs res .n σ = (rvR rs σ = some res):=rfl
theorem Zlo (rs:List RV) (res:SV):ZzE rs res .ret σ = (rvR rs σ = some res):=rfl
theorem Zxd {S:Type} (st:S->St) (rel:S->Prop) (μ : S->Nat) (s:S):ZpE m st rel μ s K .n σ = ∃ s',rel s'/\μ s' < μ s/\Ent m σ (st s'):=rfl
theorem Zv2 {S:Type} (st:S->St) (rel:S->Prop) (μ : S->Nat) (s:S) (i:Nat):ZpE m st rel μ s K (.ex i) σ = K (.ex i) σ:=rfl
theorem ZmN {S:Type} (st:S->St) (rel:S->Prop) (μ : S->Nat) (s:S) (x:SV):ZpE m st rel μ s K (.pan x) σ = K (.pan x) σ:=rfl
theorem Zm1 {S:Type} (st:S->St) (rel:S->Prop) (μ : S->Nat) (s:S):ZpE m st rel μ s K .ret σ = K .ret σ:=rfl
end
section
variable {P:Program} {m:Nat} {σ : St} {K:Ex->St->Prop} {L:RK} {r:KT} {d:Option Nat} {g:Option (Nat × Bool)}
theorem br {b:Bool} {f h:CT} (h1:b=true->f σ K) (h2:b=false->h σ K):BR b f h σ K:=⟨h1,h2⟩
theorem ZK {b:Bool} {f h:CT} (hb:b=true) (h1:f σ K):BR b f h σ K:=⟨fun _=>h1,fun e=>by rw [hb] at e;cases e⟩
theorem Zz {b:Bool} {f h:CT} (hb:b=false) (h1:h σ K):BR b f h σ K:=⟨fun e=>by (rw [hb] at e;cases e),fun _=>h1⟩
theorem gb {b w:Bool} {j:Nat} {i:SI} (h:Ye P (some (j,w)) d i σ r L):GB P Y b j w d i σ r L:=.inr (.inr h)
theorem Yz {b w:Bool} {j:Nat} {i:SI} (hb:b=w) (h:stp P Y d i σ r L):GB P Y b j w d i σ r L:=.inl ⟨hb,h⟩
theorem ZdR {b w:Bool} {j:Nat} {i:SI} (hb:b≠w) (h:Ztz d σ r L):GB P Y b j w d i σ r L:=.inr (.inl ⟨hb,h⟩)
theorem call {f:FuncId} {args:List SV} {res:SV} (h:Ct P f args res) (hk:Ym d res g σ r L):Zwp P g f args d σ r L:=⟨res,.inl (ZG.2 fun _=>h),hk⟩
theorem UD {f:FuncId} {args:List SV} {res:SV} (hf:FLT res) (h:Ct P f (ZaU (vw4 σ.hp) args) res) (hk:Ym d res g σ r L):Zwp P g f args d σ r L:=⟨res,.inr ⟨hf,ZG.2 fun _=>h⟩,hk⟩
theorem ZzG {b:BinOp} {k:IntKind} {x y:Int} (h:y≠0) (hk:Ym d (.v (.int k (Zws b k x y))) g σ r L):DIV g b k x y d σ r L:=⟨ZG.2 fun _=>h,hk⟩
theorem ixs {xs:List (List SV)} {i:Int} (n:Nat) (row:List SV) (hi:i=(n:Int)) (hr:xs[n]? = some row) (hk:Ym d (.ps row 0) g σ r L):IXS g xs i d σ r L:=⟨row,ZG.2 fun _=>⟨n,hi,hr⟩,hk⟩
theorem ZF {α : Type} {l:List α} {f:α->List SV} {i:Int} (n:Nat) (hn:n < l.length) (hi:i=(n:Int)) (hk:Ym d (.ps (f l[n]) 0) g σ r L):IXS g (l.map f) i d σ r L :=
 ixs n _ hi (by simp [hn]) hk
theorem ixa {len:Nat} {i:Int} {F:Nat->Option SV} (n:Nat) (hi:i=(n:Int)) (hn:n < len) (hk:XW (F n) d g σ r L):IXA g len i F d σ r L:=⟨n,ZG.2 fun _=>⟨hi,hn⟩,hk⟩
theorem loop {f:CT} {S:Type} (st:S->St) (rel:S->Prop) (μ : S->Nat) (s:S) (h0:rel s) (he:Ent m σ (st s)) (hb:∀ s,rel s->f (st s) (ZpE m st rel μ s K)):ZuJ m f σ K :=
 .inr ⟨S,st,rel,μ,⟨s,h0,he⟩,hb⟩
theorem Zrg {f:CT} (n:Nat) (h:Zwk f K n σ):ZuJ m f σ K:=.inl ⟨n,h⟩
theorem ZV {f:CT} (n:Nat):Zwk f K (n+1) σ = f σ (ZwH (Zwk f K n) K):=rfl
theorem Zzt (p:St->Prop):ZwH p K .n σ = p σ:=rfl
theorem ZsH (p:St->Prop) (i:Nat):ZwH p K (.ex i) σ = K (.ex i) σ:=rfl
theorem Zo2 (p:St->Prop) (s:SV):ZwH p K (.pan s) σ = K (.pan s) σ:=rfl
theorem Zox (p:St->Prop):ZwH p K .ret σ = K .ret σ:=rfl
def ZwE:List (Nat × SV)->List (Nat × SV)->Prop
 | [],_=>True
 | (t,s) :: r,fr=>lk t fr=s/\ZwE r fr
def ZwB:List (Nat × SV)->Bool
 | []=>true
 | (_,.gd _ _ _) :: _=>false
 | _ :: r=>ZwB r
theorem Zkz:∀ {r fr:List (Nat × SV)},ZwE r fr->∀ t,lk t r = .any\/lk t r=lk t fr
 | [],_,_,t=>.inl rfl
 | (u,s) :: r,fr,h,t=>by
  rw [Zu]
  by_cases ht:t=u
  . subst ht;rw [if_pos rfl];exact .inr h.1.symm
  . rw [if_neg ht];exact Zkz h.2 t
theorem Zdp:∀ {r:List (Nat × SV)},ZwB r=true->∀ t j b s,lk t r≠.gd j b s
 | [],_,t,j,b,s=>by simp [lk]
 | (u,s') :: r,h,t,j,b,s=>by
  rw [Zu]
  by_cases ht:t=u
  . rw [if_pos ht];rintro rfl;simp [ZwB] at h
  . rw [if_neg ht];exact Zdp (by cases s'<;>first | exact h | simp [ZwB] at h) t j b s
end
section
variable {w:World} {E:Env} {ok ok':Nat->Prop} {ρ : Nat->Nat} {n':Nat} {n:Nat->Prop}
theorem ent {σ σ':St} (ρ : Nat->Nat) (hf:mtF ρ σ'.n [] σ'.fr σ.fr) (hp:mtP ρ σ'.hp σ.hp σ'.n σ'.n) (hb:hpb σ'.n σ'.hp) (hρ : ∀ i,i < σ'.n->∀ j,j < σ'.n->ρ i = ρ j->i=j) (hN:Nat.beq σ'.N σ.N=true) {m0:Nat} (hm:Nat.ble m0 σ'.n=true) (hfix:∀ i,i < m0->ρ i=i):Ent m0 σ σ':=by
 intro C E a w hm0 h
 have hN:=Nat.eq_of_beq_eq_true hN
 have hgone:=ZbN hb
 have hH:=Zik hp
 have hocc:∀ k b,occ (rnE E ρ) k (lkh k σ'.hp) b->k < σ'.n/\occ E (ρ k) (lkh (ρ k) σ.hp) b:=fun k b ho=>by
  by_cases hk:k < σ'.n
  . refine ⟨hk,?_⟩
    have:=hH k hk
    cases h1:lkh k σ'.hp<;>rw [h1] at ho this
    . cases h2:lkh (ρ k) σ.hp<;>rw [h2] at this<;>simp only [mtH] at this
      exact ho
    . simp only [mtH] at this;rw [this.1];exact ho
    . simp only [mtH] at this;rw [this];exact ho
    . simp only [mtH] at this;rw [this.1];exact ho
    . simp only [mtH] at this;rw [this.2];exact ho
    . simp only [mtH] at this;rw [this];exact ho
    . simp only [mtH] at this;rw [this];exact ho
    . simp only [mtH] at this;rw [this.1];exact ho
    . exact ho.elim
  . rw [hgone k hk] at ho;exact ho.elim
 have hst:Zt w w (okS C E σ.hp) (okS C (rnE E ρ) σ'.hp):=fun b hb _=>⟨⟨hb.1,fun k ho=>hb.2 _ (hocc k b ho).2⟩,rfl⟩
 refine ⟨rnE E ρ,fun t=>?_,by rw [hN];exact h.sz,XU hst h.df,fun t j b s ht=>?_,⟨hgone,fun k=>?_,fun k k' b h1 h2=>?_,fun k b h1=>?_,h.hs.kp,fun k hk=>?_⟩⟩
 . rcases Zhe hf t rfl with h1 | h1
   . rw [h1];exact trivial
   . have:=mtS_R hst h1 (h.fr t)
     have hng:=Zb8 h1
     cases hs:lk t σ'.fr<;>rw [hs] at this hng<;>first | exact this | exact absurd rfl (hng _ _ _)
 . rcases Zhe hf t rfl with h1 | h1
   . rw [h1] at ht;cases ht
   . exact absurd ht (Zb8 h1 j b s)
 . by_cases hk:k < σ'.n
   . have:=hH k hk
     have hbk:=h.hs.bk (ρ k)
     cases h1:lkh k σ'.hp<;>rw [h1] at this
     . cases h2:lkh (ρ k) σ.hp<;>rw [h2] at this hbk<;>simp only [mtH] at this
       obtain ⟨rfl,this⟩:=this
       simp only [ZT] at hbk ⊢
       obtain ⟨cs,k1,k2⟩:=hbk
       exact ⟨cs,k1,U6 hst _ _ _ this k2⟩
     . simp only [mtH] at this
       rw [this.1] at hbk
       simp only [ZT] at hbk ⊢
       obtain ⟨hi0,hbk⟩:=hbk
       refine ⟨hi0,?_⟩
       rcases hbk with q | ⟨b,cap,cs,q1,q2,q3,q4,q5,q6,q7⟩
       . exact .inl q
       . exact .inr ⟨b,cap,cs,q1,q2,q3,q4,q5,q6,Zx hst (fun _ h=>Ele.rfl) (fun _ h=>h.elim) _ _ (ZaH (E':=rnE E ρ) (n':=fun _=>False) _ _ (WV this.2) q7)⟩
     . rename_i φ
       simp only [mtH] at this
       rw [this] at hbk
       simp only [ZT] at hbk ⊢
       obtain ⟨o,k1,k2⟩:=hbk
       exact ⟨o,k1,φ.mono _ _ _ _ _ hst k2⟩
     . simp only [mtH] at this
       obtain ⟨this,hkf⟩:=this
       rw [this] at hbk
       simp only [ZT] at hbk ⊢
       obtain ⟨ys,k1,k2⟩:=hbk
       exact ⟨ys,k1,ZlC hst _ _ hkf k2⟩
     . simp only [mtH] at this
       rw [this.2] at hbk
       simp only [ZT] at hbk ⊢
       exact ⟨this.1,hbk.2⟩
     . simp only [mtH] at this
       rw [this] at hbk
       simp only [ZT] at hbk ⊢
       exact hbk
     . simp only [mtH] at this
       rw [this] at hbk
       simp only [ZT] at hbk ⊢
       exact hbk
     . simp only [mtH] at this
       obtain ⟨this,k1,k2⟩:=this
       rw [this] at hbk
       exact Vf (E:=E) (k:=ρ k) (E':=rnE E ρ) hst.c (fun _ _=>rfl) rfl hk k1 k2 hbk
     . trivial
   . rw [hgone k hk];trivial
 . have e1:=hocc k b h1
   have e2:=hocc k' b h2
   exact hρ k e1.1 k' e2.1 (h.hs.dj _ _ b e1.2 e2.2)
 . obtain ⟨e1,e2⟩:=hocc k b h1
   rcases h.hs.lo _ b e2 with q | q
   . exact .inl q
   . have q1:=Nat.lt_of_lt_of_le (hm0.2 _ _ q) hm0.1
     have q2:ρ k=k:=hρ _ (Nat.lt_of_lt_of_le q1 (Nat.le_of_ble_eq_true hm)) k e1 (hfix _ q1)
     rw [q2] at q;exact .inr q
 . have hk':k < m0:=Nat.lt_of_lt_of_le hk hm0.1
   obtain ⟨p1,p2,p3,p4⟩:=h.hs.pin k hk
   exact ⟨Nat.lt_of_lt_of_le hk' (Nat.le_of_ble_eq_true hm),by simp only [rnE,hfix k hk'];exact p2,by simp only [rnE,hfix k hk'];exact p3,by simp only [rnE,hfix k hk'];exact p4⟩
end
theorem Zni {ρ : Nat->Nat} {n':Nat}:∀ {s:SV},KF s->mtS ρ n' s s:=by
 intro s
 exact SV.rec (motive_1:=fun s=>KF s->mtS ρ n' s s) (motive_2:=fun l=>KFL l->mtL ρ n' l l) (motive_3:=fun _=>True)
  (fun x _=>by simp [mtS]) (fun k o h=>by simp [KF] at h) (fun l ih h=>by simp only [KF] at h;simp only [mtS,VT,mtO];exact ih h)
  (fun c m xs _ h=>by simp only [KF] at h;simp [mtS,h]) (fun k v h=>by simp [KF] at h) (fun k v m i o h=>by simp [KF] at h) (fun k v m i o h=>by simp [KF] at h)
  (fun l o _ h=>by simp only [KF] at h;simp [mtS,h]) (fun f l ih h=>by simp only [KF] at h;simp only [mtS,clL,nbr,cond_true,mtO];exact ih h)
  (fun l ih h=>by simp only [KF] at h;simp only [mtS,ZwF,mtO];exact ih h) (fun k h=>by simp [KF] at h) (fun k h=>by simp [KF] at h) (fun T s ih h=>by simp only [KF] at h;simp only [mtS,mtI];exact ⟨trivial,ih h⟩) (fun φ _=>by simp [mtS]) (fun j w s _ h=>by simp [KF] at h) (fun _=>by simp [mtS])
  (fun _=>by simp [mtL]) (fun s l h1 h2 h=>by simp only [KFL] at h;simp only [mtL,mtB];exact ⟨h1 h.1,h2 h.2⟩)
  trivial (fun _ _ _ _=>trivial) s
theorem Zd {ρ : Nat->Nat} {n':Nat}:∀ {l:List SV},KFL l->mtL ρ n' l l
 | [],_=>by simp [mtL]
 | s :: l,h=>by simp only [mtL,mtB];exact ⟨Zni h.1,Zd h.2⟩
abbrev I (n:Int):SV:=.v (.int .i64 n)
abbrev B (b:Bool):SV:=.v (.bool b)
theorem Ze:∀ {xs ys:List (List SV)},KFR (xs ++ ys)↔KFR xs/\KFR ys
 | [],ys=>by simp [KFR]
 | x :: xs,ys=>by simp [KFR,Ze (xs:=xs) (ys:=ys),and_assoc]
theorem Zc {α : Type} {f:α->List SV} {l:List α}:KFR (l.map f)↔∀ x ∈ l,KFL (f x):=by
 induction l with
 | nil=>simp [KFR]
 | cons x l ih=>simp [KFR,ih]
theorem Zi {n:Int} (h1:-9223372036854775808<=n) (h2:n<=9223372036854775807):IntKind.i64.wrap n=n:=IntWalk.i64_in n ⟨h1,h2⟩
def stO {S:Type} (σ : St) (ov:S->List (Nat × SV)) (hv:S->List (Nat × HB)) (s:S):St:=⟨ov s ++ σ.fr,hv s ++ σ.hp,σ.n,σ.N,[]⟩
theorem e_stO {S:Type} (fr:List (Nat × SV)) (hp:List (Nat × HB)) (n N:Nat) (gs:List Nat) (ov:S->List (Nat × SV)) (hv:S->List (Nat × HB)) (s:S):stO ⟨fr,hp,n,N,gs⟩ ov hv s=⟨ov s ++ fr,hv s ++ hp,n,N,[]⟩:=rfl
theorem YY {m:Nat} {f:CT} {σ : St} {K:Ex->St->Prop} {S:Type} (ov:S->List (Nat × SV)) (hv:S->List (Nat × HB)) (rel:S->Prop) (μ : S->Nat) (s0:S) (h0:rel s0) (he:Ent m σ (stO σ ov hv s0))
 (hb:∀ s,rel s->f (stO σ ov hv s) (ZpE m (stO σ ov hv) rel μ s K)):ZuJ m f σ K :=
 loop (stO σ ov hv) rel μ s0 h0 he hb
theorem Zg3 {m:Nat} {f:CT} {σ σ1:St} {K:Ex->St->Prop} {S:Type} (hg:Ent m σ σ1) (ov:S->List (Nat × SV)) (hv:S->List (Nat × HB)) (rel:S->Prop) (μ : S->Nat) (s0:S) (h0:rel s0) (he:Ent m σ1 (stO σ1 ov hv s0))
 (hb:∀ s,rel s->f (stO σ1 ov hv s) (ZpE m (stO σ1 ov hv) rel μ s K)):ZuJ m f σ K :=
 loop (stO σ1 ov hv) rel μ s0 h0 (Y4 hg he) hb
theorem gh {m:Nat} {r:CT} {σ σ1:St} {K:Ex->St->Prop} (hg:Ent m σ σ1) (h:r σ1 K):GH m r σ K:=⟨σ1,hg,h⟩
theorem ZxM {C:Cx} {E:Env} {hp:List (Nat × HB)} {n:Nat->Prop} {w:World} {m k v m':Nat} {xs:List (List SV)} {T:TypeId} (hmc:MC C m) (hm:m<=k) (h:HSim C E hp n w) (hk:lkh k hp = .row v m' xs T) :
 (xs=[]/\∃ a,E.hv k v = .slice a 0 0)\/∃ b cap,E.hv k v = .slice (some ⟨b,0,none⟩) xs.length cap/\xs.length<=cap/\cap≠0/\xs.length<=9223372036854775807/\RR w E n (okS C E ((k,.gone) :: hp)) b m' xs 0:=by
 have hb:=h.bk k
 rw [hk] at hb;simp only [ZT] at hb
 rcases hb with ⟨_,h1 | ⟨b,cap,cs,h1,h2,h3,⟨h4,h4'⟩,h5,h6,h7⟩⟩
 . exact .inl h1
 . have hoc:occ E k (lkh k hp) b:=by rw [hk];exact ⟨_,_,h1,h4'⟩
   have hok:okS C E ((k,.gone) :: hp) b:=by
    refine ⟨?_,fun j ho=>?_⟩
    . rcases h.lo k b hoc with q | q
      . exact .inr q
      . have:=hmc.2 k b q;have:=hmc.1;omega
    . rw [Zk] at ho
      split at ho
      . exact ho.elim
      . exact absurd (h.dj j k b ho hoc).symm (by omega)
   exact .inr ⟨b,cap,h1,h4,h4',h5,X5 (cs:=cs) (ok:=okS C E hp) hok (fun j c hj=>by rw [cell_of_row _ _ _ _ _ _ h2];simpa using hj) (VO h k).2 xs 0 h6 (by simpa using h7)⟩
theorem Zno {m:Nat} {σ : St} (t k:Nat) (s:SV) (hg:σ.gs=[]) (hs:∀ j b u,s≠.gd j b u) (hR:∀ C E w y,MC C m->HSim C E σ.hp (ltn σ.n) w->R w E (ltn σ.n) (okS C E σ.hp) (lk t σ.fr) y->R w E (ltn σ.n) (okS C E ((k,.gone) :: σ.hp)) s y) :
 Ent m σ ⟨(t,s) :: σ.fr,(k,.gone) :: σ.hp,σ.n,σ.N,σ.gs⟩:=fun C E a w hmc h=>by
 obtain ⟨g1,g2⟩:=VO h.hs k
 have hR0:∀ u,R w E (ltn σ.n) (okS C E σ.hp) (lk u σ.fr) (a.tmps.getD u undef):=fun u=>Zq4 (h.fr u) (fun j b u' e=>by have:=h.gs u j b u' e;rw [hg] at this;simp at this)
 refine ⟨E,fun u=>?_,h.sz,XU g2 h.df,fun u j b s' hu=>?_,g1⟩
 . rw [Zu]
   split
   . rename_i hu;subst hu
     have:=hR C E w _ hmc h.hs (hR0 _)
     cases s<;>first | exact this | exact absurd rfl (hs _ _ _)
   . refine Xc g2 (fun _ _=>Ele.rfl) (fun k hk=>hk) (fun j b s hs=>?_) (h.fr u)
     have:=h.gs u j b s hs;rw [hg] at this;simp at this
 . rw [Zu] at hu
   split at hu
   . exact absurd hu (hs _ _ _)
   . exact h.gs u j b s' hu
theorem ZbW {m:Nat} {σ : St} (t k v:Nat) {m':Nat} {xs:List (List SV)} {T:TypeId} (hm:Nat.ble m k=true) (hg:σ.gs=[]) (hl:lk t σ.fr = .mr k v) (hk:lkh k σ.hp = .row v m' xs T) :
 Ent m σ ⟨(t,.sl false m' xs) :: σ.fr,(k,.gone) :: σ.hp,σ.n,σ.N,σ.gs⟩ :=
 Zno t k _ hg (fun _ _ _ e=>by cases e) fun C E w y hmc hh hR=>by
  rw [hl] at hR
  simp only [R] at hR ⊢
  rcases ZxM hmc (Nat.le_of_ble_eq_true hm) hh hk with ⟨h1,a0,h2⟩ | ⟨b,cap,h1,h4,h4',h5,h7⟩
  . exact ⟨a0,0,0,by rw [hR.2.2.1,h2],by simp [h1],⟨Nat.le_refl _,fun h=>by cases h⟩,by simp [h1],.inl h1⟩
  . exact ⟨_,_,_,hR.2.2.1.trans h1,rfl,⟨h4,fun h=>by cases h⟩,h5,.inr ⟨b,0,rfl,h7⟩⟩
theorem ZsZ {m:Nat} {σ : St} (k v:Nat) {mm:Nat} {xs:List (List SV)} {T:TypeId} (o m':Nat) (T':TypeId) (hg:σ.gs=[]) (hk:lkh k σ.hp = .row v mm xs T) :
 Ent m σ ⟨σ.fr,(k,.rws v mm xs T o m' [] T') :: σ.hp,σ.n,σ.N,σ.gs⟩:=fun C E a w hmc h=>by
 have hocc:∀ b,occ E k (.rws v mm xs T o m' [] T') b↔occ E k (lkh k σ.hp) b:=fun b=>by
  rw [hk];simp only [occ,ZaR,List.length_nil,Nat.le_zero]
  exact ⟨fun ⟨i,hi,h⟩=>by subst hi;exact h,fun h=>⟨0,rfl,h⟩⟩
 have hst:Zt w w (okS C E σ.hp) (okS C E ((k,.rws v mm xs T o m' [] T') :: σ.hp)):=fun b hb _=>⟨(Zeg hocc b).2 hb,rfl⟩
 have hH:HSim C E ((k,.rws v mm xs T o m' [] T') :: σ.hp) (ltn σ.n) w:=by
  have hkn:k < σ.n:=by
   rcases Classical.em (k < σ.n) with h' | h'
   . exact h'
   . have:=h.hs.kn k h';rw [hk] at this;cases this
  refine ⟨fun j hj=>?_,fun j=>?_,fun j j' b h1 h2=>h.hs.dj j j' b ((Wl hocc j b).1 h1) ((Wl hocc j' b).1 h2),fun j b h1=>h.hs.lo j b ((Wl hocc j b).1 h1),h.hs.kp,h.hs.pin⟩
  . rw [Zk,if_neg (by rintro rfl;exact hj hkn)];exact h.hs.kn j hj
  . rw [Zk]
    by_cases hj:j=k
    . subst hj;rw [if_pos rfl]
      have hb:=Z4 (n:=ltn σ.n) (n':=ltn σ.n) hst (fun _ _=>Ele.rfl) (fun _ h=>h) (.inr (show ltn σ.n j from hkn)) (fun _ _=>rfl) rfl (h.hs.bk j)
      rw [hk] at hb;simp only [ZT] at hb ⊢
      refine ⟨hb.1,Nat.zero_le _,fun i m1 rows TT hr=>?_,fun i j b hi hj _ _=>by simp at hi hj;omega⟩
      cases i with
      | zero =>
       simp only [Yf,XY,List.length_nil,Option.some.injEq,Prod.mk.injEq] at hr
       obtain ⟨rfl,rfl,rfl⟩:=hr
       exact hb.2
      | succ i=>simp [Yf] at hr
    . rw [if_neg hj]
      refine Z4 hst (fun _ _=>Ele.rfl) (fun _ h=>h) ?_ (fun _ _=>rfl) rfl (h.hs.bk j)
      rcases Classical.em (j < σ.n) with h' | h'
      . exact .inr h'
      . exact .inl (h.hs.kn j h')
 exact ⟨E,Z1 h hst (fun _ _=>Ele.rfl) (Nat.le_refl _) hH⟩
theorem Zd8 {p:SV->SV->Prop} (hp:∀ s,p s s) {k o:Nat} {x:SV} {row:List SV} (hcell:row[o]? = some x):∀ {N u:Nat} {xs:List (List SV)},xs[N]? = some row->p x (.mr k (u+N)) ->
 F2 p (XY k o u N xs).flatten (XY k o u (N+1) (xs.set N (row.set o .any))).flatten
 | 0,u,[],h,_=>by simp at h
 | 0,u,r :: xs,h,hx=>by
  simp at h;subst h
  simp only [XY,List.set_cons_zero,List.flatten_cons,List.set_set]
  exact Zai (ZdA hp hx hcell) (Vw hp _)
 | N+1,u,[],h,_=>by simp at h
 | N+1,u,r :: xs,h,hx=>by
  simp only [XY,List.set_cons_succ,List.flatten_cons]
  exact Zai (Vw hp _) (Zd8 hp hcell (by simpa using h) (by rw [show u+1+N=u+(N+1) from by omega];exact hx))
theorem ZjE {m:Nat} {σ : St} (k q:Nat) {v mm vq o m':Nat} {xs:List (List SV)} {T T':TypeId} {inn:List (List (List SV))} {ys:List (List SV)} (row:List SV) (hm:Nat.ble m q=true) (hk:lkh k σ.hp = .rws v mm xs T o m' inn T') (hq:lkh q σ.hp = .row vq m' ys T')
 (hrow:xs[inn.length]? = some row) (hcell:row[o]? = some (.mr q vq)) :
 Ent m σ ⟨σ.fr,(k,.rws v mm (xs.set inn.length (row.set o .any)) T o m' (inn ++ [ys]) T') :: (q,.gone) :: σ.hp,σ.n,σ.N,σ.gs⟩:=fun C E a w hmc h=>by
 have hne:k≠q:=by rintro rfl;rw [hk] at hq;cases hq
 have hnk:∀ j,lkh j σ.hp≠.gone->j < σ.n:=fun j hj=>by
  rcases Classical.em (j < σ.n) with h' | h'
  . exact h'
  . exact absurd (h.hs.kn j h') hj
 have hkn:k < σ.n:=hnk k (by rw [hk];simp)
 have hqn:q < σ.n:=hnk q (by rw [hq];simp)
 have hbk:=h.hs.bk k
 have hbq:=h.hs.bk q
 rw [hk] at hbk;rw [hq] at hbq
 simp only [ZT] at hbk hbq
 obtain ⟨a1,a2,a3,a4⟩:=hbk
 obtain ⟨b1,b2⟩:=hbq
 have hNl:inn.length < xs.length:=(List.getElem?_eq_some_iff.1 hrow).1
 let E':Env:=⟨E.β,fun j u=>if j=k/\u=E.iss k then E.hv q vq else E.hv j u,fun j=>if j=k then E.iss k+1 else E.iss j⟩
 have hv0:∀ j u,u < E.iss j->E'.hv j u=E.hv j u:=fun j u hu=>by
  simp only [E'];rw [if_neg];rintro ⟨rfl,rfl⟩;omega
 have hvj:∀ j u,j≠k->E'.hv j u=E.hv j u:=fun j u hj=>by simp only [E'];rw [if_neg (fun e=>hj e.1)]
 have hvn:E'.hv k (v+(inn.length+1))=E.hv q vq:=if_pos ⟨rfl,by omega⟩
 have hik:E'.iss k=E.iss k+1:=if_pos rfl
 have hE:∀ j,Ele E E' j j:=fun j=>⟨rfl,by simp only [E'];split<;>(try subst j)<;>omega,fun u hu=>hv0 j u hu⟩
 let hp':List (Nat × HB):=(k,.rws v mm (xs.set inn.length (row.set o .any)) T o m' (inn ++ [ys]) T') :: (q,.gone) :: σ.hp
 have lk':lkh k hp' = .rws v mm (xs.set inn.length (row.set o .any)) T o m' (inn ++ [ys]) T':=by simp only [hp'];rw [Zk,if_pos rfl]
 have lq':lkh q hp' = .gone:=by simp only [hp'];rw [Zk,if_neg hne.symm,Zk,if_pos rfl]
 have lj':∀ j,j≠k->j≠q->lkh j hp'=lkh j σ.hp:=fun j h1 h2=>by simp only [hp'];rw [Zk,if_neg h1,Zk,if_neg h2]
 have hoq:∀ b,ZaR (E.hv q vq) b->occ E q (lkh q σ.hp) b:=fun b hb=>by rw [hq];exact hb
 have hok:∀ i b,i<=inn.length->ZaR (E.hv k (v+i)) b->occ E k (lkh k σ.hp) b:=fun i b hi hb=>by rw [hk];exact ⟨i,hi,hb⟩
 have hoc:∀ j b,occ E' j (lkh j hp') b->(j≠q/\occ E j (lkh j σ.hp) b)\/(j=k/\occ E q (lkh q σ.hp) b):=fun j b ho=>by
  by_cases h1:j=k
  . subst h1
    rw [lk'] at ho
    obtain ⟨i,hi,hb⟩:=ho
    simp only [List.length_append,List.length_cons,List.length_nil] at hi
    by_cases hi2:i=inn.length+1
    . subst hi2;rw [hvn] at hb;exact .inr ⟨rfl,hoq b hb⟩
    . rw [hv0 _ _ (by omega)] at hb;exact .inl ⟨hne,hok i b (by omega) hb⟩
  . by_cases h2:j=q
    . subst h2;rw [lq'] at ho;exact ho.elim
    . rw [lj' j h1 h2] at ho
      refine .inl ⟨h2,?_⟩
      cases hl:lkh j σ.hp<;>rw [hl] at ho<;>simp only [occ] at ho ⊢<;>first | exact ho | (simp only [hvj j _ h1] at ho;exact ho)
 have hoc2:∀ j b,occ E j (lkh j σ.hp) b->∃ j',occ E' j' (lkh j' hp') b:=fun j b ho=>by
  by_cases h1:j=k
  . subst h1
    rw [hk] at ho
    obtain ⟨i,hi,hb⟩:=ho
    exact ⟨j,by rw [lk'];exact ⟨i,by simp;omega,by rw [hv0 _ _ (by omega)];exact hb⟩⟩
  . by_cases h2:j=q
    . subst h2
      rw [hq] at ho
      exact ⟨k,by rw [lk'];exact ⟨inn.length+1,by simp,by rw [hvn];exact ho⟩⟩
    . refine ⟨j,?_⟩
      rw [lj' j h1 h2]
      cases hl:lkh j σ.hp<;>rw [hl] at ho<;>simp only [occ] at ho ⊢<;>first | exact ho | (simp only [hvj j _ h1];exact ho)
 have hst:Zt w w (okS C E σ.hp) (okS C E' hp'):=fun b hb _=>⟨⟨hb.1,fun j ho=>by
  rcases hoc j b ho with ⟨_,q⟩ | ⟨_,q⟩
  . exact hb.2 _ q
  . exact hb.2 _ q⟩,rfl⟩
 have mono:∀ j,ZT w E' (ltn σ.n) (okS C E' hp') j (lkh j σ.hp)\/j=k:=fun j=>by
  by_cases h1:j=k
  . exact .inr h1
  . refine .inl (Z4 hst (fun j _=>hE j) (fun _ h=>h) ?_ (fun _ _=>rfl) (by simp only [E'];rw [if_neg h1]) (h.hs.bk j))
    rcases Classical.em (j < σ.n) with h' | h'
    . exact .inr h'
    . exact .inl (h.hs.kn j h')
 have hH:HSim C E' hp' (ltn σ.n) w:=by
  refine ⟨fun j hj=>?_,fun j=>?_,fun j j' b h1 h2=>?_,fun j b h1=>?_,h.hs.kp,fun j hj=>⟨(h.hs.pin j hj).1,(h.hs.pin j hj).2.trans (hE j)⟩⟩
  . have e1:j≠k:=by rintro rfl;exact hj hkn
    have e2:j≠q:=by rintro rfl;exact hj hqn
    rw [lj' j e1 e2];exact h.hs.kn j hj
  . by_cases e1:j=k
    . subst e1
      rw [lk']
      simp only [ZT,List.length_append,List.length_cons,List.length_nil,List.length_set]
      refine ⟨by rw [hik];omega,by omega,fun i m1 rows TT hr=>?_,fun x y b hx hy e1 e2=>?_⟩
      . cases i with
        | zero =>
         simp only [Yf,Option.some.injEq,Prod.mk.injEq,List.length_append,List.length_cons,List.length_nil] at hr
         obtain ⟨rfl,rfl,rfl⟩:=hr
         have h0:=a3 0 _ _ _ rfl
         rw [hv0 _ _ (by omega)]
         have hl1:=YS j o (v+1) inn.length xs
         have hl2:(XY j o (v+1) (inn.length+(0+1)) (xs.set inn.length (row.set o .any))).length=xs.length:=by rw [YS];simp
         rcases h0 with ⟨q1,q2⟩ | ⟨b,cap,cs,q1,q2,q3,q4,q5,q6,q7⟩
         . have h9:=congrArg List.length q1;rw [hl1,List.length_nil] at h9;omega
         . rw [hl1] at q1 q4 q5 q7
           refine .inr ⟨b,cap,cs,by rw [hl2];exact q1,q2,q3,by rw [hl2];exact q4,by rw [hl2];exact q5,?_,?_⟩
           . refine Y9.2 fun r hr=>?_
             rcases List.mem_or_eq_of_mem_set hr with hr | rfl
             . exact Y9.1 q6 r hr
             . rw [List.length_set];exact Y9.1 q6 row (List.mem_of_getElem? hrow)
           . rw [hl2]
             refine Vn (Zd8 (p:=fun s s'=>∀ y,R w E (ltn σ.n) (okS C E σ.hp) s y->R w E' (ltn σ.n) (okS C E' hp') s' y) (fun s y hy=>ZB hst.c (fun j _=>hE j) (fun _ h=>h) _ _ hy) hcell hrow fun y hy=>?_) q7
             simp only [R] at hy ⊢
             refine ⟨hkn,by rw [hik];omega,?_,hy.2.2.2⟩
             rw [show v+1+inn.length=v+(inn.length+1) from by omega,hvn];exact hy.2.2.1
        | succ i =>
         simp only [Yf] at hr
         split at hr
         case h_2=>cases hr
         rename_i r hr1
         simp only [Option.some.injEq,Prod.mk.injEq] at hr
         obtain ⟨rfl,rfl,rfl⟩:=hr
         by_cases hi:i < inn.length
         . rw [List.getElem?_append_left hi] at hr1
           rw [hv0 _ _ (by omega)]
           exact (a3 (i+1) m' r T' (by simp only [Yf,hr1])).mono hst.c (fun j _=>hE j) (fun _ h=>h) (fun _ _=>rfl)
         . have hi2:i=inn.length:=by have:=(List.getElem?_eq_some_iff.1 hr1).1;simp at this;omega
           subst hi2
           simp at hr1;subst hr1
           rw [hvn]
           exact Zo4.mono hst.c (fun j _=>hE j) (fun _ h=>h) (fun _ _=>rfl) b2
      . have key:∀ z,z<=inn.length+(0+1)->∀ b,ZaR (E'.hv j (v+z)) b->(z<=inn.length/\ZaR (E.hv j (v+z)) b)\/(z=inn.length+1/\ZaR (E.hv q vq) b):=fun z hz b hb=>by
         by_cases h1:z=inn.length+1
         . subst h1;rw [hvn] at hb;exact .inr ⟨rfl,hb⟩
         . rw [hv0 _ _ (by omega)] at hb;exact .inl ⟨by omega,hb⟩
        rcases key x hx b e1 with ⟨x1,x2⟩ | ⟨x1,x2⟩<;>rcases key y hy b e2 with ⟨y1,y2⟩ | ⟨y1,y2⟩
        . exact a4 x y b x1 y1 x2 y2
        . exact absurd (h.hs.dj j q b (hok x b x1 x2) (hoq b y2)) hne
        . exact absurd (h.hs.dj j q b (hok y b y1 y2) (hoq b x2)) hne
        . omega
    . by_cases e2:j=q
      . subst e2;rw [lq'];trivial
      . rw [lj' j e1 e2]
        rcases mono j with h' | h'
        . exact h'
        . exact absurd h' e1
  . rcases hoc j b h1 with ⟨x1,x2⟩ | ⟨x1,x2⟩<;>rcases hoc j' b h2 with ⟨y1,y2⟩ | ⟨y1,y2⟩
    . exact h.hs.dj j j' b x2 y2
    . exact absurd (h.hs.dj j q b x2 y2) x1
    . exact absurd (h.hs.dj j' q b y2 x2) y1
    . rw [x1,y1]
  . rcases hoc j b h1 with ⟨x1,x2⟩ | ⟨x1,x2⟩
    . exact h.hs.lo j b x2
    . rcases h.hs.lo q b x2 with h' | h'
      . exact .inl h'
      . have h3:=hmc.2 q b h'
        have h4:=hmc.1
        have h5:=Nat.le_of_ble_eq_true hm
        omega
 exact ⟨E',Z1 h hst (fun j _=>hE j) (Nat.le_refl _) hH⟩
theorem ZkJ {m:Nat} {b:Bool} {s s':SV} {hp hp':List (Nat × HB)} {n n':Nat} (h:Ent m ⟨[(0,s)],hp,n,1,[]⟩ ⟨[(0,s')],hp',n',1,[]⟩) (hg:∀ j b u,s'≠.gd j b u):Ws m ⟨b,s,hp,n⟩ ⟨b,s',hp',n'⟩:=by
 refine ⟨rfl,fun C E w y hm hH hR=>?_⟩
 have hng:=Vz hR
 have hS:Sim C E ⟨[(0,s)],hp,n,1,[]⟩ { tmps:=#[y],defers:=C.ds } w:=by
  refine ⟨fun t=>?_,rfl,Uw,fun t j b u ht=>?_,hH⟩
  . simp only [Zu]
    split
    . rename_i ht;subst ht
      show FR w E (ltn n) _ _ s y
      cases s<;>first | exact hR | exact absurd rfl (hng _ _ _)
    . exact trivial
  . simp only [Zu] at ht
    split at ht
    . exact absurd ht (hng _ _ _)
    . cases ht
 obtain ⟨E',h'⟩:=h C E _ w hm hS
 refine ⟨E',h'.hs,?_⟩
 have:=h'.fr 0
 exact Zq4 this (fun j b u e=>hg j b u (by simpa [lk] using e))
theorem Zy2 {m:Nat} {b:Bool} {s s':SV} {hp hp':List (Nat × HB)} {n n':Nat} (ρ : Nat->Nat) (hf:mtS ρ n' s' s) (hp0:mtP ρ hp' hp n' n') (hb:hpb n' hp') (hρ : ∀ i,i < n'->∀ j,j < n'->ρ i = ρ j->i=j) (hm:Nat.ble m n'=true) (hfix:∀ i,i < m->ρ i=i):Ws m ⟨b,s,hp,n⟩ ⟨b,s',hp',n'⟩ :=
 ZkJ (ent ρ (show mtF ρ n' [] [(0,s')] [(0,s)] from ⟨hf,trivial⟩) hp0 hb hρ rfl hm hfix) (Zb8 hf)
theorem Zm {m:Nat} {b:Bool} {s s':SV} {hp hp':List (Nat × HB)} {n n':Nat} (hf:mtS id n' s' s) (hp0:mtP id hp' hp n' n') (hb:hpb n' hp') (hm:Nat.ble m n'=true):Ws m ⟨b,s,hp,n⟩ ⟨b,s',hp',n'⟩ :=
 Zy2 id hf hp0 hb (fun _ _ _ _ h=>h) hm (fun _ _=>rfl)
theorem callm {P:Program} {f:FuncId} {args args0:List SV} {d:Option Nat} {σ : St} {r:KT} {K:RK} {hp0:List (Nat × HB)} {n0:Nat} {o:Ot} (ρ : Nat->Nat) (hc:CtM P f hp0 n0 args0 (· = o)) (h1:mtL ρ n0 args0 args) (h2:mtP ρ hp0 σ.hp n0 n0) (h3:ZzL ρ n0) (h4:∀ i,i < n0->ρ i < σ.n)
 (h5:cmK o.pn (rnS (exR ρ n0 σ.n) o.res) (hpM ρ n0 σ.n o σ.hp) (σ.n+(o.n - n0)) d σ r K):Zcw P f args d σ r K :=
 ⟨hp0,n0,args0,_,ρ,hc,h1,h2,h3,h4,fun _ e=>e ▸ h5⟩
def rho:List Nat->Nat->Nat
 | [],_=>0
 | a :: _,0=>a
 | _ :: l,k+1=>rho l k
theorem Uc:∀ (l:List Nat) (k:Nat) (h:k < l.length),rho l k=l[k]
 | a :: _,0,_=>rfl
 | _ :: l,k+1,h=>by simpa [rho] using Uc l k (by simpa using h)
theorem Zl {m0:Nat} {σ σ':St} (hf:mtF id σ'.n [] σ'.fr σ.fr) (hp:mtP id σ'.hp σ.hp σ'.n σ'.n) (hb:hpb σ'.n σ'.hp) (hN:Nat.beq σ'.N σ.N=true) (hm:Nat.ble m0 σ'.n=true):Ent m0 σ σ':=ent id hf hp hb (fun _ _ _ _ h=>h) hN hm (fun _ _=>rfl)
theorem ZyI {fr:List (Nat × SV)} {j j':Nat} {w w' b:Bool} {p:Prop} (hl:lk j fr = .gd j' w' (.v (.bool b))) (h:b=w->p):Zdw (some (j,w)) fr p:=fun hg=>h (by have:=(Zcd hg hl).2;simpa using this)
theorem Zrx {fr:List (Nat × SV)} {j:Nat} {w b:Bool} {p:Prop} (hl:lk j fr = .v (.bool b)) (h:b=w->p):Zdw (some (j,w)) fr p:=fun hg=>h (Zts hg hl)
theorem Zzp {xs:List (List SV)} {i:Int} {σ : St} {r:KT} {L:RK} {d:Option Nat} {j j':Nat} {w w' b:Bool} (n:Nat) (row:List SV) (hl:lk j σ.fr = .gd j' w' (.v (.bool b))) (h:b=w->i=(n:Int)/\xs[n]? = some row) (hk:Ym d (.ps row 0) (some (j,w)) σ r L) :
 IXS (some (j,w)) xs i d σ r L:=⟨row,ZyI hl fun e=>⟨n,(h e).1,(h e).2⟩,hk⟩
theorem app0 {g:Option (Nat × Bool)} {m b:Nat} {xs ys:List (List SV)} {d:Option Nat} {σ : St} {r:KT} {L:RK} (h:(xs.length+ys.length) * b<=140737488355328) (hk:Ym d (.sl false m (xs ++ ys)) g σ r L):APP g m b xs ys d σ r L:=⟨ZG.2 fun _=>h,hk⟩
theorem Xk {g:Option (Nat × Bool)} {k v m len:Nat} {i:Int} {d:Option Nat} {σ : St} {r:KT} {L:RK} (n:Nat) (hi:i=(n:Int)) (hn:n < len) (hk:Ym d (.pr k v m n 0) g σ r L):IXR g k v m len i d σ r L:=⟨n,ZG.2 fun _=>⟨hi,hn⟩,hk⟩
theorem V0 {α : Type} {l:List α} {f:α->List SV} {g:Option (Nat × Bool)} {i o m:Nat} {ag:Bool} {d:Option Nat} {σ : St} {r:KT} {L:RK} (hn:i < l.length) (hk:XW (Xj (f l[i]) o m ag) d g σ r L):LDR g (l.map f) i o m ag d σ r L:=⟨f l[i],ZG.2 fun _=>by simp [hn],hk⟩
theorem ZbE {α : Type} {l:List α} {f:α->List SV} {j o k v m:Nat} {c:List SV} {T:TypeId} {σ : St} {r:KT} {L:RK} (y:α) (hn:j < l.length) (ho:o+c.length<=(f l[j]).length) (he:Zo (f l[j]) o c=f y)
 (h:r ⟨σ.fr,(k,.row v m ((l.set j y).map f) T) :: σ.hp,σ.n,σ.N,σ.gs⟩ L):STR v (l.map f) j o k m c T σ r L :=
 ⟨f l[j],by simp [hn],ho,by rw [he,<- List.map_set];exact h⟩
theorem ZiC {k v m len:Nat} {i:Int} {d:Option Nat} {σ : St} {r:KT} {L:RK} {j:Nat} {w b:Bool} (n:Nat) (hl:lk j σ.fr = .v (.bool b)) (h:b=w->i=(n:Int)/\n < len) (hk:Ym d (.pr k v m n 0) (some (j,w)) σ r L):IXR (some (j,w)) k v m len i d σ r L:=⟨n,Zrx hl h,hk⟩
theorem Zab {r:List SV} (h:KFL r):∀ n,KFR (List.replicate n r)
 | 0=>trivial
 | n+1=>⟨h,Zab h n⟩
theorem Zp {P:Program} {f:FuncId} {args args0:List SV} {d:Option Nat} {σ : St} {r:KT} {K:RK} {hp0:List (Nat × HB)} {n0:Nat} {Zs:Ot->Prop} (l:List Nat) (hc:CtM P f hp0 n0 args0 Zs) (hn:Nat.beq l.length n0=true) (hi:ZaL l=true) (hl:UB σ.n l=true)
 (h1:mtL (rho l) n0 args0 args) (h2:mtP (rho l) hp0 σ.hp n0 n0) (h5:∀ o,Zs o->cmK o.pn (rnS (exR (rho l) n0 σ.n) o.res) (hpM (rho l) n0 σ.n o σ.hp) (σ.n+(o.n - n0)) d σ r K):Zcw P f args d σ r K:=by
 have hn:=Nat.eq_of_beq_eq_true hn
 refine ⟨hp0,n0,args0,Zs,rho l,hc,h1,h2,fun i hi' j hj e=>?_,fun i hi'=>?_,h5⟩
 . rw [Uc l i (by omega),Uc l j (by omega)] at e
   have hp:=List.pairwise_iff_getElem.1 (XK hi)
   rcases Nat.lt_trichotomy i j with h | h | h
   . exact absurd e (hp i j _ _ h)
   . exact h
   . exact absurd e.symm (hp j i _ _ h)
 . rw [Uc l i (by omega)]
   exact Zac hl _ (List.getElem_mem _)
theorem Zat {P:Program} {d:Option Nat} {op:BinOp} {t t' ty u:Nat} {c x v:Value} {σ : St} {r:KT} {K:RK} (hl:lk u σ.fr = .v x) (hop:op = .and\/op = .shr) (hr:∀ w:World,(binOp op t x c).run P w = .ok v w) (hv:v.oneCell'=true) (hk:Ym d (.v v) none σ r K) :
 RAW P d (.binOp op t (.tmp u) (.const c) t') ty σ r K:=by
 intro o C E a w next Q h1 h2 h3 hs hn hq
 have hx:a.eval (.tmp u)=x:=by
  have:=hs.fr u
  rw [hl] at this
  simp only [FR,R] at this
  exact this
 have hrun:(execOp a.eval o).run P w = .ok (.value v) w:=by
  obtain ⟨dst,op',ty',pos,after,guard⟩:=o
  simp only at h2;subst h2
  have hc:a.eval (.const c)=c:=rfl
  simp only [execOp,hx,hc]
  rcases hop with rfl | rfl<;>simp [Sem.run_bind,eqGuard,hr]
 refine Zv hrun (by simp) ?_
 show next (a.put o.dst v) w
 rcases Vk hk with ⟨g1,g2⟩ | ⟨t,g1,g2,g3,g4,g5⟩
 . have hS:=hs
   rw [h1,g1]
   exact hn _ E _ _ g2 hS
 . rw [h1,g1]
   exact hn _ E _ _ g5 (Xe hs (fun b hb _=>⟨hb,rfl⟩) (fun _ _=>Ele.rfl) (Nat.le_refl _) hs.hs g2 g3 (fun j b u e=>by rw [e] at g4;cases g4) (by simp only [R]))
theorem w64_0:IntKind.i64.wrap 0=0:=rfl
theorem w64_1:IntKind.i64.wrap 1=1:=rfl
theorem w64_2:IntKind.i64.wrap 2=2:=rfl
theorem w64_3:IntKind.i64.wrap 3=3:=rfl
theorem w64_4:IntKind.i64.wrap 4=4:=rfl
theorem w64_5:IntKind.i64.wrap 5=5:=rfl
theorem w64_6:IntKind.i64.wrap 6=6:=rfl
def lkB (b:Bool) (s:SV) (t:Nat) (r:List (Nat × SV)):SV:=bif b then s else lk t r
def lkhB (b:Bool) (s:HB) (t:Nat) (r:List (Nat × HB)):HB:=bif b then s else lkh t r
def Zrt (b:Bool) (t:Nat) (r:List Nat):Bool:=bif b then true else YV t r
def blkE (b:Bool) (i:Nat) (K:Ex->St->Prop) (σ : St):Prop:=bif b then K .n σ else K (.ex i) σ
def Zqu (b:Bool) (s:SV):Option (List SV):=bif b then some [s] else none
def ZyD (c:Bool) (b:BinOp) (k:IntKind) (x y:Int):Option SV:=bif c then Zfx b k x y else none
def Zyi (b:Bool) (l:List SV) (o m:Nat):Option SV:=bif b then some (.agg ((l.drop o).take m)) else none
theorem lkB_t (s:SV) (t:Nat) (r:List (Nat × SV)):lkB true s t r=s:=rfl
theorem lkB_f (s:SV) (t:Nat) (r:List (Nat × SV)):lkB false s t r=lk t r:=rfl
theorem Zxl (s:HB) (t:Nat) (r:List (Nat × HB)):lkhB true s t r=s:=rfl
theorem ZyN (s:HB) (t:Nat) (r:List (Nat × HB)):lkhB false s t r=lkh t r:=rfl
theorem Zr0 (t:Nat) (r:List Nat):Zrt true t r=true:=rfl
theorem ZuM (t:Nat) (r:List Nat):Zrt false t r=YV t r:=rfl
theorem Zy5 (i:Nat) (K:Ex->St->Prop) (σ : St):blkE true i K σ = K .n σ:=rfl
theorem Zxu (i:Nat) (K:Ex->St->Prop) (σ : St):blkE false i K σ = K (.ex i) σ:=rfl
theorem Zlu (s:SV):Zqu true s=some [s]:=rfl
theorem Zr2 (b:BinOp) (k:IntKind) (x y:Int):ZyD true b k x y=Zfx b k x y:=rfl
theorem Zv6 (l:List SV) (o m:Nat):Zyi true l o m=some (.agg ((l.drop o).take m)):=rfl
def mmE (k:IntKind):Option Int->Option SV
 | some z=>some (.v (.int k z))
 | none=>none
def chkB (b:Bool) (l:List SV) (ls:List (List SV)):Option (List (List SV)):=bif b then some (l :: ls) else none
theorem ZwS (l:List SV) (ls:List (List SV)):chkB true l ls=some (l :: ls):=rfl
theorem Zzy (b:Bool):WZ true b=b:=rfl
theorem Zw5 (b:Bool):WZ false b=false:=rfl
def vwP (g:SV->SV) (o:Nat):HB->SV
 | .cells l _=>.ps (ZaU g l) o
 | _=>.any
def vwM (v:Nat):HB->SV
 | .row v' m xs _=>vwN (Nat.beq v v') m xs
 | .rws v' m xs _ o m' inn _=>vwN (Nat.beq v v') m (Zao o m' inn xs)
 | _=>.any
def cvtM (v:Nat):HB->SV
 | .row v' m xs _=>vwN (Nat.beq v v') m xs
 | _=>.any
def rvH (o m:Nat) (ag:Bool):HB->Option SV
 | .cells l _=>Xj l o m ag
 | _=>none
def rvX (hp:List (Nat × HB)) (m:Nat) (ag:Bool):SV->Option SV
 | .p k o=>rvH o m ag (lkh k hp)
 | _=>none
def pvF (o m:Nat) (ag:Bool):SV->Option SV
 | .agg l=>Xj l o m ag
 | _=>none
def pvC (k:IntKind):SV->Option SV
 | .v (.int _ n)=>some (.v (.int k (k.wrap n)))
 | _=>none
def pvE (i:Nat):SV->Option SV
 | .tup l=>nth l i
 | _=>none
theorem e_lk (t u:Nat) (s:SV) (r:List (Nat × SV)):lk t ((u,s) :: r)=lkB (Nat.beq t u) s t r:=rfl
theorem e_lk0 (t:Nat):lk t [] = .any:=rfl
theorem e_lkh (t u:Nat) (s:HB) (r:List (Nat × HB)):lkh t ((u,s) :: r)=lkhB (Nat.beq t u) s t r:=rfl
theorem Zw3 (t:Nat):lkh t [] = .gone:=rfl
theorem Zyg (t u:Nat) (r:List Nat):YV t (u :: r)=Zrt (Nat.beq t u) t r:=rfl
theorem ZsC (t:Nat):YV t []=false:=rfl
theorem e_blk (id i:Nat) (K:Ex->St->Prop) (σ : St):ZqK id K (.ex i) σ = blkE (Nat.beq i id) i K σ:=rfl
theorem Zi1 (g:Option (Nat × Bool)) (fr:List (Nat × SV)) (x:Value):YC g fr (.v x)=(.v x):=rfl
theorem ZpV (t:Nat) (r:List (Nat × SV)) (x:Value):Yo ((t,(.v x)) :: r)=(t,(.v x)) :: Yo r:=rfl
theorem ZuI (hp:List (Nat × HB)) (x:Value):cvt hp (.v x)=(.v x):=rfl
theorem Zwd (hp:List (Nat × HB)) (g:SV->SV) (x:Value):vwS hp g (.v x)=(.v x):=rfl
theorem ZrI (x:Value):vw0 (.v x)=(.v x):=rfl
theorem Zkc (x:Value):Yi (.v x)=Zqu (Zdf x) (.v x):=rfl
theorem Zle (x:Value):VS (.v x)=Zdf x:=rfl
theorem ZkR (g:Option (Nat × Bool)) (fr:List (Nat × SV)) (k o:Nat):YC g fr (.p k o)=(.p k o):=rfl
theorem ZnP (t:Nat) (r:List (Nat × SV)) (k o:Nat):Yo ((t,(.p k o)) :: r)=(t,(.p k o)) :: Yo r:=rfl
theorem ZuG (hp:List (Nat × HB)) (k o:Nat):cvt hp (.p k o)=(.p k o):=rfl
theorem Zvg (hp:List (Nat × HB)) (g:SV->SV) (k o:Nat):vwS hp g (.p k o)=vwP g o (lkh k hp):=rfl
theorem Zt7 (k o:Nat):vw0 (.p k o) = .any:=rfl
theorem Zjt (k o:Nat):Yi (.p k o)=some [(.p k o)]:=rfl
theorem Zpf (k o:Nat):VS (.p k o)=true:=rfl
theorem ZdP (g:Option (Nat × Bool)) (fr:List (Nat × SV)) (l:List SV):YC g fr (.agg l)=(.agg l):=rfl
theorem Zft (t:Nat) (r:List (Nat × SV)) (l:List SV):Yo ((t,(.agg l)) :: r)=(t,(.agg l)) :: Yo r:=rfl
theorem ZiU (hp:List (Nat × HB)) (l:List SV):cvt hp (.agg l) = .agg (ZiF hp l):=rfl
theorem ZjJ (hp:List (Nat × HB)) (g:SV->SV) (l:List SV):vwS hp g (.agg l) = .agg (ZaU g l):=rfl
theorem ZiA (l:List SV):vw0 (.agg l) = .any:=rfl
theorem ZdH (l:List SV):Yi (.agg l)=some l:=rfl
theorem ZgM (l:List SV):VS (.agg l)=false:=rfl
theorem ZgG (g:Option (Nat × Bool)) (fr:List (Nat × SV)) (c:Bool) (m:Nat) (xs:List (List SV)):YC g fr (.sl c m xs)=(.sl c m xs):=rfl
theorem Zhi (t:Nat) (r:List (Nat × SV)) (c:Bool) (m:Nat) (xs:List (List SV)):Yo ((t,(.sl c m xs)) :: r)=(t,(.sl c m xs)) :: Yo r:=rfl
theorem Znk (hp:List (Nat × HB)) (c:Bool) (m:Nat) (xs:List (List SV)):cvt hp (.sl c m xs)=(.sl c m xs):=rfl
theorem Zor (hp:List (Nat × HB)) (g:SV->SV) (c:Bool) (m:Nat) (xs:List (List SV)):vwS hp g (.sl c m xs)=(.sl c m xs):=rfl
theorem ZoT (c:Bool) (m:Nat) (xs:List (List SV)):vw0 (.sl c m xs)=(.sl c m xs):=rfl
theorem ZfE (c:Bool) (m:Nat) (xs:List (List SV)):Yi (.sl c m xs)=some [(.sl c m xs)]:=rfl
theorem ZiE (c:Bool) (m:Nat) (xs:List (List SV)):VS (.sl c m xs)=true:=rfl
theorem ZrN (l:List SV):pmS [] l=[]:=rfl
theorem Zgw (g:Option (Nat × Bool)) (fr:List (Nat × SV)) (k v:Nat):YC g fr (.mr k v)=(.mr k v):=rfl
theorem ZkH (t:Nat) (r:List (Nat × SV)) (k v:Nat):Yo ((t,(.mr k v)) :: r)=(t,(.mr k v)) :: Yo r:=rfl
theorem Zmg (hp:List (Nat × HB)) (k v:Nat):cvt hp (.mr k v)=cvtM v (lkh k hp):=rfl
theorem ZnQ (hp:List (Nat × HB)) (g:SV->SV) (k v:Nat):vwS hp g (.mr k v)=vwM v (lkh k hp):=rfl
theorem Zp3 (k v:Nat):vw0 (.mr k v) = .any:=rfl
theorem Zgj (k v:Nat):Yi (.mr k v)=some [(.mr k v)]:=rfl
theorem Zhc (k v:Nat):VS (.mr k v)=true:=rfl
theorem ZgK (g:Option (Nat × Bool)) (fr:List (Nat × SV)) (k v m i o:Nat):YC g fr (.pr k v m i o)=(.pr k v m i o):=rfl
theorem Zfo (g:Option (Nat × Bool)) (fr:List (Nat × SV)) (k v m i o:Nat):YC g fr (.ms k v m i o)=(.ms k v m i o):=rfl
theorem ZhN (t:Nat) (r:List (Nat × SV)) (k v m i o:Nat):Yo ((t,(.pr k v m i o)) :: r)=(t,(.pr k v m i o)) :: Yo r:=rfl
theorem ZjR (t:Nat) (r:List (Nat × SV)) (k v m i o:Nat):Yo ((t,(.ms k v m i o)) :: r)=(t,(.ms k v m i o)) :: Yo r:=rfl
theorem Znw (hp:List (Nat × HB)) (k v m i o:Nat):cvt hp (.pr k v m i o)=(.pr k v m i o):=rfl
theorem Zln (hp:List (Nat × HB)) (k v m i o:Nat):cvt hp (.ms k v m i o)=(.ms k v m i o):=rfl
theorem Zod (hp:List (Nat × HB)) (g:SV->SV) (k v m i o:Nat):vwS hp g (.pr k v m i o)=(.pr k v m i o):=rfl
theorem ZmI (hp:List (Nat × HB)) (g:SV->SV) (k v m i o:Nat):vwS hp g (.ms k v m i o)=(.ms k v m i o):=rfl
theorem ZlD (k v m i o:Nat):vw0 (.pr k v m i o) = .any:=rfl
theorem Zok (k v m i o:Nat):vw0 (.ms k v m i o) = .any:=rfl
theorem ZfL (k v m i o:Nat):Yi (.pr k v m i o)=some [(.pr k v m i o)]:=rfl
theorem ZfV (k v m i o:Nat):Yi (.ms k v m i o)=some [(.ms k v m i o)]:=rfl
theorem Zje (k v m i o:Nat):VS (.pr k v m i o)=true:=rfl
theorem Zkm (k v m i o:Nat):VS (.ms k v m i o)=true:=rfl
theorem Zgu (g:Option (Nat × Bool)) (fr:List (Nat × SV)) (row:List SV) (o:Nat):YC g fr (.ps row o)=(.ps row o):=rfl
theorem Zkd (t:Nat) (r:List (Nat × SV)) (row:List SV) (o:Nat):Yo ((t,(.ps row o)) :: r)=(t,(.ps row o)) :: Yo r:=rfl
theorem ZoL (hp:List (Nat × HB)) (row:List SV) (o:Nat):cvt hp (.ps row o)=(.ps row o):=rfl
theorem Zqk (hp:List (Nat × HB)) (g:SV->SV) (l:List SV) (o:Nat):vwS hp g (.ps l o) = .ps (ZaU g l) o:=rfl
theorem Zl8 (row:List SV) (o:Nat):vw0 (.ps row o) = .any:=rfl
theorem Zf9 (row:List SV) (o:Nat):Yi (.ps row o)=some [(.ps row o)]:=rfl
theorem Zh0 (row:List SV) (o:Nat):VS (.ps row o)=true:=rfl
theorem ZfZ (g:Option (Nat × Bool)) (fr:List (Nat × SV)) (f:FuncId) (l:List SV):YC g fr (.cl f l)=(.cl f l):=rfl
theorem Zkq (t:Nat) (r:List (Nat × SV)) (f:FuncId) (l:List SV):Yo ((t,(.cl f l)) :: r)=(t,(.cl f l)) :: Yo r:=rfl
theorem Zqe (hp:List (Nat × HB)) (f:FuncId) (l:List SV):cvt hp (.cl f l)=(.cl f l):=rfl
theorem Zn7 (hp:List (Nat × HB)) (g:SV->SV) (f:FuncId) (l:List SV):vwS hp g (.cl f l) = .cl f (ZaU g l):=rfl
theorem ZlT (f:FuncId) (l:List SV):vw0 (.cl f l) = .any:=rfl
theorem ZfM (f:FuncId) (l:List SV):Yi (.cl f l)=some [(.cl f l)]:=rfl
theorem ZjH (f:FuncId) (l:List SV):VS (.cl f l)=true:=rfl
theorem Zdq (g:Option (Nat × Bool)) (fr:List (Nat × SV)) (l:List SV):YC g fr (.tup l)=(.tup l):=rfl
theorem ZfP (t:Nat) (r:List (Nat × SV)) (l:List SV):Yo ((t,(.tup l)) :: r)=(t,(.tup l)) :: Yo r:=rfl
theorem Zjj (hp:List (Nat × HB)) (l:List SV):cvt hp (.tup l) = .tup (ZiF hp l):=rfl
theorem ZjM (hp:List (Nat × HB)) (g:SV->SV) (l:List SV):vwS hp g (.tup l) = .tup (ZaU g l):=rfl
theorem ZhL (l:List SV):vw0 (.tup l) = .any:=rfl
theorem ZfI (l:List SV):VS (.tup l)=false:=rfl
theorem Ziy (g:Option (Nat × Bool)) (fr:List (Nat × SV)) (φ : VP):YC g fr (.q φ)=(.q φ):=rfl
theorem Zpn (t:Nat) (r:List (Nat × SV)) (φ : VP):Yo ((t,(.q φ)) :: r)=(t,(.q φ)) :: Yo r:=rfl
theorem Zwe (hp:List (Nat × HB)) (φ : VP):cvt hp (.q φ)=(.q φ):=rfl
theorem Zr5 (hp:List (Nat × HB)) (g:SV->SV) (φ : VP):vwS hp g (.q φ)=(.q φ):=rfl
theorem ZvN (φ : VP):vw0 (.q φ)=(.q φ):=rfl
theorem Zhj (φ : VP):Yi (.q φ)=some [(.q φ)]:=rfl
theorem ZoK (φ : VP):VS (.q φ)=true:=rfl
theorem Zgz (g:Option (Nat × Bool)) (fr:List (Nat × SV)) (k:Nat):YC g fr (.mp k)=(.mp k):=rfl
theorem Zi2 (t:Nat) (r:List (Nat × SV)) (k:Nat):Yo ((t,(.mp k)) :: r)=(t,(.mp k)) :: Yo r:=rfl
theorem Zls (hp:List (Nat × HB)) (k:Nat):cvt hp (.mp k)=(.mp k):=rfl
theorem Zm5 (hp:List (Nat × HB)) (g:SV->SV) (k:Nat):vwS hp g (.mp k) = .any:=rfl
theorem ZoF (k:Nat):vw0 (.mp k) = .any:=rfl
theorem Zgn (k:Nat):Yi (.mp k)=some [(.mp k)]:=rfl
theorem ZkC (k:Nat):VS (.mp k)=true:=rfl
theorem ZfT (g:Option (Nat × Bool)) (fr:List (Nat × SV)) (k:Nat):YC g fr (.yl k)=(.yl k):=rfl
theorem Zkl (t:Nat) (r:List (Nat × SV)) (k:Nat):Yo ((t,(.yl k)) :: r)=(t,(.yl k)) :: Yo r:=rfl
theorem Zgv (k:Nat):Yi (.yl k)=some [(.yl k)]:=rfl
theorem Zhh (k:Nat):VS (.yl k)=true:=rfl
theorem ZdQ (g:Option (Nat × Bool)) (fr:List (Nat × SV)) (T:TypeId) (s:SV):YC g fr (.ifc T s)=(.ifc T s):=rfl
theorem Zfr (t:Nat) (r:List (Nat × SV)) (T:TypeId) (s:SV):Yo ((t,(.ifc T s)) :: r)=(t,(.ifc T s)) :: Yo r:=rfl
theorem Ziv (hp:List (Nat × HB)) (T:TypeId) (s:SV):cvt hp (.ifc T s) = .ifc T (cvt hp s):=rfl
theorem ZiG (hp:List (Nat × HB)) (g:SV->SV) (T:TypeId) (s:SV):vwS hp g (.ifc T s) = .ifc T (g s):=rfl
theorem ZiS (T:TypeId) (s:SV):vw0 (.ifc T s) = .any:=rfl
theorem Zdm (T:TypeId) (s:SV):Yi (.ifc T s)=some [(.ifc T s)]:=rfl
theorem Zf4 (T:TypeId) (s:SV):VS (.ifc T s)=true:=rfl
theorem ZdY (P:Program) (Y:Hd) (d:Option Nat) (σ : St) (r:KT) (K:RK) (f:FuncId) (as:List X):stp P Y d (.callm f as) σ r K=Zcw P f (Ul (rdG none σ.fr) as) d σ r K:=rfl
theorem ZdW (P:Program) (Y:Hd) (d:Option Nat) (σ : St) (r:KT) (K:RK) (x:X) (as:List X):stp P Y d (.calvm x as) σ r K=Zgy P Y (rdG none σ.fr x) (Ul (rdG none σ.fr) as) d σ r K:=rfl
theorem e_yld (asg body:Nat->CT) (ps:List Nat) (kl:Nat) (rec:Loop) (fr:List (Nat × SV)) (N k:Nat) (args:List SV) (d:Option Nat) (σ : St) (r:KT) (K:RK):YLD (hdR asg body ps kl rec fr N) k args d σ r K =
 rfB (Nat.beq k kl) (Zq5 rec (lkh kl σ.hp)/\rfB (Zk6 args ps) (asg σ.n ⟨pmS ps args ++ fr,σ.hp,σ.n,N,[]⟩ (asE kl rec (body σ.n) (bdE kl rec fun o=>cmK o.pn o.res o.hp o.n d σ r K)))):=rfl
theorem e_exR (ρ : Nat->Nat) (n0 n k:Nat):exR ρ n0 n k=exB (Nat.blt k n0) (ρ k) (n+(k - n0)):=rfl
theorem e_hpM (ρ : Nat->Nat) (n0 n:Nat) (o:Ot) (hp:List (Nat × HB)):hpM ρ n0 n o hp=rnP (exR ρ n0 n) o.hp ++ (Zas ρ n0 ++ hp):=rfl
theorem Zkf (P:Program) (Y:Hd) (m:Nat) (g:X) (ps:List Nat) (asg body:SC) (σ : St) (K:Ex->St->Prop):sx P Y m (.rfun g ps asg body) σ K=rfK P (fun n=>sx P Y0 n asg) (fun n=>sx P Y0 n body) (rdG none σ.fr g) ps σ K:=rfl
theorem Zdt (g:Option (Nat × Bool)) (fr:List (Nat × SV))  : YC g fr (.any)=(.any):=rfl
theorem Zfq (t:Nat) (r:List (Nat × SV))  : Yo ((t,(.any)) :: r)=(t,(.any)) :: Yo r:=rfl
theorem Zh3 (hp:List (Nat × HB))  : cvt hp (.any)=(.any):=rfl
theorem ZjW (hp:List (Nat × HB)) (g:SV->SV)  : vwS hp g (.any)=(.any):=rfl
theorem Zjl  : vw0 (.any) = .any:=rfl
theorem ZfK  : VS (.any)=false:=rfl
theorem ZkG (t j:Nat) (w:Bool) (s:SV) (r:List (Nat × SV)):Yo ((t,.gd j w s) :: r)=(t,.any) :: Yo r:=rfl
theorem ZvR  : Yo []=[]:=rfl
theorem Zd1 (fr:List (Nat × SV)) (j:Nat) (w:Bool) (s:SV):YC none fr (.gd j w s) = .any:=rfl
theorem ZfJ (fr:List (Nat × SV)) (j j0:Nat) (w w0:Bool) (s:SV):YC (some (j0,w0)) fr (.gd j w s)=ZdV (alw 8 fr j0 w0 j w) s:=rfl
theorem Zd4 (b:Bool):Zdf (.bool b)=true:=rfl
theorem ZgL (k:IntKind) (n:Int):Zdf (.int k n)=true:=rfl
theorem Zbz (s:ByteArray):Zdf (.string s)=true:=rfl
theorem Za6 (p:Option Addr):Zdf (.pointer p)=true:=rfl
theorem Zcs (a:Option Addr) (l c:Nat):Zdf (.slice a l c)=true:=rfl
theorem Za2  : Zdf .nilFunc=true:=rfl
theorem ZaN  : Zdf .nilIface=true:=rfl
theorem e_rdG (g:Option (Nat × Bool)) (fr:List (Nat × SV)) (x:X):rdG g fr x=YC g fr (rd fr x):=rfl
theorem ZxG (fr:List (Nat × SV)) (n:Nat):rd fr (.t n)=lk n fr:=rfl
theorem Zxk (fr:List (Nat × SV)) (x:Value):rd fr (.c x) = .v x:=rfl
theorem Zzl (fr:List (Nat × SV)) (i:Nat):rd fr (.f i) = .cl i []:=rfl
theorem e_alw (f:Nat) (fr:List (Nat × SV)) (j0:Nat) (w0:Bool) (j:Nat) (w:Bool):alw (f+1) fr j0 w0 j w=ZwM (Zf8 (Nat.beq j0 j) w0 w) (lk j0 fr) (alw f fr) j w:=rfl
theorem Zyr (fr:List (Nat × SV)) (j0:Nat) (w0:Bool) (j:Nat) (w:Bool):alw 0 fr j0 w0 j w=false:=rfl
theorem e_vw1 (hp:List (Nat × HB)) (s:SV):vw1 hp s=vwS hp vw0 s:=rfl
theorem e_vw2 (hp:List (Nat × HB)) (s:SV):vw2 hp s=vwS hp (vw1 hp) s:=rfl
theorem e_vw3 (hp:List (Nat × HB)) (s:SV):vw3 hp s=vwS hp (vw2 hp) s:=rfl
theorem e_vw4 (hp:List (Nat × HB)) (s:SV):vw4 hp s=vwS hp (vw3 hp) s:=rfl
theorem Zoe (fr:List (Nat × SV)) (hp:List (Nat × HB)) (n N:Nat):W1 ⟨fr,hp,n,N,[]⟩=⟨fr,hp,n,N,[]⟩:=rfl
theorem Zog (fr:List (Nat × SV)) (hp:List (Nat × HB)) (n N j:Nat) (l:List Nat):W1 ⟨fr,hp,n,N,j :: l⟩=⟨Yo fr,hp,n,N,[]⟩:=rfl
theorem Zzv (b:BinOp) (k j:IntKind) (x y:Int):Zwn b (.v (.int k x)) (.v (.int j y))=ZyD (Zb6 k j) b k x y:=rfl
theorem Zhk (b:Bool):uni .not (.v (.bool b))=some (.v (.bool (!b))):=rfl
theorem Zhy (k:IntKind) (n:Int):uni .neg (.v (.int k n))=some (.v (.int k (k.wrap (0 - n)))):=rfl
theorem Zgi (k:IntKind) (x y:Int):Zfx .add k x y=some (.v (.int k (k.wrap (x+y)))):=rfl
theorem ZfG (k:IntKind) (x y:Int):Zfx .sub k x y=some (.v (.int k (k.wrap (x - y)))):=rfl
theorem ZgR (k:IntKind) (x y:Int):Zfx .mul k x y=some (.v (.int k (k.wrap (x * y)))):=rfl
theorem Zgk (k:IntKind) (x y:Int):Zfx .eql k x y=some (.v (.bool (x == y))):=rfl
theorem ZgO (k:IntKind) (x y:Int):Zfx .neq k x y=some (.v (.bool (x != y))):=rfl
theorem Zf7 (k:IntKind) (x y:Int):Zfx .lss k x y=some (.v (.bool (decide (x < y)))):=rfl
theorem Zgd (k:IntKind) (x y:Int):Zfx .leq k x y=some (.v (.bool (decide (x<=y)))):=rfl
theorem ZgA (k:IntKind) (x y:Int):Zfx .gtr k x y=some (.v (.bool (decide (x > y)))):=rfl
theorem Zgm (k:IntKind) (x y:Int):Zfx .geq k x y=some (.v (.bool (decide (x ≥ y)))):=rfl
theorem Zi0  : Zb6 .i8 .i8=true:=rfl
theorem Zf0  : Zb6 .i16 .i16=true:=rfl
theorem Zgh  : Zb6 .i32 .i32=true:=rfl
theorem ZgF  : Zb6 .i64 .i64=true:=rfl
theorem ZiL  : Zb6 .u8 .u8=true:=rfl
theorem Zfs  : Zb6 .u16 .u16=true:=rfl
theorem ZfY  : Zb6 .u32 .u32=true:=rfl
theorem Zgr  : Zb6 .u64 .u64=true:=rfl
theorem Zl3 (o:Nat) (k q:Nat):VB o (.p k q)=some (.p k (q+o)):=rfl
theorem ZoV (k q:Nat):Zcy (.p k q)=some (.p k q):=rfl
theorem ZjI (o:Nat) (k v m i q:Nat):VB o (.pr k v m i q)=some (.pr k v m i (q+o)):=rfl
theorem ZkB (k v m i q:Nat):Zcy (.pr k v m i q)=some (.pr k v m i q):=rfl
theorem ZhU (o:Nat) (row:List SV) (q:Nat):VB o (.ps row q)=some (.ps row (q+o)):=rfl
theorem Zj1 (row:List SV) (q:Nat):Zcy (.ps row q)=some (.ps row q):=rfl
theorem Zn3 (l:List SV) (o m:Nat):Xj l o m true=Zyi (Nat.ble (o+m) l.length) l o m:=rfl
theorem Zp6 (l:List SV) (o m:Nat):Xj l o m false=nth l o:=rfl
theorem ZyO (mx:Bool) (x:Int):mmf mx x []=some x:=rfl
theorem ZuU (k:IntKind) (x y:Int) (r:List SV):mmf true x (.v (.int k y) :: r)=mmf true (max x y) r:=rfl
theorem Zsq (k:IntKind) (x y:Int) (r:List SV):mmf false x (.v (.int k y) :: r)=mmf false (min x y) r:=rfl
theorem e_mm (mx:Bool) (k:IntKind) (x:Int) (r:List SV):mmS mx (.v (.int k x) :: r)=mmE k (mmf mx x r):=rfl
theorem e_bld (ρ : X->SV) (z:List SV) (ps:List (Nat × Nat × X)):bld ρ z ps=Zk4 z (Zlq ρ ps):=rfl
theorem ZfS (ρ : X->SV) (z:List Value) (ps:List (Nat × Nat × X)):pv ρ (.build z ps)=Zxi (bld ρ (lit z) ps):=rfl
theorem Zxo (l:List SV) (m:Nat) (ls:List (List SV)):Zwu (some l) m (some ls)=chkB (chk l m) l ls:=rfl
theorem ZpX (s:SV) (l:List SV):Z9 (s :: l)=WZ (VS s) (Z9 l):=rfl
theorem Zj7  : Z9 []=true:=rfl
theorem ZpZ (fr:List (Nat × SV)) (g:Option (Nat × Bool)) (t:Nat) (b:X):Zf5 fr g (.t t) (.c (.bool true)) b=Zfw (rdG g fr (.t t)) (rdG (some (t,false)) fr b):=rfl
theorem ZpY (fr:List (Nat × SV)) (g:Option (Nat × Bool)) (t n:Nat):Zf5 fr g (.t t) (.t n) (.c (.bool false))=Zdl (rdG g fr (.t t)) (rdG (some (t,true)) fr (.t n)):=rfl
theorem Zmj (fr:List (Nat × SV)) (g:Option (Nat × Bool)) (t:Nat):Zf5 fr g (.t t) (.c (.bool false)) (.c (.bool false))=Zdl (rdG g fr (.t t)) (rdG (some (t,true)) fr (.c (.bool false))):=rfl
theorem Zic:Zdl (.v (.bool false)) (.v undef)=some (.v (.bool false)):=rfl
theorem Zkh:Zfw (.v (.bool true)) (.v undef)=some (.v (.bool true)):=rfl
theorem e_rvR (rs:List RV) (σ : St):rvR rs σ = rvE (rvs σ rs):=rfl
theorem ZxA (σ : St):rvs σ []=some []:=rfl
theorem Zvm (σ : St) (t:Nat):rv1 σ (.tmp t)=some (rdG none σ.fr (.t t)):=rfl
theorem Zt0 (σ : St) (t m:Nat) (ag:Bool):rv1 σ (.cell t m ag)=rvX σ.hp m ag (rdG none σ.fr (.t t)):=rfl
theorem ZoG (P:Program) (Y:Hd) (d:Option Nat) (σ : St) (r:KT) (K:RK) (x:X):stp P Y d (.mv x) σ r K=Ye P none d (.mv x) σ r K:=rfl
theorem ZfN (P:Program) (Y:Hd) (d:Option Nat) (σ : St) (r:KT) (K:RK) (c a b:X):stp P Y d (.pick c a b) σ r K=Ye P none d (.pick c a b) σ r K:=rfl
theorem ZdU (P:Program) (Y:Hd) (d:Option Nat) (σ : St) (r:KT) (K:RK) (z:List Value) (ps:List (Nat × Nat × X)):stp P Y d (.build z ps) σ r K=Ye P none d (.build z ps) σ r K:=rfl
theorem Zi7 (P:Program) (Y:Hd) (d:Option Nat) (σ : St) (r:KT) (K:RK) (m:Nat) (T:TypeId) (ps:List X):stp P Y d (.bsl m T ps) σ r K=Ye P none d (.bsl m T ps) σ r K:=rfl
theorem Zo1 (P:Program) (Y:Hd) (d:Option Nat) (σ : St) (r:KT) (K:RK) (x:X) (m:Nat) (ag:Bool):stp P Y d (.ld x m ag) σ r K=Ye P none d (.ld x m ag) σ r K:=rfl
theorem ZfA (P:Program) (Y:Hd) (d:Option Nat) (σ : St) (r:KT) (K:RK) (x:X):stp P Y d (.nilc x) σ r K=Ye P none d (.nilc x) σ r K:=rfl
theorem ZiY (P:Program) (Y:Hd) (d:Option Nat) (σ : St) (r:KT) (K:RK) (b:BinOp) (x y:X):stp P Y d (.bin b x y) σ r K=Ye P none d (.bin b x y) σ r K:=rfl
theorem ZhH (P:Program) (Y:Hd) (d:Option Nat) (σ : St) (r:KT) (K:RK) (b:BinOp) (x y:X):stp P Y d (.div b x y) σ r K=Ye P none d (.div b x y) σ r K:=rfl
theorem ZoP (P:Program) (Y:Hd) (d:Option Nat) (σ : St) (r:KT) (K:RK) (u:UnOp) (x:X):stp P Y d (.un u x) σ r K=Ye P none d (.un u x) σ r K:=rfl
theorem ZgP (P:Program) (Y:Hd) (d:Option Nat) (σ : St) (r:KT) (K:RK) (x:X) (o:Nat):stp P Y d (.addo x o) σ r K=Ye P none d (.addo x o) σ r K:=rfl
theorem ZiP (P:Program) (Y:Hd) (d:Option Nat) (σ : St) (r:KT) (K:RK) (x:X) (o m:Nat) (ag:Bool):stp P Y d (.fld x o m ag) σ r K=Ye P none d (.fld x o m ag) σ r K:=rfl
theorem Zi4 (P:Program) (Y:Hd) (d:Option Nat) (σ : St) (r:KT) (K:RK) (x i:X) (len m:Nat) (ag:Bool):stp P Y d (.idx x i len m ag) σ r K=Ye P none d (.idx x i len m ag) σ r K:=rfl
theorem Zhz (P:Program) (Y:Hd) (d:Option Nat) (σ : St) (r:KT) (K:RK) (x i:X) (len m:Nat):stp P Y d (.ixa x i len m) σ r K=Ye P none d (.ixa x i len m) σ r K:=rfl
theorem ZhM (P:Program) (Y:Hd) (d:Option Nat) (σ : St) (r:KT) (K:RK) (x i:X) (m:Nat):stp P Y d (.ixs x i m) σ r K=Ye P none d (.ixs x i m) σ r K:=rfl
theorem ZhO (P:Program) (Y:Hd) (d:Option Nat) (σ : St) (r:KT) (K:RK) (x:X):stp P Y d (.len x) σ r K=Ye P none d (.len x) σ r K:=rfl
theorem Zlr (P:Program) (Y:Hd) (d:Option Nat) (σ : St) (r:KT) (K:RK) (mx:Bool) (xs:List X):stp P Y d (.mm mx xs) σ r K=Ye P none d (.mm mx xs) σ r K:=rfl
theorem ZfW (P:Program) (Y:Hd) (d:Option Nat) (σ : St) (r:KT) (K:RK) (f:FuncId) (as:List X):stp P Y d (.call f as) σ r K=Ye P none d (.call f as) σ r K:=rfl
theorem Zfm (P:Program) (Y:Hd) (d:Option Nat) (σ : St) (r:KT) (K:RK) (x:X) (as:List X):stp P Y d (.calv x as) σ r K=Ye P none d (.calv x as) σ r K:=rfl
theorem ZhB (P:Program) (Y:Hd) (d:Option Nat) (σ : St) (r:KT) (K:RK) (f:FuncId) (cs:List X):stp P Y d (.mkf f cs) σ r K=Ye P none d (.mkf f cs) σ r K:=rfl
theorem ZgD (P:Program) (Y:Hd) (d:Option Nat) (σ : St) (r:KT) (K:RK) (k:IntKind) (x:X):stp P Y d (.conv k x) σ r K=Ye P none d (.conv k x) σ r K:=rfl
theorem Zk0 (P:Program) (Y:Hd) (d:Option Nat) (σ : St) (r:KT) (K:RK) (x:X) (i:Nat):stp P Y d (.ext x i) σ r K=Ye P none d (.ext x i) σ r K:=rfl
theorem e_rvs (σ : St) (r:RV) (rs:List RV):rvs σ (r :: rs)=rvC σ.hp (rv1 σ r) (rvs σ rs):=rfl
theorem Zqa (ρ : X->SV) (x:X) (o m:Nat) (ag:Bool):pv ρ (.fld x o m ag)=pvF o m ag (ρ x):=rfl
theorem Zg9 (ρ : X->SV) (k:IntKind) (x:X):pv ρ (.conv k x)=pvC k (ρ x):=rfl
theorem Zoo (ρ : X->SV) (x:X) (i:Nat):pv ρ (.ext x i)=pvE i (ρ x):=rfl
theorem Zua (fr:List (Nat × SV)):ZwE [] fr=True:=rfl
theorem Zzq (t:Nat) (s:SV) (r fr:List (Nat × SV)):ZwE ((t,s) :: r) fr=(lk t fr=s/\ZwE r fr):=rfl
theorem ZiX (P:Program) (Y:Hd) (d:Option Nat) (σ : St) (r:KT) (K:RK) (ng ag:Bool) (cls:List Nat) (x y:X):stp P Y d (.eqs ng ag cls x y) σ r K=Ye P none d (.eqs ng ag cls x y) σ r K:=rfl
theorem Zku (P:Program) (Y:Hd) (d:Option Nat) (σ : St) (r:KT) (K:RK) (x h k:X):stp P Y d (.slc x h k) σ r K=Ye P none d (.slc x h k) σ r K:=rfl
theorem Zhf (P:Program) (Y:Hd) (d:Option Nat) (σ : St) (r:KT) (K:RK) (m:Nat) (x:X) (lo hi:Option X):stp P Y d (.sub m x lo hi) σ r K=Ye P none d (.sub m x lo hi) σ r K:=rfl
theorem ZiD (P:Program) (Y:Hd) (d:Option Nat) (σ : St) (r:KT) (K:RK) (m b:Nat) (T:TypeId) (x y:X):stp P Y d (.app m b T x y) σ r K=Ye P none d (.app m b T x y) σ r K:=rfl
theorem ZpN (l):Zxi (some l)=some (SV.agg l):=rfl
theorem Zl0: Zxi none=none:=rfl
theorem ZsF (k z):mmE k (some z)=some (SV.v (Value.int k z)):=rfl
theorem Zum (k):mmE k none=none:=rfl
theorem ZsL (g o l T):vwP g o (HB.cells l T)=SV.ps (ZaU g l) o:=rfl
theorem Zsx (m a):vwN true m a=SV.sl false m a:=rfl
theorem Zs8 (m a):vwN false m a=SV.any:=rfl
theorem Zu3 (v a m b T):vwM v (HB.row a m b T)=vwN (Nat.beq v a) m b:=rfl
theorem ZuD (v a m b T o c d e):vwM v (HB.rws a m b T o c d e)=vwN (Nat.beq v a) m (Zao o c d b):=rfl
theorem ZmW (v a m b T):cvtM v (HB.row a m b T)=vwN (Nat.beq v a) m b:=rfl
theorem Zqd (m v a b c T):ZgZ m v (HB.row a b c T)=ZfD c (WZ (Nat.beq m b) (Nat.beq v a)):=rfl
theorem Znh (m v l T):ZgZ m v (HB.cells l T)=none:=rfl
theorem Zlj (m v φ):ZgZ m v (HB.ob φ)=none:=rfl
theorem Zqg (m v a b):ZgZ m v (HB.map a b)=none:=rfl
theorem ZnE (m v a b c d):ZgZ m v (HB.it a b c d)=none:=rfl
theorem Zms (m v a b):ZgZ m v (HB.lp a b)=none:=rfl
theorem Zld (m v a):ZgZ m v (HB.lb a)=none:=rfl
theorem Zmu (m v a b c T o d e f):ZgZ m v (HB.rws a b c T o d e f)=none:=rfl
theorem ZmP (m v):ZgZ m v HB.gone=none:=rfl
theorem Zm6 (a):ZfD a true=some a:=rfl
theorem Zop (a):ZfD a false=none:=rfl
theorem ZrP: rvE (some [])=some (SV.tup []):=rfl
theorem ZuT (s):rvE (some [s])=some s:=rfl
theorem Zti (a b l):rvE (some (a :: b :: l))=some (SV.tup (a :: b :: l)):=rfl
theorem Zs7: rvE none=none:=rfl
theorem ZuA (s l):rvD s (some l)=some (s :: l):=rfl
theorem ZuY (s):rvD s none=none:=rfl
theorem Zv9 (hp x s):rvC hp (some s) x=rvD (cvt hp s) x:=rfl
theorem ZsI (hp x):rvC hp none x=none:=rfl
theorem Zso (o m a l T):rvH o m a (HB.cells l T)=Xj l o m a:=rfl
theorem Zsa (hp m a k o):rvX hp m a (SV.p k o)=rvH o m a (lkh k hp):=rfl
theorem ZuK (o m a l):pvF o m a (SV.agg l)=Xj l o m a:=rfl
theorem ZvX (k a n):pvC k (SV.v (Value.int a n))=some (SV.v (Value.int k (IntKind.wrap k n))):=rfl
theorem ZsO (i l):pvE i (SV.tup l)=nth l i:=rfl
theorem Zm7 (x a b c d):Zyd false true false x a b c d=c { fr:=(x,a) :: St.fr b,hp:=St.hp b,n:=St.n b,N:=St.N b,gs:=St.gs b } d:=rfl
theorem ZlX (x a b c d e f):Zz5 false true false x a b c d e f=e { fr:=(x,SV.gd a b c) :: St.fr d,hp:=St.hp d,n:=St.n d,N:=St.N d,gs:=a :: St.gs d } f:=rfl
theorem Zos (s σ r K):Ym none s none σ r K=r σ K:=rfl
theorem ZlI (s σ r K a):Ym none s (some a) σ r K=False:=rfl
theorem Zmf (s σ r K t):Ym (some t) s none σ r K=Zyd (YV t (St.gs σ)) (Nat.blt t (St.N σ)) (gdS s) t s σ r K:=rfl
theorem Znv (s σ r K t j w):Ym (some t) s (some (j,w)) σ r K=Zz5 (YV t (St.gs σ)) (Nat.blt t (St.N σ)) (Nat.beq t j) t j w s σ r K:=rfl
theorem Znz (d g σ r K s):XW (some s) d g σ r K=Ym d s g σ r K:=rfl
theorem Znq (d g σ r K):XW none d g σ r K=False:=rfl
theorem Zim (x):ZdV true x=x:=rfl
theorem ZkT (x):ZdV false x=SV.any:=rfl
theorem ZlE (x a b c):ZwM true x a b c=true:=rfl
theorem ZmB (x a b c d s):ZwM false (SV.gd c d s) x a b=x c d a b:=rfl
theorem Zhr (x a):Zf8 true x a=bbq x a:=rfl
theorem ZhX (x a):Zf8 false x a=false:=rfl
theorem Zt4: bbq true true=true:=rfl
theorem Zu2: bbq false false=true:=rfl
theorem Zg6 (x y):Zfw (SV.v (Value.bool x)) (SV.v (Value.bool y))=some (SV.v (Value.bool (x || y))):=rfl
theorem ZkU (x a):Zfw (SV.v (Value.bool x)) (SV.v (Value.tuple a))=bif x then some (SV.v (Value.bool true)) else none:=rfl
theorem Zj3 (x y):Zdl (SV.v (Value.bool x)) (SV.v (Value.bool y))=some (SV.v (Value.bool (x && y))):=rfl
theorem ZhP (x a):Zdl (SV.v (Value.bool x)) (SV.v (Value.tuple a))=bif x then none else some (SV.v (Value.bool false)):=rfl
theorem Zqo (m r):Zwt m (some r)=some (SV.sl true m r):=rfl
theorem ZmV (m):Zwt m none=none:=rfl
theorem ZhA (P g d σ r K a f b):ZnB P g d σ r K (SV.cl f b) a=Zwp P g f (a ++ b) d σ r K:=rfl
theorem ZmD (g d σ r K k v m a j):Zxq g d σ r K true k v m a j=IXR g k v m a j d σ r K:=rfl
theorem ZpD (g d σ r K k v m a j):Zxq g d σ r K false k v m a j=False:=rfl
theorem Zp4 (g d σ r K k v m j a b c T):Zx1 g d σ r K (HB.row a b c T) k v m j=Zxq g d σ r K (WZ (Nat.beq m b) (Nat.beq v a)) k v m (List.length c) j:=rfl
theorem Zoz (g d σ r K k v m j a b c T o e f l):Zx1 g d σ r K (HB.rws a b c T o e f l) k v m j = ∃ i rows TT,v=a+i/\Yf k a b c T o e f l i=some (m,rows,TT)/\IXR g k v m (List.length rows) j d σ r K:=rfl
theorem Zmh (g d σ r K a j):ZxE g d σ r K true a j=IXS g a j d σ r K:=rfl
theorem Zof (g d σ r K a j):ZxE g d σ r K false a j=False:=rfl
theorem Zl6 (g d σ r K m k j c a b):ZwZ g d σ r K (SV.v (Value.int k j)) (SV.sl c a b) m=ZxE g d σ r K (Nat.beq m a) b j:=rfl
theorem Znr (g d σ r K m k j a v):ZwZ g d σ r K (SV.v (Value.int k j)) (SV.mr a v) m=Zx1 g d σ r K (lkh a (St.hp σ)) a v m j:=rfl
theorem Zmx (g d σ r K x a m k n):ZzK g d σ r K (SV.v (Value.int k n)) x a m=IXA g a n (fun n=>VB (n * m) x) d σ r K:=rfl
theorem Zml (g d σ r K a m b k j l):Zz6 g d σ r K (SV.v (Value.int k j)) (SV.agg l) a m b=IXA g a j (fun n=>Xj l (n * m) m b) d σ r K:=rfl
theorem Zr7 (g d σ r K o m a l T):ldC g d σ r K (HB.cells l T) o m a=XW (Xj l o m a) d g σ r K:=rfl
theorem Zux (g d σ r K a i o m b):ldB g d σ r K true a i o m b=LDR g a i o m b d σ r K:=rfl
theorem ZsB (g d σ r K a i o m b):ldB g d σ r K false a i o m b=False:=rfl
theorem Zuh (g d σ r K k v a i o m b c e f T):ldR g d σ r K k (HB.row c e f T) v a i o m b=ldB g d σ r K (WZ (Nat.beq a e) (Nat.beq v c)) f i o m b:=rfl
theorem Zwf (g d σ r K k v b i o m c e f j T l p q s):ldR g d σ r K k (HB.rws e f j T l p q s) v b i o m c = ∃ a rows TT,v=e+a/\Yf k e f j T l p q s a=some (b,rows,TT)/\LDR g rows i o m c d σ r K:=rfl
theorem Zuz (g d σ r K m a k o):ldK g d σ r K (SV.p k o) m a=ldC g d σ r K (lkh k (St.hp σ)) o m a:=rfl
theorem ZrB (g d σ r K m a b o):ldK g d σ r K (SV.ps b o) m a=XW (Xj b o m a) d g σ r K:=rfl
theorem Zv4 (g d σ r K m a k v b i o):ldK g d σ r K (SV.pr k v b i o) m a=ldR g d σ r K k (lkh k (St.hp σ)) v b i o m a:=rfl
theorem ZpJ (g d σ r K b k u v):Zw6 g d σ r K true b k u v=DIV g b k u v d σ r K:=rfl
theorem ZpG (g d σ r K b k u v):Zw6 g d σ r K false b k u v=False:=rfl
theorem ZnC (g d σ r K b k a j c):ZAa g d σ r K b (SV.v (Value.int k a)) (SV.v (Value.int j c))=Zw6 g d σ r K (Zb6 k j) b k a c:=rfl
theorem ZnF (g d σ r K a):ZxQ g d σ r K true a=Ym d (SV.v (Value.int IntKind.i64 ↑(List.length a))) g σ r K:=rfl
theorem Zo8 (g d σ r K a):ZxQ g d σ r K false a=False:=rfl
theorem Zlk (g d σ r K k v a m b T):Zxh g d σ r K k (HB.row a m b T) v=ZxQ g d σ r K (Nat.beq v a) b:=rfl
theorem ZpU (g d σ r K k v b m c T o e f i):Zxh g d σ r K k (HB.rws b m c T o e f i) v = ∃ a mm rows TT,v=b+a/\Yf k b m c T o e f i a=some (mm,rows,TT)/\Ym d (SV.v (Value.int IntKind.i64 ↑(List.length rows))) g σ r K:=rfl
theorem Zpv (g d σ r K k v):ZwG g d σ r K (SV.mr k v)=Zxh g d σ r K k (lkh k (St.hp σ)) v:=rfl
theorem Zpi (g d σ r K k v m i l):ZwG g d σ r K (SV.ms k v m i l)=Ym d (SV.v (Value.int IntKind.i64 ↑l)) g σ r K:=rfl
theorem Zm4 (g d σ r K c m a):ZwG g d σ r K (SV.sl c m a)=Ym d (SV.v (Value.int IntKind.i64 ↑(List.length a))) g σ r K:=rfl
theorem Znu (P g d σ r K f a):Ye P g d (SI.call f a) σ r K=Zwp P g f (Ul (rdG g (St.fr σ)) a) d σ r K:=rfl
theorem Zm9 (P g d σ r K x a):Ye P g d (SI.calv x a) σ r K=ZnB P g d σ r K (rdG g (St.fr σ) x) (Ul (rdG g (St.fr σ)) a):=rfl
theorem ZpR (P g d σ r K f a):Ye P g d (SI.callm f a) σ r K=False:=rfl
theorem ZmQ (P g d σ r K x a):Ye P g d (SI.calvm x a) σ r K=False:=rfl
theorem ZlH (P g d σ r K c a b):Ye P g d (SI.pick c a b) σ r K=XW (Zf5 (St.fr σ) g c a b) d g σ r K:=rfl
theorem Zn2 (P g d σ r K m T a):Ye P g d (SI.bsl m T a) σ r K=XW (Zwt m (ZgX (rdG g (St.fr σ)) m a)) d g σ r K:=rfl
theorem Zqc (P g d σ r K x a m):Ye P g d (SI.ixs x a m) σ r K=ZwZ g d σ r K (rdG g (St.fr σ) a) (rdG g (St.fr σ) x) m:=rfl
theorem ZmJ (P g d σ r K x a b m):Ye P g d (SI.ixa x a b m) σ r K=ZzK g d σ r K (rdG g (St.fr σ) a) (rdG g (St.fr σ) x) b m:=rfl
theorem ZnA (P g d σ r K x a b m c):Ye P g d (SI.idx x a b m c) σ r K=Zz6 g d σ r K (rdG g (St.fr σ) a) (rdG g (St.fr σ) x) b m c:=rfl
theorem Zkw (P g d σ r K x m a):Ye P g d (SI.ld x m a) σ r K=ldK g d σ r K (rdG g (St.fr σ) x) m a:=rfl
theorem ZiJ (P g d σ r K b x y):Ye P g d (SI.div b x y) σ r K=ZAa g d σ r K b (rdG g (St.fr σ) x) (rdG g (St.fr σ) y):=rfl
theorem Zjv (P g d σ r K x):Ye P g d (SI.len x) σ r K=ZwG g d σ r K (rdG g (St.fr σ) x):=rfl
theorem Zky (P g d σ r K x):Ye P g d (SI.mv x) σ r K=Ym d (rdG g (St.fr σ) x) g σ r K:=rfl
theorem ZkP (P g d σ r K z a):Ye P g d (SI.build z a) σ r K=XW (pv (rdG g (St.fr σ)) (SI.build z a)) d g σ r K:=rfl
theorem Zif (P g d σ r K x):Ye P g d (SI.nilc x) σ r K=XW (Zcy (rdG g (St.fr σ) x)) d g σ r K:=rfl
theorem Zjr (P g d σ r K b x y):Ye P g d (SI.bin b x y) σ r K=XW (Zwn b (rdG g (St.fr σ) x) (rdG g (St.fr σ) y)) d g σ r K:=rfl
theorem Zg8 (P g d σ r K u x):Ye P g d (SI.un u x) σ r K=XW (uni u (rdG g (St.fr σ) x)) d g σ r K:=rfl
theorem ZkK (P g d σ r K x o):Ye P g d (SI.addo x o) σ r K=XW (VB o (rdG g (St.fr σ) x)) d g σ r K:=rfl
theorem Zg7 (P g d σ r K x o m a):Ye P g d (SI.fld x o m a) σ r K=XW (pv (rdG g (St.fr σ)) (SI.fld x o m a)) d g σ r K:=rfl
theorem Zh7 (P g d σ r K a b):Ye P g d (SI.mm a b) σ r K=XW (mmS a (Ul (rdG g (St.fr σ)) b)) d g σ r K:=rfl
theorem ZkS (P g d σ r K f a):Ye P g d (SI.mkf f a) σ r K=Ym d (SV.cl f (Ul (rdG g (St.fr σ)) a)) g σ r K:=rfl
theorem ZkF (P g d σ r K k x):Ye P g d (SI.conv k x) σ r K=XW (pv (rdG g (St.fr σ)) (SI.conv k x)) d g σ r K:=rfl
theorem Zj2 (P g d σ r K x a):Ye P g d (SI.ext x a) σ r K=XW (pv (rdG g (St.fr σ)) (SI.ext x a)) d g σ r K:=rfl
theorem ZiI (P g d σ r K x h k):Ye P g d (SI.slc x h k) σ r K=ZAb g (rdG g (St.fr σ) x) (rdG g (St.fr σ) h) (rdG g (St.fr σ) k) d σ r K:=rfl
theorem Zki (P g d σ r K m x a b):Ye P g d (SI.sub m x a b) σ r K=ZwR g m (rdG g (St.fr σ)) a b (rdG g (St.fr σ) x) d σ r K:=rfl
theorem ZjZ (P g d σ r K m b T x y):Ye P g d (SI.cln m b T x y) σ r K=False:=rfl
theorem Zjx (P g d σ r K m b T x y):Ye P g d (SI.appm m b T x y) σ r K=False:=rfl
theorem ZiW (P g d σ r K m x y):Ye P g d (SI.cpy m x y) σ r K=False:=rfl
theorem Zke (P g d σ r K m b z T x):Ye P g d (SI.mks m b z T x) σ r K=False:=rfl
theorem ZiQ (P g d σ r K x):Ye P g d (SI.isn x) σ r K=False:=rfl
theorem ZjQ (P g d σ r K m b T x y):Ye P g d (SI.app m b T x y) σ r K=Zwm g m b (ZhD m (rdG g (St.fr σ) x)) (ZrA m (St.hp σ) (rdG g (St.fr σ) y)) d σ r K:=rfl
theorem ZkD (P g d σ r K x m T):Ye P g d (SI.box x m T) σ r K=False:=rfl
theorem Zjs (P g d σ r K z T):Ye P g d (SI.alloc z T) σ r K=False:=rfl
theorem Zjw (P g d σ r K x y m):Ye P g d (SI.st x y m) σ r K=False:=rfl
theorem ZjA (P g d σ r K a b c x y):Ye P g d (SI.eqs a b c x y) σ r K=XW (eqR a (ZpH c b (rdG g (St.fr σ) x) (rdG g (St.fr σ) y))) d g σ r K:=rfl
theorem ZkA (P g d σ r K a b):Ye P g d (SI.raw a b) σ r K=False:=rfl
theorem ZiO (P g d σ r K a b):Ye P g d (SI.rv a b) σ r K=False:=rfl
theorem Zj8 (P g d σ r K a x b):Ye P g d (SI.rb a x b) σ r K=False:=rfl
theorem Zoh (x a b c d e):Zz2 false true x a b c d e=d { fr:=(x,SV.p (St.n c) 0) :: St.fr c,hp:=(St.n c,HB.cells a b) :: St.hp c,n:=St.n c+1,N:=St.N c,gs:=St.gs c } e:=rfl
theorem Zp1 (T σ r K t a):ZgW (some t) (some a) T σ r K=Zz2 (YV t (St.gs σ)) (Nat.blt t (St.N σ)) t a T σ r K:=rfl
theorem ZkV (x a b c d e f g i j):ZvM false true x a b c d e f g i j=i { fr:=(x,SV.v (Value.int IntKind.i64 ↑e)) :: St.fr g,hp:=(a,HB.row b c d f) :: St.hp g,n:=St.n g,N:=St.N g,gs:=St.gs g } j:=rfl
theorem ZlR (k v m a N T σ r K b):ZwX (some b) k v m a N T σ r K=ZvM (YV b (St.gs σ)) (Nat.blt b (St.N σ)) b k v m a N T σ r K:=rfl
theorem ZnO (k v m a N T σ r K):ZwX none k v m a N T σ r K=r { fr:=St.fr σ,hp:=(k,HB.row v m a T) :: St.hp σ,n:=St.n σ,N:=St.N σ,gs:=St.gs σ } K:=rfl
theorem Zot (d k v m i L a T σ r K c b e):ZqP d k v m i L a T (SV.sl c b e) σ r K=Zdi (Nat.beq m b) (CPY d k v m i L a e T σ r K):=rfl
theorem Zqp (d k v m i L a T σ r K):ZqP d k v m i L a T (SV.v (Value.slice none 0 0)) σ r K=CPY d k v m i L a [] T σ r K:=rfl
theorem Zn6 (d k v m i L a T σ r K b c):ZqP d k v m i L a T (SV.mr b c) σ r K=Zdi (WZ (Nat.beq k b) (Nat.beq v c)) (CPY d k v m i L a a T σ r K):=rfl
theorem ZmA (d k v m i L a T σ r K b c e f g):ZqP d k v m i L a T (SV.ms b c e f g) σ r K=Zdi (WZ (WZ (Nat.beq k b) (Nat.beq v c)) (Nat.beq m e)) (f+g<=List.length a/\CPY d k v m i L a (List.take g (List.drop f a)) T σ r K):=rfl
theorem ZyW (n m):lO (some m) n=m:=rfl
theorem ZwT (n):lO none n=n:=rfl
theorem Zpr (d m k v i a s σ r K b c e T):Zsk d m k v i a (HB.row b c e T) s σ r K=Zdi (WZ (Nat.beq m c) (Nat.beq v b)) (ZqP d k v m i (lO a (List.length e)) e T s σ r K):=rfl
theorem ZlG (d m a σ r K k v):ZwK d m (SV.mr k v) a σ r K=Zsk d m k v 0 none (lkh k (St.hp σ)) a σ r K:=rfl
theorem ZoB (d m a σ r K k v b i l):ZwK d m (SV.ms k v b i l) a σ r K=Zdi (Nat.beq m b) (Zsk d m k v i (some l) (lkh k (St.hp σ)) a σ r K):=rfl
theorem Zmd (g k v m a d σ r K i j):ZwO g k v m a (some i) (some j) d σ r K=SBM g i j k v m a d σ r K:=rfl
theorem ZpT (g k v m a d σ r K b):ZwO g k v m a (some b) none d σ r K=False:=rfl
theorem Zmr (g k v m a b d σ r K):ZwO g k v m a none b d σ r K=False:=rfl
theorem Zm2 (p):Zdi true p=p:=rfl
theorem ZpI (p):Zdi false p=False:=rfl
theorem ZoY (g m ρ a b k v d σ r K c e f T):ZzH g m ρ a b k v (HB.row c e f T) d σ r K=Zdi (WZ (Nat.beq m e) (Nat.beq v c)) (ZwO g k v m f (Zbn 0 ρ a) (Zbn (↑(List.length f)) ρ b) d σ r K):=rfl
theorem ZnX (g m ρ a b d σ r K c e f):ZwR g m ρ a b (SV.sl c e f) d σ r K=bif Nat.beq m e then Zwx g m f (Zbn 0 ρ a) (Zbn (↑(List.length f)) ρ b) d σ r K else False:=rfl
theorem Zmc (g m ρ a b d σ r K k v):ZwR g m ρ a b (SV.mr k v) d σ r K=ZzH g m ρ a b k v (lkh k (St.hp σ)) d σ r K:=rfl
theorem Zmv (x a b c d e f g i):verB false true x a b c d e f g i=g { fr:=(x,SV.mr a b) :: St.fr f,hp:=(a,HB.row b c d e) :: St.hp f,n:=St.n f,N:=St.N f,gs:=St.gs f } i:=rfl
theorem ZmG (k v m a T σ r K b):Zzg (some b) k v m a T σ r K=verB (YV b (St.gs σ)) (Nat.blt b (St.N σ)) b k v m a T σ r K:=rfl
theorem Zl1 (k v m a T σ r K):Zzg none k v m a T σ r K=False:=rfl
theorem ZlN (b d k v m a c T σ r K):Zxm true b d k v m a c T σ r K=APM b d k v m a c T σ r K:=rfl
theorem Znd (b d k v m a c T σ r K):Zxm false b d k v m a c T σ r K=False:=rfl
theorem ZpO (b d k v m a T σ r K c e f g):ZzI b d k v m (HB.row c e f g) a T σ r K=Zxm (WZ (Nat.beq m e) (WZ (Nat.beq v c) (Nat.beq T g))) b d k v m f a T σ r K:=rfl
theorem Zpl (b d m a T σ r K k v):ZzF b d m (SV.mr k v) a T σ r K=ZzI b d k v m (lkh k (St.hp σ)) a T σ r K:=rfl
theorem ZlK (b d m s T σ r K a):ZwQ b d m s (some a) T σ r K=ZzF b d m s a T σ r K:=rfl
theorem ZmM (b d m s T σ r K):ZwQ b d m s none T σ r K=False:=rfl
theorem Zn4 (x a b c d e f g):Zwr true x a b c d e f g=f { fr:=St.fr e,hp:=(x,HB.cells (Zo b a d) c) :: St.hp e,n:=St.n e,N:=St.N e,gs:=St.gs e } g:=rfl
theorem Zpo (x a b c d e f g):Zwr false x a b c d e f g=False:=rfl
theorem ZrC (k o m c σ r K l T):stC k o m (HB.cells l T) c σ r K=Zwr (Nat.ble (o+m) (List.length l)) k o l T c σ r K:=rfl
theorem ZoS (x a b c d e f g i j k):ZwJ true x a b c d e f g i j k=STR x a b c d e f g i j k:=rfl
theorem Zp8 (x a b c d e f g i j k):ZwJ false x a b c d e f g i j k=False:=rfl
theorem Zwh (k v a j o c σ r K b m d T):stR k v a j o (HB.row b m d T) c σ r K=ZwJ (WZ (Nat.beq a m) (Nat.beq v b)) b d j o k a c T σ r K:=rfl
theorem Zuc (k v a j o c σ r K b m d T e f g i):stR k v a j o (HB.rws b m d T e f g i) c σ r K=STW b m d T e f g i v a j o k c σ r K:=rfl
theorem Ztb (m c σ r K k o):stX (SV.p k o) m c σ r K=stC k o m (lkh k (St.hp σ)) c σ r K:=rfl
theorem ZvZ (m c σ r K k v a j o):stX (SV.pr k v a j o) m c σ r K=stR k v a j o (lkh k (St.hp σ)) c σ r K:=rfl
theorem Zgf (x a b c d e):ZcU true true x a b c d e=stX x a b c d e:=rfl
theorem Zfv (m x σ r K a):Zcl none (some a) m x σ r K=ZcU (chk a m) (Z9 a) x m a σ r K:=rfl
theorem ZuS (P Y d σ r K x y m):stp P Y d (SI.st x y m) σ r K=Zcl d (Yi (rdG none (St.fr σ) y)) m (rdG none (St.fr σ) x) σ r K:=rfl
theorem Zvs (P Y d σ r K x m T):stp P Y d (SI.box x m T) σ r K=ZgW d (Yi (rdG none (St.fr σ) x)) T σ r K:=rfl
theorem ZtH (P Y d σ r K z T):stp P Y d (SI.alloc z T) σ r K=ZgW d (some (lit z)) T σ r K:=rfl
theorem Ztl (P Y d σ r K m b T x y):stp P Y d (SI.cln m b T x y) σ r K=ZqV b d m (ZhD m (rdG none (St.fr σ) x)) (Zc8 m (rdG none (St.fr σ) y)) T σ r K:=rfl
theorem Zr8 (P Y d σ r K m b z T x):stp P Y d (SI.mks m b z T x) σ r K=Zyo b d m z (rdG none (St.fr σ) x) T σ r K:=rfl
theorem ZrQ (P Y d σ r K m x y):stp P Y d (SI.cpy m x y) σ r K=ZwK d m (rdG none (St.fr σ) x) (rdG none (St.fr σ) y) σ r K:=rfl
theorem Zru (P Y d σ r K m b T x y):stp P Y d (SI.appm m b T x y) σ r K=ZwQ b d m (rdG none (St.fr σ) x) (Zc8 m (rdG none (St.fr σ) y)) T σ r K:=rfl
theorem Zvj (P Y d σ r K f a):stp P Y d (SI.callm f a) σ r K=Zcw P f (Ul (rdG none (St.fr σ)) a) d σ r K:=rfl
theorem Zrr (P Y d σ r K x a):stp P Y d (SI.calvm x a) σ r K=Zgy P Y (rdG none (St.fr σ) x) (Ul (rdG none (St.fr σ)) a) d σ r K:=rfl
theorem Zol (P Y d σ r K x):stp P Y d (SI.isn x) σ r K=ZzN d (rdG none (St.fr σ) x) σ r K:=rfl
theorem Zou (P Y d σ r K a b):stp P Y d (SI.raw a b) σ r K=RAW P d a b σ r K:=rfl
theorem Zo0 (P Y d σ r K a b):stp P Y d (SI.rv a b) σ r K = ∃ s,RBE P a b σ s/\Ym d s none σ r K:=rfl
theorem Zl5 (P Y d σ r K a x b):stp P Y d (SI.rb a x b) σ r K = ∃ k h1 s,rdG none (St.fr σ) x=SV.mp k/\WK (lkh k (St.hp σ)) h1/\RBB P a (x :: b) k (lkh k (St.hp σ)) h1 σ s/\Ym d s none { fr:=St.fr σ,hp:=(k,h1) :: St.hp σ,n:=St.n σ,N:=St.N σ,gs:=St.gs σ } r K:=rfl
theorem Zh1 (d σ r K):Ztz d σ r K=Ym d (SV.v undef) none σ r K:=rfl
theorem Zyl (P Y j w d i σ r K b):gK P Y (SV.v (Value.bool b)) j w d i σ r K=GB P Y b j w d i σ r K:=rfl
theorem Zyy (P Y j w d i σ r K a c b):gK P Y (SV.gd a c (SV.v (Value.bool b))) j w d i σ r K=Ye P (some (j,w)) d i σ r K:=rfl
theorem Zsd (P Y σ r K d i af):st1 P Y { d:=d,i:=i,g:=none,af:=af } σ r K=stp P Y d i σ r K:=rfl
theorem ZrK (P Y σ r K d i j w af):st1 P Y { d:=d,i:=i,g:=some (j,w),af:=af } σ r K=gK P Y (lk j (St.fr σ)) j w d i σ r K:=rfl
theorem Zlm (f g σ K b):ZzP (SV.v (Value.bool b)) f g σ K=BR b f g σ K:=rfl
theorem Zmy (k x y):Zws BinOp.quo k x y=IntKind.wrap k (Int.tdiv x y):=rfl
theorem ZtY (a N):st0 a N={ fr:=YN 0 a,hp:=[],n:=0,N:=N,gs:=[] }:=rfl
theorem Znj (ρ):Ul ρ []=[]:=rfl
theorem Zn5 (ρ a r):Ul ρ (a :: r) = ρ a :: Ul ρ r:=rfl
theorem Zny (g):ZaU g []=[]:=rfl
theorem Zo9 (g s l):ZaU g (s :: l)=g s :: ZaU g l:=rfl
theorem ZlQ (ρ m):ZgX ρ m []=some []:=rfl
theorem Zmk (ρ m a r):ZgX ρ m (a :: r)=Zwu (Yi (ρ a)) m (ZgX ρ m r):=rfl
theorem Zql (hp):ZiF hp []=[]:=rfl
theorem ZnZ (hp s l):ZiF hp (s :: l)=cvt hp s :: ZiF hp l:=rfl
theorem ZvA: lit []=[]:=rfl
theorem Zsg (a r):lit (a :: r)=SV.v a :: lit r:=rfl
theorem ZvL: chk [] 0=true:=rfl
theorem ZtG (a l n):chk (a :: l) (Nat.succ n)=chk l n:=rfl
theorem Zt1 (x):nth [] x=none:=rfl
theorem ZtB (s a):nth (s :: a) 0=some s:=rfl
theorem ZvB (a l n):nth (a :: l) (Nat.succ n)=nth l n:=rfl
theorem ZgE (a l c b):Zo (a :: l) 0 (c :: b)=c :: Zo l 0 b:=rfl
theorem ZgI (x a l o):Zo (a :: l) (Nat.succ o) x=a :: Zo l o x:=rfl
theorem ZlP (o l t):ZwI o l t true=some ((o,l) :: t):=rfl
theorem Zpu (o l t):ZwI o l t false=none:=rfl
theorem Zo7 (o m l t):ZwD o m (some l) (some t)=ZwI o l t (chk l m):=rfl
theorem Zqb (ρ):Zlq ρ []=some []:=rfl
theorem ZoN (ρ o m a r):Zlq ρ ((o,m,a) :: r)=ZwD o m (Yi (ρ a)) (Zlq ρ r):=rfl
theorem ZvK (x):spl x []=x:=rfl
theorem Zrq (x o l r):spl x ((o,l) :: r)=spl (Zo x o l) r:=rfl
theorem Zng (z t):Zk4 z (some t)=some (spl z t):=rfl
theorem ZnJ (z):Zk4 z none=none:=rfl
theorem Znx (x):YN x []=[]:=rfl
theorem Znm (x s l):YN x (s :: l)=(x,s) :: YN (x+1) l:=rfl
theorem Zwa (j w s):gdS (SV.gd j w s)=true:=rfl
theorem Zrs (a):gdS (SV.v a)=false:=rfl
theorem Zus (k o):gdS (SV.p k o)=false:=rfl
theorem Zwi (l):gdS (SV.agg l)=false:=rfl
theorem Zvr (c m a):gdS (SV.sl c m a)=false:=rfl
theorem Zuj (k v):gdS (SV.mr k v)=false:=rfl
theorem ZuP (k v m i o):gdS (SV.pr k v m i o)=false:=rfl
theorem ZtZ (k v m i l):gdS (SV.ms k v m i l)=false:=rfl
theorem ZrW (a o):gdS (SV.ps a o)=false:=rfl
theorem ZmF (f a):gdS (SV.cl f a)=false:=rfl
theorem ZmT (l):gdS (SV.tup l)=false:=rfl
theorem Zns (φ):gdS (SV.q φ)=false:=rfl
theorem ZnI (k):gdS (SV.mp k)=false:=rfl
theorem ZpB (k):gdS (SV.yl k)=false:=rfl
theorem ZmR (T s):gdS (SV.ifc T s)=false:=rfl
theorem Zpj: gdS SV.any=false:=rfl
theorem ZvP (ρ k o):rnS ρ (SV.p k o)=SV.p (ρ k) o:=rfl
theorem Zsm (ρ k v):rnS ρ (SV.mr k v)=SV.mr (ρ k) v:=rfl
theorem ZtO (ρ k v m i o):rnS ρ (SV.pr k v m i o)=SV.pr (ρ k) v m i o:=rfl
theorem Zut (ρ k v m i o):rnS ρ (SV.ms k v m i o)=SV.ms (ρ k) v m i o:=rfl
theorem Zro (ρ k):rnS ρ (SV.mp k)=SV.mp (ρ k):=rfl
theorem ZuB (ρ k):rnS ρ (SV.yl k)=SV.yl (ρ k):=rfl
theorem Zvk (ρ l):rnS ρ (SV.agg l)=SV.agg (rnL ρ l):=rfl
theorem Zu8 (ρ l):rnS ρ (SV.tup l)=SV.tup (rnL ρ l):=rfl
theorem ZtX (ρ f l):rnS ρ (SV.cl f l)=SV.cl f (rnL ρ l):=rfl
theorem Zm0 (ρ T s):rnS ρ (SV.ifc T s)=SV.ifc T (rnS ρ s):=rfl
theorem Zph (ρ a):rnS ρ (SV.v a)=SV.v a:=rfl
theorem ZnS (ρ c m a):rnS ρ (SV.sl c m a)=SV.sl c m a:=rfl
theorem Zpt (ρ l o):rnS ρ (SV.ps l o)=SV.ps l o:=rfl
theorem ZmL (ρ φ):rnS ρ (SV.q φ)=SV.q φ:=rfl
theorem Znb (ρ j w s):rnS ρ (SV.gd j w s)=SV.gd j w s:=rfl
theorem ZnT (ρ):rnS ρ SV.any=SV.any:=rfl
theorem Zss (ρ):rnL ρ []=[]:=rfl
theorem Zs1 (ρ s l):rnL ρ (s :: l)=rnS ρ s :: rnL ρ l:=rfl
theorem Zsl (ρ l T):rnH ρ (HB.cells l T)=HB.cells (rnL ρ l) T:=rfl
theorem Ztf (ρ v m a T):rnH ρ (HB.row v m a T)=HB.row v m a T:=rfl
theorem Zvx (ρ φ):rnH ρ (HB.ob φ)=HB.ob φ:=rfl
theorem Zvq (ρ a c):rnH ρ (HB.map a c)=HB.map a c:=rfl
theorem ZtF (ρ a b c d):rnH ρ (HB.it a b c d)=HB.it (ρ a) b c d:=rfl
theorem ZtE (ρ a b):rnH ρ (HB.lp a b)=HB.lp a b:=rfl
theorem ZsT (ρ a):rnH ρ (HB.lb a)=HB.lb a:=rfl
theorem Zr4 (ρ v m a T o b c d):rnH ρ (HB.rws v m a T o b c d)=HB.rws v m a T o b c d:=rfl
theorem ZsP (ρ):rnH ρ HB.gone=HB.gone:=rfl
theorem ZtU (ρ):rnP ρ []=[]:=rfl
theorem Zv5 (ρ u s r):rnP ρ ((u,s) :: r)=(ρ u,rnH ρ s) :: rnP ρ r:=rfl
theorem Zkb (ρ):Zas ρ 0=[]:=rfl
theorem ZhZ (ρ j):Zas ρ (Nat.succ j)=(ρ j,HB.gone) :: Zas ρ j:=rfl
theorem Zv1 (b x y):exB b x y=bif b then x else y:=rfl
theorem Zvc (a hp n d σ r K):cmK false a hp n d σ r K=Ym d a none { fr:=St.fr σ,hp:=hp,n:=n,N:=St.N σ,gs:=St.gs σ } r K:=rfl
theorem Zuy (a hp n d σ r K):cmK true a hp n d σ r K=K (Ex.pan a) { fr:=St.fr σ,hp:=hp,n:=n,N:=St.N σ,gs:=St.gs σ }:=rfl
theorem Zka (P Y a d σ r K f b):Zgy P Y (SV.cl f b) a d σ r K=Zcw P f (a ++ b) d σ r K:=rfl
theorem ZjL (P Y a d σ r K k):Zgy P Y (SV.yl k) a d σ r K=YLD Y k a d σ r K:=rfl
theorem ZuN (p T a s):mtI p T (SV.ifc a s)=(a=T/\p s):=rfl
theorem Zrz (p l):mtO p (some l)=p l:=rfl
theorem Zug (p):mtO p none=False:=rfl
theorem Zs5 (σ K hp n a):itE σ K hp n (HB.lp a none)=K Ex.n { fr:=St.fr σ,hp:=(St.n σ,HB.gone) :: hp,n:=n,N:=St.N σ,gs:=[] }:=rfl
theorem Ztg (σ K hp n a i):itE σ K hp n (HB.lp a (some (Ex.ex i)))=K (Ex.ex i) { fr:=St.fr σ,hp:=(St.n σ,HB.gone) :: hp,n:=n,N:=St.N σ,gs:=[] }:=rfl
theorem Zvo (σ K hp n a):itE σ K hp n (HB.lp a (some Ex.ret))=K Ex.ret { fr:=St.fr σ,hp:=(St.n σ,HB.gone) :: hp,n:=n,N:=St.N σ,gs:=[] }:=rfl
theorem Ztj (σ K o):itP σ K o=match Ot.pn o with | false=>itE σ K (Ot.hp o) (Ot.n o) (lkh (St.n σ) (Ot.hp o)) | true=>K (Ex.pan (Ot.res o)) { fr:=St.fr σ,hp:=Ot.hp o,n:=Ot.n o,N:=St.N σ,gs:=[] }:=rfl
theorem ZlB (a r):Zq5 a (HB.lp r none)=(r=a):=rfl
theorem ZmE (a r):Zk9 a (HB.lb r)=(r=a):=rfl
theorem Zvw (p a s l):pmS (p :: a) (s :: l)=(p,s) :: pmS a l:=rfl
theorem Zl9: Zk6 [] []=true:=rfl
theorem Zoj (a l b m):Zk6 (a :: l) (b :: m)=Zk6 l m:=rfl
theorem ZhJ (N):UB N []=true:=rfl
theorem ZiV (N j r):UB N (j :: r)=bif Nat.blt j N then UB N r else false:=rfl
theorem ZtC (p):rfB true p=p:=rfl
theorem Zsh (p):rfB false p=False:=rfl
theorem Zvt (P a b c σ K f d):rfK P a b (SV.cl f d) c σ K=gs0 (St.gs σ) (rfB (UB (St.N σ) c) (RFUN P a b f d c σ K)):=rfl
theorem ZoZ (a hp n s):ZqR a hp n (some s)=a { pn:=false,res:=s,hp:=hp,n:=n }:=rfl
theorem Zpa (a hp n):ZqR a hp n none=False:=rfl
theorem ZnV (x s):ZwP (some s) x=rvD s x:=rfl
theorem ZnW (x):ZwP none x=none:=rfl
theorem Zqq (σ):Zdh σ []=some []:=rfl
theorem Zli (σ r a):Zdh σ (r :: a)=ZwP (rv1 σ r) (Zdh σ a):=rfl
theorem Zll (a b x):Wd a b Ex.n x=ZqR b (St.hp x) (St.n x) (rvE (Zdh x a)):=rfl
theorem Zqh (a b x):Wd a b Ex.ret x=ZqR b (St.hp x) (St.n x) (rvE (Zdh x a)):=rfl
theorem ZmH (a b x s):Wd a b (Ex.pan s) x=b { pn:=true,res:=s,hp:=St.hp x,n:=St.n x }:=rfl
theorem Zlt (a b x c):Wd a b (Ex.ex c) x=False:=rfl
theorem ZsQ (a b Φ x):bdE a b Φ Ex.n x=(Zk9 b (lkh a (St.hp x))/\Φ { pn:=false,res:=SV.v (Value.bool true),hp:=(a,HB.lp b none) :: St.hp x,n:=St.n x }):=rfl
theorem Zve (a b Φ x i):bdE a b Φ (Ex.ex i) x=(Zk9 b (lkh a (St.hp x))/\Φ { pn:=false,res:=SV.v (Value.bool false),hp:=(a,HB.lp b (some (Ex.ex i))) :: St.hp x,n:=St.n x }):=rfl
theorem ZvI (a b Φ x):bdE a b Φ Ex.ret x=(Zk9 b (lkh a (St.hp x))/\Φ { pn:=false,res:=SV.v (Value.bool false),hp:=(a,HB.lp b (some Ex.ret)) :: St.hp x,n:=St.n x }):=rfl
theorem Zr9 (a b Φ x s):bdE a b Φ (Ex.pan s) x = Φ { pn:=true,res:=s,hp:=St.hp x,n:=St.n x }:=rfl
theorem Zuk (a b c K x):asE a b c K Ex.n x=(Zq5 b (lkh a (St.hp x))/\c { fr:=St.fr x,hp:=(a,HB.lb b) :: St.hp x,n:=St.n x,N:=St.N x,gs:=St.gs x } K):=rfl
theorem Zwg (a b c K x i):asE a b c K (Ex.ex i) x=False:=rfl
theorem ZrS (a b c K x):asE a b c K Ex.ret x=False:=rfl
theorem ZuH (a b c K x s):asE a b c K (Ex.pan s) x=False:=rfl
theorem Zto (x):rho [] x=0:=rfl
theorem ZvU (a b):rho (a :: b) 0=a:=rfl
theorem Zrv (a l k):rho (a :: l) (Nat.succ k)=rho l k:=rfl
theorem ZsD (ρ a x):mtS ρ a SV.any x=True:=rfl
theorem Zvn (ρ a x k o):mtS ρ a (SV.p k o) x=(k < a/\x=SV.p (ρ k) o):=rfl
theorem Zsi (ρ a x k v):mtS ρ a (SV.mr k v) x=(k < a/\x=SV.mr (ρ k) v):=rfl
theorem Zvi (ρ a x k v m i o):mtS ρ a (SV.pr k v m i o) x=(k < a/\x=SV.pr (ρ k) v m i o):=rfl
theorem ZrF (ρ a x k v m i o):mtS ρ a (SV.ms k v m i o) x=(k < a/\x=SV.ms (ρ k) v m i o):=rfl
theorem ZsW (ρ a x l):mtS ρ a (SV.agg l) x=mtO (mtL ρ a l) (VT x):=rfl
theorem Zsu (ρ a x l):mtS ρ a (SV.tup l) x=mtO (mtL ρ a l) (ZwF x):=rfl
theorem Zul (ρ a x f l):mtS ρ a (SV.cl f l) x=mtO (mtL ρ a l) (clL f x):=rfl
theorem Zui (ρ a x b):mtS ρ a (SV.v b) x=(x=SV.v b):=rfl
theorem Zqf (ρ a x c m b):mtS ρ a (SV.sl c m b) x=(x=SV.sl c m b/\KFR b):=rfl
theorem ZpL (ρ a x l o):mtS ρ a (SV.ps l o) x=(x=SV.ps l o/\KFL l):=rfl
theorem ZlL (ρ a x k):mtS ρ a (SV.mp k) x=(k < a/\x=SV.mp (ρ k)):=rfl
theorem ZlM (ρ a x k):mtS ρ a (SV.yl k) x=(k < a/\x=SV.yl (ρ k)):=rfl
theorem ZoM (ρ a x T t):mtS ρ a (SV.ifc T t) x=mtI (mtS ρ a t) T x:=rfl
theorem Zo6 (ρ a x φ):mtS ρ a (SV.q φ) x=(x=SV.q φ):=rfl
theorem ZmZ (ρ a x j w s):mtS ρ a (SV.gd j w s) x=False:=rfl
theorem Zvu (ρ a x):mtL ρ a [] x=(x=[]):=rfl
theorem ZsJ (ρ a x s l):mtL ρ a (s :: l) x=mtB (mtS ρ a s) (mtL ρ a l) x:=rfl
theorem ZrX (ρ a x):mtH ρ a HB.gone x=True:=rfl
theorem ZrR (ρ a l T b c):mtH ρ a (HB.cells l T) (HB.cells b c)=(c=T/\mtL ρ a l b):=rfl
theorem Ztx (ρ a x v m b T):mtH ρ a (HB.row v m b T) x=(x=HB.row v m b T/\KFR b):=rfl
theorem Zte (ρ a x φ):mtH ρ a (HB.ob φ) x=(x=HB.ob φ):=rfl
theorem ZtV (ρ a x b c):mtH ρ a (HB.map b c) x=(x=HB.map b c/\∀ (e:Nat × Value × SV),e ∈ b->KF (Prod.snd (Prod.snd e))):=rfl
theorem ZtR (ρ d x e a b c):mtH ρ d (HB.it e a b c) x=(e < d/\x=HB.it (ρ e) a b c):=rfl
theorem Zt8 (ρ a x r b):mtH ρ a (HB.lp r b) x=(x=HB.lp r b):=rfl
theorem Zva (ρ a x r):mtH ρ a (HB.lb r) x=(x=HB.lb r):=rfl
theorem ZtT (ρ a x v m b T o c d e):mtH ρ a (HB.rws v m b T o c d e) x=(x=HB.rws v m b T o c d e/\KFR b/\∀ (r:List (List SV)),r ∈ d->KFR r):=rfl
theorem Zo5 (ρ a l T v m b c):mtH ρ a (HB.cells l T) (HB.row v m b c)=False:=rfl
theorem Zpc (ρ a l T φ):mtH ρ a (HB.cells l T) (HB.ob φ)=False:=rfl
theorem ZoC (ρ a l T b c):mtH ρ a (HB.cells l T) (HB.map b c)=False:=rfl
theorem ZnR (ρ a l T b c d e):mtH ρ a (HB.cells l T) (HB.it b c d e)=False:=rfl
theorem Zly (ρ a l T b c):mtH ρ a (HB.cells l T) (HB.lp b c)=False:=rfl
theorem Zp9 (ρ a l T b):mtH ρ a (HB.cells l T) (HB.lb b)=False:=rfl
theorem Zlf (ρ a l T v m b c o d e f):mtH ρ a (HB.cells l T) (HB.rws v m b c o d e f)=False:=rfl
theorem Zmb (ρ a l T):mtH ρ a (HB.cells l T) HB.gone=False:=rfl
theorem Zu4 (p):mtM true p=True:=rfl
theorem Zvv (p):mtM false p=p:=rfl
theorem ZvW (ρ a x b):mtF ρ a x [] b=True:=rfl
theorem ZvS (ρ a x b t s r):mtF ρ a x ((t,s) :: r) b=(mtM (YV t x) (mtS ρ a s (lk t b))/\mtF ρ a (t :: x) r b):=rfl
theorem ZsE (ρ a hp b):mtP ρ a hp b 0=True:=rfl
theorem Zrn (ρ a hp b j):mtP ρ a hp b (Nat.succ j)=(mtH ρ b (lkh j a) (lkh (ρ j) hp)/\mtP ρ a hp b j):=rfl
theorem ZuW (a):hpb a []=True:=rfl
theorem Zuu (a u s r):hpb a ((u,s) :: r)=(u < a/\hpb a r):=rfl
theorem Ztc (a b):eqC 0 (SV.v (Value.bool a)) (SV.v (Value.bool b))=some (a == b):=rfl
theorem ZsU (k a j b):eqC 1 (SV.v (Value.int k a)) (SV.v (Value.int j b))=bif Zb6 k j then some (a == b) else none:=rfl
theorem Zu6 (a b):eqC 2 (SV.v (Value.string a)) (SV.v (Value.string b))=some (ByteArray.toList a == ByteArray.toList b):=rfl
theorem Zv3 (a b):eqA (some a) (some b)=some (a && b):=rfl
theorem Zow: Zgc [] [] []=some true:=rfl
theorem ZlJ (c a b d y e):Zgc (c :: a) (b :: d) (y :: e)=eqA (eqC c b y) (Zgc a d e):=rfl
theorem Zm8 (c a b):ZpH c true (SV.agg a) (SV.agg b)=Zgc c a b:=rfl
theorem Zl7 (c a b):ZpH c false (SV.v (Value.bool a)) (SV.v (Value.bool b))=some (a == b):=rfl
theorem Zsv (a b):eqR a (some b)=some (SV.v (Value.bool (ngB a b))):=rfl
theorem Zrp (a):eqR a none=none:=rfl
theorem Zuf (x):ngB true x = !x:=rfl
theorem ZuZ (x):ngB false x=x:=rfl
theorem Zob (m hp c a b):ZrA m hp (SV.sl c a b)=ZfD b (Nat.beq m a):=rfl
theorem ZnH (m hp):ZrA m hp (SV.v (Value.slice none 0 0))=some []:=rfl
theorem ZnY (m hp k v):ZrA m hp (SV.mr k v)=ZgZ m v (lkh k hp):=rfl
theorem Zlv (m a b):ZhD m (SV.sl true a b)=ZfD b (Nat.beq m a):=rfl
theorem Znf (m):ZhD m (SV.v (Value.slice none 0 0))=some []:=rfl
theorem ZmU (g m b d σ r K a c):Zwm g m b (some a) (some c) d σ r K=APP g m b a c d σ r K:=rfl
theorem ZpA (g m b d σ r K a):Zwm g m b (some a) none d σ r K=False:=rfl
theorem ZoU (g m b y d σ r K):Zwm g m b none y d σ r K=False:=rfl
theorem Zoi (l):VT (SV.agg l)=some l:=rfl
theorem ZlZ (l):ZwF (SV.tup l)=some l:=rfl
theorem ZsG (f a b):clL f (SV.cl a b)=bif Nat.beq a f then some b else none:=rfl
theorem ZrJ (p q):mtB p q []=False:=rfl
theorem ZsV (p q s l):mtB p q (s :: l)=(p s/\q l):=rfl
theorem Zj5 (x a b c d e f):Zlw false true x a b c d e f=e { fr:=(x,SV.mr (St.n d) 0) :: St.fr d,hp:=(St.n d,HB.row 0 a b c) :: St.hp d,n:=St.n d+1,N:=St.N d,gs:=St.gs d } f:=rfl
theorem ZoX (m a T σ r K b):Zmi (some b) m a T σ r K=Zlw (YV b (St.gs σ)) (Nat.blt b (St.N σ)) b m a T σ r K:=rfl
theorem ZlO (m a T σ r K):Zmi none m a T σ r K=False:=rfl
theorem ZmY (b d m T σ r K a):ZqV b d m (some []) (some a) T σ r K=CLN b d m a T σ r K:=rfl
theorem ZlV (b d m y T σ r K a c):ZqV b d m (some (a :: c)) y T σ r K=False:=rfl
theorem Zlg (b d m T σ r K):ZqV b d m (some []) none T σ r K=False:=rfl
theorem Zmq (b d m y T σ r K):ZqV b d m none y T σ r K=False:=rfl
theorem ZmX (b d m z T σ r K k n):Zyo b d m z (SV.v (Value.int k n)) T σ r K=MKS b d m (lit z) n T σ r K:=rfl
theorem Zqm (d σ r K c m a):ZzN d (SV.sl c m a) σ r K=ISN d a σ r K:=rfl
theorem ZnM (g d σ r K c m a b n e j):ZAb g (SV.sl c m a) (SV.v (Value.int b n)) (SV.v (Value.int e j)) d σ r K=SLC g n j m a d σ r K:=rfl
theorem ZoQ (g m a d σ r K i j):Zwx g m a (some i) (some j) d σ r K=SUB g i j m a d σ r K:=rfl
theorem Zma (g m a d σ r K b):Zwx g m a (some b) none d σ r K=False:=rfl
theorem ZlF (g m a b d σ r K):Zwx g m a none b d σ r K=False:=rfl
theorem Znc (a ρ):Zbn a ρ none=some a:=rfl
theorem Zlb (a ρ b):Zbn a ρ (some b)=match ρ b with | SV.v (Value.int k n)=>some n | x=>none:=rfl
theorem Zqn (m c a b):Zc8 m (SV.sl c a b)=ZfD b (Nat.beq m a):=rfl
theorem ZpM (m):Zc8 m (SV.v (Value.slice none 0 0))=some []:=rfl
theorem Zlz (x h j w):ZwM false (.v x) h j w=false:=rfl
theorem Zf1 (x l):Zo (x :: l) 0 []=x :: l:=rfl
theorem ZgJ:Zo [] 0 []=[]:=rfl
attribute [go_sem] ZpQ Zoa Zo2 ZmN w64_0 w64_1 w64_2 w64_3 w64_4 w64_5 w64_6 e_stO Zzt ZsH Zox ZrH Zyj ZmS Zn9 Zsz ZnL ZoD Zp0 Zye Zt5 Zzs Zuv ZtW phx_1 phx_2 phK_n Zry Zw2 Zsc ZxI Zp7 ZuE ZtD ZrD Znt sx_gh ZnD Zsr Zx0 Zr6 Zmz Zxs Zqi ZxP Zlo Zxd Zv2 Zm1 lkB_t lkB_f Zxl ZyN Zr0 ZuM Zy5 Zxu Zlu Zr2 Zv6 ZwS Zzy Zw5 e_lk e_lk0 e_lkh Zw3 Zyg ZsC e_blk Zi1 ZpV ZuI Zwd ZrI Zkc Zle ZkR ZnP ZuG Zvg Zt7 Zjt Zpf ZdP Zft ZiU ZjJ ZiA ZdH ZgM ZgG Zhi Znk Zor ZoT ZfE ZiE ZrN Zgw ZkH Zmg ZnQ Zp3 Zgj Zhc ZgK Zfo ZhN ZjR Znw Zln Zod ZmI ZlD Zok ZfL ZfV Zje Zkm Zgu Zkd ZoL Zqk Zl8 Zf9 Zh0 ZfZ Zkq Zqe Zn7 ZlT ZfM ZjH Zdq ZfP Zjj ZjM ZhL ZfI Ziy Zpn Zwe Zr5 ZvN Zhj ZoK Zgz Zi2 Zls Zm5 ZoF Zgn ZkC ZfT Zkl Zgv Zhh ZdQ Zfr Ziv ZiG ZiS Zdm Zf4 ZdY ZdW e_yld e_exR e_hpM Zkf Zdt Zfq Zh3 ZjW Zjl ZfK ZkG ZvR Zd1 ZfJ Zd4 ZgL Zbz Za6 Zcs Za2 ZaN e_rdG ZxG Zxk Zzl e_alw Zyr e_vw1 e_vw2 e_vw3 e_vw4 Zoe Zog Zzv Zhk Zhy Zgi ZfG ZgR Zgk ZgO Zf7 Zgd ZgA Zgm Zi0 Zf0 Zgh ZgF ZiL Zfs ZfY Zgr Zl3 ZoV ZjI ZkB ZhU Zj1 Zn3 Zp6 ZyO ZuU Zsq e_mm e_bld ZfS Zxo ZpX Zj7 ZpZ ZpY Zmj Zic Zkh e_rvR ZxA Zvm Zt0 ZoG ZfN ZdU Zi7 Zo1 ZfA ZiY ZhH ZoP ZgP ZiP Zi4 Zhz ZhM ZhO Zlr ZfW Zfm ZhB ZgD Zk0 e_rvs Zqa Zg9 Zoo Zua Zzq ZiX Zku Zhf ZiD ZpN Zl0 ZsF Zum ZsL Zsx Zs8 Zu3 ZuD ZmW Zqd Znh Zlj Zqg ZnE Zms Zld Zmu ZmP Zm6 Zop ZrP ZuT Zti Zs7 ZuA ZuY Zv9 ZsI Zso Zsa ZuK ZvX ZsO Zm7 ZlX Zos ZlI Zmf Znv Znz Znq Zim ZkT ZlE ZmB Zhr ZhX Zt4 Zu2 Zg6 ZkU Zj3 ZhP Zqo ZmV ZhA ZmD ZpD Zp4 Zoz Zmh Zof Zl6 Znr Zmx Zml Zr7 Zux ZsB Zuh Zwf Zuz ZrB Zv4 ZpJ ZpG ZnC ZnF Zo8 Zlk ZpU Zpv Zpi Zm4 Znu Zm9 ZpR ZmQ ZlH Zn2 Zqc ZmJ ZnA Zkw ZiJ Zjv Zky ZkP Zif Zjr Zg8 ZkK Zg7 Zh7 ZkS ZkF Zj2 ZiI Zki ZjZ Zjx ZiW Zke ZiQ ZjQ ZkD Zjs Zjw ZjA ZkA ZiO Zj8 Zoh Zp1 ZkV ZlR ZnO Zot Zqp Zn6 ZmA ZyW ZwT Zpr ZlG ZoB Zmd ZpT Zmr Zm2 ZpI ZoY ZnX Zmc Zmv ZmG Zl1 ZlN Znd ZpO Zpl ZlK ZmM Zn4 Zpo ZrC ZoS Zp8 Zwh Zuc Ztb ZvZ Zgf Zfv ZuS Zvs ZtH Ztl Zr8 ZrQ Zru Zvj Zrr Zol Zou Zo0 Zl5 Zh1 Zyl Zyy Zsd ZrK Zlm Zmy ZtY Znj Zn5 Zny Zo9 ZlQ Zmk Zql ZnZ ZvA Zsg ZvL ZtG Zt1 ZtB ZvB ZgE ZgI ZlP Zpu Zo7 Zqb ZoN ZvK Zrq Zng ZnJ Znx Znm Zwa Zrs Zus Zwi Zvr Zuj ZuP ZtZ ZrW ZmF ZmT Zns ZnI ZpB ZmR Zpj ZvP Zsm ZtO Zut Zro ZuB Zvk Zu8 ZtX Zm0 Zph ZnS Zpt ZmL Znb ZnT Zss Zs1 Zsl Ztf Zvx Zvq ZtF ZtE ZsT Zr4 ZsP ZtU Zv5 Zkb ZhZ Zv1 Zvc Zuy Zka ZjL ZuN Zrz Zug Zs5 Ztg Zvo Ztj ZlB ZmE Zvw Zl9 Zoj ZhJ ZiV ZtC Zsh Zvt ZoZ Zpa ZnV ZnW Zqq Zli Zll Zqh ZmH Zlt ZsQ Zve ZvI Zr9 Zuk Zwg ZrS ZuH Zto ZvU Zrv ZsD Zvn Zsi Zvi ZrF ZsW Zsu Zul Zui Zqf ZpL ZlL ZlM ZoM Zo6 ZmZ Zvu ZsJ ZrX ZrR Ztx Zte ZtV ZtR Zt8 Zva ZtT Zo5 Zpc ZoC ZnR Zly Zp9 Zlf Zmb Zu4 Zvv ZvW ZvS ZsE Zrn ZuW Zuu Ztc ZsU Zu6 Zv3 Zow ZlJ Zm8 Zl7 Zsv Zrp Zuf ZuZ Zob ZnH ZnY Zlv Znf ZmU ZpA ZoU Zoi ZlZ ZsG ZrJ ZsV Zj5 ZoX ZlO ZmY ZlV Zlg Zmq ZmX Zqm ZnM ZoQ Zma ZlF Znc Zlb Zqn ZpM Zlz Zf1 ZgJ List.drop List.take List.length List.cons_append List.nil_append Nat.beq Nat.blt Nat.ble Nat.zero_add Nat.add_zero Nat.mul_one Nat.zero_mul Nat.one_mul cond_true cond_false List.set
end Go.Sx
