/- Walks and plain laws that lead to the given statement, part 4 of 9. -/
import Derived.Test.YthilckbkffjliaaQC
set_option linter.all false
open Nat renaming reduceAdd->rA,reduceMul->rM,reduceSub->rS,beq_refl->nbr
namespace Go.Sx
open Go Go.RowKit
variable {Y:Hd}
section
variable (P:Program) (m:Nat) (σ : St) (K:Ex->St->Prop) (L:RK)
theorem ZzR:rx P Y [] σ L=L .n σ:=rfl
theorem ZtF (io:Ins) (r:List Ins):rx P Y (io :: r) σ L=st1 P Y io σ (rx P Y r) L:=rfl
theorem ZyX (ops:List Ins):sx P Y m (.reg ops) σ K=rx P Y ops σ (ZbI K):=rfl
theorem Zu3 (ord:List Nat) (p:Ph) (ps:List Ph):sx P Y m (.regs ord p ps) σ K=phx P Y p ps σ (ZbI K):=rfl
theorem phx_1 (vs:List VI) (nA nB:Nat) (rest:List Ins):phx P Y ⟨vs,nA,nB,rest⟩ [] σ L=gs0 σ.gs (rxv P Y (ZbQ σ.hp (rx P Y rest)) vs σ L):=rfl
theorem phx_2 (vs:List VI) (nA nB:Nat) (rest:List Ins) (q:Ph) (ps:List Ph):phx P Y ⟨vs,nA,nB,rest⟩ (q :: ps) σ L=gs0 σ.gs (rxv P Y (ZbQ σ.hp (rx P Y rest)) vs σ (phK (phx P Y q ps) L)):=rfl
theorem phK_n (f:St->RK->Prop):phK f L .n σ = f σ L:=rfl
theorem ZtX (ord:List Nat) (vs:List VI) (nA nB:Nat) (rest:List Ins):sx P Y m (.regd ord vs nA nB rest) σ K=gs0 σ.gs (rxv P Y (ZbQ σ.hp (rx P Y rest)) vs σ (ZbI K)):=rfl
theorem Zs6 (r:KT):rxv P Y r [] σ L=r σ L:=rfl
theorem Zyk (r:KT) (io:Ins) (l:List VI):rxv P Y r (.op io :: l) σ L=st1 P Y io σ (rxv P Y r l) L:=rfl
theorem ZqF (r:KT) (x:X) (l:List VI):rxv P Y r (.hide x :: l) σ L=Zdo (rdG none σ.fr x) σ (rxv P Y r l) L:=rfl
theorem Zl7 (hp:List (Nat × HB)) (r:KT):ZbQ hp r σ L=r ⟨σ.fr,hp,σ.n,σ.N,σ.gs⟩ L:=rfl
theorem Zub (k o:Nat) (r:KT):Zdo (.p k o) σ r L=r ⟨σ.fr,(k,.gone) :: σ.hp,σ.n,σ.N,σ.gs⟩ L:=rfl
theorem ZpR (k v:Nat) (r:KT):Zdo (.mr k v) σ r L=r ⟨σ.fr,(k,.gone) :: σ.hp,σ.n,σ.N,σ.gs⟩ L:=rfl
theorem Zot (k v m i o:Nat) (r:KT):Zdo (.pr k v m i o) σ r L=r ⟨σ.fr,(k,.gone) :: σ.hp,σ.n,σ.N,σ.gs⟩ L:=rfl
theorem ZoL (k v m i o:Nat) (r:KT):Zdo (.ms k v m i o) σ r L=r ⟨σ.fr,(k,.gone) :: σ.hp,σ.n,σ.N,σ.gs⟩ L:=rfl
theorem Zwr (p:Prop):gs0 [] p=p:=rfl
theorem ZzT (a b:SC):sx P Y m (.seq a b) σ K=sx P Y m a σ (ZuY (sx P Y m b) K):=rfl
theorem Zud (c:X) (a b:SC):sx P Y m (.cond c a b) σ K=ZAj (rdG none σ.fr c) (sx P Y m a) (sx P Y m b) σ K:=rfl
theorem ZpE (id:Nat) (c:SC):sx P Y m (.block id c) σ K=sx P Y m c σ (ZrI id K):=rfl
theorem Zu5 (c:SC):sx P Y m (.loop c) σ K=Zsc m (sx P Y m c) σ K:=rfl
theorem ZtI (id:Nat):sx P Y m (.exit id) σ K=K (.ex id) σ:=rfl
theorem Zzb:sx P Y m .ret σ K=K .ret σ:=rfl
theorem Zte:sx P Y m .skip σ K=K .n σ:=rfl
theorem Zl0 (c:SC):sx P Y m (.scope c) σ K=sx P Y m c σ K:=rfl
theorem sx_gh (c:SC):sx P Y m (.gh c) σ K=GH m (sx P Y m c) σ K:=rfl
theorem ZlG (l:Nat):sx P Y m (.label l) σ K=K .n σ:=rfl
theorem ZtV (e:Ex):ZbI K e σ = K e (Vp σ):=rfl
theorem Zz6 (f:CT):ZuY f K .n σ = f σ K:=rfl
theorem Zt9 (f:CT) (i:Nat):ZuY f K (.ex i) σ = K (.ex i) σ:=rfl
theorem ZpZ (f:CT) (s:SV):ZuY f K (.pan s) σ = K (.pan s) σ:=rfl
theorem Zny (f:CT):ZuY f K .ret σ = K .ret σ:=rfl
theorem Zxz (id:Nat):ZrI id K .n σ = K .n σ:=rfl
theorem Zpj (id:Nat) (s:SV):ZrI id K (.pan s) σ = K (.pan s) σ:=rfl
theorem ZoR (id:Nat):ZrI id K .ret σ = K .ret σ:=rfl
theorem Zx3 (rs:List RV) (res:SV):ZAI rs res .n σ = (rvR rs σ = some res):=rfl
theorem Zl8 (rs:List RV) (res:SV):ZAI rs res .ret σ = (rvR rs σ = some res):=rfl
theorem Zzk {S:Type} (st:S->St) (rel:S->Prop) (μ : S->Nat) (s:S):Zmc m st rel μ s K .n σ = ∃ s',rel s'/\μ s' < μ s/\Ent m σ (st s'):=rfl
theorem Zse {S:Type} (st:S->St) (rel:S->Prop) (μ : S->Nat) (s:S) (i:Nat):Zmc m st rel μ s K (.ex i) σ = K (.ex i) σ:=rfl
theorem ZmQ {S:Type} (st:S->St) (rel:S->Prop) (μ : S->Nat) (s:S) (x:SV):Zmc m st rel μ s K (.pan x) σ = K (.pan x) σ:=rfl
theorem ZlQ {S:Type} (st:S->St) (rel:S->Prop) (μ : S->Nat) (s:S):Zmc m st rel μ s K .ret σ = K .ret σ:=rfl
end
section
variable {P:Program} {m:Nat} {σ : St} {K:Ex->St->Prop} {L:RK} {r:KT} {d:Option Nat} {g:Option (Nat × Bool)}
theorem br {b:Bool} {f h:CT} (h1:b=true->f σ K) (h2:b=false->h σ K):BR b f h σ K:=⟨h1,h2⟩
theorem ZU {b:Bool} {f h:CT} (hb:b=true) (h1:f σ K):BR b f h σ K:=⟨fun _=>h1,fun e=>by rw [hb] at e;cases e⟩
theorem ZH {b:Bool} {f h:CT} (hb:b=false) (h1:h σ K):BR b f h σ K:=⟨fun e=>by (rw [hb] at e;cases e),fun _=>h1⟩
theorem gb {b w:Bool} {j:Nat} {i:SI} (h:Yq P (some (j,w)) d i σ r L):GB P Y b j w d i σ r L:=.inr (.inr h)
theorem Zx {b w:Bool} {j:Nat} {i:SI} (hb:b=w) (h:stp P Y d i σ r L):GB P Y b j w d i σ r L:=.inl ⟨hb,h⟩
theorem Zu {b w:Bool} {j:Nat} {i:SI} (hb:b≠w) (h:ZuJ d σ r L):GB P Y b j w d i σ r L:=.inr (.inl ⟨hb,h⟩)
theorem call {f:FuncId} {args:List SV} {res:SV} (h:Ct P f args res) (hk:Yr d res g σ r L):Zxb P g f args d σ r L:=⟨res,.inl (ZX.2 fun _=>h),hk⟩
theorem Zbd {f:FuncId} {args:List SV} {res:SV} (hf:FLT res) (h:Ct P f (Zbi (vw4 σ.hp) args) res) (hk:Yr d res g σ r L):Zxb P g f args d σ r L:=⟨res,.inr ⟨hf,ZX.2 fun _=>h⟩,hk⟩
theorem ZAl {b:BinOp} {k:IntKind} {x y:Int} (h:y≠0) (hk:Yr d (.v (.int k (Zt8 b k x y))) g σ r L):DIV g b k x y d σ r L:=⟨ZX.2 fun _=>h,hk⟩
theorem ixs {xs:List (List SV)} {i:Int} (n:Nat) (row:List SV) (hi:i=(n:Int)) (hr:xs[n]? = some row) (hk:Yr d (.ps row 0) g σ r L):IXS g xs i d σ r L:=⟨row,ZX.2 fun _=>⟨n,hi,hr⟩,hk⟩
theorem ZQ {α : Type} {l:List α} {f:α->List SV} {i:Int} (n:Nat) (hn:n < l.length) (hi:i=(n:Int)) (hk:Yr d (.ps (f l[n]) 0) g σ r L):IXS g (l.map f) i d σ r L :=
 ixs n _ hi (by simp [hn]) hk
theorem ixa {len:Nat} {i:Int} {F:Nat->Option SV} (n:Nat) (hi:i=(n:Int)) (hn:n < len) (hk:Wo (F n) d g σ r L):IXA g len i F d σ r L:=⟨n,ZX.2 fun _=>⟨hi,hn⟩,hk⟩
theorem loop {f:CT} {S:Type} (st:S->St) (rel:S->Prop) (μ : S->Nat) (s:S) (h0:rel s) (he:Ent m σ (st s)) (hb:∀ s,rel s->f (st s) (Zmc m st rel μ s K)):Zsc m f σ K :=
 .inr ⟨S,st,rel,μ,⟨s,h0,he⟩,hb⟩
theorem Zim {f:CT} (n:Nat) (h:Zxm f K n σ):Zsc m f σ K:=.inl ⟨n,h⟩
theorem ZV {f:CT} (n:Nat):Zxm f K (n+1) σ = f σ (ZwZ (Zxm f K n) K):=rfl
theorem ZxF (p:St->Prop):ZwZ p K .n σ = p σ:=rfl
theorem ZsL (p:St->Prop) (i:Nat):ZwZ p K (.ex i) σ = K (.ex i) σ:=rfl
theorem ZnF (p:St->Prop) (s:SV):ZwZ p K (.pan s) σ = K (.pan s) σ:=rfl
theorem ZqX (p:St->Prop):ZwZ p K .ret σ = K .ret σ:=rfl
def Zw2:List (Nat × SV)->List (Nat × SV)->Prop
 | [],_=>True
 | (t,s) :: r,fr=>lk t fr=s/\Zw2 r fr
def Zw7:List (Nat × SV)->Bool
 | []=>true
 | (_,.gd _ _ _) :: _=>false
 | _ :: r=>Zw7 r
theorem Zi4:∀ {r fr:List (Nat × SV)},Zw2 r fr->∀ t,lk t r = .any\/lk t r=lk t fr
 | [],_,_,t=>.inl rfl
 | (u,s) :: r,fr,h,t=>by
  rw [ZP]
  by_cases ht:t=u
  . subst ht;rw [if_pos rfl];exact .inr h.1.symm
  . rw [if_neg ht];exact Zi4 h.2 t
theorem ZdO:∀ {r:List (Nat × SV)},Zw7 r=true->∀ t j b s,lk t r≠.gd j b s
 | [],_,t,j,b,s=>by simp [lk]
 | (u,s') :: r,h,t,j,b,s=>by
  rw [ZP]
  by_cases ht:t=u
  . rw [if_pos ht];rintro rfl;simp [Zw7] at h
  . rw [if_neg ht];exact ZdO (by cases s'<;>first | exact h | simp [Zw7] at h) t j b s
end
section
variable {w:World} {E:Env} {ok ok':Nat->Prop} {ρ : Nat->Nat} {n':Nat} {n:Nat->Prop}
theorem ent {σ σ':St} (ρ : Nat->Nat) (hf:mtF ρ σ'.n [] σ'.fr σ.fr) (hp:mtP ρ σ'.hp σ.hp σ'.n σ'.n) (hb:hpb σ'.n σ'.hp) (hρ : ∀ i,i < σ'.n->∀ j,j < σ'.n->ρ i = ρ j->i=j) (hN:Nat.beq σ'.N σ.N=true) {m0:Nat} (hm:Nat.ble m0 σ'.n=true) (hfix:∀ i,i < m0->ρ i=i):Ent m0 σ σ':=by
 intro C E a w hm0 h
 have hN:=Nat.eq_of_beq_eq_true hN
 have hgone:=Zb7 hb
 have hH:=Zjq hp
 have hocc:∀ k b,occ (rnE E ρ) k (lkh k σ'.hp) b->k < σ'.n/\occ E (ρ k) (lkh (ρ k) σ.hp) b:=fun k b ho=>by
  by_cases hk:k < σ'.n
  . refine ⟨hk,?_⟩
    have:=hH k hk
    cases h1:lkh k σ'.hp<;>rw [h1] at ho this
    . cases h2:lkh (ρ k) σ.hp<;>rw [h2] at this<;>simp only [mtH] at this
      exact ho
    . simp only [mtH] at this;rw [this.1];exact ho
    . simp only [mtH] at this;rw [this];exact ho
    . simp only [mtH] at this;rw [this.1];exact ho
    . simp only [mtH] at this;rw [this.2];exact ho
    . simp only [mtH] at this;rw [this];exact ho
    . simp only [mtH] at this;rw [this];exact ho
    . simp only [mtH] at this;rw [this.1];exact ho
    . exact ho.elim
  . rw [hgone k hk] at ho;exact ho.elim
 have hst:ZF w w (okS C E σ.hp) (okS C (rnE E ρ) σ'.hp):=fun b hb _=>⟨⟨hb.1,fun k ho=>hb.2 _ (hocc k b ho).2⟩,rfl⟩
 refine ⟨rnE E ρ,fun t=>?_,by rw [hN];exact h.sz,X8 hst h.df,fun t j b s ht=>?_,⟨hgone,fun k=>?_,fun k k' b h1 h2=>?_,fun k b h1=>?_,h.hs.kp,fun k hk=>?_⟩⟩
 . rcases ZiG hf t rfl with h1 | h1
   . rw [h1];exact trivial
   . have:=mtS_R hst h1 (h.fr t)
     have hng:=Zca h1
     cases hs:lk t σ'.fr<;>rw [hs] at this hng<;>first | exact this | exact absurd rfl (hng _ _ _)
 . rcases ZiG hf t rfl with h1 | h1
   . rw [h1] at ht;cases ht
   . exact absurd ht (Zca h1 j b s)
 . by_cases hk:k < σ'.n
   . have:=hH k hk
     have hbk:=h.hs.bk (ρ k)
     cases h1:lkh k σ'.hp<;>rw [h1] at this
     . cases h2:lkh (ρ k) σ.hp<;>rw [h2] at this hbk<;>simp only [mtH] at this
       obtain ⟨rfl,this⟩:=this
       simp only [Z6] at hbk ⊢
       obtain ⟨cs,k1,k2⟩:=hbk
       exact ⟨cs,k1,Zaw hst _ _ _ this k2⟩
     . simp only [mtH] at this
       rw [this.1] at hbk
       simp only [Z6] at hbk ⊢
       obtain ⟨hi0,hbk⟩:=hbk
       refine ⟨hi0,?_⟩
       rcases hbk with q | ⟨b,cap,cs,q1,q2,q3,q4,q5,q6,q7⟩
       . exact .inl q
       . exact .inr ⟨b,cap,cs,q1,q2,q3,q4,q5,q6,ZE hst (fun _ h=>Ele.rfl) (fun _ h=>h.elim) _ _ (Zbc (E':=rnE E ρ) (n':=fun _=>False) _ _ (Vh this.2) q7)⟩
     . rename_i φ
       simp only [mtH] at this
       rw [this] at hbk
       simp only [Z6] at hbk ⊢
       obtain ⟨o,k1,k2⟩:=hbk
       exact ⟨o,k1,φ.mono _ _ _ _ _ hst k2⟩
     . simp only [mtH] at this
       obtain ⟨this,hkf⟩:=this
       rw [this] at hbk
       simp only [Z6] at hbk ⊢
       obtain ⟨ys,k1,k2⟩:=hbk
       exact ⟨ys,k1,Zmh hst _ _ hkf k2⟩
     . simp only [mtH] at this
       rw [this.2] at hbk
       simp only [Z6] at hbk ⊢
       exact ⟨this.1,hbk.2⟩
     . simp only [mtH] at this
       rw [this] at hbk
       simp only [Z6] at hbk ⊢
       exact hbk
     . simp only [mtH] at this
       rw [this] at hbk
       simp only [Z6] at hbk ⊢
       exact hbk
     . simp only [mtH] at this
       obtain ⟨this,k1,k2⟩:=this
       rw [this] at hbk
       exact VH (E:=E) (k:=ρ k) (E':=rnE E ρ) hst.c (fun _ _=>rfl) rfl hk k1 k2 hbk
     . trivial
   . rw [hgone k hk];trivial
 . have e1:=hocc k b h1
   have e2:=hocc k' b h2
   exact hρ k e1.1 k' e2.1 (h.hs.dj _ _ b e1.2 e2.2)
 . obtain ⟨e1,e2⟩:=hocc k b h1
   rcases h.hs.lo _ b e2 with q | q
   . exact .inl q
   . have q1:=Nat.lt_of_lt_of_le (hm0.2 _ _ q) hm0.1
     have q2:ρ k=k:=hρ _ (Nat.lt_of_lt_of_le q1 (Nat.le_of_ble_eq_true hm)) k e1 (hfix _ q1)
     rw [q2] at q;exact .inr q
 . have hk':k < m0:=Nat.lt_of_lt_of_le hk hm0.1
   obtain ⟨p1,p2,p3,p4⟩:=h.hs.pin k hk
   exact ⟨Nat.lt_of_lt_of_le hk' (Nat.le_of_ble_eq_true hm),by simp only [rnE,hfix k hk'];exact p2,by simp only [rnE,hfix k hk'];exact p3,by simp only [rnE,hfix k hk'];exact p4⟩
end
theorem ZpY {ρ : Nat->Nat} {n':Nat}:∀ {s:SV},KF s->mtS ρ n' s s:=by
 intro s
 exact SV.rec (motive_1:=fun s=>KF s->mtS ρ n' s s) (motive_2:=fun l=>KFL l->mtL ρ n' l l) (motive_3:=fun _=>True)
  (fun x _=>by simp [mtS]) (fun k o h=>by simp [KF] at h) (fun l ih h=>by simp only [KF] at h;simp only [mtS,Zw4,mtO];exact ih h)
  (fun c m xs _ h=>by simp only [KF] at h;simp [mtS,h]) (fun k v h=>by simp [KF] at h) (fun k v m i o h=>by simp [KF] at h) (fun k v m i o h=>by simp [KF] at h)
  (fun l o _ h=>by simp only [KF] at h;simp [mtS,h]) (fun f l ih h=>by simp only [KF] at h;simp only [mtS,clL,nbr,cond_true,mtO];exact ih h)
  (fun l ih h=>by simp only [KF] at h;simp only [mtS,ZwU,mtO];exact ih h) (fun k h=>by simp [KF] at h) (fun k h=>by simp [KF] at h) (fun T s ih h=>by simp only [KF] at h;simp only [mtS,mtI];exact ⟨trivial,ih h⟩) (fun φ _=>by simp [mtS]) (fun j w s _ h=>by simp [KF] at h) (fun _=>by simp [mtS])
  (fun _=>by simp [mtL]) (fun s l h1 h2 h=>by simp only [KFL] at h;simp only [mtL,mtB];exact ⟨h1 h.1,h2 h.2⟩)
  trivial (fun _ _ _ _=>trivial) s
theorem Zd {ρ : Nat->Nat} {n':Nat}:∀ {l:List SV},KFL l->mtL ρ n' l l
 | [],_=>by simp [mtL]
 | s :: l,h=>by simp only [mtL,mtB];exact ⟨ZpY h.1,Zd h.2⟩
abbrev I (n:Int):SV:=.v (.int .i64 n)
abbrev B (b:Bool):SV:=.v (.bool b)
theorem Zf:∀ {xs ys:List (List SV)},KFR (xs ++ ys)↔KFR xs/\KFR ys
 | [],ys=>by simp [KFR]
 | x :: xs,ys=>by simp [KFR,Zf (xs:=xs) (ys:=ys),and_assoc]
theorem Zc {α : Type} {f:α->List SV} {l:List α}:KFR (l.map f)↔∀ x ∈ l,KFL (f x):=by
 induction l with
 | nil=>simp [KFR]
 | cons x l ih=>simp [KFR,ih]
theorem Zk {n:Int} (h1:-9223372036854775808<=n) (h2:n<=9223372036854775807):IntKind.i64.wrap n=n:=IntWalk.i64_in n ⟨h1,h2⟩
def stO {S:Type} (σ : St) (ov:S->List (Nat × SV)) (hv:S->List (Nat × HB)) (s:S):St:=⟨ov s ++ σ.fr,hv s ++ σ.hp,σ.n,σ.N,[]⟩
theorem e_stO {S:Type} (fr:List (Nat × SV)) (hp:List (Nat × HB)) (n N:Nat) (gs:List Nat) (ov:S->List (Nat × SV)) (hv:S->List (Nat × HB)) (s:S):stO ⟨fr,hp,n,N,gs⟩ ov hv s=⟨ov s ++ fr,hv s ++ hp,n,N,[]⟩:=rfl
theorem YM {m:Nat} {f:CT} {σ : St} {K:Ex->St->Prop} {S:Type} (ov:S->List (Nat × SV)) (hv:S->List (Nat × HB)) (rel:S->Prop) (μ : S->Nat) (s0:S) (h0:rel s0) (he:Ent m σ (stO σ ov hv s0))
 (hb:∀ s,rel s->f (stO σ ov hv s) (Zmc m (stO σ ov hv) rel μ s K)):Zsc m f σ K :=
 loop (stO σ ov hv) rel μ s0 h0 he hb
theorem Zb1 {m:Nat} {f:CT} {σ σ1:St} {K:Ex->St->Prop} {S:Type} (hg:Ent m σ σ1) (ov:S->List (Nat × SV)) (hv:S->List (Nat × HB)) (rel:S->Prop) (μ : S->Nat) (s0:S) (h0:rel s0) (he:Ent m σ1 (stO σ1 ov hv s0))
 (hb:∀ s,rel s->f (stO σ1 ov hv s) (Zmc m (stO σ1 ov hv) rel μ s K)):Zsc m f σ K :=
 loop (stO σ1 ov hv) rel μ s0 h0 (WZ hg he) hb
theorem gh {m:Nat} {r:CT} {σ σ1:St} {K:Ex->St->Prop} (hg:Ent m σ σ1) (h:r σ1 K):GH m r σ K:=⟨σ1,hg,h⟩
theorem Zz3 {C:Cx} {E:Env} {hp:List (Nat × HB)} {n:Nat->Prop} {w:World} {m k v m':Nat} {xs:List (List SV)} {T:TypeId} (hmc:MC C m) (hm:m<=k) (h:HSim C E hp n w) (hk:lkh k hp = .row v m' xs T) :
 (xs=[]/\∃ a,E.hv k v = .slice a 0 0)\/∃ b cap,E.hv k v = .slice (some ⟨b,0,none⟩) xs.length cap/\xs.length<=cap/\cap≠0/\xs.length<=9223372036854775807/\RR w E n (okS C E ((k,.gone) :: hp)) b m' xs 0:=by
 have hb:=h.bk k
 rw [hk] at hb;simp only [Z6] at hb
 rcases hb with ⟨_,h1 | ⟨b,cap,cs,h1,h2,h3,⟨h4,h4'⟩,h5,h6,h7⟩⟩
 . exact .inl h1
 . have hoc:occ E k (lkh k hp) b:=by rw [hk];exact ⟨_,_,h1,h4'⟩
   have hok:okS C E ((k,.gone) :: hp) b:=by
    refine ⟨?_,fun j ho=>?_⟩
    . rcases h.lo k b hoc with q | q
      . exact .inr q
      . have:=hmc.2 k b q;have:=hmc.1;omega
    . rw [Zt] at ho
      split at ho
      . exact ho.elim
      . exact absurd (h.dj j k b ho hoc).symm (by omega)
   exact .inr ⟨b,cap,h1,h4,h4',h5,Wn (cs:=cs) (ok:=okS C E hp) hok (fun j c hj=>by rw [cell_of_row _ _ _ _ _ _ h2];simpa using hj) (Zav h k).2 xs 0 h6 (by simpa using h7)⟩
theorem ZmY {m:Nat} {σ : St} (t k:Nat) (s:SV) (hg:σ.gs=[]) (hs:∀ j b u,s≠.gd j b u) (hR:∀ C E w y,MC C m->HSim C E σ.hp (ltn σ.n) w->R w E (ltn σ.n) (okS C E σ.hp) (lk t σ.fr) y->R w E (ltn σ.n) (okS C E ((k,.gone) :: σ.hp)) s y) :
 Ent m σ ⟨(t,s) :: σ.fr,(k,.gone) :: σ.hp,σ.n,σ.N,σ.gs⟩:=fun C E a w hmc h=>by
 obtain ⟨g1,g2⟩:=Zav h.hs k
 have hR0:∀ u,R w E (ltn σ.n) (okS C E σ.hp) (lk u σ.fr) (a.tmps.getD u undef):=fun u=>Ztn (h.fr u) (fun j b u' e=>by have:=h.gs u j b u' e;rw [hg] at this;simp at this)
 refine ⟨E,fun u=>?_,h.sz,X8 g2 h.df,fun u j b s' hu=>?_,g1⟩
 . rw [ZP]
   split
   . rename_i hu;subst hu
     have:=hR C E w _ hmc h.hs (hR0 _)
     cases s<;>first | exact this | exact absurd rfl (hs _ _ _)
   . refine XO g2 (fun _ _=>Ele.rfl) (fun k hk=>hk) (fun j b s hs=>?_) (h.fr u)
     have:=h.gs u j b s hs;rw [hg] at this;simp at this
 . rw [ZP] at hu
   split at hu
   . exact absurd hu (hs _ _ _)
   . exact h.gs u j b s' hu
theorem X7 {m:Nat} {σ : St} (t k v:Nat) {m':Nat} {xs:List (List SV)} {T:TypeId} (hm:Nat.ble m k=true) (hg:σ.gs=[]) (hl:lk t σ.fr = .mr k v) (hk:lkh k σ.hp = .row v m' xs T) :
 Ent m σ ⟨(t,.sl false m' xs) :: σ.fr,(k,.gone) :: σ.hp,σ.n,σ.N,σ.gs⟩ :=
 ZmY t k _ hg (fun _ _ _ e=>by cases e) fun C E w y hmc hh hR=>by
  rw [hl] at hR
  simp only [R] at hR ⊢
  rcases Zz3 hmc (Nat.le_of_ble_eq_true hm) hh hk with ⟨h1,a0,h2⟩ | ⟨b,cap,h1,h4,h4',h5,h7⟩
  . exact ⟨a0,0,0,by rw [hR.2.2.1,h2],by simp [h1],⟨Nat.le_refl _,fun h=>by cases h⟩,by simp [h1],.inl h1⟩
  . exact ⟨_,_,_,hR.2.2.1.trans h1,rfl,⟨h4,fun h=>by cases h⟩,h5,.inr ⟨b,0,rfl,h7⟩⟩
theorem Zij {m:Nat} {b:Bool} {s s':SV} {hp hp':List (Nat × HB)} {n n':Nat} (h:Ent m ⟨[(0,s)],hp,n,1,[]⟩ ⟨[(0,s')],hp',n',1,[]⟩) (hg:∀ j b u,s'≠.gd j b u):WR m ⟨b,s,hp,n⟩ ⟨b,s',hp',n'⟩:=by
 refine ⟨rfl,fun C E w y hm hH hR=>?_⟩
 have hng:=V4 hR
 have hS:Sim C E ⟨[(0,s)],hp,n,1,[]⟩ { tmps:=#[y],defers:=C.ds } w:=by
  refine ⟨fun t=>?_,rfl,UK,fun t j b u ht=>?_,hH⟩
  . simp only [ZP]
    split
    . rename_i ht;subst ht
      show FR w E (ltn n) _ _ s y
      cases s<;>first | exact hR | exact absurd rfl (hng _ _ _)
    . exact trivial
  . simp only [ZP] at ht
    split at ht
    . exact absurd ht (hng _ _ _)
    . cases ht
 obtain ⟨E',h'⟩:=h C E _ w hm hS
 refine ⟨E',h'.hs,?_⟩
 have:=h'.fr 0
 exact Ztn this (fun j b u e=>hg j b u (by simpa [lk] using e))
theorem entO {m:Nat} {b:Bool} {s s':SV} {hp hp':List (Nat × HB)} {n n':Nat} (ρ : Nat->Nat) (hf:mtS ρ n' s' s) (hp0:mtP ρ hp' hp n' n') (hb:hpb n' hp') (hρ : ∀ i,i < n'->∀ j,j < n'->ρ i = ρ j->i=j) (hm:Nat.ble m n'=true) (hfix:∀ i,i < m->ρ i=i):WR m ⟨b,s,hp,n⟩ ⟨b,s',hp',n'⟩ :=
 Zij (ent ρ (show mtF ρ n' [] [(0,s')] [(0,s)] from ⟨hf,trivial⟩) hp0 hb hρ rfl hm hfix) (Zca hf)
theorem Zr {m:Nat} {b:Bool} {s s':SV} {hp hp':List (Nat × HB)} {n n':Nat} (hf:mtS id n' s' s) (hp0:mtP id hp' hp n' n') (hb:hpb n' hp') (hm:Nat.ble m n'=true):WR m ⟨b,s,hp,n⟩ ⟨b,s',hp',n'⟩ :=
 entO id hf hp0 hb (fun _ _ _ _ h=>h) hm (fun _ _=>rfl)
theorem callm {P:Program} {f:FuncId} {args args0:List SV} {d:Option Nat} {σ : St} {r:KT} {K:RK} {hp0:List (Nat × HB)} {n0:Nat} {o:Ot} (ρ : Nat->Nat) (hc:CtM P f hp0 n0 args0 (· = o)) (h1:mtL ρ n0 args0 args) (h2:mtP ρ hp0 σ.hp n0 n0) (h3:ZAK ρ n0) (h4:∀ i,i < n0->ρ i < σ.n)
 (h5:cmK o.pn (rnS (exR ρ n0 σ.n) o.res) (hpM ρ n0 σ.n o σ.hp) (σ.n+(o.n - n0)) d σ r K):Zco P f args d σ r K :=
 ⟨hp0,n0,args0,_,ρ,hc,h1,h2,h3,h4,fun _ e=>e ▸ h5⟩
def rho:List Nat->Nat->Nat
 | [],_=>0
 | a :: _,0=>a
 | _ :: l,k+1=>rho l k
theorem Vw:∀ (l:List Nat) (k:Nat) (h:k < l.length),rho l k=l[k]
 | a :: _,0,_=>rfl
 | _ :: l,k+1,h=>by simpa [rho] using Vw l k (by simpa using h)
theorem Zra {P:Program} {f:FuncId} {args args0:List SV} {d:Option Nat} {σ : St} {r:KT} {K:RK} {hp0:List (Nat × HB)} {n0:Nat} {o:Ot} (l:List Nat) (hc:CtM P f hp0 n0 args0 (· = o)) (hn:Nat.beq l.length n0=true) (hi:ZbN l=true) (hl:Ut σ.n l=true)
 (h1:mtL (rho l) n0 args0 args) (h2:mtP (rho l) hp0 σ.hp n0 n0) (h5:cmK o.pn (rnS (exR (rho l) n0 σ.n) o.res) (hpM (rho l) n0 σ.n o σ.hp) (σ.n+(o.n - n0)) d σ r K):Zco P f args d σ r K:=by
 have hn:=Nat.eq_of_beq_eq_true hn
 refine callm (rho l) hc h1 h2 (fun i hi' j hj e=>?_) (fun i hi'=>?_) h5
 . rw [Vw l i (by omega),Vw l j (by omega)] at e
   have hp:=List.pairwise_iff_getElem.1 (XZ hi)
   rcases Nat.lt_trichotomy i j with h | h | h
   . exact absurd e (hp i j _ _ h)
   . exact h
   . exact absurd e.symm (hp j i _ _ h)
 . rw [Vw l i (by omega)];exact VV hl _ (List.getElem_mem _)
theorem Zh {m0:Nat} {σ σ':St} (hf:mtF id σ'.n [] σ'.fr σ.fr) (hp:mtP id σ'.hp σ.hp σ'.n σ'.n) (hb:hpb σ'.n σ'.hp) (hN:Nat.beq σ'.N σ.N=true) (hm:Nat.ble m0 σ'.n=true):Ent m0 σ σ':=ent id hf hp hb (fun _ _ _ _ h=>h) hN hm (fun _ _=>rfl)
theorem Zz0 {fr:List (Nat × SV)} {j j':Nat} {w w' b:Bool} {p:Prop} (hl:lk j fr = .gd j' w' (.v (.bool b))) (h:b=w->p):Zen (some (j,w)) fr p:=fun hg=>h (by have:=(Zf5 hg hl).2;simpa using this)
theorem Zkc {fr:List (Nat × SV)} {j:Nat} {w b:Bool} {p:Prop} (hl:lk j fr = .v (.bool b)) (h:b=w->p):Zen (some (j,w)) fr p:=fun hg=>h (ZzW hg hl)
theorem Zyg {xs:List (List SV)} {i:Int} {σ : St} {r:KT} {L:RK} {d:Option Nat} {j j':Nat} {w w' b:Bool} (n:Nat) (row:List SV) (hl:lk j σ.fr = .gd j' w' (.v (.bool b))) (h:b=w->i=(n:Int)/\xs[n]? = some row) (hk:Yr d (.ps row 0) (some (j,w)) σ r L) :
 IXS (some (j,w)) xs i d σ r L:=⟨row,Zz0 hl fun e=>⟨n,(h e).1,(h e).2⟩,hk⟩
theorem app0 {g:Option (Nat × Bool)} {m b:Nat} {xs ys:List (List SV)} {d:Option Nat} {σ : St} {r:KT} {L:RK} (h:(xs.length+ys.length) * b<=140737488355328) (hk:Yr d (.sl false m (xs ++ ys)) g σ r L):APP g m b xs ys d σ r L:=⟨ZX.2 fun _=>h,hk⟩
theorem XU {g:Option (Nat × Bool)} {k v m len:Nat} {i:Int} {d:Option Nat} {σ : St} {r:KT} {L:RK} (n:Nat) (hi:i=(n:Int)) (hn:n < len) (hk:Yr d (.pr k v m n 0) g σ r L):IXR g k v m len i d σ r L:=⟨n,ZX.2 fun _=>⟨hi,hn⟩,hk⟩
theorem V8 {α : Type} {l:List α} {f:α->List SV} {g:Option (Nat × Bool)} {i o m:Nat} {ag:Bool} {d:Option Nat} {σ : St} {r:KT} {L:RK} (hn:i < l.length) (hk:Wo (XX (f l[i]) o m ag) d g σ r L):LDR g (l.map f) i o m ag d σ r L:=⟨f l[i],ZX.2 fun _=>by simp [hn],hk⟩
theorem ZdG {α : Type} {l:List α} {f:α->List SV} {j o k v m:Nat} {c:List SV} {T:TypeId} {σ : St} {r:KT} {L:RK} (y:α) (hn:j < l.length) (ho:o+c.length<=(f l[j]).length) (he:Zw (f l[j]) o c=f y)
 (h:r ⟨σ.fr,(k,.row v m ((l.set j y).map f) T) :: σ.hp,σ.n,σ.N,σ.gs⟩ L):STR v (l.map f) j o k m c T σ r L :=
 ⟨f l[j],by simp [hn],ho,by rw [he,<- List.map_set];exact h⟩
theorem ZeO {k v m len:Nat} {i:Int} {d:Option Nat} {σ : St} {r:KT} {L:RK} {j:Nat} {w b:Bool} (n:Nat) (hl:lk j σ.fr = .v (.bool b)) (h:b=w->i=(n:Int)/\n < len) (hk:Yr d (.pr k v m n 0) (some (j,w)) σ r L):IXR (some (j,w)) k v m len i d σ r L:=⟨n,Zkc hl h,hk⟩
theorem Zv {P:Program} {f:FuncId} {args args0:List SV} {d:Option Nat} {σ : St} {r:KT} {K:RK} {hp0:List (Nat × HB)} {n0:Nat} {ZA:Ot->Prop} (l:List Nat) (hc:CtM P f hp0 n0 args0 ZA) (hn:Nat.beq l.length n0=true) (hi:ZbN l=true) (hl:Ut σ.n l=true)
 (h1:mtL (rho l) n0 args0 args) (h2:mtP (rho l) hp0 σ.hp n0 n0) (h5:∀ o,ZA o->cmK o.pn (rnS (exR (rho l) n0 σ.n) o.res) (hpM (rho l) n0 σ.n o σ.hp) (σ.n+(o.n - n0)) d σ r K):Zco P f args d σ r K:=by
 have hn:=Nat.eq_of_beq_eq_true hn
 refine ⟨hp0,n0,args0,ZA,rho l,hc,h1,h2,fun i hi' j hj e=>?_,fun i hi'=>?_,h5⟩
 . rw [Vw l i (by omega),Vw l j (by omega)] at e
   have hp:=List.pairwise_iff_getElem.1 (XZ hi)
   rcases Nat.lt_trichotomy i j with h | h | h
   . exact absurd e (hp i j _ _ h)
   . exact h
   . exact absurd e.symm (hp j i _ _ h)
 . rw [Vw l i (by omega)]
   exact VV hl _ (List.getElem_mem _)
theorem ZaJ {P:Program} {d:Option Nat} {op:BinOp} {t t' ty u:Nat} {c x v:Value} {σ : St} {r:KT} {K:RK} (hl:lk u σ.fr = .v x) (hop:op = .and\/op = .shr) (hr:∀ w:World,(binOp op t x c).run P w = .ok v w) (hv:v.oneCell'=true) (hk:Yr d (.v v) none σ r K) :
 RAW P d (.binOp op t (.tmp u) (.const c) t') ty σ r K:=by
 intro o C E a w next Q h1 h2 h3 hs hn hq
 have hx:a.eval (.tmp u)=x:=by
  have:=hs.fr u
  rw [hl] at this
  simp only [FR,R] at this
  exact this
 have hrun:(execOp a.eval o).run P w = .ok (.value v) w:=by
  obtain ⟨dst,op',ty',pos,after,guard⟩:=o
  simp only at h2;subst h2
  have hc:a.eval (.const c)=c:=rfl
  simp only [execOp,hx,hc]
  rcases hop with rfl | rfl<;>simp [Sem.run_bind,eqGuard,hr]
 refine Zz hrun (by simp) ?_
 show next (a.put o.dst v) w
 rcases WX hk with ⟨g1,g2⟩ | ⟨t,g1,g2,g3,g4,g5⟩
 . have hS:=hs
   rw [h1,g1]
   exact hn _ E _ _ g2 hS
 . rw [h1,g1]
   exact hn _ E _ _ g5 (Xd hs (fun b hb _=>⟨hb,rfl⟩) (fun _ _=>Ele.rfl) (Nat.le_refl _) hs.hs g2 g3 (fun j b u e=>by rw [e] at g4;cases g4) (by simp only [R]))
theorem w64_0:IntKind.i64.wrap 0=0:=rfl
theorem w64_1:IntKind.i64.wrap 1=1:=rfl
theorem w64_2:IntKind.i64.wrap 2=2:=rfl
theorem w64_3:IntKind.i64.wrap 3=3:=rfl
theorem w64_4:IntKind.i64.wrap 4=4:=rfl
theorem w64_5:IntKind.i64.wrap 5=5:=rfl
theorem w64_6:IntKind.i64.wrap 6=6:=rfl
def lkB (b:Bool) (s:SV) (t:Nat) (r:List (Nat × SV)):SV:=bif b then s else lk t r
def lkhB (b:Bool) (s:HB) (t:Nat) (r:List (Nat × HB)):HB:=bif b then s else lkh t r
def ZuL (b:Bool) (t:Nat) (r:List Nat):Bool:=bif b then true else Xr t r
def blkE (b:Bool) (i:Nat) (K:Ex->St->Prop) (σ : St):Prop:=bif b then K .n σ else K (.ex i) σ
def ZrH (b:Bool) (s:SV):Option (List SV):=bif b then some [s] else none
def ZyM (c:Bool) (b:BinOp) (k:IntKind) (x y:Int):Option SV:=bif c then Zg4 b k x y else none
def ZxE (b:Bool) (l:List SV) (o m:Nat):Option SV:=bif b then some (.agg ((l.drop o).take m)) else none
theorem lkB_t (s:SV) (t:Nat) (r:List (Nat × SV)):lkB true s t r=s:=rfl
theorem lkB_f (s:SV) (t:Nat) (r:List (Nat × SV)):lkB false s t r=lk t r:=rfl
theorem Zx9 (s:HB) (t:Nat) (r:List (Nat × HB)):lkhB true s t r=s:=rfl
theorem Zyz (s:HB) (t:Nat) (r:List (Nat × HB)):lkhB false s t r=lkh t r:=rfl
theorem Zr9 (t:Nat) (r:List Nat):ZuL true t r=true:=rfl
theorem Zt6 (t:Nat) (r:List Nat):ZuL false t r=Xr t r:=rfl
theorem ZxH (i:Nat) (K:Ex->St->Prop) (σ : St):blkE true i K σ = K .n σ:=rfl
theorem Zyc (i:Nat) (K:Ex->St->Prop) (σ : St):blkE false i K σ = K (.ex i) σ:=rfl
theorem ZnX (s:SV):ZrH true s=some [s]:=rfl
theorem ZrW (b:BinOp) (k:IntKind) (x y:Int):ZyM true b k x y=Zg4 b k x y:=rfl
theorem ZuK (l:List SV) (o m:Nat):ZxE true l o m=some (.agg ((l.drop o).take m)):=rfl
def mmE (k:IntKind):Option Int->Option SV
 | some z=>some (.v (.int k z))
 | none=>none
def chkB (b:Bool) (l:List SV) (ls:List (List SV)):Option (List (List SV)):=bif b then some (l :: ls) else none
theorem ZxO (l:List SV) (ls:List (List SV)):chkB true l ls=some (l :: ls):=rfl
theorem ZxS (b:Bool):Vo true b=b:=rfl
theorem ZyJ (b:Bool):Vo false b=false:=rfl
def vwP (g:SV->SV) (o:Nat):HB->SV
 | .cells l _=>.ps (Zbi g l) o
 | _=>.any
def vwM (v:Nat):HB->SV
 | .row v' m xs _=>vwN (Nat.beq v v') m xs
 | .rws v' m xs _ o m' inn _=>vwN (Nat.beq v v') m (Zej o m' inn xs)
 | _=>.any
def cvtM (v:Nat):HB->SV
 | .row v' m xs _=>vwN (Nat.beq v v') m xs
 | _=>.any
def rvH (o m:Nat) (ag:Bool):HB->Option SV
 | .cells l _=>XX l o m ag
 | _=>none
def rvX (hp:List (Nat × HB)) (m:Nat) (ag:Bool):SV->Option SV
 | .p k o=>rvH o m ag (lkh k hp)
 | _=>none
def pvF (o m:Nat) (ag:Bool):SV->Option SV
 | .agg l=>XX l o m ag
 | _=>none
def pvC (k:IntKind):SV->Option SV
 | .v (.int _ n)=>some (.v (.int k (k.wrap n)))
 | _=>none
def pvE (i:Nat):SV->Option SV
 | .tup l=>nth l i
 | _=>none
theorem e_lk (t u:Nat) (s:SV) (r:List (Nat × SV)):lk t ((u,s) :: r)=lkB (Nat.beq t u) s t r:=rfl
theorem e_lk0 (t:Nat):lk t [] = .any:=rfl
theorem e_lkh (t u:Nat) (s:HB) (r:List (Nat × HB)):lkh t ((u,s) :: r)=lkhB (Nat.beq t u) s t r:=rfl
theorem Zzc (t:Nat):lkh t [] = .gone:=rfl
theorem Zzt (t u:Nat) (r:List Nat):Xr t (u :: r)=ZuL (Nat.beq t u) t r:=rfl
theorem Zwx (t:Nat):Xr t []=false:=rfl
theorem e_blk (id i:Nat) (K:Ex->St->Prop) (σ : St):ZrI id K (.ex i) σ = blkE (Nat.beq i id) i K σ:=rfl
theorem ZhI (g:Option (Nat × Bool)) (fr:List (Nat × SV)) (x:Value):YU g fr (.v x)=(.v x):=rfl
theorem Zp0 (t:Nat) (r:List (Nat × SV)) (x:Value):YE ((t,(.v x)) :: r)=(t,(.v x)) :: YE r:=rfl
theorem Zus (hp:List (Nat × HB)) (x:Value):cvt hp (.v x)=(.v x):=rfl
theorem Zu9 (hp:List (Nat × HB)) (g:SV->SV) (x:Value):vwS hp g (.v x)=(.v x):=rfl
theorem Ztb (x:Value):vw0 (.v x)=(.v x):=rfl
theorem ZiP (x:Value):Yv (.v x)=ZrH (U9 x) (.v x):=rfl
theorem ZnP (x:Value):WQ (.v x)=U9 x:=rfl
theorem Zjj (g:Option (Nat × Bool)) (fr:List (Nat × SV)) (k o:Nat):YU g fr (.p k o)=(.p k o):=rfl
theorem ZoM (t:Nat) (r:List (Nat × SV)) (k o:Nat):YE ((t,(.p k o)) :: r)=(t,(.p k o)) :: YE r:=rfl
theorem Ztt (hp:List (Nat × HB)) (k o:Nat):cvt hp (.p k o)=(.p k o):=rfl
theorem Zu0 (hp:List (Nat × HB)) (g:SV->SV) (k o:Nat):vwS hp g (.p k o)=vwP g o (lkh k hp):=rfl
theorem Zvq (k o:Nat):vw0 (.p k o) = .any:=rfl
theorem ZkR (k o:Nat):Yv (.p k o)=some [(.p k o)]:=rfl
theorem Zo8 (k o:Nat):WQ (.p k o)=true:=rfl
theorem Zee (g:Option (Nat × Bool)) (fr:List (Nat × SV)) (l:List SV):YU g fr (.agg l)=(.agg l):=rfl
theorem ZfQ (t:Nat) (r:List (Nat × SV)) (l:List SV):YE ((t,(.agg l)) :: r)=(t,(.agg l)) :: YE r:=rfl
theorem Zis (hp:List (Nat × HB)) (l:List SV):cvt hp (.agg l) = .agg (Zht hp l):=rfl
theorem Zkm (hp:List (Nat × HB)) (g:SV->SV) (l:List SV):vwS hp g (.agg l) = .agg (Zbi g l):=rfl
theorem Zje (l:List SV):vw0 (.agg l) = .any:=rfl
theorem Zd3 (l:List SV):Yv (.agg l)=some l:=rfl
theorem ZfI (l:List SV):WQ (.agg l)=false:=rfl
theorem Zgm (g:Option (Nat × Bool)) (fr:List (Nat × SV)) (c:Bool) (m:Nat) (xs:List (List SV)):YU g fr (.sl c m xs)=(.sl c m xs):=rfl
theorem ZjW (t:Nat) (r:List (Nat × SV)) (c:Bool) (m:Nat) (xs:List (List SV)):YE ((t,(.sl c m xs)) :: r)=(t,(.sl c m xs)) :: YE r:=rfl
theorem Zpe (hp:List (Nat × HB)) (c:Bool) (m:Nat) (xs:List (List SV)):cvt hp (.sl c m xs)=(.sl c m xs):=rfl
theorem Zpx (hp:List (Nat × HB)) (g:SV->SV) (c:Bool) (m:Nat) (xs:List (List SV)):vwS hp g (.sl c m xs)=(.sl c m xs):=rfl
theorem Zn7 (c:Bool) (m:Nat) (xs:List (List SV)):vw0 (.sl c m xs)=(.sl c m xs):=rfl
theorem ZgQ (c:Bool) (m:Nat) (xs:List (List SV)):Yv (.sl c m xs)=some [(.sl c m xs)]:=rfl
theorem ZkG (c:Bool) (m:Nat) (xs:List (List SV)):WQ (.sl c m xs)=true:=rfl
theorem ZvS (l:List SV):pmS [] l=[]:=rfl
theorem ZfS (g:Option (Nat × Bool)) (fr:List (Nat × SV)) (k v:Nat):YU g fr (.mr k v)=(.mr k v):=rfl
theorem ZiF (t:Nat) (r:List (Nat × SV)) (k v:Nat):YE ((t,(.mr k v)) :: r)=(t,(.mr k v)) :: YE r:=rfl
theorem Zob (hp:List (Nat × HB)) (k v:Nat):cvt hp (.mr k v)=cvtM v (lkh k hp):=rfl
theorem ZlU (hp:List (Nat × HB)) (g:SV->SV) (k v:Nat):vwS hp g (.mr k v)=vwM v (lkh k hp):=rfl
theorem ZnC (k v:Nat):vw0 (.mr k v) = .any:=rfl
theorem ZfT (k v:Nat):Yv (.mr k v)=some [(.mr k v)]:=rfl
theorem Zkr (k v:Nat):WQ (.mr k v)=true:=rfl
theorem Zgu (g:Option (Nat × Bool)) (fr:List (Nat × SV)) (k v m i o:Nat):YU g fr (.pr k v m i o)=(.pr k v m i o):=rfl
theorem Zgx (g:Option (Nat × Bool)) (fr:List (Nat × SV)) (k v m i o:Nat):YU g fr (.ms k v m i o)=(.ms k v m i o):=rfl
theorem ZiQ (t:Nat) (r:List (Nat × SV)) (k v m i o:Nat):YE ((t,(.pr k v m i o)) :: r)=(t,(.pr k v m i o)) :: YE r:=rfl
theorem ZhN (t:Nat) (r:List (Nat × SV)) (k v m i o:Nat):YE ((t,(.ms k v m i o)) :: r)=(t,(.ms k v m i o)) :: YE r:=rfl
theorem Zm8 (hp:List (Nat × HB)) (k v m i o:Nat):cvt hp (.pr k v m i o)=(.pr k v m i o):=rfl
theorem Zp4 (hp:List (Nat × HB)) (k v m i o:Nat):cvt hp (.ms k v m i o)=(.ms k v m i o):=rfl
theorem Zm5 (hp:List (Nat × HB)) (g:SV->SV) (k v m i o:Nat):vwS hp g (.pr k v m i o)=(.pr k v m i o):=rfl
theorem Zn0 (hp:List (Nat × HB)) (g:SV->SV) (k v m i o:Nat):vwS hp g (.ms k v m i o)=(.ms k v m i o):=rfl
theorem ZlJ (k v m i o:Nat):vw0 (.pr k v m i o) = .any:=rfl
theorem ZpV (k v m i o:Nat):vw0 (.ms k v m i o) = .any:=rfl
theorem ZfK (k v m i o:Nat):Yv (.pr k v m i o)=some [(.pr k v m i o)]:=rfl
theorem Zf1 (k v m i o:Nat):Yv (.ms k v m i o)=some [(.ms k v m i o)]:=rfl
theorem Zj6 (k v m i o:Nat):WQ (.pr k v m i o)=true:=rfl
theorem Zho (k v m i o:Nat):WQ (.ms k v m i o)=true:=rfl
theorem ZgW (g:Option (Nat × Bool)) (fr:List (Nat × SV)) (row:List SV) (o:Nat):YU g fr (.ps row o)=(.ps row o):=rfl
theorem ZjY (t:Nat) (r:List (Nat × SV)) (row:List SV) (o:Nat):YE ((t,(.ps row o)) :: r)=(t,(.ps row o)) :: YE r:=rfl
theorem ZpC (hp:List (Nat × HB)) (row:List SV) (o:Nat):cvt hp (.ps row o)=(.ps row o):=rfl
theorem ZnU (hp:List (Nat × HB)) (g:SV->SV) (l:List SV) (o:Nat):vwS hp g (.ps l o) = .ps (Zbi g l) o:=rfl
theorem ZmS (row:List SV) (o:Nat):vw0 (.ps row o) = .any:=rfl
theorem ZfE (row:List SV) (o:Nat):Yv (.ps row o)=some [(.ps row o)]:=rfl
theorem Zip (row:List SV) (o:Nat):WQ (.ps row o)=true:=rfl
theorem Zgs (g:Option (Nat × Bool)) (fr:List (Nat × SV)) (f:FuncId) (l:List SV):YU g fr (.cl f l)=(.cl f l):=rfl
theorem Zle (t:Nat) (r:List (Nat × SV)) (f:FuncId) (l:List SV):YE ((t,(.cl f l)) :: r)=(t,(.cl f l)) :: YE r:=rfl
theorem Zl9 (hp:List (Nat × HB)) (f:FuncId) (l:List SV):cvt hp (.cl f l)=(.cl f l):=rfl
theorem Zmm (hp:List (Nat × HB)) (g:SV->SV) (f:FuncId) (l:List SV):vwS hp g (.cl f l) = .cl f (Zbi g l):=rfl
theorem ZnD (f:FuncId) (l:List SV):vw0 (.cl f l) = .any:=rfl
theorem Zgl (f:FuncId) (l:List SV):Yv (.cl f l)=some [(.cl f l)]:=rfl
theorem ZiH (f:FuncId) (l:List SV):WQ (.cl f l)=true:=rfl
theorem Zeq (g:Option (Nat × Bool)) (fr:List (Nat × SV)) (l:List SV):YU g fr (.tup l)=(.tup l):=rfl
theorem ZfG (t:Nat) (r:List (Nat × SV)) (l:List SV):YE ((t,(.tup l)) :: r)=(t,(.tup l)) :: YE r:=rfl
theorem Zi6 (hp:List (Nat × HB)) (l:List SV):cvt hp (.tup l) = .tup (Zht hp l):=rfl
theorem Zjx (hp:List (Nat × HB)) (g:SV->SV) (l:List SV):vwS hp g (.tup l) = .tup (Zbi g l):=rfl
theorem Zk1 (l:List SV):vw0 (.tup l) = .any:=rfl
theorem Zge (l:List SV):WQ (.tup l)=false:=rfl
theorem ZjU (g:Option (Nat × Bool)) (fr:List (Nat × SV)) (φ : VP):YU g fr (.q φ)=(.q φ):=rfl
theorem ZpF (t:Nat) (r:List (Nat × SV)) (φ : VP):YE ((t,(.q φ)) :: r)=(t,(.q φ)) :: YE r:=rfl
theorem Zvp (hp:List (Nat × HB)) (φ : VP):cvt hp (.q φ)=(.q φ):=rfl
theorem Zv1 (hp:List (Nat × HB)) (g:SV->SV) (φ : VP):vwS hp g (.q φ)=(.q φ):=rfl
theorem Zux (φ : VP):vw0 (.q φ)=(.q φ):=rfl
theorem Zic (φ : VP):Yv (.q φ)=some [(.q φ)]:=rfl
theorem Zn1 (φ : VP):WQ (.q φ)=true:=rfl
theorem Zgy (g:Option (Nat × Bool)) (fr:List (Nat × SV)) (k:Nat):YU g fr (.mp k)=(.mp k):=rfl
theorem ZjZ (t:Nat) (r:List (Nat × SV)) (k:Nat):YE ((t,(.mp k)) :: r)=(t,(.mp k)) :: YE r:=rfl
theorem ZmV (hp:List (Nat × HB)) (k:Nat):cvt hp (.mp k)=(.mp k):=rfl
theorem Zpa (hp:List (Nat × HB)) (g:SV->SV) (k:Nat):vwS hp g (.mp k) = .any:=rfl
theorem ZpT (k:Nat):vw0 (.mp k) = .any:=rfl
theorem ZgR (k:Nat):Yv (.mp k)=some [(.mp k)]:=rfl
theorem Zkg (k:Nat):WQ (.mp k)=true:=rfl
theorem Zgp (g:Option (Nat × Bool)) (fr:List (Nat × SV)) (k:Nat):YU g fr (.yl k)=(.yl k):=rfl
theorem ZiZ (t:Nat) (r:List (Nat × SV)) (k:Nat):YE ((t,(.yl k)) :: r)=(t,(.yl k)) :: YE r:=rfl
theorem ZgN (k:Nat):Yv (.yl k)=some [(.yl k)]:=rfl
theorem Zjz (k:Nat):WQ (.yl k)=true:=rfl
theorem Zeo (g:Option (Nat × Bool)) (fr:List (Nat × SV)) (T:TypeId) (s:SV):YU g fr (.ifc T s)=(.ifc T s):=rfl
theorem Zgv (t:Nat) (r:List (Nat × SV)) (T:TypeId) (s:SV):YE ((t,(.ifc T s)) :: r)=(t,(.ifc T s)) :: YE r:=rfl
theorem Zjo (hp:List (Nat × HB)) (T:TypeId) (s:SV):cvt hp (.ifc T s) = .ifc T (cvt hp s):=rfl
theorem Zh0 (hp:List (Nat × HB)) (g:SV->SV) (T:TypeId) (s:SV):vwS hp g (.ifc T s) = .ifc T (g s):=rfl
theorem Zkn (T:TypeId) (s:SV):vw0 (.ifc T s) = .any:=rfl
theorem Zef (T:TypeId) (s:SV):Yv (.ifc T s)=some [(.ifc T s)]:=rfl
theorem ZfH (T:TypeId) (s:SV):WQ (.ifc T s)=true:=rfl
theorem Zd4 (P:Program) (Y:Hd) (d:Option Nat) (σ : St) (r:KT) (K:RK) (f:FuncId) (as:List X):stp P Y d (.callm f as) σ r K=Zco P f (Uy (rdG none σ.fr) as) d σ r K:=rfl
theorem Zeh (P:Program) (Y:Hd) (d:Option Nat) (σ : St) (r:KT) (K:RK) (x:X) (as:List X):stp P Y d (.calvm x as) σ r K=ZgD P Y (rdG none σ.fr x) (Uy (rdG none σ.fr) as) d σ r K:=rfl
theorem e_yld (asg body:Nat->CT) (ps:List Nat) (kl:Nat) (rec:Loop) (fr:List (Nat × SV)) (N k:Nat) (args:List SV) (d:Option Nat) (σ : St) (r:KT) (K:RK):YLD (hdR asg body ps kl rec fr N) k args d σ r K =
 rfB (Nat.beq k kl) (Zrd rec (lkh kl σ.hp)/\rfB (Zlv args ps) (asg σ.n ⟨pmS ps args ++ fr,σ.hp,σ.n,N,[]⟩ (asE kl rec (body σ.n) (bdE kl rec fun o=>cmK o.pn o.res o.hp o.n d σ r K)))):=rfl
theorem e_exR (ρ : Nat->Nat) (n0 n k:Nat):exR ρ n0 n k=exB (Nat.blt k n0) (ρ k) (n+(k - n0)):=rfl
theorem e_hpM (ρ : Nat->Nat) (n0 n:Nat) (o:Ot) (hp:List (Nat × HB)):hpM ρ n0 n o hp=rnP (exR ρ n0 n) o.hp ++ (ZaT ρ n0 ++ hp):=rfl
theorem ZjH (P:Program) (Y:Hd) (m:Nat) (g:X) (ps:List Nat) (asg body:SC) (σ : St) (K:Ex->St->Prop):sx P Y m (.rfun g ps asg body) σ K=rfK P (fun n=>sx P Y0 n asg) (fun n=>sx P Y0 n body) (rdG none σ.fr g) ps σ K:=rfl
theorem Zea (g:Option (Nat × Bool)) (fr:List (Nat × SV))  : YU g fr (.any)=(.any):=rfl
theorem ZgE (t:Nat) (r:List (Nat × SV))  : YE ((t,(.any)) :: r)=(t,(.any)) :: YE r:=rfl
theorem ZhZ (hp:List (Nat × HB))  : cvt hp (.any)=(.any):=rfl
theorem Zih (hp:List (Nat × HB)) (g:SV->SV)  : vwS hp g (.any)=(.any):=rfl
theorem Zkp  : vw0 (.any) = .any:=rfl
theorem Zf3  : WQ (.any)=false:=rfl
theorem ZjS (t j:Nat) (w:Bool) (s:SV) (r:List (Nat × SV)):YE ((t,.gd j w s) :: r)=(t,.any) :: YE r:=rfl
theorem Zvu  : YE []=[]:=rfl
theorem Zek (fr:List (Nat × SV)) (j:Nat) (w:Bool) (s:SV):YU none fr (.gd j w s) = .any:=rfl
theorem ZfD (fr:List (Nat × SV)) (j j0:Nat) (w w0:Bool) (s:SV):YU (some (j0,w0)) fr (.gd j w s)=ZdW (alw 8 fr j0 w0 j w) s:=rfl
theorem ZdT (b:Bool):U9 (.bool b)=true:=rfl
theorem Zg6 (k:IntKind) (n:Int):U9 (.int k n)=true:=rfl
theorem Zce (s:ByteArray):U9 (.string s)=true:=rfl
theorem Zbl (p:Option Addr):U9 (.pointer p)=true:=rfl
theorem Zdn (a:Option Addr) (l c:Nat):U9 (.slice a l c)=true:=rfl
theorem Zbo  : U9 .nilFunc=true:=rfl
theorem ZaK  : U9 .nilIface=true:=rfl
theorem e_rdG (g:Option (Nat × Bool)) (fr:List (Nat × SV)) (x:X):rdG g fr x=YU g fr (rd fr x):=rfl
theorem ZxN (fr:List (Nat × SV)) (n:Nat):rd fr (.t n)=lk n fr:=rfl
theorem ZzO (fr:List (Nat × SV)) (x:Value):rd fr (.c x) = .v x:=rfl
theorem Zyt (fr:List (Nat × SV)) (i:Nat):rd fr (.f i) = .cl i []:=rfl
theorem e_alw (f:Nat) (fr:List (Nat × SV)) (j0:Nat) (w0:Bool) (j:Nat) (w:Bool):alw (f+1) fr j0 w0 j w=Zxa (ZgI (Nat.beq j0 j) w0 w) (lk j0 fr) (alw f fr) j w:=rfl
theorem Zy8 (fr:List (Nat × SV)) (j0:Nat) (w0:Bool) (j:Nat) (w:Bool):alw 0 fr j0 w0 j w=false:=rfl
theorem e_vw1 (hp:List (Nat × HB)) (s:SV):vw1 hp s=vwS hp vw0 s:=rfl
theorem e_vw2 (hp:List (Nat × HB)) (s:SV):vw2 hp s=vwS hp (vw1 hp) s:=rfl
theorem e_vw3 (hp:List (Nat × HB)) (s:SV):vw3 hp s=vwS hp (vw2 hp) s:=rfl
theorem e_vw4 (hp:List (Nat × HB)) (s:SV):vw4 hp s=vwS hp (vw3 hp) s:=rfl
theorem Znv (fr:List (Nat × SV)) (hp:List (Nat × HB)) (n N:Nat):Vp ⟨fr,hp,n,N,[]⟩=⟨fr,hp,n,N,[]⟩:=rfl
theorem Zmq (fr:List (Nat × SV)) (hp:List (Nat × HB)) (n N j:Nat) (l:List Nat):Vp ⟨fr,hp,n,N,j :: l⟩=⟨YE fr,hp,n,N,[]⟩:=rfl
theorem ZxX (b:BinOp) (k j:IntKind) (x y:Int):ZwT b (.v (.int k x)) (.v (.int j y))=ZyM (Zcp k j) b k x y:=rfl
theorem ZhV (b:Bool):uni .not (.v (.bool b))=some (.v (.bool (!b))):=rfl
theorem Zkb (k:IntKind) (n:Int):uni .neg (.v (.int k n))=some (.v (.int k (k.wrap (0 - n)))):=rfl
theorem Zgg (k:IntKind) (x y:Int):Zg4 .add k x y=some (.v (.int k (k.wrap (x+y)))):=rfl
theorem Zgk (k:IntKind) (x y:Int):Zg4 .sub k x y=some (.v (.int k (k.wrap (x - y)))):=rfl
theorem ZfO (k:IntKind) (x y:Int):Zg4 .mul k x y=some (.v (.int k (k.wrap (x * y)))):=rfl
theorem Zgj (k:IntKind) (x y:Int):Zg4 .eql k x y=some (.v (.bool (x == y))):=rfl
theorem ZfW (k:IntKind) (x y:Int):Zg4 .neq k x y=some (.v (.bool (x != y))):=rfl
theorem ZgS (k:IntKind) (x y:Int):Zg4 .lss k x y=some (.v (.bool (decide (x < y)))):=rfl
theorem ZgA (k:IntKind) (x y:Int):Zg4 .leq k x y=some (.v (.bool (decide (x<=y)))):=rfl
theorem Zg5 (k:IntKind) (x y:Int):Zg4 .gtr k x y=some (.v (.bool (decide (x > y)))):=rfl
theorem Zf4 (k:IntKind) (x y:Int):Zg4 .geq k x y=some (.v (.bool (decide (x ≥ y)))):=rfl
theorem Zio  : Zcp .i8 .i8=true:=rfl
theorem Zg2  : Zcp .i16 .i16=true:=rfl
theorem ZgZ  : Zcp .i32 .i32=true:=rfl
theorem Zfz  : Zcp .i64 .i64=true:=rfl
theorem ZjT  : Zcp .u8 .u8=true:=rfl
theorem Zgf  : Zcp .u16 .u16=true:=rfl
theorem Zf2  : Zcp .u32 .u32=true:=rfl
theorem ZfL  : Zcp .u64 .u64=true:=rfl
theorem Zom (o:Nat) (k q:Nat):Ub o (.p k q)=some (.p k (q+o)):=rfl
theorem ZnB (k q:Nat):Zc4 (.p k q)=some (.p k q):=rfl
theorem Zhw (o:Nat) (k v m i q:Nat):Ub o (.pr k v m i q)=some (.pr k v m i (q+o)):=rfl
theorem ZhK (k v m i q:Nat):Zc4 (.pr k v m i q)=some (.pr k v m i q):=rfl
theorem ZjX (o:Nat) (row:List SV) (q:Nat):Ub o (.ps row q)=some (.ps row (q+o)):=rfl
theorem ZhT (row:List SV) (q:Nat):Zc4 (.ps row q)=some (.ps row q):=rfl
theorem ZqV (l:List SV) (o m:Nat):XX l o m true=ZxE (Nat.ble (o+m) l.length) l o m:=rfl
theorem Zm1 (l:List SV) (o m:Nat):XX l o m false=nth l o:=rfl
theorem Zyu (mx:Bool) (x:Int):mmf mx x []=some x:=rfl
theorem Zsq (k:IntKind) (x y:Int) (r:List SV):mmf true x (.v (.int k y) :: r)=mmf true (max x y) r:=rfl
theorem ZsP (k:IntKind) (x y:Int) (r:List SV):mmf false x (.v (.int k y) :: r)=mmf false (min x y) r:=rfl
theorem e_mm (mx:Bool) (k:IntKind) (x:Int) (r:List SV):mmS mx (.v (.int k x) :: r)=mmE k (mmf mx x r):=rfl
theorem e_bld (ρ : X->SV) (z:List SV) (ps:List (Nat × Nat × X)):bld ρ z ps=ZlA z (Zpf ρ ps):=rfl
theorem ZgC (ρ : X->SV) (z:List Value) (ps:List (Nat × Nat × X)):pv ρ (.build z ps)=Zya (bld ρ (lit z) ps):=rfl
theorem Zzr (l:List SV) (m:Nat) (ls:List (List SV)):ZwQ (some l) m (some ls)=chkB (chk l m) l ls:=rfl
theorem Zox (s:SV) (l:List SV):Z9 (s :: l)=Vo (WQ s) (Z9 l):=rfl
theorem Zj1  : Z9 []=true:=rfl
theorem ZpA (fr:List (Nat × SV)) (g:Option (Nat × Bool)) (t:Nat) (b:X):ZfV fr g (.t t) (.c (.bool true)) b=Zf6 (rdG g fr (.t t)) (rdG (some (t,false)) fr b):=rfl
theorem Znp (fr:List (Nat × SV)) (g:Option (Nat × Bool)) (t n:Nat):ZfV fr g (.t t) (.t n) (.c (.bool false))=ZdR (rdG g fr (.t t)) (rdG (some (t,true)) fr (.t n)):=rfl
theorem Zmg (fr:List (Nat × SV)) (g:Option (Nat × Bool)) (t:Nat):ZfV fr g (.t t) (.c (.bool false)) (.c (.bool false))=ZdR (rdG g fr (.t t)) (rdG (some (t,true)) fr (.c (.bool false))):=rfl
theorem Zk0:ZdR (.v (.bool false)) (.v undef)=some (.v (.bool false)):=rfl
theorem Zie:Zf6 (.v (.bool true)) (.v undef)=some (.v (.bool true)):=rfl
theorem e_rvR (rs:List RV) (σ : St):rvR rs σ = rvE (rvs σ rs):=rfl
theorem ZyT (σ : St):rvs σ []=some []:=rfl
theorem ZtE (σ : St) (t:Nat):rv1 σ (.tmp t)=some (rdG none σ.fr (.t t)):=rfl
theorem ZtC (σ : St) (t m:Nat) (ag:Bool):rv1 σ (.cell t m ag)=rvX σ.hp m ag (rdG none σ.fr (.t t)):=rfl
theorem Zms (P:Program) (Y:Hd) (d:Option Nat) (σ : St) (r:KT) (K:RK) (x:X):stp P Y d (.mv x) σ r K=Yq P none d (.mv x) σ r K:=rfl
theorem Zg3 (P:Program) (Y:Hd) (d:Option Nat) (σ : St) (r:KT) (K:RK) (c a b:X):stp P Y d (.pick c a b) σ r K=Yq P none d (.pick c a b) σ r K:=rfl
theorem ZdQ (P:Program) (Y:Hd) (d:Option Nat) (σ : St) (r:KT) (K:RK) (z:List Value) (ps:List (Nat × Nat × X)):stp P Y d (.build z ps) σ r K=Yq P none d (.build z ps) σ r K:=rfl
theorem Zkx (P:Program) (Y:Hd) (d:Option Nat) (σ : St) (r:KT) (K:RK) (m:Nat) (T:TypeId) (ps:List X):stp P Y d (.bsl m T ps) σ r K=Yq P none d (.bsl m T ps) σ r K:=rfl
theorem ZlN (P:Program) (Y:Hd) (d:Option Nat) (σ : St) (r:KT) (K:RK) (x:X) (m:Nat) (ag:Bool):stp P Y d (.ld x m ag) σ r K=Yq P none d (.ld x m ag) σ r K:=rfl
theorem ZfA (P:Program) (Y:Hd) (d:Option Nat) (σ : St) (r:KT) (K:RK) (x:X):stp P Y d (.nilc x) σ r K=Yq P none d (.nilc x) σ r K:=rfl
theorem Zhk (P:Program) (Y:Hd) (d:Option Nat) (σ : St) (r:KT) (K:RK) (b:BinOp) (x y:X):stp P Y d (.bin b x y) σ r K=Yq P none d (.bin b x y) σ r K:=rfl
theorem Zkd (P:Program) (Y:Hd) (d:Option Nat) (σ : St) (r:KT) (K:RK) (b:BinOp) (x y:X):stp P Y d (.div b x y) σ r K=Yq P none d (.div b x y) σ r K:=rfl
theorem Zpd (P:Program) (Y:Hd) (d:Option Nat) (σ : St) (r:KT) (K:RK) (u:UnOp) (x:X):stp P Y d (.un u x) σ r K=Yq P none d (.un u x) σ r K:=rfl
theorem Zgc (P:Program) (Y:Hd) (d:Option Nat) (σ : St) (r:KT) (K:RK) (x:X) (o:Nat):stp P Y d (.addo x o) σ r K=Yq P none d (.addo x o) σ r K:=rfl
theorem Zk7 (P:Program) (Y:Hd) (d:Option Nat) (σ : St) (r:KT) (K:RK) (x:X) (o m:Nat) (ag:Bool):stp P Y d (.fld x o m ag) σ r K=Yq P none d (.fld x o m ag) σ r K:=rfl
theorem ZiI (P:Program) (Y:Hd) (d:Option Nat) (σ : St) (r:KT) (K:RK) (x i:X) (len m:Nat) (ag:Bool):stp P Y d (.idx x i len m ag) σ r K=Yq P none d (.idx x i len m ag) σ r K:=rfl
theorem Zig (P:Program) (Y:Hd) (d:Option Nat) (σ : St) (r:KT) (K:RK) (x i:X) (len m:Nat):stp P Y d (.ixa x i len m) σ r K=Yq P none d (.ixa x i len m) σ r K:=rfl
theorem Zkj (P:Program) (Y:Hd) (d:Option Nat) (σ : St) (r:KT) (K:RK) (x i:X) (m:Nat):stp P Y d (.ixs x i m) σ r K=Yq P none d (.ixs x i m) σ r K:=rfl
theorem ZiB (P:Program) (Y:Hd) (d:Option Nat) (σ : St) (r:KT) (K:RK) (x:X):stp P Y d (.len x) σ r K=Yq P none d (.len x) σ r K:=rfl
theorem Zo2 (P:Program) (Y:Hd) (d:Option Nat) (σ : St) (r:KT) (K:RK) (mx:Bool) (xs:List X):stp P Y d (.mm mx xs) σ r K=Yq P none d (.mm mx xs) σ r K:=rfl
theorem Zgr (P:Program) (Y:Hd) (d:Option Nat) (σ : St) (r:KT) (K:RK) (f:FuncId) (as:List X):stp P Y d (.call f as) σ r K=Yq P none d (.call f as) σ r K:=rfl
theorem ZfU (P:Program) (Y:Hd) (d:Option Nat) (σ : St) (r:KT) (K:RK) (x:X) (as:List X):stp P Y d (.calv x as) σ r K=Yq P none d (.calv x as) σ r K:=rfl
theorem Zjm (P:Program) (Y:Hd) (d:Option Nat) (σ : St) (r:KT) (K:RK) (f:FuncId) (cs:List X):stp P Y d (.mkf f cs) σ r K=Yq P none d (.mkf f cs) σ r K:=rfl
theorem ZfF (P:Program) (Y:Hd) (d:Option Nat) (σ : St) (r:KT) (K:RK) (k:IntKind) (x:X):stp P Y d (.conv k x) σ r K=Yq P none d (.conv k x) σ r K:=rfl
theorem Zkz (P:Program) (Y:Hd) (d:Option Nat) (σ : St) (r:KT) (K:RK) (x:X) (i:Nat):stp P Y d (.ext x i) σ r K=Yq P none d (.ext x i) σ r K:=rfl
theorem e_rvs (σ : St) (r:RV) (rs:List RV):rvs σ (r :: rs)=rvC σ.hp (rv1 σ r) (rvs σ rs):=rfl
theorem ZpJ (ρ : X->SV) (x:X) (o m:Nat) (ag:Bool):pv ρ (.fld x o m ag)=pvF o m ag (ρ x):=rfl
theorem ZhO (ρ : X->SV) (k:IntKind) (x:X):pv ρ (.conv k x)=pvC k (ρ x):=rfl
theorem ZnE (ρ : X->SV) (x:X) (i:Nat):pv ρ (.ext x i)=pvE i (ρ x):=rfl
theorem ZuH (fr:List (Nat × SV)):Zw2 [] fr=True:=rfl
theorem Zzj (t:Nat) (s:SV) (r fr:List (Nat × SV)):Zw2 ((t,s) :: r) fr=(lk t fr=s/\Zw2 r fr):=rfl
theorem Zj5 (P:Program) (Y:Hd) (d:Option Nat) (σ : St) (r:KT) (K:RK) (ng ag:Bool) (cls:List Nat) (x y:X):stp P Y d (.eqs ng ag cls x y) σ r K=Yq P none d (.eqs ng ag cls x y) σ r K:=rfl
theorem Zk9 (P:Program) (Y:Hd) (d:Option Nat) (σ : St) (r:KT) (K:RK) (x h k:X):stp P Y d (.slc x h k) σ r K=Yq P none d (.slc x h k) σ r K:=rfl
theorem Zi5 (P:Program) (Y:Hd) (d:Option Nat) (σ : St) (r:KT) (K:RK) (m:Nat) (x:X) (lo hi:Option X):stp P Y d (.sub m x lo hi) σ r K=Yq P none d (.sub m x lo hi) σ r K:=rfl
theorem ZkL (P:Program) (Y:Hd) (d:Option Nat) (σ : St) (r:KT) (K:RK) (m b:Nat) (T:TypeId) (x y:X):stp P Y d (.app m b T x y) σ r K=Yq P none d (.app m b T x y) σ r K:=rfl
theorem ZpS (l):Zya (some l)=some (SV.agg l):=rfl
theorem Zl6: Zya none=none:=rfl
theorem ZtW (k z):mmE k (some z)=some (SV.v (Value.int k z)):=rfl
theorem ZtT (k):mmE k none=none:=rfl
theorem Zs1 (g o l T):vwP g o (HB.cells l T)=SV.ps (Zbi g l) o:=rfl
theorem Zsm (m a):vwN true m a=SV.sl false m a:=rfl
theorem ZsH (m a):vwN false m a=SV.any:=rfl
theorem Zv6 (v a m b T):vwM v (HB.row a m b T)=vwN (Nat.beq v a) m b:=rfl
theorem Zuj (v a m b T o c d e):vwM v (HB.rws a m b T o c d e)=vwN (Nat.beq v a) m (Zej o c d b):=rfl
theorem Zo9 (v a m b T):cvtM v (HB.row a m b T)=vwN (Nat.beq v a) m b:=rfl
theorem ZnI (m v a b c T):Zhf m v (HB.row a b c T)=Zgn c (Vo (Nat.beq m b) (Nat.beq v a)):=rfl
theorem Zmb (m v l T):Zhf m v (HB.cells l T)=none:=rfl
theorem Znd (m v φ):Zhf m v (HB.ob φ)=none:=rfl
theorem ZlH (m v a b):Zhf m v (HB.map a b)=none:=rfl
theorem Zoq (m v a b c d):Zhf m v (HB.it a b c d)=none:=rfl
theorem Zl4 (m v a b):Zhf m v (HB.lp a b)=none:=rfl
theorem Zmi (m v a):Zhf m v (HB.lb a)=none:=rfl
theorem ZnJ (m v a b c T o d e f):Zhf m v (HB.rws a b c T o d e f)=none:=rfl
theorem ZoY (m v):Zhf m v HB.gone=none:=rfl
theorem ZoN (a):Zgn a true=some a:=rfl
theorem ZmR (a):Zgn a false=none:=rfl
theorem Zr2: rvE (some [])=some (SV.tup []):=rfl
theorem Zt2 (s):rvE (some [s])=some s:=rfl
theorem ZsE (a b l):rvE (some (a :: b :: l))=some (SV.tup (a :: b :: l)):=rfl
theorem Zsx: rvE none=none:=rfl
theorem ZrY (s l):rvD s (some l)=some (s :: l):=rfl
theorem ZrX (s):rvD s none=none:=rfl
theorem Ztr (hp x s):rvC hp (some s) x=rvD (cvt hp s) x:=rfl
theorem Zr8 (hp x):rvC hp none x=none:=rfl
theorem ZtO (o m a l T):rvH o m a (HB.cells l T)=XX l o m a:=rfl
theorem Zvd (hp m a k o):rvX hp m a (SV.p k o)=rvH o m a (lkh k hp):=rfl
theorem Zr1 (o m a l):pvF o m a (SV.agg l)=XX l o m a:=rfl
theorem ZuX (k a n):pvC k (SV.v (Value.int a n))=some (SV.v (Value.int k (IntKind.wrap k n))):=rfl
theorem Zva (i l):pvE i (SV.tup l)=nth l i:=rfl
theorem Zl5 (x a b c d):Zx4 false true false x a b c d=c { fr:=(x,a) :: St.fr b,hp:=St.hp b,n:=St.n b,N:=St.N b,gs:=St.gs b } d:=rfl
theorem ZpQ (x a b c d e f):ZAh false true false x a b c d e f=e { fr:=(x,SV.gd a b c) :: St.fr d,hp:=St.hp d,n:=St.n d,N:=St.N d,gs:=a :: St.gs d } f:=rfl
theorem Zo0 (s σ r K):Yr none s none σ r K=r σ K:=rfl
theorem ZoV (s σ r K a):Yr none s (some a) σ r K=False:=rfl
theorem Zqu (s σ r K t):Yr (some t) s none σ r K=Zx4 (Xr t (St.gs σ)) (Nat.blt t (St.N σ)) (gdS s) t s σ r K:=rfl
theorem ZqD (s σ r K t j w):Yr (some t) s (some (j,w)) σ r K=ZAh (Xr t (St.gs σ)) (Nat.blt t (St.N σ)) (Nat.beq t j) t j w s σ r K:=rfl
theorem Zoo (d g σ r K s):Wo (some s) d g σ r K=Yr d s g σ r K:=rfl
theorem ZnG (d g σ r K):Wo none d g σ r K=False:=rfl
theorem ZiL (x):ZdW true x=x:=rfl
theorem ZiO (x):ZdW false x=SV.any:=rfl
theorem ZmK (x a b c):Zxa true x a b c=true:=rfl
theorem Zo7 (x a b c d s):Zxa false (SV.gd c d s) x a b=x c d a b:=rfl
theorem ZiY (x a):ZgI true x a=bbq x a:=rfl
theorem ZjQ (x a):ZgI false x a=false:=rfl
theorem ZsO: bbq true true=true:=rfl
theorem Ztw: bbq false false=true:=rfl
theorem ZhS (x y):Zf6 (SV.v (Value.bool x)) (SV.v (Value.bool y))=some (SV.v (Value.bool (x || y))):=rfl
theorem Ziu (x a):Zf6 (SV.v (Value.bool x)) (SV.v (Value.tuple a))=bif x then some (SV.v (Value.bool true)) else none:=rfl
theorem Zhu (x y):ZdR (SV.v (Value.bool x)) (SV.v (Value.bool y))=some (SV.v (Value.bool (x && y))):=rfl
theorem ZkM (x a):ZdR (SV.v (Value.bool x)) (SV.v (Value.tuple a))=bif x then none else some (SV.v (Value.bool false)):=rfl
theorem Zmk (m r):Zw1 m (some r)=some (SV.sl true m r):=rfl
theorem Zmf (m):Zw1 m none=none:=rfl
theorem Zh6 (P g d σ r K a f b):ZqS P g d σ r K (SV.cl f b) a=Zxb P g f (a ++ b) d σ r K:=rfl
theorem Zpr (g d σ r K k v m a j):ZzI g d σ r K true k v m a j=IXR g k v m a j d σ r K:=rfl
theorem Znn (g d σ r K k v m a j):ZzI g d σ r K false k v m a j=False:=rfl
theorem Zq1 (g d σ r K k v m j a b c T):Zyd g d σ r K (HB.row a b c T) k v m j=ZzI g d σ r K (Vo (Nat.beq m b) (Nat.beq v a)) k v m (List.length c) j:=rfl
theorem ZoH (g d σ r K k v m j a b c T o e f l):Zyd g d σ r K (HB.rws a b c T o e f l) k v m j = ∃ i rows TT,v=a+i/\Xl k a b c T o e f l i=some (m,rows,TT)/\IXR g k v m (List.length rows) j d σ r K:=rfl
theorem Zn5 (g d σ r K a j):ZyB g d σ r K true a j=IXS g a j d σ r K:=rfl
theorem ZoI (g d σ r K a j):ZyB g d σ r K false a j=False:=rfl
theorem ZlY (g d σ r K m k j c a b):ZxP g d σ r K (SV.v (Value.int k j)) (SV.sl c a b) m=ZyB g d σ r K (Nat.beq m a) b j:=rfl
theorem Znz (g d σ r K m k j a v):ZxP g d σ r K (SV.v (Value.int k j)) (SV.mr a v) m=Zyd g d σ r K (lkh a (St.hp σ)) a v m j:=rfl
theorem Zoa (g d σ r K x a m k n):ZAn g d σ r K (SV.v (Value.int k n)) x a m=IXA g a n (fun n=>Ub (n * m) x) d σ r K:=rfl
theorem Zmj (g d σ r K a m b k j l):ZAE g d σ r K (SV.v (Value.int k j)) (SV.agg l) a m b=IXA g a j (fun n=>XX l (n * m) m b) d σ r K:=rfl
theorem ZvJ (g d σ r K o m a l T):ldC g d σ r K (HB.cells l T) o m a=Wo (XX l o m a) d g σ r K:=rfl
theorem ZsW (g d σ r K a i o m b):ldB g d σ r K true a i o m b=LDR g a i o m b d σ r K:=rfl
theorem ZuT (g d σ r K a i o m b):ldB g d σ r K false a i o m b=False:=rfl
theorem Zvx (g d σ r K k v a i o m b c e f T):ldR g d σ r K k (HB.row c e f T) v a i o m b=ldB g d σ r K (Vo (Nat.beq a e) (Nat.beq v c)) f i o m b:=rfl
theorem Zvv (g d σ r K k v b i o m c e f j T l p q s):ldR g d σ r K k (HB.rws e f j T l p q s) v b i o m c = ∃ a rows TT,v=e+a/\Xl k e f j T l p q s a=some (b,rows,TT)/\LDR g rows i o m c d σ r K:=rfl
theorem Zsr (g d σ r K m a k o):ldK g d σ r K (SV.p k o) m a=ldC g d σ r K (lkh k (St.hp σ)) o m a:=rfl
theorem ZvN (g d σ r K m a b o):ldK g d σ r K (SV.ps b o) m a=Wo (XX b o m a) d g σ r K:=rfl
theorem Zwh (g d σ r K m a k v b i o):ldK g d σ r K (SV.pr k v b i o) m a=ldR g d σ r K k (lkh k (St.hp σ)) v b i o m a:=rfl
theorem Zo1 (g d σ r K b k u v):ZyE g d σ r K true b k u v=DIV g b k u v d σ r K:=rfl
theorem ZpI (g d σ r K b k u v):ZyE g d σ r K false b k u v=False:=rfl
theorem ZoK (g d σ r K b k a j c):ZAz g d σ r K b (SV.v (Value.int k a)) (SV.v (Value.int j c))=ZyE g d σ r K (Zcp k j) b k a c:=rfl
theorem ZqI (g d σ r K a):ZzD g d σ r K true a=Yr d (SV.v (Value.int IntKind.i64 ↑(List.length a))) g σ r K:=rfl
theorem Zp5 (g d σ r K a):ZzD g d σ r K false a=False:=rfl
theorem ZpG (g d σ r K k v a m b T):Zy9 g d σ r K k (HB.row a m b T) v=ZzD g d σ r K (Nat.beq v a) b:=rfl
theorem Zoi (g d σ r K k v b m c T o e f i):Zy9 g d σ r K k (HB.rws b m c T o e f i) v = ∃ a mm rows TT,v=b+a/\Xl k b m c T o e f i a=some (mm,rows,TT)/\Yr d (SV.v (Value.int IntKind.i64 ↑(List.length rows))) g σ r K:=rfl
theorem ZlO (g d σ r K k v):Zw6 g d σ r K (SV.mr k v)=Zy9 g d σ r K k (lkh k (St.hp σ)) v:=rfl
theorem Zl2 (g d σ r K k v m i l):Zw6 g d σ r K (SV.ms k v m i l)=Yr d (SV.v (Value.int IntKind.i64 ↑l)) g σ r K:=rfl
theorem Zqq (g d σ r K c m a):Zw6 g d σ r K (SV.sl c m a)=Yr d (SV.v (Value.int IntKind.i64 ↑(List.length a))) g σ r K:=rfl
theorem Zns (P g d σ r K f a):Yq P g d (SI.call f a) σ r K=Zxb P g f (Uy (rdG g (St.fr σ)) a) d σ r K:=rfl
theorem Zne (P g d σ r K x a):Yq P g d (SI.calv x a) σ r K=ZqS P g d σ r K (rdG g (St.fr σ) x) (Uy (rdG g (St.fr σ)) a):=rfl
theorem Zqo (P g d σ r K f a):Yq P g d (SI.callm f a) σ r K=False:=rfl
theorem ZqO (P g d σ r K x a):Yq P g d (SI.calvm x a) σ r K=False:=rfl
theorem Zml (P g d σ r K c a b):Yq P g d (SI.pick c a b) σ r K=Wo (ZfV (St.fr σ) g c a b) d g σ r K:=rfl
theorem Zqy (P g d σ r K m T a):Yq P g d (SI.bsl m T a) σ r K=Wo (Zw1 m (Zfe (rdG g (St.fr σ)) m a)) d g σ r K:=rfl
theorem ZoO (P g d σ r K x a m):Yq P g d (SI.ixs x a m) σ r K=ZxP g d σ r K (rdG g (St.fr σ) a) (rdG g (St.fr σ) x) m:=rfl
theorem Zpb (P g d σ r K x a b m):Yq P g d (SI.ixa x a b m) σ r K=ZAn g d σ r K (rdG g (St.fr σ) a) (rdG g (St.fr σ) x) b m:=rfl
theorem ZpP (P g d σ r K x a b m c):Yq P g d (SI.idx x a b m c) σ r K=ZAE g d σ r K (rdG g (St.fr σ) a) (rdG g (St.fr σ) x) b m c:=rfl
theorem Zk4 (P g d σ r K x m a):Yq P g d (SI.ld x m a) σ r K=ldK g d σ r K (rdG g (St.fr σ) x) m a:=rfl
theorem Zjr (P g d σ r K b x y):Yq P g d (SI.div b x y) σ r K=ZAz g d σ r K b (rdG g (St.fr σ) x) (rdG g (St.fr σ) y):=rfl
theorem Zhh (P g d σ r K x):Yq P g d (SI.len x) σ r K=Zw6 g d σ r K (rdG g (St.fr σ) x):=rfl
theorem ZkN (P g d σ r K x):Yq P g d (SI.mv x) σ r K=Yr d (rdG g (St.fr σ) x) g σ r K:=rfl
theorem Zla (P g d σ r K z a):Yq P g d (SI.build z a) σ r K=Wo (pv (rdG g (St.fr σ)) (SI.build z a)) d g σ r K:=rfl
theorem ZiV (P g d σ r K x):Yq P g d (SI.nilc x) σ r K=Wo (Zc4 (rdG g (St.fr σ) x)) d g σ r K:=rfl
theorem Zko (P g d σ r K b x y):Yq P g d (SI.bin b x y) σ r K=Wo (ZwT b (rdG g (St.fr σ) x) (rdG g (St.fr σ) y)) d g σ r K:=rfl
theorem ZiM (P g d σ r K u x):Yq P g d (SI.un u x) σ r K=Wo (uni u (rdG g (St.fr σ) x)) d g σ r K:=rfl
theorem Zlk (P g d σ r K x o):Yq P g d (SI.addo x o) σ r K=Wo (Ub o (rdG g (St.fr σ) x)) d g σ r K:=rfl
theorem Zh8 (P g d σ r K x o m a):Yq P g d (SI.fld x o m a) σ r K=Wo (pv (rdG g (St.fr σ)) (SI.fld x o m a)) d g σ r K:=rfl
theorem Zj3 (P g d σ r K a b):Yq P g d (SI.mm a b) σ r K=Wo (mmS a (Uy (rdG g (St.fr σ)) b)) d g σ r K:=rfl
theorem Zji (P g d σ r K f a):Yq P g d (SI.mkf f a) σ r K=Yr d (SV.cl f (Uy (rdG g (St.fr σ)) a)) g σ r K:=rfl
theorem Zlh (P g d σ r K k x):Yq P g d (SI.conv k x) σ r K=Wo (pv (rdG g (St.fr σ)) (SI.conv k x)) d g σ r K:=rfl
theorem Zkl (P g d σ r K x a):Yq P g d (SI.ext x a) σ r K=Wo (pv (rdG g (St.fr σ)) (SI.ext x a)) d g σ r K:=rfl
theorem ZiC (P g d σ r K x h k):Yq P g d (SI.slc x h k) σ r K=ZAC g (rdG g (St.fr σ) x) (rdG g (St.fr σ) h) (rdG g (St.fr σ) k) d σ r K:=rfl
theorem Zjg (P g d σ r K m x a b):Yq P g d (SI.sub m x a b) σ r K=Zzy g m (rdG g (St.fr σ)) a b (rdG g (St.fr σ) x) d σ r K:=rfl
theorem Ziy (P g d σ r K m b T x y):Yq P g d (SI.cln m b T x y) σ r K=False:=rfl
theorem Zi1 (P g d σ r K m b T x y):Yq P g d (SI.appm m b T x y) σ r K=False:=rfl
theorem Zki (P g d σ r K m x y):Yq P g d (SI.cpy m x y) σ r K=False:=rfl
theorem Zhi (P g d σ r K m b z T x):Yq P g d (SI.mks m b z T x) σ r K=False:=rfl
theorem Zh4 (P g d σ r K x):Yq P g d (SI.isn x) σ r K=False:=rfl
theorem ZkI (P g d σ r K m b T x y):Yq P g d (SI.app m b T x y) σ r K=ZwX g m b (ZiW m (rdG g (St.fr σ) x)) (Zsu m (St.hp σ) (rdG g (St.fr σ) y)) d σ r K:=rfl
theorem ZhJ (P g d σ r K x m T):Yq P g d (SI.box x m T) σ r K=False:=rfl
theorem ZkD (P g d σ r K z T):Yq P g d (SI.alloc z T) σ r K=False:=rfl
theorem Zhz (P g d σ r K x y m):Yq P g d (SI.st x y m) σ r K=False:=rfl
theorem Zj9 (P g d σ r K a b c x y):Yq P g d (SI.eqs a b c x y) σ r K=Wo (eqR a (Zpi c b (rdG g (St.fr σ) x) (rdG g (St.fr σ) y))) d g σ r K:=rfl
theorem Ziv (P g d σ r K a b):Yq P g d (SI.raw a b) σ r K=False:=rfl
theorem Zh9 (P g d σ r K a b):Yq P g d (SI.rv a b) σ r K=False:=rfl
theorem Zlo (P g d σ r K a x b):Yq P g d (SI.rb a x b) σ r K=False:=rfl
theorem ZqQ (x a b c d e):ZAr false true x a b c d e=d { fr:=(x,SV.p (St.n c) 0) :: St.fr c,hp:=(St.n c,HB.cells a b) :: St.hp c,n:=St.n c+1,N:=St.N c,gs:=St.gs c } e:=rfl
theorem Zp1 (T σ r K t a):Zg8 (some t) (some a) T σ r K=ZAr (Xr t (St.gs σ)) (Nat.blt t (St.N σ)) t a T σ r K:=rfl
theorem ZjG (x a b c d e f g i j):Zuw false true x a b c d e f g i j=i { fr:=(x,SV.v (Value.int IntKind.i64 ↑e)) :: St.fr g,hp:=(a,HB.row b c d f) :: St.hp g,n:=St.n g,N:=St.N g,gs:=St.gs g } j:=rfl
theorem Zod (k v m a N T σ r K b):Zxs (some b) k v m a N T σ r K=Zuw (Xr b (St.gs σ)) (Nat.blt b (St.N σ)) b k v m a N T σ r K:=rfl
theorem Zn4 (k v m a N T σ r K):Zxs none k v m a N T σ r K=r { fr:=St.fr σ,hp:=(k,HB.row v m a T) :: St.hp σ,n:=St.n σ,N:=St.N σ,gs:=St.gs σ } K:=rfl
theorem ZmI (d k v m i L a T σ r K c b e):ZrD d k v m i L a T (SV.sl c b e) σ r K=ZdH (Nat.beq m b) (CPY d k v m i L a e T σ r K):=rfl
theorem Znb (d k v m i L a T σ r K):ZrD d k v m i L a T (SV.v (Value.slice none 0 0)) σ r K=CPY d k v m i L a [] T σ r K:=rfl
theorem ZlD (d k v m i L a T σ r K b c):ZrD d k v m i L a T (SV.mr b c) σ r K=ZdH (Vo (Nat.beq k b) (Nat.beq v c)) (CPY d k v m i L a a T σ r K):=rfl
theorem ZpU (d k v m i L a T σ r K b c e f g):ZrD d k v m i L a T (SV.ms b c e f g) σ r K=ZdH (Vo (Vo (Nat.beq k b) (Nat.beq v c)) (Nat.beq m e)) (f+g<=List.length a/\CPY d k v m i L a (List.take g (List.drop f a)) T σ r K):=rfl
theorem Zy6 (n m):lO (some m) n=m:=rfl
theorem ZzJ (n):lO none n=n:=rfl
theorem Zou (d m k v i a s σ r K b c e T):Zwm d m k v i a (HB.row b c e T) s σ r K=ZdH (Vo (Nat.beq m c) (Nat.beq v b)) (ZrD d k v m i (lO a (List.length e)) e T s σ r K):=rfl
theorem Zqa (d m a σ r K k v):Zw3 d m (SV.mr k v) a σ r K=Zwm d m k v 0 none (lkh k (St.hp σ)) a σ r K:=rfl
theorem Zpy (d m a σ r K k v b i l):Zw3 d m (SV.ms k v b i l) a σ r K=ZdH (Nat.beq m b) (Zwm d m k v i (some l) (lkh k (St.hp σ)) a σ r K):=rfl
theorem ZmD (g k v m a d σ r K i j):Zxg g k v m a (some i) (some j) d σ r K=SBM g i j k v m a d σ r K:=rfl
theorem Znj (g k v m a d σ r K b):Zxg g k v m a (some b) none d σ r K=False:=rfl
theorem Zq2 (g k v m a b d σ r K):Zxg g k v m a none b d σ r K=False:=rfl
theorem ZlB (p):ZdH true p=p:=rfl
theorem Zqz (p):ZdH false p=False:=rfl
theorem ZoT (g m ρ a b k v d σ r K c e f T):ZAi g m ρ a b k v (HB.row c e f T) d σ r K=ZdH (Vo (Nat.beq m e) (Nat.beq v c)) (Zxg g k v m f (Zbr 0 ρ a) (Zbr (↑(List.length f)) ρ b) d σ r K):=rfl
theorem ZnT (g m ρ a b d σ r K c e f):Zzy g m ρ a b (SV.sl c e f) d σ r K=bif Nat.beq m e then ZwY g m f (Zbr 0 ρ a) (Zbr (↑(List.length f)) ρ b) d σ r K else False:=rfl
theorem ZnR (g m ρ a b d σ r K k v):Zzy g m ρ a b (SV.mr k v) d σ r K=ZAi g m ρ a b k v (lkh k (St.hp σ)) d σ r K:=rfl
theorem Zql (x a b c d e f g i):verB false true x a b c d e f g i=g { fr:=(x,SV.mr a b) :: St.fr f,hp:=(a,HB.row b c d e) :: St.hp f,n:=St.n f,N:=St.N f,gs:=St.gs f } i:=rfl
theorem ZqE (k v m a T σ r K b):ZyS (some b) k v m a T σ r K=verB (Xr b (St.gs σ)) (Nat.blt b (St.N σ)) b k v m a T σ r K:=rfl
theorem ZpX (k v m a T σ r K):ZyS none k v m a T σ r K=False:=rfl
theorem Zqt (b d k v m a c T σ r K):ZxT true b d k v m a c T σ r K=APM b d k v m a c T σ r K:=rfl
theorem Zn9 (b d k v m a c T σ r K):ZxT false b d k v m a c T σ r K=False:=rfl
theorem ZqK (b d k v m a T σ r K c e f g):ZAA b d k v m (HB.row c e f g) a T σ r K=ZxT (Vo (Nat.beq m e) (Vo (Nat.beq v c) (Nat.beq T g))) b d k v m f a T σ r K:=rfl
theorem ZlZ (b d m a T σ r K k v):ZAv b d m (SV.mr k v) a T σ r K=ZAA b d k v m (lkh k (St.hp σ)) a T σ r K:=rfl
theorem ZnS (b d m s T σ r K a):ZwW b d m s (some a) T σ r K=ZAv b d m s a T σ r K:=rfl
theorem ZlM (b d m s T σ r K):ZwW b d m s none T σ r K=False:=rfl
theorem Zpz (x a b c d e f g):Zxe true x a b c d e f g=f { fr:=St.fr e,hp:=(x,HB.cells (Zw b a d) c) :: St.hp e,n:=St.n e,N:=St.N e,gs:=St.gs e } g:=rfl
theorem Zqe (x a b c d e f g):Zxe false x a b c d e f g=False:=rfl
theorem ZtY (k o m c σ r K l T):stC k o m (HB.cells l T) c σ r K=Zxe (Nat.ble (o+m) (List.length l)) k o l T c σ r K:=rfl
theorem Zo6 (x a b c d e f g i j k):Zxf true x a b c d e f g i j k=STR x a b c d e f g i j k:=rfl
theorem ZlS (x a b c d e f g i j k):Zxf false x a b c d e f g i j k=False:=rfl
theorem Zt4 (k v a j o c σ r K b m d T):stR k v a j o (HB.row b m d T) c σ r K=Zxf (Vo (Nat.beq a m) (Nat.beq v b)) b d j o k a c T σ r K:=rfl
theorem ZvL (k v a j o c σ r K b m d T e f g i):stR k v a j o (HB.rws b m d T e f g i) c σ r K=STW b m d T e f g i v a j o k c σ r K:=rfl
theorem ZwA (m c σ r K k o):stX (SV.p k o) m c σ r K=stC k o m (lkh k (St.hp σ)) c σ r K:=rfl
theorem Zv8 (m c σ r K k v a j o):stX (SV.pr k v a j o) m c σ r K=stR k v a j o (lkh k (St.hp σ)) c σ r K:=rfl
theorem ZgU (x a b c d e):ZcF true true x a b c d e=stX x a b c d e:=rfl
theorem ZgX (m x σ r K a):Zde none (some a) m x σ r K=ZcF (chk a m) (Z9 a) x m a σ r K:=rfl
theorem ZuP (P Y d σ r K x y m):stp P Y d (SI.st x y m) σ r K=Zde d (Yv (rdG none (St.fr σ) y)) m (rdG none (St.fr σ) x) σ r K:=rfl
theorem Zwt (P Y d σ r K x m T):stp P Y d (SI.box x m T) σ r K=Zg8 d (Yv (rdG none (St.fr σ) x)) T σ r K:=rfl
theorem Zv5 (P Y d σ r K z T):stp P Y d (SI.alloc z T) σ r K=Zg8 d (some (lit z)) T σ r K:=rfl
theorem ZvC (P Y d σ r K m b T x y):stp P Y d (SI.cln m b T x y) σ r K=Zre b d m (ZiW m (rdG none (St.fr σ) x)) (ZeU m (rdG none (St.fr σ) y)) T σ r K:=rfl
theorem Zu8 (P Y d σ r K m b z T x):stp P Y d (SI.mks m b z T x) σ r K=Zyx b d m z (rdG none (St.fr σ) x) T σ r K:=rfl
theorem Ztx (P Y d σ r K m x y):stp P Y d (SI.cpy m x y) σ r K=Zw3 d m (rdG none (St.fr σ) x) (rdG none (St.fr σ) y) σ r K:=rfl
theorem Ztp (P Y d σ r K m b T x y):stp P Y d (SI.appm m b T x y) σ r K=ZwW b d m (rdG none (St.fr σ) x) (ZeU m (rdG none (St.fr σ) y)) T σ r K:=rfl
theorem Zvb (P Y d σ r K f a):stp P Y d (SI.callm f a) σ r K=Zco P f (Uy (rdG none (St.fr σ)) a) d σ r K:=rfl
theorem ZwN (P Y d σ r K x a):stp P Y d (SI.calvm x a) σ r K=ZgD P Y (rdG none (St.fr σ) x) (Uy (rdG none (St.fr σ)) a) d σ r K:=rfl
theorem ZmP (P Y d σ r K x):stp P Y d (SI.isn x) σ r K=ZAB d (rdG none (St.fr σ) x) σ r K:=rfl
theorem ZqH (P Y d σ r K a b):stp P Y d (SI.raw a b) σ r K=RAW P d a b σ r K:=rfl
theorem Zpt (P Y d σ r K a b):stp P Y d (SI.rv a b) σ r K = ∃ s,RBE P a b σ s/\Yr d s none σ r K:=rfl
theorem Zqw (P Y d σ r K a x b):stp P Y d (SI.rb a x b) σ r K = ∃ k h1 s,rdG none (St.fr σ) x=SV.mp k/\WK (lkh k (St.hp σ)) h1/\RBB P a (x :: b) k (lkh k (St.hp σ)) h1 σ s/\Yr d s none { fr:=St.fr σ,hp:=(k,h1) :: St.hp σ,n:=St.n σ,N:=St.N σ,gs:=St.gs σ } r K:=rfl
theorem Zj2 (d σ r K):ZuJ d σ r K=Yr d (SV.v undef) none σ r K:=rfl
theorem ZAc (P Y j w d i σ r K b):gK P Y (SV.v (Value.bool b)) j w d i σ r K=GB P Y b j w d i σ r K:=rfl
theorem ZxK (P Y j w d i σ r K a c b):gK P Y (SV.gd a c (SV.v (Value.bool b))) j w d i σ r K=Yq P (some (j,w)) d i σ r K:=rfl
theorem Zv4 (P Y σ r K d i af):st1 P Y { d:=d,i:=i,g:=none,af:=af } σ r K=stp P Y d i σ r K:=rfl
theorem Ztq (P Y σ r K d i j w af):st1 P Y { d:=d,i:=i,g:=some (j,w),af:=af } σ r K=gK P Y (lk j (St.fr σ)) j w d i σ r K:=rfl
theorem ZnV (f g σ K b):ZAj (SV.v (Value.bool b)) f g σ K=BR b f g σ K:=rfl
theorem ZqC (k x y):Zt8 BinOp.quo k x y=IntKind.wrap k (Int.tdiv x y):=rfl
theorem ZwJ (a N):st0 a N={ fr:=Y3 0 a,hp:=[],n:=0,N:=N,gs:=[] }:=rfl
theorem Znc (ρ):Uy ρ []=[]:=rfl
theorem ZlE (ρ a r):Uy ρ (a :: r) = ρ a :: Uy ρ r:=rfl
theorem Zqn (g):Zbi g []=[]:=rfl
theorem Zmd (g s l):Zbi g (s :: l)=g s :: Zbi g l:=rfl
theorem ZlF (ρ m):Zfe ρ m []=some []:=rfl
theorem Zpc (ρ m a r):Zfe ρ m (a :: r)=ZwQ (Yv (ρ a)) m (Zfe ρ m r):=rfl
theorem Zpn (hp):Zht hp []=[]:=rfl
theorem ZnA (hp s l):Zht hp (s :: l)=cvt hp s :: Zht hp l:=rfl
theorem Zvo: lit []=[]:=rfl
theorem Zui (a r):lit (a :: r)=SV.v a :: lit r:=rfl
theorem Zt0: chk [] 0=true:=rfl
theorem Zwj (a l n):chk (a :: l) (Nat.succ n)=chk l n:=rfl
theorem Zul (x):nth [] x=none:=rfl
theorem Zwy (s a):nth (s :: a) 0=some s:=rfl
theorem ZuU (a l n):nth (a :: l) (Nat.succ n)=nth l n:=rfl
theorem ZgM (a l c b):Zw (a :: l) 0 (c :: b)=c :: Zw l 0 b:=rfl
theorem Zgz (x a l o):Zw (a :: l) (Nat.succ o) x=a :: Zw l o x:=rfl
theorem ZlI (o l t):ZwR o l t true=some ((o,l) :: t):=rfl
theorem ZoU (o l t):ZwR o l t false=none:=rfl
theorem Zmv (o m l t):Zxk o m (some l) (some t)=ZwR o l t (chk l m):=rfl
theorem ZoF (ρ):Zpf ρ []=some []:=rfl
theorem ZqB (ρ o m a r):Zpf ρ ((o,m,a) :: r)=Zxk o m (Yv (ρ a)) (Zpf ρ r):=rfl
theorem Ztf (x):spl x []=x:=rfl
theorem ZvE (x o l r):spl x ((o,l) :: r)=spl (Zw x o l) r:=rfl
theorem ZqG (z t):ZlA z (some t)=some (spl z t):=rfl
theorem ZnK (z):ZlA z none=none:=rfl
theorem Znt (x):Y3 x []=[]:=rfl
theorem Zpu (x s l):Y3 x (s :: l)=(x,s) :: Y3 (x+1) l:=rfl
theorem Zu7 (j w s):gdS (SV.gd j w s)=true:=rfl
theorem Zsy (a):gdS (SV.v a)=false:=rfl
theorem Zsb (k o):gdS (SV.p k o)=false:=rfl
theorem Zwd (l):gdS (SV.agg l)=false:=rfl
theorem Zua (c m a):gdS (SV.sl c m a)=false:=rfl
theorem Ztg (k v):gdS (SV.mr k v)=false:=rfl
theorem ZsT (k v m i o):gdS (SV.pr k v m i o)=false:=rfl
theorem Zss (k v m i l):gdS (SV.ms k v m i l)=false:=rfl
theorem Zsw (a o):gdS (SV.ps a o)=false:=rfl
theorem Zow (f a):gdS (SV.cl f a)=false:=rfl
theorem Zm2 (l):gdS (SV.tup l)=false:=rfl
theorem Zn6 (φ):gdS (SV.q φ)=false:=rfl
theorem Zmo (k):gdS (SV.mp k)=false:=rfl
theorem Zp7 (k):gdS (SV.yl k)=false:=rfl
theorem ZoJ (T s):gdS (SV.ifc T s)=false:=rfl
theorem Zm7: gdS SV.any=false:=rfl
theorem ZwC (ρ k o):rnS ρ (SV.p k o)=SV.p (ρ k) o:=rfl
theorem ZvV (ρ k v):rnS ρ (SV.mr k v)=SV.mr (ρ k) v:=rfl
theorem Ztv (ρ k v m i o):rnS ρ (SV.pr k v m i o)=SV.pr (ρ k) v m i o:=rfl
theorem Zsd (ρ k v m i o):rnS ρ (SV.ms k v m i o)=SV.ms (ρ k) v m i o:=rfl
theorem Zt5 (ρ k):rnS ρ (SV.mp k)=SV.mp (ρ k):=rfl
theorem ZsY (ρ k):rnS ρ (SV.yl k)=SV.yl (ρ k):=rfl
theorem Zts (ρ l):rnS ρ (SV.agg l)=SV.agg (rnL ρ l):=rfl
theorem Zwo (ρ l):rnS ρ (SV.tup l)=SV.tup (rnL ρ l):=rfl
theorem ZtA (ρ f l):rnS ρ (SV.cl f l)=SV.cl f (rnL ρ l):=rfl
theorem ZpH (ρ T s):rnS ρ (SV.ifc T s)=SV.ifc T (rnS ρ s):=rfl
theorem ZoA (ρ a):rnS ρ (SV.v a)=SV.v a:=rfl
theorem Zn2 (ρ c m a):rnS ρ (SV.sl c m a)=SV.sl c m a:=rfl
theorem Zoz (ρ l o):rnS ρ (SV.ps l o)=SV.ps l o:=rfl
theorem Zps (ρ φ):rnS ρ (SV.q φ)=SV.q φ:=rfl
theorem ZmZ (ρ j w s):rnS ρ (SV.gd j w s)=SV.gd j w s:=rfl
theorem Zoh (ρ):rnS ρ SV.any=SV.any:=rfl
theorem ZvU (ρ):rnL ρ []=[]:=rfl
theorem Zuv (ρ s l):rnL ρ (s :: l)=rnS ρ s :: rnL ρ l:=rfl
theorem ZsX (ρ l T):rnH ρ (HB.cells l T)=HB.cells (rnL ρ l) T:=rfl
theorem Zr0 (ρ v m a T):rnH ρ (HB.row v m a T)=HB.row v m a T:=rfl
theorem ZrV (ρ φ):rnH ρ (HB.ob φ)=HB.ob φ:=rfl
theorem Zwv (ρ a c):rnH ρ (HB.map a c)=HB.map a c:=rfl
theorem ZtD (ρ a b c d):rnH ρ (HB.it a b c d)=HB.it (ρ a) b c d:=rfl
theorem Zwi (ρ a b):rnH ρ (HB.lp a b)=HB.lp a b:=rfl
theorem ZuF (ρ a):rnH ρ (HB.lb a)=HB.lb a:=rfl
theorem ZvZ (ρ v m a T o b c d):rnH ρ (HB.rws v m a T o b c d)=HB.rws v m a T o b c d:=rfl
theorem Zsa (ρ):rnH ρ HB.gone=HB.gone:=rfl
theorem Ztm (ρ):rnP ρ []=[]:=rfl
theorem ZvO (ρ u s r):rnP ρ ((u,s) :: r)=(ρ u,rnH ρ s) :: rnP ρ r:=rfl
theorem ZhE (ρ):ZaT ρ 0=[]:=rfl
theorem Zjc (ρ j):ZaT ρ (Nat.succ j)=(ρ j,HB.gone) :: ZaT ρ j:=rfl
theorem Ztz (b x y):exB b x y=bif b then x else y:=rfl
theorem Zur (a hp n d σ r K):cmK false a hp n d σ r K=Yr d a none { fr:=St.fr σ,hp:=hp,n:=n,N:=St.N σ,gs:=St.gs σ } r K:=rfl
theorem Zue (a hp n d σ r K):cmK true a hp n d σ r K=K (Ex.pan a) { fr:=St.fr σ,hp:=hp,n:=n,N:=St.N σ,gs:=St.gs σ }:=rfl
theorem Zkh (P Y a d σ r K f b):ZgD P Y (SV.cl f b) a d σ r K=Zco P f (a ++ b) d σ r K:=rfl
theorem ZhB (P Y a d σ r K k):ZgD P Y (SV.yl k) a d σ r K=YLD Y k a d σ r K:=rfl
theorem Zv9 (p T a s):mtI p T (SV.ifc a s)=(a=T/\p s):=rfl
theorem ZtQ (p l):mtO p (some l)=p l:=rfl
theorem ZtZ (p):mtO p none=False:=rfl
theorem ZuE (σ K hp n a):itE σ K hp n (HB.lp a none)=K Ex.n { fr:=St.fr σ,hp:=(St.n σ,HB.gone) :: hp,n:=n,N:=St.N σ,gs:=[] }:=rfl
theorem ZvH (σ K hp n a i):itE σ K hp n (HB.lp a (some (Ex.ex i)))=K (Ex.ex i) { fr:=St.fr σ,hp:=(St.n σ,HB.gone) :: hp,n:=n,N:=St.N σ,gs:=[] }:=rfl
theorem ZwL (σ K hp n a):itE σ K hp n (HB.lp a (some Ex.ret))=K Ex.ret { fr:=St.fr σ,hp:=(St.n σ,HB.gone) :: hp,n:=n,N:=St.N σ,gs:=[] }:=rfl
theorem Zvl (σ K o):itP σ K o=match Ot.pn o with | false=>itE σ K (Ot.hp o) (Ot.n o) (lkh (St.n σ) (Ot.hp o)) | true=>K (Ex.pan (Ot.res o)) { fr:=St.fr σ,hp:=Ot.hp o,n:=Ot.n o,N:=St.N σ,gs:=[] }:=rfl
theorem Zng (a r):Zrd a (HB.lp r none)=(r=a):=rfl
theorem ZmN (a r):Zlu a (HB.lb r)=(r=a):=rfl
theorem Zvg (p a s l):pmS (p :: a) (s :: l)=(p,s) :: pmS a l:=rfl
theorem ZlK: Zlv [] []=true:=rfl
theorem Zqr (a l b m):Zlv (a :: l) (b :: m)=Zlv l m:=rfl
theorem Zir (N):Ut N []=true:=rfl
theorem Zit (N j r):Ut N (j :: r)=bif Nat.blt j N then Ut N r else false:=rfl
theorem ZvY (p):rfB true p=p:=rfl
theorem Zup (p):rfB false p=False:=rfl
theorem ZuI (P a b c σ K f d):rfK P a b (SV.cl f d) c σ K=gs0 (St.gs σ) (rfB (Ut (St.N σ) c) (RFUN P a b f d c σ K)):=rfl
theorem ZlL (a hp n s):ZrK a hp n (some s)=a { pn:=false,res:=s,hp:=hp,n:=n }:=rfl
theorem ZmT (a hp n):ZrK a hp n none=False:=rfl
theorem Zqb (x s):Zw5 (some s) x=rvD s x:=rfl
theorem Zm4 (x):Zw5 none x=none:=rfl
theorem ZqN (σ):ZdJ σ []=some []:=rfl
theorem Zoj (σ r a):ZdJ σ (r :: a)=Zw5 (rv1 σ r) (ZdJ σ a):=rfl
theorem ZmC (a b x):Wt a b Ex.n x=ZrK b (St.hp x) (St.n x) (rvE (ZdJ x a)):=rfl
theorem ZmA (a b x):Wt a b Ex.ret x=ZrK b (St.hp x) (St.n x) (rvE (ZdJ x a)):=rfl
theorem Zoc (a b x s):Wt a b (Ex.pan s) x=b { pn:=true,res:=s,hp:=St.hp x,n:=St.n x }:=rfl
theorem Zq4 (a b x c):Wt a b (Ex.ex c) x=False:=rfl
theorem ZtM (a b Φ x):bdE a b Φ Ex.n x=(Zlu b (lkh a (St.hp x))/\Φ { pn:=false,res:=SV.v (Value.bool true),hp:=(a,HB.lp b none) :: St.hp x,n:=St.n x }):=rfl
theorem ZuG (a b Φ x i):bdE a b Φ (Ex.ex i) x=(Zlu b (lkh a (St.hp x))/\Φ { pn:=false,res:=SV.v (Value.bool false),hp:=(a,HB.lp b (some (Ex.ex i))) :: St.hp x,n:=St.n x }):=rfl
theorem ZsQ (a b Φ x):bdE a b Φ Ex.ret x=(Zlu b (lkh a (St.hp x))/\Φ { pn:=false,res:=SV.v (Value.bool false),hp:=(a,HB.lp b (some Ex.ret)) :: St.hp x,n:=St.n x }):=rfl
theorem ZsR (a b Φ x s):bdE a b Φ (Ex.pan s) x = Φ { pn:=true,res:=s,hp:=St.hp x,n:=St.n x }:=rfl
theorem Zvy (a b c K x):asE a b c K Ex.n x=(Zrd b (lkh a (St.hp x))/\c { fr:=St.fr x,hp:=(a,HB.lb b) :: St.hp x,n:=St.n x,N:=St.N x,gs:=St.gs x } K):=rfl
theorem ZwO (a b c K x i):asE a b c K (Ex.ex i) x=False:=rfl
theorem Zvj (a b c K x):asE a b c K Ex.ret x=False:=rfl
theorem ZuM (a b c K x s):asE a b c K (Ex.pan s) x=False:=rfl
theorem Zu4 (x):rho [] x=0:=rfl
theorem Zs4 (a b):rho (a :: b) 0=a:=rfl
theorem Zuk (a l k):rho (a :: l) (Nat.succ k)=rho l k:=rfl
theorem Zvh (ρ a x):mtS ρ a SV.any x=True:=rfl
theorem Zs9 (ρ a x k o):mtS ρ a (SV.p k o) x=(k < a/\x=SV.p (ρ k) o):=rfl
theorem Zvk (ρ a x k v):mtS ρ a (SV.mr k v) x=(k < a/\x=SV.mr (ρ k) v):=rfl
theorem Zwa (ρ a x k v m i o):mtS ρ a (SV.pr k v m i o) x=(k < a/\x=SV.pr (ρ k) v m i o):=rfl
theorem Zwk (ρ a x k v m i o):mtS ρ a (SV.ms k v m i o) x=(k < a/\x=SV.ms (ρ k) v m i o):=rfl
theorem Zs8 (ρ a x l):mtS ρ a (SV.agg l) x=mtO (mtL ρ a l) (Zw4 x):=rfl
theorem Zvw (ρ a x l):mtS ρ a (SV.tup l) x=mtO (mtL ρ a l) (ZwU x):=rfl
theorem Zuu (ρ a x f l):mtS ρ a (SV.cl f l) x=mtO (mtL ρ a l) (clL f x):=rfl
theorem Zti (ρ a x b):mtS ρ a (SV.v b) x=(x=SV.v b):=rfl
theorem Zm9 (ρ a x c m b):mtS ρ a (SV.sl c m b) x=(x=SV.sl c m b/\KFR b):=rfl
theorem ZqW (ρ a x l o):mtS ρ a (SV.ps l o) x=(x=SV.ps l o/\KFL l):=rfl
theorem Zqm (ρ a x k):mtS ρ a (SV.mp k) x=(k < a/\x=SV.mp (ρ k)):=rfl
theorem Zok (ρ a x k):mtS ρ a (SV.yl k) x=(k < a/\x=SV.yl (ρ k)):=rfl
theorem ZoE (ρ a x T t):mtS ρ a (SV.ifc T t) x=mtI (mtS ρ a t) T x:=rfl
theorem Zpk (ρ a x φ):mtS ρ a (SV.q φ) x=(x=SV.q φ):=rfl
theorem Zqs (ρ a x j w s):mtS ρ a (SV.gd j w s) x=False:=rfl
theorem Zt7 (ρ a x):mtL ρ a [] x=(x=[]):=rfl
theorem ZsU (ρ a x s l):mtL ρ a (s :: l) x=mtB (mtS ρ a s) (mtL ρ a l) x:=rfl
theorem Zr7 (ρ a x):mtH ρ a HB.gone x=True:=rfl
theorem Zug (ρ a l T b c):mtH ρ a (HB.cells l T) (HB.cells b c)=(c=T/\mtL ρ a l b):=rfl
theorem Zum (ρ a x v m b T):mtH ρ a (HB.row v m b T) x=(x=HB.row v m b T/\KFR b):=rfl
theorem ZuV (ρ a x φ):mtH ρ a (HB.ob φ) x=(x=HB.ob φ):=rfl
theorem ZsM (ρ a x b c):mtH ρ a (HB.map b c) x=(x=HB.map b c/\∀ (e:Nat × Value × SV),e ∈ b->KF (Prod.snd (Prod.snd e))):=rfl
theorem ZrT (ρ d x e a b c):mtH ρ d (HB.it e a b c) x=(e < d/\x=HB.it (ρ e) a b c):=rfl
theorem Ztj (ρ a x r b):mtH ρ a (HB.lp r b) x=(x=HB.lp r b):=rfl
theorem ZsI (ρ a x r):mtH ρ a (HB.lb r) x=(x=HB.lb r):=rfl
theorem ZtJ (ρ a x v m b T o c d e):mtH ρ a (HB.rws v m b T o c d e) x=(x=HB.rws v m b T o c d e/\KFR b/\∀ (r:List (List SV)),r ∈ d->KFR r):=rfl
theorem Znl (ρ a l T v m b c):mtH ρ a (HB.cells l T) (HB.row v m b c)=False:=rfl
theorem Zon (ρ a l T φ):mtH ρ a (HB.cells l T) (HB.ob φ)=False:=rfl
theorem Zp3 (ρ a l T b c):mtH ρ a (HB.cells l T) (HB.map b c)=False:=rfl
theorem Zqp (ρ a l T b c d e):mtH ρ a (HB.cells l T) (HB.it b c d e)=False:=rfl
theorem ZmH (ρ a l T b c):mtH ρ a (HB.cells l T) (HB.lp b c)=False:=rfl
theorem Zpw (ρ a l T b):mtH ρ a (HB.cells l T) (HB.lb b)=False:=rfl
theorem ZmX (ρ a l T v m b c o d e f):mtH ρ a (HB.cells l T) (HB.rws v m b c o d e f)=False:=rfl
theorem Zpg (ρ a l T):mtH ρ a (HB.cells l T) HB.gone=False:=rfl
theorem Zvr (p):mtM true p=True:=rfl
theorem ZtB (p):mtM false p=p:=rfl
theorem Zv2 (ρ a x b):mtF ρ a x [] b=True:=rfl
theorem Zs5 (ρ a x b t s r):mtF ρ a x ((t,s) :: r) b=(mtM (Xr t x) (mtS ρ a s (lk t b))/\mtF ρ a (t :: x) r b):=rfl
theorem Zso (ρ a hp b):mtP ρ a hp b 0=True:=rfl
theorem Zs0 (ρ a hp b j):mtP ρ a hp b (Nat.succ j)=(mtH ρ b (lkh j a) (lkh (ρ j) hp)/\mtP ρ a hp b j):=rfl
theorem Zwf (a):hpb a []=True:=rfl
theorem ZsA (a u s r):hpb a ((u,s) :: r)=(u < a/\hpb a r):=rfl
theorem Zs7 (a b):eqC 0 (SV.v (Value.bool a)) (SV.v (Value.bool b))=some (a == b):=rfl
theorem ZsZ (k a j b):eqC 1 (SV.v (Value.int k a)) (SV.v (Value.int j b))=bif Zcp k j then some (a == b) else none:=rfl
theorem Zww (a b):eqC 2 (SV.v (Value.string a)) (SV.v (Value.string b))=some (ByteArray.toList a == ByteArray.toList b):=rfl
theorem Zuq (a b):eqA (some a) (some b)=some (a && b):=rfl
theorem Zpp: Zgh [] [] []=some true:=rfl
theorem Zq0 (c a b d y e):Zgh (c :: a) (b :: d) (y :: e)=eqA (eqC c b y) (Zgh a d e):=rfl
theorem Znq (c a b):Zpi c true (SV.agg a) (SV.agg b)=Zgh c a b:=rfl
theorem Zqk (c a b):Zpi c false (SV.v (Value.bool a)) (SV.v (Value.bool b))=some (a == b):=rfl
theorem Ztd (a b):eqR a (some b)=some (SV.v (Value.bool (ngB a b))):=rfl
theorem Zsl (a):eqR a none=none:=rfl
theorem Zto (x):ngB true x = !x:=rfl
theorem Zsp (x):ngB false x=x:=rfl
theorem ZmF (m hp c a b):Zsu m hp (SV.sl c a b)=Zgn b (Nat.beq m a):=rfl
theorem Zph (m hp):Zsu m hp (SV.v (Value.slice none 0 0))=some []:=rfl
theorem ZmB (m hp k v):Zsu m hp (SV.mr k v)=Zhf m v (lkh k hp):=rfl
theorem Zpl (m a b):ZiW m (SV.sl true a b)=Zgn b (Nat.beq m a):=rfl
theorem ZqL (m):ZiW m (SV.v (Value.slice none 0 0))=some []:=rfl
theorem Zo5 (g m b d σ r K a c):ZwX g m b (some a) (some c) d σ r K=APP g m b a c d σ r K:=rfl
theorem Zmw (g m b d σ r K a):ZwX g m b (some a) none d σ r K=False:=rfl
theorem ZmW (g m b y d σ r K):ZwX g m b none y d σ r K=False:=rfl
theorem Zqi (l):Zw4 (SV.agg l)=some l:=rfl
theorem ZpW (l):ZwU (SV.tup l)=some l:=rfl
theorem Zr5 (f a b):clL f (SV.cl a b)=bif Nat.beq a f then some b else none:=rfl
theorem Zve (p q):mtB p q []=False:=rfl
theorem ZsG (p q s l):mtB p q (s :: l)=(p s/\q l):=rfl
theorem ZkS (x a b c d e f):ZpN false true x a b c d e f=e { fr:=(x,SV.mr (St.n d) 0) :: St.fr d,hp:=(St.n d,HB.row 0 a b c) :: St.hp d,n:=St.n d+1,N:=St.N d,gs:=St.gs d } f:=rfl
theorem Zqc (m a T σ r K b):ZlX (some b) m a T σ r K=ZpN (Xr b (St.gs σ)) (Nat.blt b (St.N σ)) b m a T σ r K:=rfl
theorem ZoW (m a T σ r K):ZlX none m a T σ r K=False:=rfl
theorem Zor (b d m T σ r K a):Zre b d m (some []) (some a) T σ r K=CLN b d m a T σ r K:=rfl
theorem ZpK (b d m y T σ r K a c):Zre b d m (some (a :: c)) y T σ r K=False:=rfl
theorem Zog (b d m T σ r K):Zre b d m (some []) none T σ r K=False:=rfl
theorem ZmO (b d m y T σ r K):Zre b d m none y T σ r K=False:=rfl
theorem ZlP (b d m z T σ r K k n):Zyx b d m z (SV.v (Value.int k n)) T σ r K=MKS b d m (lit z) n T σ r K:=rfl
theorem Zqj (d σ r K c m a):ZAB d (SV.sl c m a) σ r K=ISN d a σ r K:=rfl
theorem Zl3 (g d σ r K c m a b n e j):ZAC g (SV.sl c m a) (SV.v (Value.int b n)) (SV.v (Value.int e j)) d σ r K=SLC g n j m a d σ r K:=rfl
theorem Zp6 (g m a d σ r K i j):ZwY g m a (some i) (some j) d σ r K=SUB g i j m a d σ r K:=rfl
theorem ZqT (g m a d σ r K b):ZwY g m a (some b) none d σ r K=False:=rfl
theorem Znw (g m a b d σ r K):ZwY g m a none b d σ r K=False:=rfl
theorem ZoS (a ρ):Zbr a ρ none=some a:=rfl
theorem Zop (a ρ b):Zbr a ρ (some b)=match ρ b with | SV.v (Value.int k n)=>some n | x=>none:=rfl
theorem ZmJ (m c a b):ZeU m (SV.sl c a b)=Zgn b (Nat.beq m a):=rfl
theorem ZqJ (m):ZeU m (SV.v (Value.slice none 0 0))=some []:=rfl
theorem ZoD (x h j w):Zxa false (.v x) h j w=false:=rfl
theorem Zgo (x l):Zw (x :: l) 0 []=x :: l:=rfl
theorem Zg1:Zw [] 0 []=[]:=rfl
attribute [go_sem] ZpZ Zpj ZnF ZmQ w64_0 w64_1 w64_2 w64_3 w64_4 w64_5 w64_6 e_stO ZxF ZsL ZqX Zs6 Zyk ZqF Zl7 Zub Zot ZpR ZoL ZzR ZtF ZyX ZtX Zu3 phx_1 phx_2 phK_n Zwr ZzT Zud Zzb ZpE Zu5 ZtI Zte Zl0 sx_gh ZlG ZtV Zz6 Zt9 Zny Zxz ZoR Zx3 Zl8 Zzk Zse ZlQ lkB_t lkB_f Zx9 Zyz Zr9 Zt6 ZxH Zyc ZnX ZrW ZuK ZxO ZxS ZyJ e_lk e_lk0 e_lkh Zzc Zzt Zwx e_blk ZhI Zp0 Zus Zu9 Ztb ZiP ZnP Zjj ZoM Ztt Zu0 Zvq ZkR Zo8 Zee ZfQ Zis Zkm Zje Zd3 ZfI Zgm ZjW Zpe Zpx Zn7 ZgQ ZkG ZvS ZfS ZiF Zob ZlU ZnC ZfT Zkr Zgu Zgx ZiQ ZhN Zm8 Zp4 Zm5 Zn0 ZlJ ZpV ZfK Zf1 Zj6 Zho ZgW ZjY ZpC ZnU ZmS ZfE Zip Zgs Zle Zl9 Zmm ZnD Zgl ZiH Zeq ZfG Zi6 Zjx Zk1 Zge ZjU ZpF Zvp Zv1 Zux Zic Zn1 Zgy ZjZ ZmV Zpa ZpT ZgR Zkg Zgp ZiZ ZgN Zjz Zeo Zgv Zjo Zh0 Zkn Zef ZfH Zd4 Zeh e_yld e_exR e_hpM ZjH Zea ZgE ZhZ Zih Zkp Zf3 ZjS Zvu Zek ZfD ZdT Zg6 Zce Zbl Zdn Zbo ZaK e_rdG ZxN ZzO Zyt e_alw Zy8 e_vw1 e_vw2 e_vw3 e_vw4 Znv Zmq ZxX ZhV Zkb Zgg Zgk ZfO Zgj ZfW ZgS ZgA Zg5 Zf4 Zio Zg2 ZgZ Zfz ZjT Zgf Zf2 ZfL Zom ZnB Zhw ZhK ZjX ZhT ZqV Zm1 Zyu Zsq ZsP e_mm e_bld ZgC Zzr Zox Zj1 ZpA Znp Zmg Zk0 Zie e_rvR ZyT ZtE ZtC Zms Zg3 ZdQ Zkx ZlN ZfA Zhk Zkd Zpd Zgc Zk7 ZiI Zig Zkj ZiB Zo2 Zgr ZfU Zjm ZfF Zkz e_rvs ZpJ ZhO ZnE ZuH Zzj Zj5 Zk9 Zi5 ZkL ZpS Zl6 ZtW ZtT Zs1 Zsm ZsH Zv6 Zuj Zo9 ZnI Zmb Znd ZlH Zoq Zl4 Zmi ZnJ ZoY ZoN ZmR Zr2 Zt2 ZsE Zsx ZrY ZrX Ztr Zr8 ZtO Zvd Zr1 ZuX Zva Zl5 ZpQ Zo0 ZoV Zqu ZqD Zoo ZnG ZiL ZiO ZmK Zo7 ZiY ZjQ ZsO Ztw ZhS Ziu Zhu ZkM Zmk Zmf Zh6 Zpr Znn Zq1 ZoH Zn5 ZoI ZlY Znz Zoa Zmj ZvJ ZsW ZuT Zvx Zvv Zsr ZvN Zwh Zo1 ZpI ZoK ZqI Zp5 ZpG Zoi ZlO Zl2 Zqq Zns Zne Zqo ZqO Zml Zqy ZoO Zpb ZpP Zk4 Zjr Zhh ZkN Zla ZiV Zko ZiM Zlk Zh8 Zj3 Zji Zlh Zkl ZiC Zjg Ziy Zi1 Zki Zhi Zh4 ZkI ZhJ ZkD Zhz Zj9 Ziv Zh9 Zlo ZqQ Zp1 ZjG Zod Zn4 ZmI Znb ZlD ZpU Zy6 ZzJ Zou Zqa Zpy ZmD Znj Zq2 ZlB Zqz ZoT ZnT ZnR Zql ZqE ZpX Zqt Zn9 ZqK ZlZ ZnS ZlM Zpz Zqe ZtY Zo6 ZlS Zt4 ZvL ZwA Zv8 ZgU ZgX ZuP Zwt Zv5 ZvC Zu8 Ztx Ztp Zvb ZwN ZmP ZqH Zpt Zqw Zj2 ZAc ZxK Zv4 Ztq ZnV ZqC ZwJ Znc ZlE Zqn Zmd ZlF Zpc Zpn ZnA Zvo Zui Zt0 Zwj Zul Zwy ZuU ZgM Zgz ZlI ZoU Zmv ZoF ZqB Ztf ZvE ZqG ZnK Znt Zpu Zu7 Zsy Zsb Zwd Zua Ztg ZsT Zss Zsw Zow Zm2 Zn6 Zmo Zp7 ZoJ Zm7 ZwC ZvV Ztv Zsd Zt5 ZsY Zts Zwo ZtA ZpH ZoA Zn2 Zoz Zps ZmZ Zoh ZvU Zuv ZsX Zr0 ZrV Zwv ZtD Zwi ZuF ZvZ Zsa Ztm ZvO ZhE Zjc Ztz Zur Zue Zkh ZhB Zv9 ZtQ ZtZ ZuE ZvH ZwL Zvl Zng ZmN Zvg ZlK Zqr Zir Zit ZvY Zup ZuI ZlL ZmT Zqb Zm4 ZqN Zoj ZmC ZmA Zoc Zq4 ZtM ZuG ZsQ ZsR Zvy ZwO Zvj ZuM Zu4 Zs4 Zuk Zvh Zs9 Zvk Zwa Zwk Zs8 Zvw Zuu Zti Zm9 ZqW Zqm Zok ZoE Zpk Zqs Zt7 ZsU Zr7 Zug Zum ZuV ZsM ZrT Ztj ZsI ZtJ Znl Zon Zp3 Zqp ZmH Zpw ZmX Zpg Zvr ZtB Zv2 Zs5 Zso Zs0 Zwf ZsA Zs7 ZsZ Zww Zuq Zpp Zq0 Znq Zqk Ztd Zsl Zto Zsp ZmF Zph ZmB Zpl ZqL Zo5 Zmw ZmW Zqi ZpW Zr5 Zve ZsG ZkS Zqc ZoW Zor ZpK Zog ZmO ZlP Zqj Zl3 Zp6 ZqT Znw ZoS Zop ZmJ ZqJ ZoD Zgo Zg1 List.drop List.take List.length List.cons_append List.nil_append Nat.beq Nat.blt Nat.ble Nat.zero_add Nat.add_zero Nat.mul_one Nat.zero_mul Nat.one_mul cond_true cond_false List.set
end Go.Sx
