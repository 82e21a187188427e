/- Walks and plain laws that lead to the given statement, part 7 of 9. -/
import Derived.Test.YthilckbkffjliaaQF
import Derived.Recover
import Derived.Test.YthilckbkffjliaaProg
import Derived.Laws.BytesString
set_option maxRecDepth 100000
set_option maxHeartbeats 8000000
set_option linter.all false
open Nat renaming reduceAdd->rA,reduceMul->rM,reduceSub->rS,beq_refl->nbr
namespace Go.Sx
open Go Go.RowKit
inductive FB where
 | tail (c:SC)
 | seq (a:SC) (b:FB)
 | dfr (ops:List Ins) (mx kx:X) (t:TypeId) (b:FB)
 | rcv (ops:List Ins) (cx:X) (b:FB)
def Zx5 (mx kx:X) (t:TypeId) (o:Oper):Bool :=
 match o.op,o.dst,o.guard with
 | .defer c,none,none=>(match c.callee with | .builtin .delete=>true | _=>false) && (match c.args.toList with | [m,k]=>YG mx m && YG kx k | _=>false) && (match c.argTypes[0]? with | some u=>u == t | none=>false)
 | _,_,_=>false
def Zq1 (cx:X) (o:Oper):Bool :=
 match o.op,o.dst,o.guard with
 | .defer c,none,none=>(match c.callee with | .value y=>YG cx y | _=>false) && c.args.isEmpty
 | _,_,_=>false
def U3 (P:Program):FB->Code->Bool
 | .tail c,code=>Yx P c code
 | .seq a b,code=>(match code with | .seq x y=>Yx P a x && U3 P b y | _=>false)
 | .dfr ops mx kx t b,code=>(match code with
  | .seq (.region _ os false) y=>Zgq P os ops (os.toList.take ops.length) && (match os.toList.drop ops.length with | [o]=>Zx5 mx kx t o | _=>false) && U3 P b y
  | _=>false)
 | .rcv ops cx b,code=>(match code with
  | .seq (.region _ os false) y=>Zgq P os ops (os.toList.take ops.length) && (match os.toList.drop ops.length with | [o]=>Zq1 cx o | _=>false) && U3 P b y
  | _=>false)
def Zwy (P:Program) (t:TypeId) (kv:Value) (hb hb':HB):Prop :=
 ∃ (K V:Type) (_:DecidableEq K) (key:K->Value) (val:V->SV) (sv:K->SV) (L:List (Nat × K × V)) (k:K) (kt et:TypeId) (c:Nat),
  hb = .map (mpS key val L) c/\hb' = .map (mpS key val (V8 k L)) c/\kv=key k/\P.underlying t=some (.map kt et)/\KeyT P kt key sv
def dK (P:Program) (t:TypeId) (km:Nat) (kv:Value) (K:Ex->St->Prop):Ex->St->Prop
 | .n,σ=>∃ hb',Zwy P t kv (lkh km σ.hp) hb'/\K .n ⟨σ.fr,(km,hb') :: σ.hp,σ.n,σ.N,σ.gs⟩
 | .ret,σ=>∃ hb',Zwy P t kv (lkh km σ.hp) hb'/\K .ret ⟨σ.fr,(km,hb') :: σ.hp,σ.n,σ.N,σ.gs⟩
 | _,_=>False
def fxS (f:St->(Ex->St->Prop)->Prop) (K:Ex->St->Prop):Ex->St->Prop
 | .n,σ=>f σ K
 | .ex _,_=>False
 | .ret,σ=>K .ret σ
 | .pan s,σ=>K (.pan s) σ
def mpO:SV->Option Nat
 | .mp k=>some k
 | _=>none
def vO:SV->Option Value
 | .v x=>some x
 | _=>none
def Zy7 (P:Program) (t:TypeId) (f:Nat->St->(Ex->St->Prop)->Prop) (km:Option Nat) (kv:Option Value) (σ : St) (K:Ex->St->Prop):Prop :=
 match km,kv with
 | some km,some kv=>Nat.blt km σ.n=true/\f σ.n σ (dK P t km kv K)
 | _,_=>False
def ZpF (t:Nat) (o:Oper):Bool :=
 match o.op,o.dst,o.guard with
 | .call c,some u,none=>u == t && (match c.callee with | .builtin .recover=>true | _=>false) && c.args.isEmpty
 | _,_,_=>false
structure RcF (P:Program) (g:FuncId) (t:Nat) (l:List Ins) (c:SC) (N:Nat):Prop where
 ex:∃ fn id os y0 o1,P.funcs[g]? = some fn/\fn.body=some (.seq (.region id os false) y0)/\os[0]? = some o1/\ZpF t o1=true/\Zgq P os l (os.toList.drop 1)=true/\Yx P c y0=true/\fn.ntmps=N/\t < N/\fn.results = #[]
 bd:ZW P g=true
def rcK (σ : St) (k:St->Prop):Ex->St->Prop
 | .n,σ'=>k ⟨σ.fr,σ'.hp,σ'.n,σ.N,σ.gs⟩
 | .ret,σ'=>k ⟨σ.fr,σ'.hp,σ'.n,σ.N,σ.gs⟩
 | _,_=>False
def rcR (P:Program) (t:Nat) (l:List Ins) (c:SC) (N:Nat) (caps:List SV) (s:SV) (σ : St) (k:St->Prop):Prop :=
 Nat.ble caps.length N=true/\rx P Y0 l ⟨(t,s) :: YN 0 caps,σ.hp,σ.n,N,[]⟩ (Zbs (fxS (fun σ' K=>sx P Y0 σ.n c σ' K) (rcK σ k)))
def Zzc (P:Program) (f:Nat->St->(Ex->St->Prop)->Prop) (rk:FuncId->List SV->Ex->St->Prop) (s:SV) (σ : St):Prop :=
 match s with
 | .cl g caps=>f σ.n σ (rk g caps)
 | _=>False
def rK (P:Program) (K:Ex->St->Prop) (g:FuncId) (caps:List SV):Ex->St->Prop
 | .n,σ=>∃ t l c N,RcF P g t l c N/\rcR P t l c N caps (.v .nilIface) σ (K .n)
 | .ret,σ=>∃ t l c N,RcF P g t l c N/\rcR P t l c N caps (.v .nilIface) σ (K .ret)
 | .pan s,σ=>∃ t l c N,RcF P g t l c N/\rcR P t l c N caps s σ (K .ret)
 | .ex _,_=>False
def fx (P:Program):Nat->FB->St->(Ex->St->Prop)->Prop
 | m,.tail c,σ,K=>sx P Y0 m c σ K
 | m,.seq a b,σ,K=>sx P Y0 m a σ (fxS (fx P m b) K)
 | _,.dfr ops mx kx t b,σ,K=>rx P Y0 ops σ (Zbs (fxS (fun σ K=>Zy7 P t (fun n=>fx P n b) (mpO (rdG none σ.fr mx)) (vO (rdG none σ.fr kx)) σ K) K))
 | _,.rcv ops cx b,σ,K=>rx P Y0 ops σ (Zbs (fxS (fun σ K=>Zzc P (fun n=>fx P n b) (rK P K) (rdG none σ.fr cx) σ) K))
theorem Zty (P:Program) (m:Nat) (c:SC) (σ : St) (K:Ex->St->Prop):fx P m (.tail c) σ K=sx P Y0 m c σ K:=rfl
theorem Zyk (P:Program) (m:Nat) (a:SC) (b:FB) (σ : St) (K:Ex->St->Prop):fx P m (.seq a b) σ K=sx P Y0 m a σ (fxS (fx P m b) K):=rfl
theorem Zzz (P:Program) (m:Nat) (ops:List Ins) (mx kx:X) (t:TypeId) (b:FB) (σ : St) (K:Ex->St->Prop):fx P m (.dfr ops mx kx t b) σ K=rx P Y0 ops σ (Zbs (fxS (fun σ K=>Zy7 P t (fun n=>fx P n b) (mpO (rdG none σ.fr mx)) (vO (rdG none σ.fr kx)) σ K) K)):=rfl
theorem ZxN (P:Program) (m:Nat) (ops:List Ins) (cx:X) (b:FB) (σ : St) (K:Ex->St->Prop):fx P m (.rcv ops cx b) σ K=rx P Y0 ops σ (Zbs (fxS (fun σ K=>Zzc P (fun n=>fx P n b) (rK P K) (rdG none σ.fr cx) σ) K)):=rfl
theorem ZvF (P:Program) (f:Nat->St->(Ex->St->Prop)->Prop) (rk:FuncId->List SV->Ex->St->Prop) (g:FuncId) (caps:List SV) (σ : St):Zzc P f rk (.cl g caps) σ = f σ.n σ (rk g caps):=rfl
theorem rK_n (P:Program) (K:Ex->St->Prop) (g:FuncId) (caps:List SV) (σ : St):rK P K g caps .n σ = ∃ t l c N,RcF P g t l c N/\rcR P t l c N caps (.v .nilIface) σ (K .n):=rfl
theorem Zzo (P:Program) (K:Ex->St->Prop) (g:FuncId) (caps:List SV) (σ : St):rK P K g caps .ret σ = ∃ t l c N,RcF P g t l c N/\rcR P t l c N caps (.v .nilIface) σ (K .ret):=rfl
theorem Zw0 (P:Program) (K:Ex->St->Prop) (g:FuncId) (caps:List SV) (s:SV) (σ : St):rK P K g caps (.pan s) σ = ∃ t l c N,RcF P g t l c N/\rcR P t l c N caps s σ (K .ret):=rfl
theorem e_rcR (P:Program) (t:Nat) (l:List Ins) (c:SC) (N:Nat) (caps:List SV) (s:SV) (σ : St) (k:St->Prop):rcR P t l c N caps s σ k=(Nat.ble caps.length N=true/\rx P Y0 l ⟨(t,s) :: YN 0 caps,σ.hp,σ.n,N,[]⟩ (Zbs (fxS (fun σ' K=>sx P Y0 σ.n c σ' K) (rcK σ k)))):=rfl
theorem rcK_n (σ : St) (k:St->Prop) (σ':St):rcK σ k .n σ'=k ⟨σ.fr,σ'.hp,σ'.n,σ.N,σ.gs⟩:=rfl
theorem Zu7 (σ : St) (k:St->Prop) (σ':St):rcK σ k .ret σ'=k ⟨σ.fr,σ'.hp,σ'.n,σ.N,σ.gs⟩:=rfl
attribute [go_sem] ZxN ZvF rK_n Zzo Zw0 e_rcR rcK_n Zu7
theorem fxS_n (f:St->(Ex->St->Prop)->Prop) (K:Ex->St->Prop) (σ : St):fxS f K .n σ = f σ K:=rfl
theorem Zsp (f:St->(Ex->St->Prop)->Prop) (K:Ex->St->Prop) (σ : St):fxS f K .ret σ = K .ret σ:=rfl
theorem ZyA (P:Program) (t:TypeId) (f:Nat->St->(Ex->St->Prop)->Prop) (km:Nat) (kv:Value) (σ : St) (K:Ex->St->Prop):Zy7 P t f (some km) (some kv) σ K=(Nat.blt km σ.n=true/\f σ.n σ (dK P t km kv K)):=rfl
theorem Zx6 (k:Nat):mpO (.mp k)=some k:=rfl
theorem vO_v (x:Value):vO (.v x)=some x:=rfl
theorem dK_n (P:Program) (t:TypeId) (km:Nat) (kv:Value) (K:Ex->St->Prop) (σ : St):dK P t km kv K .n σ = ∃ hb',Zwy P t kv (lkh km σ.hp) hb'/\K .n ⟨σ.fr,(km,hb') :: σ.hp,σ.n,σ.N,σ.gs⟩:=rfl
theorem Zw7 (P:Program) (t:TypeId) (km:Nat) (kv:Value) (K:Ex->St->Prop) (σ : St):dK P t km kv K .ret σ = ∃ hb',Zwy P t kv (lkh km σ.hp) hb'/\K .ret ⟨σ.fr,(km,hb') :: σ.hp,σ.n,σ.N,σ.gs⟩:=rfl
attribute [go_sem] Zty Zyk Zzz fxS_n Zsp ZyA Zx6 vO_v dK_n Zw7
section
variable {P:Program}
theorem ZhE {C:Cx} {Y:Hd} (hY:Zc5 P C Y) {ops:Array Oper} {Q:Exit->Act->World->Prop} {K:RK} {os2:List Oper} (hn:∀ σ E a w,K .n σ->Sim C E σ a w->VQ C.rd P ops Q os2 a w)
 (hp:∀ s σ' E a w y,K (.pan s) σ'->Sim C E σ' a w->R w E (ltn σ'.n) (okS C E σ'.hp) s y->Q (.panic [{ v:=y,recovered:=false }]) a w):∀ (l:List Ins) (os:List Oper),Zgq P ops l os=true ->
 ∀ (σ : St) E a w,rx P Y l σ K->Sim C E σ a w->VQ C.rd P ops Q (os ++ os2) a w
 | [],[],_,σ,E,a,w,hr,h=>hn σ E a w hr h
 | io :: l,o :: os,hc,σ,E,a,w,hr,h=>by
  simp only [Zgq,Bool.and_eq_true] at hc
  have ih:=ZhE hY hn hp l os hc.2
  exact Vr (next:=VQ C.rd P ops Q (os ++ os2)) hc.1 hr h (fun σ' E' a' w' h1 h2=>ih σ' E' a' w' h1 h2) (fun s σ' E' w' y h1 h2 h3=>hp s σ' E' a w' y h1 h2 h3) hY
 | [],_ :: _,h,_,_,_,_,_,_=>by simp [Zgq] at h
 | _ :: _,[],h,_,_,_,_,_,_=>by simp [Zgq] at h
theorem Zub {C:Cx} {E:Env} {σ : St} {a:Act} {w:World} (h:Sim C E σ a w) {t:TypeId} {km:Nat} {kv:Value} {hb':HB} {ats:Array TypeId} {ty:TypeId} {cc:Array Bool} (ha:ats[0]? = some t) (hd:Zwy P t kv (lkh km σ.hp) hb') :
 ∃ x w',(invoke (.builtin .delete ats ty cc) #[.map (some (E.β km)),kv]).run P w = .ok (.value x) w'/\Sim C E ⟨σ.fr,(km,hb') :: σ.hp,σ.n,σ.N,σ.gs⟩ a w'/\Zt w w' (okS C E σ.hp) (okS C E ((km,hb') :: σ.hp)):=by
 obtain ⟨K,V,_,key,val,sv,L,k,kt,et,c,hh,rfl,rfl,ht,hK⟩:=hd
 obtain ⟨g0,ys,g1,g2⟩:=ZcB h hh
 have hfn:=fun w=>hK.fnd k _ _ w (W8 g2)
 have hex:∀ w',(Builtin.delete_ ats ty #[.map (some (E.β km)),key k]).run P w = .ok (.tuple #[]) w'->(invoke (.builtin .delete ats ty cc) #[.map (some (E.β km)),key k]).run P w = .ok (.value (.tuple #[])) w':=fun w' hy=>by
  simp [invoke,builtin,hy]
 have hfin:∀ ys':Array MapEntry,(∀ {w':World} {ok':Nat->Prop},RM w' E (ltn σ.n) ok' (mpS key val L) ys.toList->RM w' E (ltn σ.n) ok' (mpS key val (V8 k L)) ys'.toList) ->
  Sim C E ⟨σ.fr,(km,.map (mpS key val (V8 k L)) c) :: σ.hp,σ.n,σ.N,σ.gs⟩ a (WN w (E.β km) (.map ys' c))/\Zt w (WN w (E.β km) (.map ys' c)) (okS C E σ.hp) (okS C E ((km,.map (mpS key val (V8 k L)) c) :: σ.hp)):=fun ys' hRM=>by
  obtain ⟨q1,q2⟩:=XL (k:=km) (hb:=.map (mpS key val (V8 k L)) c) (o:=.map ys' c) h.hs (fun b=>by rw [hh];simp only [occ]) (fun b=>by simp only [occ]) (fun hlt hst=>by
   simp only [ZT]
   exact ⟨ys',Y3 hlt,hRM (Xd hst.c (fun _ _=>Ele.rfl) (fun _ h=>h) _ _ g2)⟩)
  exact ⟨Z1 h q2 (fun _ _=>Ele.rfl) (Nat.le_refl _) q1,q2⟩
 rcases Vd (w:=w) (E:=E) (n:=ltn σ.n) (ok:=okS C E σ.hp) k L ys.toList 0 g2 with ⟨a1,a2,a3,-⟩ | ⟨j,v0,e,b1,b2,b3,b4,b5,b6⟩
 . have hrun:(Builtin.delete_ ats ty #[.map (some (E.β km)),key k]).run P w = .ok (.tuple #[]) (WN w (E.β km) (.map ys c)):=by
    simp [Builtin.delete_,Sem.run_bind,ha,run_underlying ht,Result.andThen_ok,Yh g1 rfl,Sem.run_pure,hK.chk,hfn,a2,Yu _ g1 rfl]
   exact ⟨_,_,hex _ hrun,hfin _ fun h1=>by rw [a3];exact h1⟩
 . rw [Nat.zero_add] at b2
   have hlt:j < ys.size:=by
    have:ys[j]? = some e:=by simpa using b3
    exact (Array.getElem?_eq_some_iff.1 this).1
   have hrun:(Builtin.delete_ ats ty #[.map (some (E.β km)),key k]).run P w = .ok (.tuple #[]) (WN w (E.β km) (.map (ys.eraseIdxIfInBounds j) c)):=by
    simp [Builtin.delete_,Sem.run_bind,ha,run_underlying ht,Result.andThen_ok,Yh g1 rfl,Sem.run_pure,hK.chk,hfn,b2,Yu _ g1 rfl]
   exact ⟨_,_,hex _ hrun,hfin _ fun {w' ok'} h1=>by
    have:(ys.eraseIdxIfInBounds j).toList=ys.toList.eraseIdx j:=by simp [Array.eraseIdxIfInBounds,hlt]
    rw [this];exact (b6 h1).1⟩
theorem Zdo {C C':Cx} {E E':Env} {σ σ':St} {a a':Act} {w w':World} (h:Sim C E σ a w) (h':Sim C' E' σ' a' w') (c1:C'.w0=w) (c2:C'.okp=okS C E σ.hp) (c3:C'.pass=fun k b=>occ E k (lkh k σ.hp) b) (c4:C'.e0=E) (c5:C'.m0 = σ.n) (hm:C.m0<=σ.n) :
 Sim { C with ds:=a'.defers } E' σ' a' w':=by
 have hok:∀ b,okS C' E' σ'.hp b->okS C E' σ'.hp b:=fun b hb=>by
  obtain ⟨g1,g2⟩:=hb
  refine ⟨?_,g2⟩
  rw [c1,c2] at g1
  rcases g1 with g1 | g1
  . exact g1.1
  . exact .inr (Nat.le_trans h.hs.kp.size g1)
 have hst:YA w' w' (okS C' E' σ'.hp) (okS C E' σ'.hp):=fun b hb _=>⟨hok b hb,rfl⟩
 refine ⟨fun t=>?_,h'.sz,Uw,h'.gs,⟨h'.hs.kn,fun k=>?_,h'.hs.dj,fun k b ho=>?_,⟨?_,?_,?_,?_,fun b h1 h2=>?_⟩,fun k hk=>?_⟩⟩
 . have:=h'.fr t
   cases hq:lk t σ'.fr<;>rw [hq] at this<;>try exact ZB hst (fun _ _=>Ele.rfl) (fun _ h=>h) _ _ this
   exact ⟨fun hg=>ZB hst (fun _ _=>Ele.rfl) (fun _ h=>h) _ _ (this.1 hg),this.2⟩
 . refine Xr hst (fun _ _=>Ele.rfl) (fun _ h=>h) ?_ (fun b ho=>rfl) rfl (h'.hs.bk k)
   rcases Classical.em (ltn σ'.n k) with hk | hk
   . exact .inr hk
   . exact .inl (h'.hs.kn k hk)
 . rcases h'.hs.lo k b ho with g | g
   . rw [c1] at g;exact .inl (Nat.le_trans h.hs.kp.size g)
   . rw [c3] at g;exact h.hs.lo k b g
 . have:=h'.hs.kp.os;rw [c1] at this;exact this.trans h.hs.kp.os
 . have:=h'.hs.kp.tape;rw [c1] at this;exact this.trans h.hs.kp.tape
 . have:=h'.hs.kp.output;rw [c1] at this;exact this.trans h.hs.kp.output
 . have:=h'.hs.kp.size;rw [c1] at this;exact Nat.le_trans h.hs.kp.size this
 . have h1':b < C.w0.heap.size:=h1
   have h2':∀ k,¬ C.pass k b:=h2
   have hb:=h'.hs.kp.block b (by rw [c1];exact Nat.lt_of_lt_of_le h1' h.hs.kp.size) (fun k hk=>by
    rw [c3] at hk
    rcases h.hs.lo k b hk with g | g
    . exact absurd h1' (Nat.not_lt.2 g)
    . exact h2' k g)
   rw [c1] at hb
   exact hb.trans (h.hs.kp.block b h1' h2')
 . have hk':k < C.m0:=hk
   have p1:=h.hs.pin k hk'
   have p2:=h'.hs.pin k (by rw [c5];exact Nat.lt_of_lt_of_le hk' hm)
   rw [c4] at p2
   exact ⟨p2.1,p1.2.trans p2.2⟩
theorem Vp {fn:Func} {R':Ending->World->Prop} {C:Cx} {K:Ex->St->Prop}
 (hK:∀ e σ',K e σ'->∀ (C':Cx) E' a' w',C'.w0=C.w0->C'.okp=C.okp->C'.pass=C.pass->C'.e0=C.e0->C'.m0=C.m0->Sim C' E' σ' a' w'->match e with
  | .n | .ret=>Lv P fn a'.tmps R' C.ds .returning w'
  | .ex _=>False
  | .pan s=>∀ y,R w' E' (ltn σ'.n) (okS C' E' σ'.hp) s y->Lv P fn a'.tmps R' C.ds (.panicking [{ v:=y,recovered:=false }]) w')
 (e:Ex) (σ':St) (hk:K e σ') (E':Env) (a':Act) (w':World) (hs:Sim C E' σ' a' w'):ExQ C (Yj P fn R') e σ' E' a' w':=by
 obtain ⟨ms,d1,d2,d3⟩:=hs.df
 have key:=hK e σ' hk
 cases e with
 | ex i=>exact (key C E' a' w' rfl rfl rfl rfl rfl hs).elim
 | n =>
  show Lv P fn a'.tmps R' a'.defers .returning w'
  rw [d1]
  refine Xm ms _ _ (by simp) d2.1 (fun m hm=>(d3 m hm).2.2) fun w'' hu=>?_
  exact key { C with ds:=a'.defers } E' a' w'' rfl rfl rfl rfl rfl (XS hs d3 hu)
 | ret =>
  show Lv P fn a'.tmps R' a'.defers .returning w'
  rw [d1]
  refine Xm ms _ _ (by simp) d2.1 (fun m hm=>(d3 m hm).2.2) fun w'' hu=>?_
  exact key { C with ds:=a'.defers } E' a' w'' rfl rfl rfl rfl rfl (XS hs d3 hu)
 | pan s =>
  intro y hy
  show Lv P fn a'.tmps R' a'.defers (.panicking _) w'
  rw [d1]
  refine Xm ms _ _ (by simp) d2.1 (fun m hm=>(d3 m hm).2.2) fun w'' hu=>?_
  have hst:YA w' w'' (okS C E' σ'.hp) (okS C E' σ'.hp):=fun b hb q=>⟨hb,hu.other b fun hm'=>by rcases q with ⟨cs,T,fz,e⟩ | ⟨es,c,e⟩<;>(rw [(d3 b hm').2.2] at e;cases e)⟩
  exact key { C with ds:=a'.defers } E' a' w'' rfl rfl rfl rfl rfl (XS hs d3 hu) y (ZB hst (fun _ _=>Ele.rfl) (fun _ h=>h) _ _ hy)
theorem Zg4 {C:Cx} {E:Env} {σ : St} {a:Act} {w:World} (h:Sim C E σ a w) (ds:List Deferred):Sim ⟨w,okS C E σ.hp,fun k b=>occ E k (lkh k σ.hp) b,ds,none,E,σ.n⟩ E σ { a with defers:=ds } w:=by
 have hst:YA w w (okS C E σ.hp) (okS ⟨w,okS C E σ.hp,fun k b=>occ E k (lkh k σ.hp) b,ds,none,E,σ.n⟩ E σ.hp):=fun b hb _=>⟨⟨.inl hb,hb.2⟩,rfl⟩
 refine ⟨fun t=>?_,h.sz,Uw,h.gs,⟨h.hs.kn,fun k=>?_,h.hs.dj,fun k b ho=>.inr ho,⟨rfl,rfl,rfl,Nat.le_refl _,fun _ _ _=>rfl⟩,fun k hk=>⟨hk,Ele.rfl⟩⟩⟩
 . have:=h.fr t
   show FR w E (ltn σ.n) _ σ.fr (lk t σ.fr) (a.tmps.getD t undef)
   cases hq:lk t σ.fr<;>rw [hq] at this<;>try exact ZB hst (fun _ _=>Ele.rfl) (fun _ h=>h) _ _ this
   exact ⟨fun hg=>ZB hst (fun _ _=>Ele.rfl) (fun _ h=>h) _ _ (this.1 hg),this.2⟩
 . refine Xr hst (fun _ _=>Ele.rfl) (fun _ h=>h) ?_ (fun b ho=>rfl) rfl (h.hs.bk k)
   rcases Classical.em (ltn σ.n k) with hk | hk
   . exact .inr hk
   . exact .inl (h.hs.kn k hk)
def ZzD (v:Value) (u u':FrameMode):Prop:=(u = .returning/\v = .nilIface/\u' = .returning)\/(u = .panicking [{ v:=v,recovered:=false }]/\u' = .panicking [{ v:=v,recovered:=true }])
theorem ZoA {b c₀:Frame} {a:Act} {k:List Item} {cs:List Frame} {w:World} {os:Array Oper} {o:Oper} {rest:List Nat} {t:Nat} {v:Value} {u u':FrameMode} (hb:b.kind = .deferred) (h0:os[0]? = some o) (hr:ZpF t o=true)
 (hc:c₀.mode=u) (hu:ZzD v u u'):step P (lone (b.at a (.inRegion os (0 :: rest) :: k)) (c₀ :: cs) w) = .next (lone (b.at (a.put (some t) v) (.inRegion os rest :: k)) ({ c₀ with mode:=u' } :: cs) w):=by
 obtain ⟨dst,op,ty,pos,after,guard⟩:=o
 unfold ZpF at hr
 split at hr
 case h_2=>cases hr
 rename_i c x e1 e2 e3
 simp only at e1 e2 e3
 subst e1;subst e2;subst e3
 simp only [Bool.and_eq_true,beq_iff_eq] at hr
 obtain ⟨⟨rfl,hr1⟩,hr2⟩:=hr
 split at hr1
 case h_2=>cases hr1
 rename_i hcal
 have hw:Region.wanted (⟨some x,.call c,ty,pos,after,none⟩:Oper) (yielded os a.tmps)=true:=rfl
 have hg:=stepG_op (P:=P) (b:=b) (k:=k) (cs:=c₀ :: cs) (w:=w) (rest:=rest) h0 hw
 have hfin:∀ v,(b.at a (.inRegion os (0 :: rest) :: k)).finish v=b.at (a.put (some x) v) (.inRegion os rest :: k):=by
  intro v;rw [Frame.finish_at,h0];rfl
 have hrun:(execOp a.eval (⟨some x,.call c,ty,pos,after,none⟩:Oper)).run P w = .ok .recover w:=by
  simp [execOp,resolve,hcal,invoke,builtin,Sem.run_bind,Sem.run_pure]
 have hk:(b.at a (.inRegion os (0 :: rest) :: k)).kind = .deferred:=hb
 have htr:=tryRecover_deferred hk (c₀ :: cs)
 refine step_lone_go ?_
 rw [hg,<- hfin]
 rcases hu with ⟨rfl,rfl,rfl⟩ | ⟨rfl,rfl⟩
 . have hrd:recoverD (c₀ :: cs)=none:=by simp [recoverD,hc]
   have hcc:({ c₀ with mode:=.returning }:Frame)=c₀:=by rw [<- hc]
   simp only [Frame.at] at htr ⊢
   simp [stepG.apply,hrun,htr,hrd,hcc]
 . have hrd:recoverD (c₀ :: cs)=some (v,{ c₀ with mode:=.panicking [{ v:=v,recovered:=true }] } :: cs):=by simp [recoverD,hc]
   simp only [Frame.at] at htr ⊢
   simp [stepG.apply,hrun,htr,hrd]
theorem ZqU {fr:Frame} {cs:List Frame}:∀ (ms:List Nat) (w:World),fr.mode≠.run->fr.defers=ms.map Zca->ms.Nodup->(∀ m ∈ ms,w.heap[m]? = some (.deferred (some []))) ->
 ∃ w',Unm ms w w'/\Steps P (lone fr cs w) (lone { fr with defers:=[] } cs w')
 | [],w,_,hd,_,_=>⟨w,Unm.refl w,by rw [show ({ fr with defers:=[] }:Frame)=fr by rw [<- show fr.defers=[] from hd]];exact Steps.refl P _⟩
 | m :: ms,w,hm,hd,hnd,hh=>by
  rw [List.nodup_cons] at hnd
  have hm0:=hh m (by simp)
  have hlt:=(Array.getElem?_eq_some_iff.1 hm0).1
  have h1:step P (lone fr cs w) = .next (lone { fr with defers:=ms.map Zca } cs (WN w m (.deferred none))) :=
   W7 hm hd rfl (by simp only [Instr.takeDeferred,Sem.run_bind,Yh hm0 rfl,Result.andThen_ok,Yu _ hm0 rfl,Sem.run_pure])
  obtain ⟨w',g1,g2⟩:=ZqU (fr:={ fr with defers:=ms.map Zca }) (cs:=cs) ms (WN w m (.deferred none)) hm rfl hnd.2 (fun k hk=>by
   rw [X8 (by rintro rfl;exact hnd.1 hk)];exact hh k (by simp [hk]))
  refine ⟨w',⟨g1.os,g1.tape,g1.output,by rw [g1.size,UZ],fun b hb=>?_⟩,.head h1 g2⟩
  rw [List.mem_cons,not_or] at hb
  rw [g1.other b hb.2];exact X8 hb.1
theorem Zi3 {g:FuncId} {fn:Func} {id:Nat} {os:Array Oper} {y0:Code} {o1:Oper} {t:Nat} {args:Array Value} {w:World} {u u':FrameMode} {v:Value} {R:Ending->FrameMode->World->Prop} {Q:Exit->Act->World->Prop}
 (hf:P.funcs[g]? = some fn) (hb:fn.body=some (.seq (.region id os false) y0)) (h0:os[0]? = some o1) (hrec:ZpF t o1=true) (hu:ZzD v u u')
 (h:VQ none P os (Exit.then (wpX none P y0 Q) Q) (os.toList.drop 1) (({ tmps:=args ++ Array.replicate (fn.ntmps - args.size) undef,defers:=[] }:Act).put (some t) v) w)
 (hQ:∀ e a w,Q e a w->(e = .normal\/e = .ret)/\∃ ms:List Nat,a.defers=ms.map Zca/\ms.Nodup/\(∀ m ∈ ms,w.heap[m]? = some (.deferred (some [])))/\∀ w',Unm ms w w'->∃ val,(results fn a.tmps).run P w' = .ok val w'/\R (.returned val) u' w') :
 CallsD P g args u w R:=by
 intro c₀ cs hc
 let b:Frame:={ (default:Frame) with fn:=g,kind:=.deferred }
 let a0:Act:={ tmps:=args ++ Array.replicate (fn.ntmps - args.size) undef,defers:=[] }
 have henter:Frame.enter P g args .deferred=b.at a0 [.code (.seq (.region id os false) y0)]:=by
  simp [Frame.enter,Frame.at,hf,hb,b,a0]
 have hsz:0 < os.size:=(Array.getElem?_eq_some_iff.1 h0).1
 have hrange:List.range os.size=0 :: List.range' 1 (os.size - 1):=by
  rw [List.range_eq_range',show os.size=(os.size - 1)+1 from by omega,List.range'_succ];simp
 have h1:=U1 (r:=none) (P:=P) (ops:=os) (os.toList.drop 1) 1 (fun j hj=>by simp [List.getElem?_drop,Nat.add_comm]) _ w h
 rw [List.length_drop,Array.length_toList] at h1
 obtain ⟨e,a1,w1,q,s⟩:=UL _ _ w h1 b [.code y0] ({ c₀ with mode:=u' } :: cs) rfl (by simp [b,hf])
 have s:=(arrivesIn_iff (b:=b) (fun _ _=>steps_iff.symm) rfl).1 s
 rw [Frame.atR_of_none (b:=b) rfl] at s
 have hpre:Steps P (lone (Frame.enter P g args .deferred) (c₀ :: cs) w) (lone (b.at (a0.put (some t) v) (.inRegion os (List.range' 1 (os.size - 1)) :: [.code y0])) ({ c₀ with mode:=u' } :: cs) w):=by
  rw [henter]
  refine .head step_seq (.head step_region ?_)
  rw [hrange]
  exact .one (ZoA rfl h0 hrec hc hu)
 have fin:∀ (e:Exit) (a:Act) (w2:World) (todo:List Item),Q e a w2->Steps P (lone (Frame.enter P g args .deferred) (c₀ :: cs) w) (lone ({ b.at a todo with mode:=.returning }:Frame) ({ c₀ with mode:=u' } :: cs) w2) ->
  ∃ e u'' w' fr,R e u'' w'/\Comes P (lone (Frame.enter P g args .deferred) (c₀ :: cs) w) (lone fr ({ c₀ with mode:=u'' } :: cs) w') e/\fr.kind = .deferred/\fr.going P w' e:=fun e a w2 todo hq hs=>by
  obtain ⟨_,ms,d1,d2,d3,d4⟩:=hQ e a w2 hq
  obtain ⟨w3,g1,g2⟩:=ZqU (P:=P) (fr:={ b.at a todo with mode:=.returning }) (cs:={ c₀ with mode:=u' } :: cs) ms w2 (by simp) d1 d2 d3
  obtain ⟨val,hr,hR⟩:=d4 w3 g1
  exact ⟨.returned val,u',w3,_,hR,Steps.trans hs g2,rfl,rfl,rfl,fn,hf,hr⟩
 have tl:∀ (a:Act) (w2:World),wpX none P y0 Q a w2->Steps P (lone (Frame.enter P g args .deferred) (c₀ :: cs) w) (lone (b.at a [.code y0]) ({ c₀ with mode:=u' } :: cs) w2) ->
  ∃ e u'' w' fr,R e u'' w'/\Comes P (lone (Frame.enter P g args .deferred) (c₀ :: cs) w) (lone fr ({ c₀ with mode:=u'' } :: cs) w') e/\fr.kind = .deferred/\fr.going P w' e:=fun a w2 hy hs=>by
  obtain ⟨e2,a2,w3,q2,s2⟩:=hy b [] ({ c₀ with mode:=u' } :: cs) rfl (by simp [b,hf])
  have s2:=(arrivesIn_iff (b:=b) (fun _ _=>steps_iff.symm) rfl).1 s2
  rw [Frame.atR_of_none (b:=b) rfl] at s2
  rcases (hQ e2 a2 w3 q2).1 with rfl | rfl
  . exact fin _ a2 w3 [] q2 (Steps.trans hs (Steps.trans s2 (.one step_end)))
  . obtain ⟨todo,s3⟩:=s2
    exact fin _ a2 w3 todo q2 (Steps.trans hs s3)
 cases e with
 | normal=>exact tl a1 w1 q (Steps.trans hpre s)
 | ret =>
  obtain ⟨todo,s3⟩:=s
  exact fin _ a1 w1 todo q (Steps.trans hpre s3)
 | panic chain=>rcases (hQ _ a1 w1 q).1 with h | h<;>cases h
 | exit id=>rcases (hQ _ a1 w1 q).1 with h | h<;>cases h
 | goto l=>rcases (hQ _ a1 w1 q).1 with h | h<;>cases h
 | outgrown=>rcases (hQ _ a1 w1 q).1 with h | h<;>cases h
theorem ZkO {C:Cx} {E:Env} {hp0:List (Nat × HB)} {n0 N:Nat} {args:List SV} {vs:List Value} {w:World} (hN:args.length<=N) (hds:C.ds=[]) (hH:HSim C E hp0 (ltn n0) w) (hR:RL w E (ltn n0) (okS C E hp0) args vs) :
 Sim C E ⟨YN 0 args,hp0,n0,N,[]⟩ { tmps:=vs.toArray ++ Array.replicate (N - vs.toArray.size) undef,defers:=[] } w:=by
 have hlen:=Zw hR
 have hng:∀ t j b s,lk t (YN 0 args)≠.gd j b s:=by
  intro t j b s ht
  simp only [Vl,Nat.zero_le,if_true,Nat.sub_zero] at ht
  by_cases htl:t < args.length
  . have e1:args.getD t .any=args[t]:=by simp [htl]
    obtain ⟨y,h1,h2⟩:=Wt hR (List.getElem?_eq_getElem htl)
    rw [e1] at ht;rw [ht] at h2;simp only [R] at h2
  . have e1:args.getD t .any = .any:=by simp [List.getElem?_eq_none (Nat.le_of_not_lt htl)]
    rw [e1] at ht;cases ht
 refine ⟨fun t=>?_,by simp;omega,by rw [<- hds];exact Uw,fun t j b s ht=>absurd ht (hng t j b s),hH⟩
 have hng:=hng t
 have hFR:R w E (ltn n0) (okS C E hp0) (lk t (YN 0 args)) ((vs.toArray ++ Array.replicate (N - vs.toArray.size) undef).getD t undef):=by
  simp only [Vl,Nat.zero_le,if_true,Nat.sub_zero]
  by_cases ht:t < args.length
  . have e1:args.getD t .any=args[t]:=by simp [ht]
    obtain ⟨y,h1,h2⟩:=Wt hR (List.getElem?_eq_getElem ht)
    have e2:(vs.toArray ++ Array.replicate (N - vs.toArray.size) undef).getD t undef=y:=by
     have:t < vs.length:=by omega
     have h1':=(List.getElem?_eq_some_iff.1 h1).2
     simp [Array.getElem?_append,this,h1']
    rw [e1,e2];exact h2
  . have e1:args.getD t .any = .any:=by simp [List.getElem?_eq_none (Nat.le_of_not_lt ht)]
    rw [e1];simp only [R]
 simp only
 cases hq:lk t (YN 0 args)<;>rw [hq] at hFR hng<;>first | exact hFR | exact absurd rfl (hng _ _ _)
theorem Zyh {g:FuncId} {t N:Nat} {l:List Ins} {c:SC} (hF:RcF P g t l c N) {C:Cx} {E:Env} {σ : St} {a:Act} {w:World} (hS:Sim C E σ a w) (hm:C.m0<=σ.n) {caps:List SV} {vs:List Value} (hR:RL w E (ltn σ.n) (okS C E σ.hp) caps vs)
 {s:SV} {v:Value} (hv:R w E (ltn σ.n) (okS C E σ.hp) s v) {k:St->Prop} (hrun:rcR P t l c N caps s σ k) {u u':FrameMode} (hu:ZzD v u u') {R':Ending->FrameMode->World->Prop}
 (hk:∀ hp' n' E' w',k ⟨σ.fr,hp',n',σ.N,σ.gs⟩->Sim C E' ⟨σ.fr,hp',n',σ.N,σ.gs⟩ a w'->R' (.returned (.tuple #[])) u' w'):CallsD P g vs.toArray u w R':=by
 obtain ⟨fn,id,os,y0,o1,f1,f2,f3,f4,f5,f6,f7,f8,f9⟩:=hF.ex
 obtain ⟨hcl,hrun⟩:=hrun
 have hcl:=Nat.le_of_ble_eq_true hcl
 let C2:Cx:=⟨w,okS C E σ.hp,fun k b=>occ E k (lkh k σ.hp) b,[],none,E,σ.n⟩
 have hst:YA w w (okS C E σ.hp) (okS C2 E σ.hp):=fun b hb _=>⟨⟨.inl hb,hb.2⟩,rfl⟩
 have hin:=Zg4 hS []
 have hR2:RL w E (ltn σ.n) (okS C2 E σ.hp) caps vs:=Zx hst (fun _ _=>Ele.rfl) (fun _ h=>h) _ _ hR
 have hv2:R w E (ltn σ.n) (okS C2 E σ.hp) s v:=ZB hst (fun _ _=>Ele.rfl) (fun _ h=>h) _ _ hv
 have h0:Sim C2 E ⟨YN 0 caps,σ.hp,σ.n,N,[]⟩ { tmps:=vs.toArray ++ Array.replicate (N - vs.toArray.size) undef,defers:=[] } w:=ZkO hcl rfl hin.hs hR2
 have h1:Sim C2 E ⟨(t,s) :: YN 0 caps,σ.hp,σ.n,N,[]⟩ (Act.put { tmps:=vs.toArray ++ Array.replicate (N - vs.toArray.size) undef,defers:=[] } (some t) v) w :=
  Xe h0 (fun b hb _=>⟨hb,rfl⟩) (fun _ _=>Ele.rfl) (Nat.le_refl _) hin.hs (by simp) f8 (Vz hv) hv2
 let Q:Exit->Act->World->Prop:=fun e a2 w2=>(e = .normal\/e = .ret)/\∃ σ' E',k ⟨σ.fr,σ'.hp,σ'.n,σ.N,σ.gs⟩/\Sim C2 E' σ' a2 w2
 have hKQ:LkQ C2 (rcK σ k) Q:=fun e σ' hk' E' a' w' hs=>by
  cases e with
  | n=>exact ⟨.inl rfl,σ',E',hk',hs⟩
  | ret=>exact ⟨.inr rfl,σ',E',hk',hs⟩
  | ex i=>exact hk'.elim
  | pan s=>exact hk'.elim
 have hmc:MC C2 σ.n:=⟨Nat.le_refl _,fun j b ho=>by
  rcases Classical.em (ltn σ.n j) with hj | hj
  . exact hj
  . have ho':occ E j (lkh j σ.hp) b:=ho
    rw [hS.hs.kn j hj] at ho';exact ho'.elim⟩
 have hlist:=Zb1 (P:=P) (C:=C2) (Y:=Y0) UE (ops:=os) (Q:=Exit.then (wpX none P y0 Q) Q) (K:=Zbs (fxS (fun σ' K=>sx P Y0 σ.n c σ' K) (rcK σ k))) (fun e σ' hk' E' a' w' hs0=>by
  have hs:=YT hs0
  cases e with
  | n =>
   have hwp:=Yp c C2 Y0 σ.n y0 (W1 σ') (rcK σ k) Q E' a' w' hmc UE (.inl rfl) f6 hk' hKQ hs
   exact hwp
  | ret=>exact hKQ .ret _ hk' E' a' w' hs
  | ex i=>exact hk'.elim
  | pan s=>exact hk'.elim) l _ f5 _ E _ w hrun h1
 refine Zi3 (u':=u') (v:=v) f1 f2 f3 f4 hu (Q:=Q) (by rw [f7];exact hlist) (fun e a2 w2 hq=>⟨hq.1,?_⟩)
 obtain ⟨_,σ',E',hk',hs'⟩:=hq
 obtain ⟨ms,d1,d2,d3⟩:=hs'.df
 refine ⟨ms,by rw [d1];simp [C2],d2.1,fun m hm'=>(d3 m hm').2.2,fun w3 hu3=>?_⟩
 refine ⟨.tuple #[],by simp [results,f9],?_⟩
 have hs3:=XS hs' d3 hu3
 have hout:=Zdo hS hs3 rfl rfl rfl rfl rfl hm
 obtain ⟨g1,g2⟩:=ZdK (C:=C) hout.hs rfl rfl rfl rfl rfl
 have hpin:∀ j,j < σ.n->j < σ'.n/\Ele E E' j j:=fun j hj=>hs3.hs.pin j hj
 refine hk σ'.hp σ'.n E' w3 hk' (Z1 hS (fun b hb hsome=>?_) (fun j hj=>(hpin j hj).2) ?_ g1)
 . obtain ⟨b1,b2⟩:=hb
   have hlt:b < w.heap.size:=by
    rcases Nat.lt_or_ge b w.heap.size with q | q
    . exact q
    . rw [Array.getElem?_eq_none q] at hsome;cases hsome
   refine ⟨⟨b1,fun j ho=>?_⟩,?_⟩
   . rcases hs3.hs.lo j b ho with q | q
     . exact absurd hlt (Nat.not_lt.2 q)
     . exact b2 j q
   . exact hs3.hs.kp.block b hlt (fun j q=>b2 j q)
 . rcases Nat.lt_or_ge σ'.n σ.n with q | q
   . exact absurd (hpin σ'.n q).1 (Nat.lt_irrefl _)
   . exact q
theorem UI {fn:Func} {R':Ending->World->Prop}:∀ (b:FB) (C:Cx) (m:Nat) (code:Code) (σ : St) (K:Ex->St->Prop) (E:Env) (a:Act) (w:World),MC C m->C.rd=none->U3 P b code=true->fx P m b σ K->Sim C E σ a w ->
 (∀ e σ',K e σ'->∀ (C':Cx) E' a' w',C'.w0=C.w0->C'.okp=C.okp->C'.pass=C.pass->C'.e0=C.e0->C'.m0=C.m0->Sim C' E' σ' a' w'->match e with
  | .n | .ret=>Lv P fn a'.tmps R' C.ds .returning w'
  | .ex _=>False
  | .pan s=>∀ y,R w' E' (ltn σ'.n) (okS C' E' σ'.hp) s y->Lv P fn a'.tmps R' C.ds (.panicking [{ v:=y,recovered:=false }]) w') ->
 wpX none P code (Yj P fn R') a w
 | .tail c,C,m,code,σ,K,E,a,w,hm,hrd,hc,h,hS,hK=>by
  have hwp:=Yp c C Y0 m code σ K (Yj P fn R') E a w hm UE (.inl hrd) hc h (fun e σ' hk E' a' w' hs=>Vp hK e σ' hk E' a' w' hs) hS
  rw [hrd] at hwp;exact hwp
 | .seq x b,C,m,code,σ,K,E,a,w,hm,hrd,hc,h,hS,hK=>by
  cases code<;>simp [U3] at hc
  rename_i cx cy
  refine ZbY ?_
  have hwp:=Yp x C Y0 m cx σ (fxS (fx P m b) K) (Exit.then (wpX none P cy (Yj P fn R')) (Yj P fn R')) E a w hm UE (.inl hrd) hc.1 h (fun e σ' hk E' a' w' hs=>?_) hS
  . rw [hrd] at hwp;exact hwp
  cases e with
  | n=>exact UI b C m cy σ' K E' a' w' hm hrd hc.2 hk hs hK
  | ex i=>exact hk.elim
  | ret=>exact Vp hK .ret σ' hk E' a' w' hs
  | pan s=>exact Vp hK (.pan s) σ' hk E' a' w' hs
 | .dfr ops mx kx t b,C,m,code,σ,K,E,a,w,hm,hrd,hc,h,hS,hK=>by
  unfold U3 at hc
  split at hc
  case h_2=>cases hc
  rename_i id os cy
  simp only [Bool.and_eq_true] at hc
  obtain ⟨⟨hc1,hc2⟩,hc3⟩:=hc
  split at hc2
  case h_2=>cases hc2
  rename_i o ho
  have hos:os.toList=os.toList.take ops.length ++ [o]:=by rw [<- ho,List.take_append_drop]
  refine ZbY (XA ?_)
  rw [hos,<- hrd]
  refine ZhE (C:=C) (Q:=Exit.then (wpX C.rd P cy (Yj P fn R')) (Yj P fn R')) (os2:=[o]) UE (K:=Zbs (fxS (fun σ K=>Zy7 P t (fun n=>fx P n b) (mpO (rdG none σ.fr mx)) (vO (rdG none σ.fr kx)) σ K) K)) (fun σ0 E1 a1 w1 hk0 hs0=>?_)
   (fun s σ' E' a' w' y hk hs hy=>Vp hK (.pan s) (W1 σ') hk E' a' w' (YT hs) y (by rw [Zd3,Zb9];exact hy)) ops _ hc1 σ E a w h hS
  have hs:=YT hs0
  simp only [Zbs,fxS] at hk0
  generalize W1 σ0 = σ1 at hs hk0
  obtain ⟨ms,d1,d2,d3⟩:=hs.df
  unfold Zy7 at hk0
  split at hk0
  case h_2=>exact hk0.elim
  rename_i km kv hkm hkv
  obtain ⟨hlt,hfx⟩:=hk0
  have hlt:=Nat.le_of_ble_eq_true hlt
  have hmv:a1.tmps=a1.tmps/\evX a1 mx = .map (some (E1.β km)):=by
   have hR:=Yt hs.fr (g:=none) trivial mx
   cases hq:rdG none σ1.fr mx<;>rw [hq] at hkm<;>simp only [mpO,Option.some.injEq,reduceCtorEq] at hkm
   subst hkm
   rw [hq] at hR;simp only [R] at hR
   exact ⟨rfl,hR.2⟩
  have hkv':evX a1 kx=kv:=by
   have hR:=Yt hs.fr (g:=none) trivial kx
   cases hq:rdG none σ1.fr kx<;>rw [hq] at hkv<;>simp only [vO,Option.some.injEq,reduceCtorEq] at hkv
   subst hkv
   rw [hq] at hR;simp only [R] at hR
   exact hR
  have hmn:C.m0<=σ1.n:=by
   rcases Nat.lt_or_ge σ1.n C.m0 with q | q
   . exact absurd (hs.hs.pin σ1.n q).1 (Nat.lt_irrefl _)
   . exact q
  unfold Zx5 at hc2
  split at hc2
  case h_2=>cases hc2
  rename_i c hop hdst hgd
  simp only [Bool.and_eq_true] at hc2
  obtain ⟨⟨e1,e2⟩,e3⟩:=hc2
  split at e1
  case h_2=>cases e1
  rename_i hcal
  split at e2
  case h_2=>cases e2
  rename_i om ok hargs
  simp only [Bool.and_eq_true] at e2
  split at e3
  case h_2=>cases e3
  rename_i u hu
  have hut:u=t:=by simpa using e3
  subst hut
  have hca:c.args = #[om,ok]:=by apply Array.toList_inj.1;rw [hargs]
  rw [hrd]
  simp only [VQ,Region.wanted,hgd]
  simp only [if_true]
  have hrun:(o.semAt none a1.eval).run P w1 = .ok (.defer { target:=.builtin .delete c.argTypes o.type (c.args.map fun | .const _=>true | _=>false),args:=#[.map (some (E1.β km)),kv] }) w1:=by
   rw [Oper.semAt_none]
   obtain ⟨dst',op',ty',pos,after,guard⟩:=o
   simp only at hop;subst hop
   simp only [execOp,Sem.run_bind,resolve,hcal,Sem.run_pure,Result.andThen_ok,hca]
   simp only [List.map_toArray,List.map_cons,List.map_nil,Zf e2.1 a1,Zf e2.2 a1,hmv.2,hkv']
   cases om<;>cases ok<;>rfl
  show o.wpq none P a1 w1 _ _
  unfold Oper.wpq
  rw [hrun]
  simp only [Oper.uponX,hdst]
  show Exit.then _ _ .normal _ w1
  simp only [Exit.then]
  show wpX none P cy (Yj P fn R') { a1 with defers:=_ :: a1.defers } w1
  refine UI b _ σ1.n cy σ1 (dK P u km kv K) E1 _ w1 ⟨Nat.le_refl _,fun k b ho=>?_⟩ rfl hc3 hfx (Zg4 hs _) (fun e σ' hk C2 E' a' w' c1 c2 c3 c4 c5 hs'=>?_)
  . rcases Classical.em (ltn σ1.n k) with hk | hk
    . exact hk
    . have ho':occ E1 k (lkh k σ1.hp) b:=ho
      rw [hs.hs.kn k hk] at ho';exact ho'.elim
  have main:∀ (hb':HB),Zwy P u kv (lkh km σ'.hp) hb'->(∀ (C':Cx) E' a' w',C'.w0=C.w0->C'.okp=C.okp->C'.pass=C.pass->C'.e0=C.e0->C'.m0=C.m0->Sim C' E' ⟨σ'.fr,(km,hb') :: σ'.hp,σ'.n,σ'.N,σ'.gs⟩ a' w'->Lv P fn a'.tmps R' C.ds .returning w') ->
   Lv P fn a'.tmps R' ({ target:=.builtin .delete c.argTypes o.type (c.args.map fun | .const _=>true | _=>false),args:=#[.map (some (E1.β km)),kv] } :: a1.defers) .returning w':=fun hb' hdel hKK=>by
   obtain ⟨x,w2,hrun2,hs2,_⟩:=Zub hs' (ty:=o.type) (cc:=c.args.map fun | .const _=>true | _=>false) hu hdel
   have hβ : E'.β km=E1.β km:=by
    have:=(hs'.hs.pin km (by rw [c5];exact hlt)).2.1
    rw [c4] at this;exact this
   rw [hβ] at hrun2
   refine ⟨by simp,.inr (.inl ⟨.delete,c.argTypes,o.type,_,w2,x,rfl,hrun2,?_⟩)⟩
   rw [d1]
   have hsim:=Zdo hs hs2 c1 c2 c3 c4 c5 hmn
   have hmark:∀ m ∈ ms,C.w0.heap.size<=m/\okS C E' ((km,hb') :: σ'.hp) m/\w2.heap[m]? = some (.deferred (some [])):=fun m hm=>by
    obtain ⟨p1,p2,p3⟩:=d3 m hm
    have hlt':m < w1.heap.size:=(Array.getElem?_eq_some_iff.1 p3).1
    have hnp:∀ k,¬ C2.pass k m:=fun k hk=>by rw [c3] at hk;exact p2.2 k hk
    refine ⟨p1,⟨p2.1,fun k ho=>?_⟩,?_⟩
    . rcases hs2.hs.lo k m ho with g | g
      . rw [c1] at g;exact absurd hlt' (Nat.not_lt.2 g)
      . exact hnp k g
    . have:=hs2.hs.kp.block m (by rw [c1];exact hlt') hnp
      rw [c1] at this;rw [this];exact p3
   refine Xm ms _ _ (by simp) d2.1 (fun m hm=>(hmark m hm).2.2) fun w3 hu3=>?_
   exact hKK { C with ds:=a'.defers } E' a' w3 rfl rfl rfl rfl rfl (XS (C:={ C with ds:=a'.defers }) hsim hmark hu3)
  cases e with
  | ex i=>exact hk.elim
  | pan s=>exact hk.elim
  | n =>
   obtain ⟨hb',h1,h2⟩:=hk
   exact main hb' h1 (fun C' E' a' w' q1 q2 q3 q4 q5 q6=>hK .n _ h2 C' E' a' w' q1 q2 q3 q4 q5 q6)
  | ret =>
   obtain ⟨hb',h1,h2⟩:=hk
   exact main hb' h1 (fun C' E' a' w' q1 q2 q3 q4 q5 q6=>hK .ret _ h2 C' E' a' w' q1 q2 q3 q4 q5 q6)
 | .rcv ops cx b,C,m,code,σ,K,E,a,w,hm,hrd,hc,h,hS,hK=>by
  unfold U3 at hc
  split at hc
  case h_2=>cases hc
  rename_i id os cy
  simp only [Bool.and_eq_true] at hc
  obtain ⟨⟨hc1,hc2⟩,hc3⟩:=hc
  split at hc2
  case h_2=>cases hc2
  rename_i o ho
  have hos:os.toList=os.toList.take ops.length ++ [o]:=by rw [<- ho,List.take_append_drop]
  refine ZbY (XA ?_)
  rw [hos,<- hrd]
  refine ZhE (C:=C) (Q:=Exit.then (wpX C.rd P cy (Yj P fn R')) (Yj P fn R')) (os2:=[o]) UE (K:=Zbs (fxS (fun σ K=>Zzc P (fun n=>fx P n b) (rK P K) (rdG none σ.fr cx) σ) K)) (fun σ0 E1 a1 w1 hk0 hs0=>?_)
   (fun s σ' E' a' w' y hk hs hy=>Vp hK (.pan s) (W1 σ') hk E' a' w' (YT hs) y (by rw [Zd3,Zb9];exact hy)) ops _ hc1 σ E a w h hS
  have hs:=YT hs0
  simp only [Zbs,fxS] at hk0
  generalize W1 σ0 = σ1 at hs hk0
  obtain ⟨ms,d1,d2,d3⟩:=hs.df
  unfold Zzc at hk0
  split at hk0
  case h_2=>exact hk0.elim
  rename_i g caps hcl
  have hRx:=Yt hs.fr (g:=none) trivial cx
  rw [hcl] at hRx
  simp only [R] at hRx
  obtain ⟨cs,k1,k2⟩:=hRx
  have hmn:C.m0<=σ1.n:=by
   rcases Nat.lt_or_ge σ1.n C.m0 with q | q
   . exact absurd (hs.hs.pin σ1.n q).1 (Nat.lt_irrefl _)
   . exact q
  unfold Zq1 at hc2
  split at hc2
  case h_2=>cases hc2
  rename_i cc hop hdst hgd
  simp only [Bool.and_eq_true] at hc2
  obtain ⟨e1,e2⟩:=hc2
  split at e1
  case h_2=>cases e1
  rename_i y hcal
  have hca:cc.args = #[]:=by simpa using e2
  rw [hrd]
  simp only [VQ,Region.wanted,hgd]
  simp only [if_true]
  have hrun:(o.semAt none a1.eval).run P w1 = .ok (.defer { target:=.fn (.func g) cs,args:=#[] }) w1:=by
   rw [Oper.semAt_none]
   obtain ⟨dst',op',ty',pos,after,guard⟩:=o
   simp only at hop;subst hop
   simp [execOp,resolve,hcal,hca,Zf e1 a1,k1,Deferred.ofValue,Sem.run_bind,Sem.run_pure]
  show o.wpq none P a1 w1 _ _
  unfold Oper.wpq
  rw [hrun]
  simp only [Oper.uponX,hdst]
  show Exit.then _ _ .normal _ w1
  simp only [Exit.then]
  show wpX none P cy (Yj P fn R') { a1 with defers:=_ :: a1.defers } w1
  refine UI b _ σ1.n cy σ1 (rK P K g caps) E1 _ w1 ⟨Nat.le_refl _,fun k b ho=>?_⟩ rfl hc3 hk0 (Zg4 hs _) (fun e σ' hk C2 E' a' w' c1 c2 c3 c4 c5 hs'=>?_)
  . rcases Classical.em (ltn σ1.n k) with hk | hk
    . exact hk
    . have ho':occ E1 k (lkh k σ1.hp) b:=ho
      rw [hs.hs.kn k hk] at ho';exact ho'.elim
  have hpin:∀ j,j < σ1.n->j < σ'.n/\Ele E1 E' j j:=fun j hj=>by
   have:=hs'.hs.pin j (by rw [c5];exact hj)
   rw [c4] at this;exact this
  have hstC:YA w1 w' (okS C E1 σ1.hp) (okS C2 E' σ'.hp):=fun b hb q=>by
   have hlt:b < w1.heap.size:=by rcases q with ⟨cells,T,fz,hcell⟩ | ⟨es,c,hcell⟩<;>exact (Array.getElem?_eq_some_iff.1 hcell).1
   refine ⟨⟨.inl (by rw [c2];exact hb),fun j ho=>?_⟩,?_⟩
   . rcases hs'.hs.lo j b ho with q | q
     . rw [c1] at q;exact absurd hlt (Nat.not_lt.2 q)
     . rw [c3] at q;exact hb.2 j q
   . have:=hs'.hs.kp.block b (by rw [c1];exact hlt) (fun j q=>by rw [c3] at q;exact hb.2 j q)
     rw [c1] at this;exact this
  have hcaps:RL w' E' (ltn σ'.n) (okS C2 E' σ'.hp) caps cs.toList:=Zx hstC (fun j hj=>(hpin j hj).2) (fun j hj=>(hpin j hj).1) _ _ k2
  have fin:∀ (kk:St->Prop) (eK:Ex) (heK:eK = .n\/eK = .ret),(∀ σ,kk σ->K eK σ)->∀ hp' n' E3 w3,kk ⟨σ'.fr,hp',n',σ'.N,σ'.gs⟩->Sim C2 E3 ⟨σ'.fr,hp',n',σ'.N,σ'.gs⟩ a' w3->Lv P fn a'.tmps R' a1.defers .returning w3:=fun kk eK heK hkk hp' n' E3 w3 hq hs2=>by
   rw [d1]
   have hsim:=Zdo hs hs2 c1 c2 c3 c4 c5 hmn
   have hmark:∀ m ∈ ms,C.w0.heap.size<=m/\okS C E3 hp' m/\w3.heap[m]? = some (.deferred (some [])):=fun m hm=>by
    obtain ⟨p1,p2,p3⟩:=d3 m hm
    have hlt':m < w1.heap.size:=(Array.getElem?_eq_some_iff.1 p3).1
    have hnp:∀ k,¬ C2.pass k m:=fun k hk=>by rw [c3] at hk;exact p2.2 k hk
    refine ⟨p1,⟨p2.1,fun k ho=>?_⟩,?_⟩
    . rcases hs2.hs.lo k m ho with g | g
      . rw [c1] at g;exact absurd hlt' (Nat.not_lt.2 g)
      . exact hnp k g
    . have:=hs2.hs.kp.block m (by rw [c1];exact hlt') hnp
      rw [c1] at this;rw [this];exact p3
   refine Xm ms _ _ (by simp) d2.1 (fun m hm=>(hmark m hm).2.2) fun w4 hu4=>?_
   rcases heK with rfl | rfl
   . exact hK .n _ (hkk _ hq) { C with ds:=a'.defers } E3 a' w4 rfl rfl rfl rfl rfl (XS (C:={ C with ds:=a'.defers }) hsim hmark hu4)
   . exact hK .ret _ (hkk _ hq) { C with ds:=a'.defers } E3 a' w4 rfl rfl rfl rfl rfl (XS (C:={ C with ds:=a'.defers }) hsim hmark hu4)
  have hm2:C2.m0<=σ'.n:=by
   rw [c5]
   rcases Nat.lt_or_ge σ'.n σ1.n with q | q
   . exact absurd (hpin σ'.n q).1 (Nat.lt_irrefl _)
   . exact q
  have main:∀ (s:SV) (v:Value) (u u':FrameMode) (eK:Ex),(eK = .n\/eK = .ret)->R w' E' (ltn σ'.n) (okS C2 E' σ'.hp) s v->ZzD v u u'->(∃ t l c N,RcF P g t l c N/\rcR P t l c N caps s σ' (K eK)) ->
   Lv P fn a'.tmps R' ({ target:=.fn (.func g) cs,args:=#[] } :: a1.defers) u w':=fun s v u u' eK heK hv hu hex=>by
   obtain ⟨t,l,c,N,hF,hrun⟩:=hex
   have hset:u≠.run/\settle u' = .returning:=by
    rcases hu with ⟨rfl,rfl,rfl⟩ | ⟨rfl,rfl⟩
    . exact ⟨by simp,rfl⟩
    . exact ⟨by simp,rfl⟩
   refine ⟨hset.1,.inr (.inr ⟨.func g,cs,g,cs,rfl,by simp [invoke,YK hF.bd],?_⟩)⟩
   have hcalls:=Zyh hF hs' hm2 hcaps hv hrun hu (R':=fun e u'' w''=>match e with
    | .returned _=>Lv P fn a'.tmps R' a1.defers (settle u'') w''
    | .panicked chain=>Lv P fn a'.tmps R' a1.defers (raised u'' chain) w''
    | .outgrown=>R' .outgrown w'') (fun hp' n' E3 w3 hq hs3=>by
    show Lv P fn a'.tmps R' a1.defers (settle u') w3
    rw [hset.2]
    exact fin (K eK) eK heK (fun _ h=>h) hp' n' E3 w3 hq hs3)
   rw [show cs.toList.toArray=cs from rfl] at hcalls
   intro c₀ cs0 hc0
   obtain ⟨e2,u2,w2,fr2,q1,q2,q3,q4⟩:=hcalls c₀ cs0 hc0
   refine ⟨e2,u2,w2,fr2,?_,q2,q3,q4⟩
   cases e2<;>exact q1
  cases e with
  | ex i=>exact hk.elim
  | n=>exact main _ _ _ _ .n (.inl rfl) (by simp only [R]) (.inl ⟨rfl,rfl,rfl⟩) hk
  | ret=>exact main _ _ _ _ .ret (.inr rfl) (by simp only [R]) (.inl ⟨rfl,rfl,rfl⟩) hk
  | pan s=>intro y hy;exact main s y _ _ .ret (.inr rfl) hy (.inr ⟨rfl,rfl⟩) hk
theorem Zdy {f:FuncId} {fn:Func} {code:Code} {fb:FB} {args:List SV} {N n0 m:Nat} {hp0:List (Nat × HB)} {C:Cx} {E:Env} {w:World} {vs:List Value} {K:Ex->St->Prop} {R':Ending->World->Prop}
 (hf:P.funcs[f]? = some fn) (hb:fn.body=some code) (hc:U3 P fb code=true) (hN:fn.ntmps=N) (hA:args.length<=N) (hds:C.ds=[]) (hrd:C.rd=none) (hm:MC C m)
 (hH:HSim C E hp0 (ltn n0) w) (hR:RL w E (ltn n0) (okS C E hp0) args vs) (h:fx P m fb ⟨YN 0 args,hp0,n0,N,[]⟩ K)
 (hK:∀ e σ,K e σ->∀ C' E a w',C'.w0=C.w0->C'.okp=C.okp->C'.pass=C.pass->C'.e0=C.e0->C'.m0=C.m0->Sim C' E σ a w'->match e with
  | .n | .ret=>∃ v,(results fn a.tmps).run P w' = .ok v w'/\R' (.returned v) w'
  | .ex _=>False
  | .pan s=>∀ y,R w' E (ltn σ.n) (okS C' E σ.hp) s y->R' (.panicked [{ v:=y,recovered:=false }]) w'):Calls P f vs.toArray w R':=by
 have hlen:=Zw hR
 have hng:∀ t j b s,lk t (YN 0 args)≠.gd j b s:=by
  intro t j b s ht
  simp only [Vl,Nat.zero_le,if_true,Nat.sub_zero] at ht
  by_cases htl:t < args.length
  . have e1:args.getD t .any=args[t]:=by simp [htl]
    obtain ⟨y,h1,h2⟩:=Wt hR (List.getElem?_eq_getElem htl)
    rw [e1] at ht;rw [ht] at h2;simp only [R] at h2
  . have e1:args.getD t .any = .any:=by simp [List.getElem?_eq_none (Nat.le_of_not_lt htl)]
    rw [e1] at ht;cases ht
 have hS:Sim C E ⟨YN 0 args,hp0,n0,N,[]⟩ { tmps:=vs.toArray ++ Array.replicate (fn.ntmps - vs.toArray.size) undef,defers:=[] } w:=by
  refine ⟨fun t=>?_,by simp [hN];omega,by rw [<- hds];exact Uw,fun t j b s ht=>absurd ht (hng t j b s),hH⟩
  have hng:=hng t
  have hFR:R w E (ltn n0) (okS C E hp0) (lk t (YN 0 args)) ((vs.toArray ++ Array.replicate (fn.ntmps - vs.toArray.size) undef).getD t undef):=by
   simp only [Vl,Nat.zero_le,if_true,Nat.sub_zero]
   by_cases ht:t < args.length
   . have e1:args.getD t .any=args[t]:=by simp [ht]
     obtain ⟨y,h1,h2⟩:=Wt hR (List.getElem?_eq_getElem ht)
     have e2:(vs.toArray ++ Array.replicate (fn.ntmps - vs.toArray.size) undef).getD t undef=y:=by
      have:t < vs.length:=by omega
      have h1':=(List.getElem?_eq_some_iff.1 h1).2
      simp [Array.getElem?_append,this,h1']
     rw [e1,e2];exact h2
   . have e1:args.getD t .any = .any:=by simp [List.getElem?_eq_none (Nat.le_of_not_lt ht)]
     rw [e1];simp only [R]
  simp only
  cases hq:lk t (YN 0 args)<;>rw [hq] at hFR hng<;>first | exact hFR | exact absurd rfl (hng _ _ _)
 refine W6 hf hb ?_
 refine UI fb C m code _ K E _ w hm hrd hc h hS (fun e σ hk C' E a w' c1 c2 c3 c4 c5 hs=>?_)
 have key:=hK e σ hk C' E a w' c1 c2 c3 c4 c5 hs
 rw [hds]
 cases e with
 | ex i=>exact key
 | n=>exact key
 | ret=>exact key
 | pan s=>exact key
theorem ZfR {f:FuncId} {fn:Func} {code:Code} {fb:FB} {args:List SV} {rs:List RV} {N n0:Nat} {hp0:List (Nat × HB)} {Zs:Ot->Prop} (hf:P.funcs[f]? = some fn) (hb:fn.body=some code) (hc:U3 P fb code=true)
 (hr:YQ P rs fn.results.toList=true) (hN:fn.ntmps=N) (hA:args.length<=N) (h:fx P n0 fb ⟨YN 0 args,hp0,n0,N,[]⟩ (Wd rs Zs)):CtY P Y0 f hp0 n0 args Zs:=by
 intro C E w vs d1 d2 d3 d4 d5 d6 hY hH hR
 refine Zdy hf hb hc hN hA d3 d2 ⟨Nat.le_of_eq d5,d6⟩ hH hR h fun e σ hk C' E' a w' c1 c2 c3 c4 c5 hs=>?_
 obtain ⟨g1,g2⟩:=ZdK hs.hs c1 c2 c3 c4 c5
 have hend:ZqR Zs σ.hp σ.n (rvE (Zdh σ rs))->∃ v,(results fn a.tmps).run P w' = .ok v w'/\∃ o E' y,Zs o/\HSim C E' o.hp (ltn o.n) w'/\R w' E' (ltn o.n) (okS C E' o.hp) o.res y/\Ending.returned v=ZtA o.pn y:=fun hrr=>by
  cases hq:rvE (Zdh σ rs) with
  | none=>rw [hq] at hrr;exact hrr.elim
  | some s =>
   rw [hq] at hrr
   obtain ⟨v,h1,h2⟩:=VD (P:=P) (fn:=fn) (a:=a) (w:=w') (E:=E') (n:=ltn σ.n) (ok:=okS C' E' σ.hp) hq fun l hl=>Zdk hs rs _ l hr hl
   rw [g2] at h2
   exact ⟨v,h1,_,E',v,hrr,g1,h2,rfl⟩
 cases e with
 | ex i=>exact hk.elim
 | n=>exact hend hk
 | ret=>exact hend hk
 | pan s=>intro y hy;rw [g2] at hy;exact ⟨_,E',y,hk,g1,hy,rfl⟩
theorem Zgo {f:FuncId} {fn:Func} {code:Code} {fb:FB} {args:List SV} {rs:List RV} {N n0:Nat} {hp0:List (Nat × HB)} {Zs:Ot->Prop} (hf:P.funcs[f]? = some fn) (hb:fn.body=some code) (hnm:ZW P f=true) (hc:U3 P fb code=true)
 (hr:YQ P rs fn.results.toList=true) (hN:fn.ntmps=N) (hA:args.length<=N) (hh:hpb n0 hp0) (hx:∀ o,Zs o->KX o.res/\KXP o.hp) (h:fx P n0 fb ⟨YN 0 args,hp0,n0,N,[]⟩ (Wd rs fun o=>∃ o',Zs o'/\Ws n0 o o')):CtM P f hp0 n0 args Zs :=
 ⟨hnm,hh,hx,(ZfR hf hb hc hr hN hA h).mono fun _ h=>h⟩
end
theorem ZcM {m:Nat} {σ : St} (t:Nat) {s':SV} (hg:σ.gs=[]) (hw:ZaT (lk t σ.fr) s') (h2:∀ j b u,s'≠.gd j b u):Ent m σ ⟨(t,s') :: σ.fr,σ.hp,σ.n,σ.N,σ.gs⟩:=fun C E a w hmc h=>by
 have hR0:∀ u,R w E (ltn σ.n) (okS C E σ.hp) (lk u σ.fr) (a.tmps.getD u undef):=fun u=>Zq4 (h.fr u) (fun j b u' e=>by have:=h.gs u j b u' e;rw [hg] at this;simp at this)
 have g2:Zt w w (okS C E σ.hp) (okS C E σ.hp):=fun b hb _=>⟨hb,rfl⟩
 refine ⟨E,fun u=>?_,h.sz,h.df,fun u j b s hu=>?_,h.hs⟩
 . rw [Zu]
   split
   . rename_i hu;subst hu
     have:=hw _ _ _ _ _ (hR0 u)
     cases s'<;>first | exact this | exact absurd rfl (h2 _ _ _)
   . refine Xc g2 (fun _ _=>Ele.rfl) (fun k hk=>hk) (fun j b s hs=>?_) (h.fr u)
     have:=h.gs u j b s hs;rw [hg] at this;simp at this
 . rw [Zu] at hu
   split at hu
   . exact absurd hu (h2 _ _ _)
   . exact h.gs u j b s hu
end Go.Sx
namespace Go.Proofs.Ythilckbkffjliaa
open Go Go.Sx
def c73:FB:=(.seq (.reg [
 o1 4 (.box (.t 1) 0 50),
 o1 6 (.alloc [.int .u8 0] 5)])
 (.rcv [
 o1 7 (.mkf 106 [.t 6])] (.t 7)
 (.tail (.seq (.reg [
 m1 8 2,
 m1 9 0,
 o1 10 (.ld (.t 4) 8 true),
 o1 11 (.calvm (.t 8) [.t 9,.t 10])])
 (.seq (.reg [
 ⟨none,.st (.t 6) (.c (.int .u8 0)) 1,none,[]⟩])
 .ret)))))
def r73:List RV:=[.cell 6 1 false]
theorem n73:Try.f73.ntmps=12:=by kernel_rfl
theorem b73:ZW Try.prog 73=true:=by kernel_rfl
theorem ZyQ:U3 Try.prog c73 ((Try.f73.body).getD .skip)=true:=by kernel_rfl
theorem Zze:YQ Try.prog r73 Try.f73.results.toList=true:=by kernel_rfl
theorem m73 {n0:Nat} {hp0:List (Nat × HB)} {args:List SV} {Zs:Ot->Prop} (hh:hpb n0 hp0) (hx:∀ o,Zs o->KX o.res/\KXP o.hp) (h:fx Try.prog n0 c73 ⟨YN 0 args,hp0,n0,12,[]⟩ (Wd r73 fun o=>∃ o',Zs o'/\Ws n0 o o')) (hA:Nat.ble args.length 12=true:=by rfl):CtM Try.prog 73 hp0 n0 args Zs:=Zgo Try.func73 rfl b73 ZyQ Zze n73 (Nat.le_of_ble_eq_true hA) hh hx h
def l106:List Ins:=[
]
def k106:SC:=(.block 0 (sr1 [
 o1 6 (.raw (Go.Op.binOp Go.BinOp.eql 20 (Go.Operand.tmp 4) (Go.Operand.const Go.Value.nilIface) 20) 4)]
 (.cond (.t 6)
 (.reg [
  m1 1 4])
 (sr1 [
  o1 7 (.raw (Go.Op.typeAssert (Go.Operand.tmp 4) 20 145 Bool.true) 0),
  o1 8 (.ext (.t 7) 1),
  o1 9 (.ext (.t 7) 0)]
  (.cond (.t 8)
  (sr1 [
   m1 2 9]
   (.reg [
   m1 10 2,
   ⟨none,.st (.t 0) (.t 10) 1,none,[]⟩]))
  (sr1 [
   m1 3 4]
   (.reg [
   m1 5 3,
   ⟨none,.raw (Go.Op.panic (Go.Operand.tmp 5)) 0,none,[]⟩])))))))
theorem q106:RcF Try.prog 106 4 l106 k106 11:=⟨⟨Try.f106,_,_,_,_,Try.func106,rfl,rfl,by kernel_rfl,by kernel_rfl,by kernel_rfl,by kernel_rfl,by decide,rfl⟩,by kernel_rfl⟩
open Go.Azalai
theorem u20:Try.prog.underlying 20=some (.interface (Try.prog.methodsAt 20)):=by kernel_rfl
def ZgU (w:Int) (p:Pact) (b:Bks):Ot:=⟨false,U8 w,bH p b,6⟩
theorem XJ {p:Pact} {b:Bks} {x:Letter} {f:FuncId} {Rl:Bks->Prop} (hf:CtM Try.prog f (bH p b) 6 [.p 5 0,.agg (Zb x)] (fun o=>∃ b',Rl b'/\o=Ya p b')) :
 CtM Try.prog 73 (bH p b) 6 [.p 5 0,.agg (Zb x),.cl f []] (fun o=>∃ b',Rl b'/\o=ZgU 0 p b'):=by
 refine m73 (by simp [hpb,bH]) (fun o ho=>by obtain ⟨b',-,rfl⟩:=ho;exact ⟨by simp [ZgU,KX],XE p b'⟩) ?_
 dsimp only [c73,r73,bH,Zb,go_sem,rA,rM,rS]
 refine Zp [0,1,2,3,4,5] hf rfl rfl rfl ?_ ?_ ?_
 . (repeat first | dsimp only [bH,go_sem,rA,rM,rS] | simp only [nbr])
   try simp [mtL,mtB,mtS,Zb]
 . (repeat first | dsimp only [bH,go_sem,rA,rM,rS] | simp only [nbr])
   try simp [Zg,Zq,ZD,ZL,Za,Zb,Zc,KFL,KF]
 rintro _ ⟨b',hb',rfl⟩
 (repeat first | dsimp only [Ya,bH,go_sem,rA,rM,rS] | simp only [nbr])
 refine ⟨_,_,_,_,q106,?_⟩
 dsimp only [l106,k106,go_sem,rA,rM,rS]
 refine ⟨rfl,?_⟩
 refine Zij u20 rfl ?_
 dsimp only [go_sem,rA,rM,rS]
 refine ZK rfl ?_
 dsimp only [go_sem,rA,rM,rS]
 refine ⟨_,⟨b',hb',rfl⟩,?_⟩
 try simp only [ZgU,bH]
 (refine Zm ?_ ?_ ?_ rfl<;>dsimp only [Zg,Zq,ZD,ZL,Za,id,go_sem,rA,rM,rS]<;>simp [Zg,Zq,ZD,ZL,Za,Zc,Ze,KFR,KFL,KF,Zd,mtO,nbr])
theorem XP {p:Pact} {b:Bks} {x:Letter} {f:FuncId} {w:Int} (hf:CtM Try.prog f (bH p b) 6 [.p 5 0,.agg (Zb x)] (fun o=>o=Z6 w p b)) :
 CtM Try.prog 73 (bH p b) 6 [.p 5 0,.agg (Zb x),.cl f []] (fun o=>o=ZgU w p b):=by
 refine m73 (by simp [hpb,bH]) (fun o ho=>by subst ho;exact ⟨by simp [ZgU,KX],XE p b⟩) ?_
 dsimp only [c73,r73,bH,Zb,go_sem,rA,rM,rS]
 refine Zp [0,1,2,3,4,5] hf rfl rfl rfl ?_ ?_ ?_
 . (repeat first | dsimp only [bH,go_sem,rA,rM,rS] | simp only [nbr])
   try simp [mtL,mtB,mtS,Zb]
 . (repeat first | dsimp only [bH,go_sem,rA,rM,rS] | simp only [nbr])
   try simp [Zg,Zq,ZD,ZL,Za,Zb,Zc,KFL,KF]
 rintro _ rfl
 (repeat first | dsimp only [Z6,bH,go_sem,rA,rM,rS] | simp only [nbr])
 refine ⟨_,_,_,_,q106,?_⟩
 dsimp only [l106,k106,go_sem,rA,rM,rS]
 refine ⟨rfl,?_⟩
 refine Zn1 u20 rfl ?_
 dsimp only [go_sem,rA,rM,rS]
 refine Zz rfl ?_
 dsimp only [go_sem,rA,rM,rS]
 refine Zd5 ZeT rfl ?_
 dsimp only [go_sem,rA,rM,rS]
 refine ZK rfl ?_
 dsimp only [go_sem,rA,rM,rS]
 refine ⟨_,rfl,?_⟩
 try simp only [ZgU,bH]
 (refine Zm ?_ ?_ ?_ rfl<;>dsimp only [Zg,Zq,ZD,ZL,Za,id,go_sem,rA,rM,rS]<;>simp [Zg,Zq,ZD,ZL,Za,Zc,Ze,KFR,KFL,KF,Zd,mtO,nbr])
def X1 (k:Int):FuncId:=if k=1 then 95 else if k=2 then 96 else if k=3 then 99 else if k=4 then 100 else if k=5 then 101 else if k=6 then 103 else if k=7 then 104 else 105
theorem Zq3 {p:Pact} {n:Nat} {c:Co} {b:Bks} (h:BkR n c b) (hn:n<=1000) (hp:ZH p=true) (x:Letter) (hx:Zh p x=true) :
 CtM Try.prog 73 (bH p b) 6 [.p 5 0,.agg (Zb x),.cl (X1 x.kind) []] (fun o=>∃ b',BkR (n+1) (Zn p c x).1 b'/\o=ZgU (Zn p c x).2 p b'):=by
 have hpp:(0<=p.hire/\p.hire<=1000)/\(0<=p.calf/\p.calf<=1000):=by
  simp only [ZH,Bool.and_eq_true,inR,decide_eq_true_eq] at hp
  omega
 have hv:∀ w,CtM Try.prog 73 (bH p b) 6 [.p 5 0,.agg (Zb x),.cl (X1 x.kind) []] (fun o=>o=ZgU w p b)->Zn p c x=(c,w)->CtM Try.prog 73 (bH p b) 6 [.p 5 0,.agg (Zb x),.cl (X1 x.kind) []] (fun o=>∃ b',BkR (n+1) (Zn p c x).1 b'/\o=ZgU (Zn p c x).2 p b'):=fun w hc he=>by
  rw [he]
  exact ⟨hc.bd,hc.hb,fun o ⟨b',_,ho⟩=>by subst ho;exact ⟨by simp [ZgU,KX],XE p b'⟩,fun C E w vs a1 a2 a3 a4 a5 a6 a7 a8 a9=>(hc.run C E w vs a1 a2 a3 a4 a5 a6 a7 a8 a9).mono fun e w' ⟨o,E',y,q1,q2⟩=>⟨o,E',y,⟨b,h.next,q1⟩,q2⟩⟩
 have hday:0<=x.day/\x.day<=100000:=by
  simp only [Zh,Bool.and_eq_true,inR,decide_eq_true_eq] at hx
  exact hx.1.2
 have hk:x.kind=1\/x.kind=2\/x.kind=3\/x.kind=4\/x.kind=5\/x.kind=6\/x.kind=7\/x.kind=8:=by
  apply Classical.byContradiction
  intro q
  simp only [not_or] at q
  simp [Zh,q] at hx
 rcases hk with hk | hk | hk | hk | hk | hk | hk | hk
 . have he:Zn p c x=({ c with result:=c.result+x.rials },0):=by simp [Zn,hk]
   have hr:inR 0 10000000 x.rials=true:=by
    simp only [Zh,hk,Bool.and_eq_true] at hx;simp at hx;exact hx.2.1
   rw [he,show X1 x.kind=95 from by simp [X1,hk]]
   exact XJ (Rl:=BkR (n+1) { c with result:=c.result+x.rials }) (Ztu h hn x hr)
 . have he:Zn p c x=({ c with result:=c.result - x.rials },0):=by simp [Zn,hk]
   have hr:inR 0 10000000 x.rials=true:=by
    simp only [Zh,hk,Bool.and_eq_true] at hx;simp at hx;exact hx.2.1
   rw [he,show X1 x.kind=96 from by simp [X1,hk]]
   exact XJ (Rl:=BkR (n+1) { c with result:=c.result - x.rials }) (Zn8 h hn x hr)
 . have hw:X1 x.kind=99:=by simp [X1,hk]
   cases hl:c.loans x.animal with
   | some l =>
    refine hv 1 ?_ (by simp [Zn,hk,hl])
    rw [hw];exact XP (Ziw h x hl)
   | none =>
    cases hd:c.dead x.animal with
    | true =>
     refine hv 2 ?_ (by simp [Zn,hk,hl,hd])
     rw [hw];exact XP (ZkX h x hl hd)
    | false =>
     rw [show Zn p c x=({ c with loans:=upd c.loans x.animal (some (x.who,x.day)) },0) from by simp [Zn,hk,hl,hd],hw]
     exact XJ (Rl:=BkR (n+1) { c with loans:=upd c.loans x.animal (some (x.who,x.day)) }) (Zmt h x hday hl hd)
 . have hw:X1 x.kind=100:=by simp [X1,hk]
   cases hl:c.loans x.animal with
   | none =>
    refine hv 3 ?_ (by simp [Zn,hk,hl])
    rw [hw];exact XP (Ztm h x hl)
   | some l =>
    rw [show Zn p c x=(ZE p c x.animal x.day l,0) from by simp [Zn,hk,hl],hw]
    exact XJ (Rl:=BkR (n+1) (ZE p c x.animal x.day l)) (Zmn h hn hpp.1 x hday hl)
 . have hw:X1 x.kind=101:=by simp [X1,hk]
   cases hd:c.dead x.animal with
   | true =>
    refine hv 2 ?_ (by simp [Zn,hk,hd])
    rw [hw];exact XP (Zkt h x hd)
   | false =>
    cases hl:c.loans x.animal with
    | none =>
     refine hv 3 ?_ (by simp [Zn,hk,hl,hd])
     rw [hw];exact XP (Zsf h x hd hl)
    | some l =>
     rw [show Zn p c x=({ ZE p c x.animal x.day l with dead:=upd c.dead x.animal true },0) from by simp [Zn,hk,hl,hd],hw]
     exact XJ (Rl:=BkR (n+1) { ZE p c x.animal x.day l with dead:=upd c.dead x.animal true }) (ZlU h hn hpp.1 x hday hd hl)
 . have hw:X1 x.kind=103:=by simp [X1,hk]
   have hr:0<=x.rials/\x.rials<=10000000:=by
    simp only [Zh,hk,Bool.and_eq_true] at hx;simp [inR] at hx;omega
   cases hd:c.known x.other with
   | true =>
    refine hv 4 ?_ (by simp [Zn,hk,hd])
    rw [hw];exact XP (Zf2 h x hd)
   | false =>
    cases hl:c.loans x.animal with
    | none =>
     refine hv 3 ?_ (by simp [Zn,hk,hl,hd])
     rw [hw];exact XP (Zwj h x hd hl)
    | some l =>
     rw [show Zn p c x=({ c with extra:=upd c.extra l.1 (c.extra l.1+(x.rials * p.calf).tdiv 1000),result:=c.result+(x.rials - (x.rials * p.calf).tdiv 1000),known:=upd c.known x.other true },0) from by simp [Zn,hk,hl,hd],hw]
     exact XJ (Rl:=BkR (n+1) { c with extra:=upd c.extra l.1 (c.extra l.1+(x.rials * p.calf).tdiv 1000),result:=c.result+(x.rials - (x.rials * p.calf).tdiv 1000),known:=upd c.known x.other true }) (ZlY h hn hpp.2 x hr hd hl)
 . have hw:X1 x.kind=104:=by simp [X1,hk]
   have hr:0<=x.rials/\x.rials<=10000000:=by
    simp only [Zh,hk,Bool.and_eq_true] at hx;simp [inR] at hx;omega
   rw [show Zn p c x=({ c with debts:=upd c.debts x.who (upd (c.debts x.who) x.other (c.debts x.who x.other+x.rials)) },0) from by simp [Zn,hk],hw]
   exact XJ (Rl:=BkR (n+1) { c with debts:=upd c.debts x.who (upd (c.debts x.who) x.other (c.debts x.who x.other+x.rials)) }) (Ztp h hn x hr)
 . have hw:X1 x.kind=105:=by simp [X1,hk]
   have hr:0<=x.rials/\x.rials<=10000000:=by
    simp only [Zh,hk,Bool.and_eq_true] at hx;simp [inR] at hx;omega
   by_cases hd:c.debts x.who x.other < x.rials
   . refine hv 5 ?_ (by simp [Zn,hk,hd])
     rw [hw];exact XP (Zhn h x hd)
   . rw [show Zn p c x=({ c with debts:=upd c.debts x.who (upd (c.debts x.who) x.other (c.debts x.who x.other - x.rials)) },0) from by simp [Zn,hk,hd],hw]
     exact XJ (Rl:=BkR (n+1) { c with debts:=upd c.debts x.who (upd (c.debts x.who) x.other (c.debts x.who x.other - x.rials)) }) (Zse h hn x hr hd)
end Go.Proofs.Ythilckbkffjliaa
namespace Go.Azalai
theorem ZjT {f:Nat->Int} {n:Nat}:ZM ((List.range (n+1)).map f)=ZM ((List.range n).map f)+f n:=by
 rw [List.range_succ,List.map_append,Vv];simp [ZM]
theorem Zf3 {α : Type} {f g:α->Int} {l:List α} (h:∀ x ∈ l,f x=g x):ZM (l.map f)=ZM (l.map g):=by rw [List.map_congr_left h]
theorem Zdz {f g:Nat->Int} {a:Nat} (h:∀ i,i≠a->f i=g i):∀ {n:Nat},a < n->ZM ((List.range n).map f)=ZM ((List.range n).map g)+(f a - g a)
 | 0,q=>by omega
 | n+1,q=>by
  rw [ZjT,ZjT]
  by_cases e:a=n
  . subst e
    rw [Zf3 (g:=g) fun i hi=>h i (by have:=List.mem_range.1 hi;omega)];omega
  . rw [Zdz h (n:=n) (by omega),h n (fun q=>e q.symm)];omega
theorem VG {p:Pact} {c:Co} {a d:Int} {l:Int × Int} (i:Nat):Z8 p (ZE p c a d l) i=if (i:Int)=a then 0 else Z8 p c i:=by
 simp only [Z8,ZE,upd]
 by_cases h:(i:Int)=a
 . simp [h]
 . simp [h]
theorem Uz {p:Pact} {c:Co} {a d who:Int} {l:Int × Int} (i:Nat):YB p (ZE p c a d l) who i=if (i:Int)=a then 0 else YB p c who i:=by
 simp only [YB,ZE,upd]
 by_cases h:(i:Int)=a
 . simp [h]
 . simp [h]
theorem Zcn {p:Pact} {c:Co} {a:Int} {l:Int × Int} (hl:c.loans a=some l) (h0:0<=a) (h1:a<=9999):ZaW p (ZE p c a p.ends l)=ZaW p c:=by
 have e:((a.toNat:Nat):Int)=a:=by omega
 have h2:=Zdz (f:=Z8 p c) (g:=Z8 p (ZE p c a p.ends l)) (a:=a.toNat) (fun i hi=>by rw [VG,if_neg (by omega)]) (n:=10000) (by omega)
 rw [VG,if_pos e] at h2
 have h3:Z8 p c a.toNat=p.hire * (p.ends - l.2):=by simp only [Z8,e,hl]
 rw [h3] at h2
 simp only [ZaW]
 rw [h2]
 simp only [ZE];omega
theorem Zcp {p:Pact} {c:Co} {a:Int} {l:Int × Int} (hl:c.loans a=some l) (h0:0<=a) (h1:a<=9999) (who:Int):ZaS p (ZE p c a p.ends l) who=ZaS p c who:=by
 have e:((a.toNat:Nat):Int)=a:=by omega
 have h2:=Zdz (f:=YB p c who) (g:=YB p (ZE p c a p.ends l) who) (a:=a.toNat) (fun i hi=>by rw [Uz,if_neg (by omega)]) (n:=10000) (by omega)
 rw [Uz,if_pos e] at h2
 have h3:YB p c who a.toNat=if l.1=who then p.hire * (p.ends - l.2) else 0:=by simp only [YB,e,hl]
 rw [h3] at h2
 simp only [ZaS]
 rw [h2]
 simp only [ZE,upd]
 by_cases q:who=l.1
 . rw [if_pos q,if_pos q.symm,q];omega
 . rw [if_neg q,if_neg fun h=>q h.symm];omega
structure EndI (p:Pact) (c0 c:Co):Prop where
 ok:CoOk p c
 er:ZaW p c=ZaW p c0
 ex:∀ w,ZaS p c w=ZaS p c0 w
 db:c.debts=c0.debts
theorem EndI.start {p:Pact} {c:Co} (h:CoOk p c):EndI p c c:=⟨h,rfl,fun _=>rfl,rfl⟩
theorem EndI.home {p:Pact} {c0 c:Co} (h:EndI p c0 c) {a:Int} {l:Int × Int} (hl:c.loans a=some l):EndI p c0 (ZE p c a p.ends l):=by
 have hb:=h.ok.inb a l hl
 exact ⟨h.ok.home,by rw [Zcn hl hb.1 hb.2,h.er],fun w=>by rw [Zcp hl hb.1 hb.2,h.ex],by simp only [ZE];exact h.db⟩
theorem Zct {p:Pact} {c:Co} (h:∀ a,c.loans a=none):ZaW p c=c.result:=by
 rw [ZaW,XD fun i _=>by simp only [Z8,h]];omega
theorem Zc7 {p:Pact} {c:Co} (h:∀ a,c.loans a=none) (w:Int):ZaS p c w=c.extra w:=by
 rw [ZaS,XD fun i _=>by simp only [YB,h]];omega
theorem EndI.done {p:Pact} {c0 c:Co} (h:EndI p c0 c) (hn:∀ a,c.loans a=none):c.result=ZaW p c0/\∀ w,c.extra w=ZaS p c0 w :=
 ⟨by rw [<- h.er,Zct hn],fun w=>by rw [<- h.ex,Zc7 hn]⟩
def Zk5 (p:Pact) (c:Co):Prop:=∀ w o,c.debts w o≠0->w ∈ ids p/\o ∈ ids p
theorem Zk5.co0 {p:Pact}:Zk5 p co0:=fun w o h=>absurd rfl h
theorem Zk5.step {p:Pact} {c:Co} (h:Zk5 p c) {x:Letter} (hx:Zh p x=true):Zk5 p (Zn p c x).1:=by
 intro w o hwo
 rw [ZiH.1,Zoq] at hwo
 have hk:x.kind=7\/x.kind=8->x.who ∈ ids p/\x.other ∈ ids p:=fun hk=>by
  simp only [Zh] at hx
  rcases hk with hk | hk<;>simp only [hk] at hx<;>simp [Ui] at hx<;>exact ⟨hx.2.1.1.1.1,hx.2.1.1.1.2⟩
 have hu:∀ (v:Int),(x.kind=7\/x.kind=8)->upd c.debts x.who (upd (c.debts x.who) x.other v) w o≠0->w ∈ ids p/\o ∈ ids p:=fun v k hv=>by
  simp only [upd] at hv
  split at hv
  . rename_i e1
    simp only [upd] at hv
    split at hv
    . rename_i e2
      rw [e1,e2];exact hk k
    . rw [<- e1] at hv;exact h _ _ hv
  . exact h _ _ hv
 split at hwo
 . rename_i k;exact hu _ (.inl k) hwo
 split at hwo
 . rename_i k;exact hu _ (.inr k.1) hwo
 . exact h _ _ hwo
theorem Zk5.run {p:Pact}:∀ {l:List Letter} {c:Co},Zk5 p c->(∀ x ∈ l,Zh p x=true)->Zk5 p (YX p c l)
 | [],_,h,_=>h
 | x :: l,c,h,hl=>by
  show Zk5 p (YX p (Zn p c x).1 l)
  exact Zk5.run (h.step (hl x (by simp))) fun y hy=>hl y (by simp [hy])
structure Stb (n i j:Nat) (l:List Nat):Prop where
 len:l.length=n
 at':l[j]? = some i
 lt:∀ p x,l[p]? = some x->p≠j->p<=i->x < i
 gt:∀ p,i < p->p < n->l[p]? = some p
structure Otb (n i:Nat) (l:List Nat):Prop where
 len:l.length=n
 lt:∀ p x,l[p]? = some x->p < i->x < i
 gt:∀ p,i<=p->p < n->l[p]? = some p
theorem Otb.start (n:Nat):Otb n 1 (List.range n):=by
 refine ⟨List.length_range,fun p x h hp=>?_,fun p h1 h2=>by simp [h2]⟩
 rw [List.getElem?_range (by have:=(List.getElem?_eq_some_iff.1 h).1;simpa using this)] at h
 cases h;exact hp
theorem Otb.into {n i:Nat} {l:List Nat} (h:Otb n i l) (hi:i < n):Stb n i i l:=⟨h.len,h.gt i (Nat.le_refl _) hi,fun p x hp h1 h2=>h.lt p x hp (by omega),fun p h1 h2=>h.gt p (by omega) h2⟩
theorem Stb.out {n i j:Nat} {l:List Nat} (h:Stb n i j l):Otb n (i+1) l:=by
 refine ⟨h.len,fun p x hp h1=>?_,fun p h1 h2=>h.gt p (by omega) h2⟩
 by_cases e:p=j
 . subst e;rw [h.at'] at hp;cases hp;omega
 . have:=h.lt p x hp e (by omega);omega
theorem Stb.step {n i j:Nat} {l:List Nat} (h:Stb n i j l) (hj:0 < j) (hji:j<=i) (hi:i < n):Stb n i (j - 1) (swp l j (j - 1)):=by
 have hl:=h.len
 have hg:=ZbH (l:=l) (i:=j) (j:=j - 1) (by omega) (by omega)
 refine ⟨by rw [ZhQ,hl],?_,fun p x hp h1 h2=>?_,fun p h1 h2=>?_⟩
 . rw [hg,if_neg (by omega),if_pos rfl,h.at']
 . rw [hg] at hp
   by_cases e:p=j
   . rw [if_pos e] at hp;exact h.lt _ _ hp (by omega) (by omega)
   . rw [if_neg e,if_neg h1] at hp;exact h.lt _ _ hp e h2
 . rw [hg,if_neg (by omega),if_neg (by omega),h.gt p h1 h2]
structure Dvd (amount:Int) (by':List Int):Prop where
 a0:0<=amount
 a1:amount<=90000000000
 n1:by'.length<=16
 b0:∀ x ∈ by',0<=x/\x<=100000000
 s0:0 < ZM by'
theorem Dvd.s1 {amount:Int} {by':List Int} (h:Dvd amount by'):ZM by'<=1600000000:=by
 have h1:=Zj0 (l:=by') (b:=100000000) fun x hx=>(h.b0 x hx).2
 have h2:=h.n1
 omega
theorem Dvd.mul {amount x:Int} {by':List Int} (h:Dvd amount by') (hx:0<=x/\x<=100000000):0<=amount * x/\amount * x<=9000000000000000000:=by
 have h1:amount * x<=90000000000 * x:=Int.mul_le_mul_of_nonneg_right h.a1 hx.1
 have h2:=Int.mul_nonneg h.a0 hx.1
 omega
theorem ZiZ {by':List Int} {i:Nat} (hi:i < by'.length):byF by' i=by'[i]:=by
 unfold byF;rw [List.getD_eq_getElem?_getD,List.getElem?_eq_getElem hi];rfl
theorem Dvd.part {amount:Int} {by':List Int} (h:Dvd amount by') {i:Nat} (hi:i < by'.length):0<=ZcQ amount by' i/\ZcQ amount by' i<=9000000000000000000:=by
 have hm:=h.mul (h.b0 _ (List.getElem_mem hi))
 have h0:=h.s0
 unfold ZcQ
 rw [ZiZ hi]
 refine ⟨Int.tdiv_nonneg hm.1 (by omega),?_⟩
 rw [Int.tdiv_eq_ediv_of_nonneg hm.1]
 have:=Int.ediv_le_self (ZM by') hm.1
 omega
end Go.Azalai
namespace Go.Proofs.Ythilckbkffjliaa
open Go Go.Sx Go.Azalai
theorem ZqC {amount:Int} {by':List Int} (h:Dvd amount by') {i:Nat} (hi:i < by'.length) (k:Bool):Ct Try.prog 82 [I (i:Int),.ps [I amount] 0,.ps [.sl k 1 (by'.map ZP)] 0,.ps [I (ZM by')] 0] (I (Zdj amount by' i)):=by
 refine t82.1 (by simp [Zc,ZP,KFL,KF]) (by simp [KFL,KF]) ?_
 have hb:=h.mul (h.b0 _ (List.getElem_mem hi))
 have hs:=h.s0
 dsimp only [c82,r82,go_sem,rA,rM,rS]
 refine ZF i hi rfl ?_
 dsimp only [ZP,go_sem,rA,rM,rS]
 rw [Zi (n:=amount * by'[i]) (by omega) (by omega)]
 refine ZzG (by omega) ?_
 dsimp only [go_sem,rA,rM,rS]
 simp [Zws,Zdj,ZiZ hi]
end Go.Proofs.Ythilckbkffjliaa
namespace Go.Azalai
end Go.Azalai
namespace Go.Proofs.Ythilckbkffjliaa
open Go Go.Sx Go.Azalai
theorem Dvd.of {p:Pact} (hp:ZH p=true) {r:Int} (h0:0<=r) (h1:r<=90000000000):Dvd r (p.partners.map (·.share))/\Dvd r (p.partners.map (·.put)):=by
 have hA:=WX hp
 have hP:Yl (-1) p.partners=true:=by
  simp only [ZH,Bool.and_eq_true] at hp;exact hp.1.1.2
 have hB:=(YD hP).2.2
 refine ⟨⟨h0,h1,by simp;omega,fun x hx=>?_,by omega⟩,⟨h0,h1,by simp;omega,fun x hx=>?_,by omega⟩⟩
 . obtain ⟨y,hy,rfl⟩:=List.mem_map.1 hx
   have:=hB y hy;omega
 . obtain ⟨y,hy,rfl⟩:=List.mem_map.1 hx
   have:=hB y hy;omega
end Go.Proofs.Ythilckbkffjliaa
namespace Go.Azalai
open Go.Sx
theorem WF {p:Pact} {l:List Letter} {c:Co} {j:Nat} (h:j < l.length):YX p c (l.take (j+1))=(Zn p (YX p c (l.take j)) l[j]).1:=by
 rw [List.take_succ_eq_append_getElem h,UK];rfl
theorem Zez {p:Pact} {l:List Letter} {c:Co} {j:Nat} (h:j < l.length):V3 p c (l.take (j+1))=V3 p c (l.take j) ++ [(Zn p (YX p c (l.take j)) l[j]).2]:=by
 rw [List.take_succ_eq_append_getElem h,Zex];rfl
end Go.Azalai
namespace Go.Proofs.Ythilckbkffjliaa
open Go Go.Sx Go.Azalai
def Zc4 (p:Pact):Ot:=⟨false,.p 6 0,[(1,.map [] 0),(2,.map [] 0),(3,.map [] 0),(4,.map [] 0),(5,.map [] 0),(6,.cells [.sl false 3 (p.partners.map Za),I p.calf,I p.hire,I p.ends,.mp 1,.mp 2,.mp 3,.mp 4,.mp 5,I 0] 103)],7⟩
theorem Zeq (p:Pact):CtM Try.prog 49 [] 0 [.agg (Zj p)] (fun o=>o=Zc4 p):=by
 refine m49 (by simp [hpb]) (fun o ho=>by subst ho;simp [Zc4,KX,KXL,KXP,KXH,Zc,KFL,KF,Za]) ?_
 dsimp only [c49,r49,Zj,go_sem,rA,rM,rS]
 refine Y6 rfl rfl rfl ?_
 dsimp only [go_sem,rA,rM,rS]
 refine Y6 rfl rfl rfl ?_
 dsimp only [go_sem,rA,rM,rS]
 refine Y6 rfl rfl rfl ?_
 dsimp only [go_sem,rA,rM,rS]
 refine Y6 rfl rfl rfl ?_
 dsimp only [go_sem,rA,rM,rS]
 refine Y6 rfl rfl rfl ?_
 dsimp only [go_sem,rA,rM,rS]
 refine ⟨_,rfl,?_⟩
 simp only [Zc4]
 (refine Zm ?_ ?_ ?_ rfl<;>dsimp only [Za,id,go_sem,rA,rM,rS]<;>simp [Za,Zc,Ze,KFR,KFL,KF,Zd,mtO,nbr])
def rsH (p:Pact) (b:Bks) (l:List Letter) (k:Bool):List (Nat × HB):=bH p b ++ [(6,.cells [.p 5 0] 87),(7,.cells [.sl k 8 (l.map Zb)] 38)]
theorem Zvp (p:Pact) (b:Bks) (l:List Letter) (k:Bool):CtM Try.prog 50 (bH p b) 6 [.p 5 0,.sl k 8 (l.map Zb)] (fun o=>o=⟨false,.cl 71 [.p 7 0,.p 6 0],rsH p b l k,8⟩):=by
 refine m50 (by simp [hpb,bH]) (fun o ho=>by subst ho;simp [rsH,bH,KX,KXL,KXP,KXH,Zc,KFL,KF,Za,Zb,Zq,ZD,ZL,Zg]) ?_
 dsimp only [c50,r50,bH,go_sem,rA,rM,rS]
 refine ⟨_,rfl,?_⟩
 simp only [rsH,bH]
 (refine Zm ?_ ?_ ?_ rfl<;>dsimp only [Zg,Zq,ZD,ZL,Za,Zb,id,go_sem,rA,rM,rS]<;>simp [Zg,Zq,ZD,ZL,Za,Zb,Zc,Ze,KFR,KFL,KF,Zd,mtO,nbr])
theorem Ze7 {k:Int} (hk:k=1\/k=2\/k=3\/k=4\/k=5\/k=6\/k=7\/k=8):∃ a b,Go.Sx.mget k ZA=some (a,b,X1 k):=by
 rcases hk with h | h | h | h | h | h | h | h<;>subst h<;>exact ⟨_,_,rfl⟩
theorem WM {p:Pact} {x:Letter} (hx:Zh p x=true):x.kind=1\/x.kind=2\/x.kind=3\/x.kind=4\/x.kind=5\/x.kind=6\/x.kind=7\/x.kind=8:=by
 apply Classical.byContradiction
 intro q
 simp only [not_or] at q
 simp [Zh,q] at hx
def u8L (w:Int):List SV:=[U8 w]
def ZcE (p:Pact) (l:List Letter):List (List SV):=(V3 p co0 l).map u8L
end Go.Proofs.Ythilckbkffjliaa
namespace Go.Azalai
open Go.Sx
structure EndB (p:Pact) (c0:Co) (b0:Bks) (M m:Nat) (c:Co) (b:Bks) (seen:List Nat):Prop where
 ei:EndI p c0 c
 bk:BkR m c b
 mm:m+b.loans.length<=M
 sn:∀ e ∈ b.loans,e.1 ∉ seen
 ck:b.cl=b0.cl
theorem EndB.step {p:Pact} {c0 c:Co} {b0 b:Bks} {M m:Nat} {seen:List Nat} (h:EndB p c0 b0 M m c b seen) (hp:0<=p.hire/\p.hire<=1000) (he:0<=p.ends/\p.ends<=100000) {e:Nat × Int × (Int × Int)} (hm:e ∈ b.loans) :
 c.loans e.2.1=some e.2.2/\EndB p c0 b0 M (m+1) (ZE p c e.2.1 p.ends e.2.2) (Y8 p c b e.2.1 p.ends e.2.2) (seen ++ [e.1]):=by
 have hg:mget e.2.1 b.loans=some e.2.2:=Zh5 h.bk.w1.kn hm
 have hl:c.loans e.2.1=some e.2.2:=by rw [<- h.bk.lo,hg]
 have hlen:=Zef (L:=b.loans) (k:=e.2.1) (by rw [hg];rfl)
 have h1:=h.mm
 refine ⟨hl,h.ei.home hl,h.bk.home hp hl he,by simp only [Y8];omega,fun x hx=>?_,h.ck⟩
 have hx':=(ZsX h.bk.w1.kn).1 hx
 simp only [List.mem_append,List.mem_singleton,not_or]
 refine ⟨h.sn x hx'.1,fun q=>hx'.2 ?_⟩
 have hn:=h.bk.w1.bn
 have:∀ {L:List (Nat × Int × (Int × Int))},(L.map (·.1)).Nodup->x ∈ L->e ∈ L->x.1=e.1->x=e:=by
  intro L
  induction L with
  | nil=>intro _ h;cases h
  | cons z l ih =>
   intro hn h1 h2 h3
   simp only [List.map_cons,List.nodup_cons] at hn
   rcases List.mem_cons.1 h1 with q1 | q1
   . rcases List.mem_cons.1 h2 with q2 | q2
     . rw [q1,q2]
     . exact absurd (List.mem_map.2 ⟨e,q2,by rw [<- h3,q1]⟩) hn.1
   . rcases List.mem_cons.1 h2 with q2 | q2
     . exact absurd (List.mem_map.2 ⟨x,q1,by rw [h3,q2]⟩) hn.1
     . exact ih hn.2 q1 q2 h3
 rw [this hn hx'.1 hm q]
theorem EndB.none {p:Pact} {c0 c:Co} {b0 b:Bks} {M m:Nat} {seen:List Nat} (h:EndB p c0 b0 M m c b seen) (hs:∀ e ∈ b.loans,e.1 ∈ seen):∀ a,c.loans a=none:=by
 have:b.loans=[]:=by
  cases hb:b.loans with
  | nil=>rfl
  | cons e l=>exact absurd (hs e (by simp [hb])) (h.sn e (by simp [hb]))
 intro a
 rw [<- h.bk.lo,this];rfl
end Go.Azalai
namespace Go.Proofs.Ythilckbkffjliaa
open Go Go.Sx Go.Azalai
end Go.Proofs.Ythilckbkffjliaa
namespace Go.Azalai
def rg {α : Type} (n:Nat) (f:Int->α):List α:=(List.range n).map fun k:Nat=>f (k:Int)
theorem Yg {α : Type} {n:Nat} {f:Int->α}:(rg n f).length=n:=by simp [rg]
theorem Um {α : Type} {n i:Nat} {f:Int->α} (h:i < n):(rg n f)[i]'(by rw [Yg];exact h)=f i:=by simp [rg]
theorem Zbw {α : Type} {n i:Nat} {f:Int->α} {v:α} (h:i < n):(rg n f).set i v=rg n (upd f i v):=by
 apply List.ext_getElem
 . simp [rg]
 . intro k h1 h2
   rw [List.getElem_set]
   simp only [rg,List.getElem_map,List.getElem_range,upd]
   by_cases hk:i=k
   . subst hk;simp
   . rw [if_neg hk,if_neg (by omega)]
def pp {α : Type} (p:Pact) (f:Int->α):List α:=p.partners.map fun x=>f x.id
theorem Xh {α : Type} {p:Pact} {f:Int->α}:(pp p f).length=p.partners.length:=by simp [pp]
theorem Zfe {α : Type} {p:Pact} {f:Int->α} {i:Nat} (h:i < p.partners.length):(pp p f)[i]'(by rw [Xh];exact h)=f p.partners[i].id:=by simp [pp]
theorem ZeG {α : Type} {p:Pact} (hn:(ids p).Nodup) {i:Nat} {f:Int->α} {v:α} (h:i < p.partners.length):(pp p f).set i v=pp p (upd f p.partners[i].id v):=by
 apply List.ext_getElem
 . simp [pp]
 . intro k h1 h2
   rw [List.getElem_set]
   simp only [pp,List.getElem_map,upd]
   have hk:k < p.partners.length:=by simpa [pp] using h2
   by_cases e:i=k
   . subst e;simp
   . rw [if_neg e,if_neg]
     intro q
     have:=List.pairwise_iff_getElem.1 (List.nodup_iff_pairwise_ne.1 hn)
     rcases Nat.lt_or_gt_of_ne e with g | g
     . exact this i k (by simpa [ids] using h) (by simpa [ids] using hk) g (by simpa [ids] using q.symm)
     . exact this k i (by simpa [ids] using hk) (by simpa [ids] using h) g (by simpa [ids] using q)
theorem XV {p:Pact} {who:Int} (h:who ∈ ids p):∃ i:Nat,∃ h:i < p.partners.length,Go.Proofs.Ythilckbkffjliaa.atF p who=(i:Int)/\p.partners[i].id=who:=by
 have key:∀ (l:List Partner) (k:Nat),who ∈ l.map (·.id)->∃ i:Nat,∃ h:i < l.length,Vq (fun x:Partner=>decide (x.id=who)) l k=((k+i:Nat):Int)/\l[i].id=who:=by
  intro l
  induction l with
  | nil=>intro k h;simp at h
  | cons x l ih =>
   intro k h
   simp only [Vq]
   by_cases hx:x.id=who
   . exact ⟨0,by simp,by simp [hx],by simpa using hx⟩
   . have hm:who ∈ l.map (·.id):=by
      simp only [List.map_cons,List.mem_cons] at h
      rcases h with h | h
      . exact absurd h.symm hx
      . exact h
     obtain ⟨i,hi,e1,e2⟩:=ih (k+1) hm
     refine ⟨i+1,by simpa using hi,?_,by simpa using e2⟩
     simp only [hx,decide_false]
     rw [show k+(i+1)=k+1+i from by omega,<- e1]
     rfl
 obtain ⟨i,hi,e1,e2⟩:=key p.partners 0 h
 exact ⟨i,hi,by simpa [Go.Proofs.Ythilckbkffjliaa.atF] using e1,e2⟩
def Ux (p:Pact) (c:Co) (a:Int):Int:=match c.loans a with
 | none=>-1
 | some l=>Go.Proofs.Ythilckbkffjliaa.atF p l.1
def ZaM (c:Co) (s:Int->Int):Prop:=∀ a l,c.loans a=some l->s a=l.2
def ddL (p:Pact) (d:Int->Int->Int):List (List Int):=pp p fun a=>pp p (d a)
theorem V5 {p:Pact} {d:Int->Int->Int}:(ddL p d).length=p.partners.length:=Xh
theorem Zkj {p:Pact} {d:Int->Int->Int} {i:Nat} (hi:i < p.partners.length):(ddL p d)[i]'(by rw [V5];exact hi)=pp p (d p.partners[i].id):=by simp [ddL,pp]
theorem ZkY {p:Pact} {d:Int->Int->Int} {i j:Nat} (hi:i < p.partners.length) (hj:j < p.partners.length) (h1:i < (ddL p d).length) (h2:j < ((ddL p d)[i]).length):(ddL p d)[i][j]=d p.partners[i].id p.partners[j].id:=by simp [ddL,pp]
theorem ZvD {p:Pact} (hn:(ids p).Nodup) {i j:Nat} {d:Int->Int->Int} {v:Int} (hi:i < p.partners.length) (hj:j < p.partners.length) :
 (ddL p d).set i ((pp p (d p.partners[i].id)).set j v)=ddL p (upd d p.partners[i].id (upd (d p.partners[i].id) p.partners[j].id v)):=by
 rw [ZeG hn hj]
 rw [ddL,ZeG hn hi,ddL]
 simp only [pp]
 refine List.map_congr_left fun x _=>?_
 simp only [upd]
 split<;>rfl
def Vs (p:Pact) (c:Co):Nat->Co
 | 0=>c
 | n+1=>match c.loans n with
  | none=>Vs p c n
  | some l=>ZE p (Vs p c n) n p.ends l
theorem Ub {p:Pact} {c:Co}:∀ {n:Nat} {a:Int},(Vs p c n).loans a=if 0<=a/\a < n then none else c.loans a
 | 0,a=>by simp only [Vs];rw [if_neg (by omega)]
 | n+1,a=>by
  simp only [Vs]
  split
  . rename_i h
    rw [Ub]
    by_cases ha:a=n
    . subst ha;rw [if_neg (by omega),if_pos (by omega),h]
    . by_cases q:0<=a/\a < n
      . rw [if_pos q,if_pos (by omega)]
      . rw [if_neg q,if_neg (by omega)]
  . simp only [ZE,upd]
    rw [Ub]
    by_cases ha:a=n
    . subst ha;rw [if_pos rfl,if_pos (by omega)]
    . rw [if_neg ha]
      by_cases q:0<=a/\a < n
      . rw [if_pos q,if_pos (by omega)]
      . rw [if_neg q,if_neg (by omega)]
theorem Ww {f:Nat->Int} {n:Nat}:ZM ((List.range (n+1)).map f)=ZM ((List.range n).map f)+f n:=by
 rw [List.range_succ,List.map_append,Vv];simp [ZM]
theorem ZbI {p:Pact} {c:Co}:∀ {n:Nat},(Vs p c n).result=c.result - ZM ((List.range n).map (Z8 p c))
 | 0=>by simp [Vs,ZM]
 | n+1=>by
  rw [Ww]
  simp only [Vs,Z8]
  cases h:c.loans n with
  | none=>simp only [];rw [ZbI];omega
  | some l=>simp only [ZE];rw [ZbI];omega
theorem UV {p:Pact} {c:Co} {who:Int}:∀ {n:Nat},(Vs p c n).extra who=c.extra who+ZM ((List.range n).map (YB p c who))
 | 0=>by simp [Vs,ZM]
 | n+1=>by
  rw [Ww]
  simp only [Vs,YB]
  cases h:c.loans n with
  | none=>simp only [];rw [UV];omega
  | some l =>
   simp only [ZE,upd]
   by_cases hw:who=l.1
   . subst hw;rw [if_pos rfl,if_pos rfl,UV];omega
   . rw [if_neg hw,if_neg (fun e=>hw e.symm),UV];omega
theorem Ug {p:Pact} {c:Co}:∀ {n:Nat},(Vs p c n).debts=c.debts
 | 0=>rfl
 | n+1=>by
  simp only [Vs]
  split
  . exact Ug
  . exact Ug
theorem Zag {ends:Int}:∀ {a b:List Letter} {seen:List Int},YO ends seen (a ++ b)=YO ends seen a ++ YO ends ((a.map (·.id)).reverse ++ seen) b
 | [],b,seen=>by simp [YO]
 | x :: a,b,seen=>by
  simp only [List.cons_append,YO,List.map_cons,List.reverse_cons,List.append_assoc,List.singleton_append]
  split
  . exact Zag
  . rw [Zag];rfl
def Xw (ends:Int) (a:List Letter) (x:Letter):Bool:=decide (x.day > ends) || a.any fun y=>decide (y.id=x.id)
theorem Zci {ends:Int} {l:List Letter} {i:Nat} (hi:i < l.length):YO ends [] (l.take (i+1))=YO ends [] (l.take i) ++ if Xw ends (l.take i) l[i]=true then [] else [l[i]]:=by
 rw [List.take_succ_eq_append_getElem hi,Zag]
 congr 1
 simp only [YO,List.append_nil,List.mem_reverse,List.mem_map,Xw,Bool.or_eq_true,decide_eq_true_eq,List.any_eq_true]
 by_cases h:(∃ a,a ∈ List.take i l/\a.id=l[i].id)\/l[i].day > ends
 . rw [if_pos h,if_pos (h.symm)]
 . rw [if_neg h,if_neg (fun q=>h q.symm)]
theorem ZfU {A B:List Letter} {x:Letter} (h:(A ++ B).Pairwise fun a b=>lt2 a b=true) (hB:∀ b ∈ B,lt2 x b=true) (hA:A=[]\/∃ A' a,A=A' ++ [a]/\lt2 x a=false) (hid:∀ y ∈ A ++ B,y.id≠x.id) :
 (A ++ x :: B).Pairwise fun a b=>lt2 a b=true:=by
 rw [List.pairwise_append] at h ⊢
 obtain ⟨h1,h2,h3⟩:=h
 refine ⟨h1,List.pairwise_cons.2 ⟨hB,h2⟩,fun a ha b hb=>?_⟩
 rcases List.mem_cons.1 hb with rfl | hb
 . rcases hA with rfl | ⟨A',z,rfl,hz⟩
   . cases ha
   . have hzx:lt2 z b=true:=(ZhT (hid z (by simp))).resolve_right (by rw [hz];decide)
     rcases List.mem_append.1 ha with ha | ha
     . rw [List.pairwise_append] at h1
       exact ZcG (h1.2.2 a ha z (by simp)) hzx
     . simp only [List.mem_singleton] at ha;subst ha;exact hzx
 . exact h3 a ha b hb
structure RdI (ends:Int) (l:List Letter) (i:Nat) (Q:List Letter):Prop where
 ord:Q.Pairwise fun a b=>lt2 a b=true
 mem:∀ y,y ∈ Q↔y ∈ YO ends [] (l.take i)
 len:Q.length<=i
theorem RdI.start {ends:Int} {l:List Letter}:RdI ends l 0 []:=⟨List.Pairwise.nil,fun y=>by simp [YO],Nat.le_refl _⟩
theorem RdI.skip {ends:Int} {l:List Letter} {i:Nat} {Q:List Letter} (h:RdI ends l i Q) (hi:i < l.length) (ht:Xw ends (l.take i) l[i]=true):RdI ends l (i+1) Q :=
 ⟨h.ord,fun y=>by rw [Zci hi,if_pos ht,List.append_nil];exact h.mem y,by have:=h.len;omega⟩
theorem RdI.ids {ends:Int} {l:List Letter} {i:Nat} {Q:List Letter} (h:RdI ends l i Q) (hi:i < l.length) (ht:Xw ends (l.take i) l[i]=false):∀ y ∈ Q,y.id≠l[i].id:=fun y hy e=>by
 have h1:=(Xy ((h.mem y).1 hy)).1
 simp only [Xw,Bool.or_eq_false_iff,List.any_eq_false,decide_eq_true_eq] at ht
 exact ht.2 y h1 e
structure RdS (Q:List Letter) (x:Letter) (k:Nat) (R:List Letter):Prop where
 ex:∃ A B,R=A ++ x :: B/\A ++ B=Q/\A.length=k/\∀ b ∈ B,lt2 x b=true
theorem RdS.start {Q:List Letter} {x:Letter}:RdS Q x Q.length (Q ++ [x]):=⟨Q,[],rfl,by simp,rfl,by simp⟩
theorem RdS.len {Q:List Letter} {x:Letter} {k:Nat} {R:List Letter} (h:RdS Q x k R):R.length=Q.length+1/\k<=Q.length:=by
 obtain ⟨A,B,rfl,rfl,rfl,_⟩:=h.ex
 constructor
 . simp only [List.length_append,List.length_cons];omega
 . simp only [List.length_append];omega
theorem RdS.at {Q:List Letter} {x:Letter} {k:Nat} {R:List Letter} (h:RdS Q x k R) (hk:k < R.length):R[k]=x:=by
 obtain ⟨A,B,rfl,rfl,rfl,_⟩:=h.ex
 simp
theorem RdS.swap {Q:List Letter} {x:Letter} {k:Nat} {R:List Letter} (h:RdS Q x (k+1) R) (hk:k+1 < R.length) (hlt:lt2 x (R[k]'(by omega))=true):RdS Q x k ((R.set (k+1) (R[k]'(by omega))).set k x):=by
 obtain ⟨A,B,rfl,hq,hl,hB⟩:=h.ex
 have hne:A≠[]:=by intro e;subst e;simp at hl
 obtain ⟨A',a,rfl⟩:∃ A' a,A=A' ++ [a]:=⟨A.dropLast,A.getLast hne,(List.dropLast_concat_getLast hne).symm⟩
 have hl':A'.length=k:=by simpa using hl
 have hg:((A' ++ [a]) ++ x :: B)[k]'(by omega)=a:=by
  subst hl'
  simp
 rw [hg] at hlt
 refine ⟨A',a :: B,?_,by rw [<- hq];simp,hl',fun b hb=>?_⟩
 . rw [hg]
   subst hl'
   simp only [List.append_assoc,List.singleton_append]
   rw [List.set_append_right _ _ (by omega),show A'.length+1 - A'.length=1 from by omega]
   simp only [List.set_cons_succ,List.set_cons_zero]
   rw [List.set_append_right _ _ (Nat.le_refl _),Nat.sub_self,List.set_cons_zero]
 . rcases List.mem_cons.1 hb with rfl | hb
   . exact hlt
   . exact hB b hb
theorem RdI.put {ends:Int} {l:List Letter} {i k:Nat} {Q R:List Letter} (h:RdI ends l i Q) (hi:i < l.length) (ht:Xw ends (l.take i) l[i]=false) (hs:RdS Q l[i] k R) (hk:k<=R.length) (hend:k=0\/∃ h:k - 1 < R.length,0 < k/\lt2 l[i] R[k - 1]=false):RdI ends l (i+1) R:=by
 obtain ⟨A,B,rfl,hq,hl,hB⟩:=hs.ex
 have hid:=h.ids hi ht
 refine ⟨ZfU (by rw [hq];exact h.ord) hB ?_ (by rw [hq];exact hid),fun y=>?_,?_⟩
 . rcases hend with h0 | ⟨h1,h2,h3⟩
   . left;exact List.eq_nil_of_length_eq_zero (by omega)
   . right
     have hne:A≠[]:=by intro e;subst e;simp at hl;omega
     refine ⟨A.dropLast,A.getLast hne,(List.dropLast_concat_getLast hne).symm,?_⟩
     have hg:(A ++ l[i] :: B)[k - 1]'h1=A.getLast hne:=by
      rw [List.getElem_append_left (by omega),List.getLast_eq_getElem]
      congr 1;omega
     rw [<- hg];exact h3
 . rw [Zci hi,ht,if_neg (by decide)]
   simp only [List.mem_append,List.mem_cons,List.mem_singleton,List.not_mem_nil,or_false]
   rw [<- h.mem,<- hq,List.mem_append]
   constructor
   . rintro (q | q | q)
     . exact .inl (.inl q)
     . exact .inr q
     . exact .inl (.inr q)
   . rintro ((q | q) | q)
     . exact .inl q
     . exact .inr (.inr q)
     . exact .inr (.inl q)
 . have:=h.len
   have e:=congrArg List.length hq
   simp only [List.length_append,List.length_cons] at e ⊢
   omega
theorem RdI.fin {p:Pact} {l:List Letter} {Q:List Letter} (h:RdI p.ends l l.length Q):Q=Yn p l :=
 ZbL h.ord Zia fun y=>by
  rw [h.mem,List.take_length,Yn,X0.mem_iff]
end Go.Azalai
namespace Go.Proofs.Ythilckbkffjliaa
open Go Go.Sx
def c77:SC:=(sr1 [
 o1 4 (.box (.t 0) 0 24),
 o1 5 (.box (.t 1) 0 95),
 o1 8 (.alloc zv1 95)]
 (.seq (.regd [0,1,2,3,4,5,6,7,8,9,10] [
 .op (o1 10 (ao 4 2)),
 .op (p1 11 (lf 10 1) [0]),
 .op (m1 12 3),
 .op (o1 13 (ao 5 1)),
 .op (p1 14 (lf 13 1) [3]),
 .op (m1 15 2),
 .op (p1 16 (.ixs (.t 14) (.t 15) 1) [4,5]),
 .op (p1 17 (lf 16 1) [6]),
 .op (p1 18 (.bin .sub (.t 12) (.t 17)) [2,7]),
 .op (p1 19 (.bin .mul (.t 11) (.t 18)) [1,8]),
 .op (p1 9 (.mv (.t 19)) [0,1,2,3,4,5,6,7,8,9])] 0 0 [
])
 (sr1 [
 o1 20 (ao 5 4),
 o1 21 (lf 20 1),
 m1 22 9,
 o1 23 (.bin .sub (.t 21) (.t 22)),
 o1 24 (ao 5 4),
 ⟨none,.st (.t 24) (.t 23) 1,none,[]⟩]
 (.seq (.regd [0,1,2,3,4,5,6,7,8,9,10,11,12] [
 .op (o1 25 (ao 5 5)),
 .op (p1 26 (lf 25 1) [0]),
 .op (o1 27 (ao 5 0)),
 .op (p1 28 (lf 27 1) [2]),
 .op (m1 29 2),
 .op (p1 30 (.ixs (.t 28) (.t 29) 1) [3,4]),
 .op (p1 31 (lf 30 1) [5]),
 .op (p1 32 (.ixs (.t 26) (.t 31) 1) [1,6]),
 .op (p1 33 (lf 32 1) [7]),
 .op (m1 34 9),
 .op (p1 35 (.bin .add (.t 33) (.t 34)) [8,9]),
 .op (p1 36 (.ixs (.t 26) (.t 31) 1) [0,1,2,3,4,5,6,7,8,9,10])] 0 1 [
 ⟨none,.st (.t 36) (.t 35) 1,none,[0,1,2,3,4,5,6,7,8,9,10,11]⟩])
 (sr1 [
 o1 37 (ao 5 0),
 o1 38 (lf 37 1),
 m1 39 2,
 o1 40 (.ixs (.t 38) (.t 39) 1),
 ⟨none,.st (.t 40) (.c (.int .i64 (-1))) 1,none,[]⟩]
 (sr1 [
 o1 41 (lt 5 7),
 ⟨none,.st (.t 8) (.t 41) 7,none,[]⟩]
 .ret))))))
def r77:List RV:=[.cell 8 7 true]
theorem n77:Try.f77.ntmps=42:=by kernel_rfl
theorem b77:ZW Try.prog 77=true:=by kernel_rfl
theorem ZyZ:Yx Try.prog c77 ((Try.f77.body).getD .skip)=true:=by kernel_rfl
theorem Zyn:YQ Try.prog r77 Try.f77.results.toList=true:=by kernel_rfl
theorem m77 {n0:Nat} {hp0:List (Nat × HB)} {args:List SV} {Zs:Ot->Prop} (hh:hpb n0 hp0) (hx:∀ o,Zs o->KX o.res/\KXP o.hp) (h:sx Try.prog Y0 n0 c77 ⟨YN 0 args,hp0,n0,42,[]⟩ (Wd r77 fun o=>∃ o',Zs o'/\Ws n0 o o')) (hA:Nat.ble args.length 42=true:=by rfl):CtM Try.prog 77 hp0 n0 args Zs:=Zr Try.func77 rfl b77 ZyZ Zyn n77 (Nat.le_of_ble_eq_true hA) hh hx h
def Zip:Ins:=o1 10 (.mks 1 8 [.int .i64 0] 3 (.c (.int .i64 10000)))
def Zjg:Ins:=o1 11 (.mks 1 8 [.int .i64 0] 3 (.c (.int .i64 10000)))
def Zh4:Ins:=o1 12 (.mks 1 1 [.bool false] 4 (.c (.int .i64 10000)))
def ZiN:Ins:=o1 13 (.mks 1 1 [.bool false] 4 (.c (.int .i64 10000)))
def Zhg:Ins:=m1 14 3
def Zhw:Ins:=⟨some 15,.mks 1 8 [.int .i64 0] 3 (.t 14),none,[4]⟩
def ZiT:Ins:=⟨some 16,.build zv1 [(0,1,.t 10),(1,1,.t 11),(2,1,.t 12),(3,1,.t 13),(5,1,.t 15)],none,[0,1,2,3,5]⟩
def ZkM:Ins:=o1 4 (.alloc zv1 95)
def Zig:Ins:=⟨none,.st (.t 4) (.t 16) 7,none,[0,1,2,3,4,5,6,7]⟩
attribute [go_sem] Zip Zjg Zh4 ZiN Zhg Zhw ZiT ZkM Zig
def Vh:List Ins:=[Zip,Zjg,Zh4,ZiN,Zhg,Zhw,ZiT,ZkM,Zig]
def ZgB:Ins:=o1 30 (.addo (.t 4) 6)
def Zgt:Ins:=⟨some 31,.ld (.t 30) 1 false,none,[0]⟩
def Zio:Ins:=m1 32 3
def Zjb:Ins:=⟨some 33,.mks 1 8 [.int .i64 0] 3 (.t 32),none,[2]⟩
def Zji:Ins:=⟨some 34,.bsl 1 27 [.t 33],none,[3]⟩
def Zvd:Ins:=⟨some 35,.raw (Go.Op.call { callee:=(Go.Callee.builtin Go.Builtin.append),args:=#[(Go.Operand.tmp 31),(Go.Operand.tmp 34)],argTypes:=#[93,93] }) 93,none,[1,4]⟩
def ZvT:Ins:=⟨some 36,.addo (.t 4) 6,none,[0,1,2,3,4,5]⟩
def ZrT:Ins:=⟨none,.st (.t 36) (.t 35) 1,none,[0,1,2,3,4,5,6]⟩
attribute [go_sem] ZgB Zgt Zio Zjb Zji Zvd ZvT ZrT
def Zcx:List Ins:=[ZgB,Zgt,Zio,Zjb,Zji,Zvd,ZvT,ZrT]
def c74:SC:=(sr1 [
 o1 1 (.box (.t 0) 0 24),
 o1 2 (.alloc zv1 95)]
 (sr1 [
 o1 7 (ao 1 0),
 o1 8 (lf 7 1),
 o1 9 (.len (.t 8)),
 m1 3 9]
 (.seq (.gh (.regl Vh))
 (.seq (sr1 [
 o1 5 (.mv (cn 0))]
 (.block 0 (.loop (.seq (sr1 [
  m1 17 5,
  o1 18 (.bin .leq (.t 17) (cn 9999))]
  (.cond (.t 18)
  .skip
  (.exit 0)))
  (.seq (.block 1 (.reg [
   o1 21 (ao 4 0),
   o1 22 (lf 21 1),
   m1 23 5,
   o1 24 (.ixs (.t 22) (.t 23) 1),
   ⟨none,.st (.t 24) (.c (.int .i64 (-1))) 1,none,[]⟩]))
  (.reg [
  m1 19 5,
  o1 20 (.bin .add (.t 19) (cn 1)),
  m1 5 20]))))))
 (.gh (.seq (sr1 [
 o1 6 (.mv (cn 0))]
 (.block 2 (.loop (.seq (sr1 [
  m1 25 6,
  m1 26 3,
  o1 27 (.bin .lss (.t 25) (.t 26))]
  (.cond (.t 27)
  .skip
  (.exit 2)))
  (.seq (.block 3 (.gh (.regl Zcx)))
  (.reg [
  m1 28 6,
  o1 29 (.bin .add (.t 28) (cn 1)),
  m1 6 29]))))))
 (.gh (sr1 [
 o1 37 (lt 4 7),
 ⟨none,.st (.t 2) (.t 37) 7,none,[]⟩]
 .ret))))))))
def r74:List RV:=[.cell 2 7 true]
theorem n74:Try.f74.ntmps=38:=by kernel_rfl
theorem b74:ZW Try.prog 74=true:=by kernel_rfl
theorem ZyL:Yx Try.prog c74 ((Try.f74.body).getD .skip)=true:=by kernel_rfl
theorem ZyV:YQ Try.prog r74 Try.f74.results.toList=true:=by kernel_rfl
theorem m74 {n0:Nat} {hp0:List (Nat × HB)} {args:List SV} {Zs:Ot->Prop} (hh:hpb n0 hp0) (hx:∀ o,Zs o->KX o.res/\KXP o.hp) (h:sx Try.prog Y0 n0 c74 ⟨YN 0 args,hp0,n0,38,[]⟩ (Wd r74 fun o=>∃ o',Zs o'/\Ws n0 o o')) (hA:Nat.ble args.length 38=true:=by rfl):CtM Try.prog 74 hp0 n0 args Zs:=Zr Try.func74 rfl b74 ZyL ZyV n74 (Nat.le_of_ble_eq_true hA) hh hx h
def c75:SC:=(sr1 [
 o1 3 (.box (.t 0) 0 24),
 o1 4 (.box (.t 1) 0 95),
 o1 5 (.box (.t 2) 0 50),
 o1 6 (.mv (.c (.int .u8 0)))]
 (sr1 [
 o1 8 (ao 4 0),
 o1 9 (lf 8 1),
 o1 10 (ao 5 5),
 o1 11 (lf 10 1),
 o1 12 (.ixs (.t 9) (.t 11) 1),
 o1 13 (lf 12 1),
 o1 14 (.bin .geq (.t 13) (cn 0)),
 m1 7 14]
 (.seq (sr1 [
 o1 15 (ao 5 2),
 o1 16 (lf 15 1)]
 (.block 0 (sr1 [
  o1 18 (.bin .eql (.t 16) (.c (.int .u8 3))),
  m1 17 18]
  (.cond (.t 17)
  (.seq (sr1 [
   m1 19 7]
   (.cond (.t 19)
   (sr1 [
    o1 6 (.mv (.c (.int .u8 1)))]
    .ret)
   .skip))
   (sr1 [
   o1 20 (ao 4 2),
   o1 21 (lf 20 1),
   o1 22 (ao 5 5),
   o1 23 (lf 22 1),
   o1 24 (.ixs (.t 21) (.t 23) 1),
   o1 25 (lf 24 1)]
   (.cond (.t 25)
   (sr1 [
    o1 6 (.mv (.c (.int .u8 2)))]
    .ret)
   .skip)))
  (sr1 [
   o1 27 (.bin .eql (.t 16) (.c (.int .u8 4))),
   m1 26 27]
   (.cond (.t 26)
   (sr1 [
    m1 28 7,
    o1 29 (.un .not (.t 28))]
    (.cond (.t 29)
    (sr1 [
     o1 6 (.mv (.c (.int .u8 3)))]
     .ret)
    .skip))
   (sr1 [
    o1 31 (.bin .eql (.t 16) (.c (.int .u8 5))),
    m1 30 31]
    (.cond (.t 30)
    (.seq (sr1 [
     o1 32 (ao 4 2),
     o1 33 (lf 32 1),
     o1 34 (ao 5 5),
     o1 35 (lf 34 1),
     o1 36 (.ixs (.t 33) (.t 35) 1),
     o1 37 (lf 36 1)]
     (.cond (.t 37)
     (sr1 [
      o1 6 (.mv (.c (.int .u8 2)))]
      .ret)
     .skip))
     (sr1 [
     m1 38 7,
     o1 39 (.un .not (.t 38))]
     (.cond (.t 39)
     (sr1 [
      o1 6 (.mv (.c (.int .u8 3)))]
      .ret)
     .skip)))
    (sr1 [
     o1 41 (.bin .eql (.t 16) (.c (.int .u8 6))),
     m1 40 41]
     (.cond (.t 40)
     (.seq (sr1 [
      o1 42 (ao 4 3),
      o1 43 (lf 42 1),
      o1 44 (ao 5 4),
      o1 45 (lf 44 1),
      o1 46 (.ixs (.t 43) (.t 45) 1),
      o1 47 (lf 46 1)]
      (.cond (.t 47)
      (sr1 [
       o1 6 (.mv (.c (.int .u8 4)))]
       .ret)
      .skip))
      (sr1 [
      m1 48 7,
      o1 49 (.un .not (.t 48))]
      (.cond (.t 49)
      (sr1 [
       o1 6 (.mv (.c (.int .u8 3)))]
       .ret)
      .skip)))
     (sr1 [
      o1 51 (.bin .eql (.t 16) (.c (.int .u8 8))),
      m1 50 51]
      (.cond (.t 50)
      (.seq (.regd [0,1,2,3,4,5,6,7,8,9,10,11,12,13,14,15,16] [
       .op (o1 52 (ao 4 6)),
       .op (p1 53 (lf 52 1) [0]),
       .op (o1 54 (lt 3 4)),
       .op (o1 55 (ao 5 3)),
       .op (p1 56 (lf 55 1) [3]),
       .op (p1 57 (.call 55 [.t 54,.t 56]) [2,4]),
       .op (p1 58 (.ixs (.t 53) (.t 57) 1) [1,5]),
       .op (p1 59 (lf 58 1) [6]),
       .op (o1 60 (lt 3 4)),
       .op (o1 61 (ao 5 4)),
       .op (p1 62 (lf 61 1) [9]),
       .op (p1 63 (.call 55 [.t 60,.t 62]) [5,8,10]),
       .op (p1 64 (.ixs (.t 59) (.t 63) 1) [7,11]),
       .op (p1 65 (lf 64 1) [12]),
       .op (o1 66 (ao 5 6)),
       .op (p1 67 (lf 66 1) [14]),
       .op (p1 68 (.bin .lss (.t 65) (.t 67)) [13,15])] 0 0 [
])
 (.cond (.t 68)
 (sr1 [
  o1 6 (.mv (.c (.int .u8 5)))]
  .ret)
 .skip))
 .skip))))))))))))
 (sr1 [
 o1 6 (.mv (.c (.int .u8 0)))]
 .ret))))
def r75:List RV:=[.tmp 6]
theorem t75:Qt1 Try.prog 75 c75 r75 69:=X4 Try.func75 rfl (by kernel_rfl) (by kernel_rfl) (by kernel_rfl) (by kernel_rfl)
def c76:SC:=(sr1 [
 o1 3 (.box (.t 0) 0 24),
 o1 4 (.box (.t 1) 0 95),
 o1 5 (.box (.t 2) 0 50),
 o1 6 (.alloc zv1 95)]
 (.seq (sr1 [
 o1 8 (ao 5 2),
 o1 9 (lf 8 1)]
 (.block 0 (sr1 [
  o1 11 (.bin .eql (.t 9) (.c (.int .u8 1))),
  m1 10 11]
  (.cond (.t 10)
  (.reg [
   o1 12 (ao 4 4),
   o1 13 (lf 12 1),
   o1 14 (ao 5 6),
   o1 15 (lf 14 1),
   o1 16 (.bin .add (.t 13) (.t 15)),
   o1 17 (ao 4 4),
   ⟨none,.st (.t 17) (.t 16) 1,none,[]⟩])
  (sr1 [
   o1 19 (.bin .eql (.t 9) (.c (.int .u8 2))),
   m1 18 19]
   (.cond (.t 18)
   (.reg [
    o1 20 (ao 4 4),
    o1 21 (lf 20 1),
    o1 22 (ao 5 6),
    o1 23 (lf 22 1),
    o1 24 (.bin .sub (.t 21) (.t 23)),
    o1 25 (ao 4 4),
    ⟨none,.st (.t 25) (.t 24) 1,none,[]⟩])
   (sr1 [
    o1 27 (.bin .eql (.t 9) (.c (.int .u8 3))),
    m1 26 27]
    (.cond (.t 26)
    (.regd [0,1,2,3,8,9,10,11,14,4,5,6,7,12,13,15,16,17] [
     .op (o1 28 (ao 4 0)),
     .op (p1 29 (lf 28 1) [0]),
     .op (o1 30 (ao 5 5)),
     .op (p1 31 (lf 30 1) [2]),
     .op (o1 36 (lt 3 4)),
     .op (o1 37 (ao 5 3)),
     .op (p1 38 (lf 37 1) [9]),
     .op (p1 39 (.call 55 [.t 36,.t 38]) [8,10]),
     .op (p1 42 (.ixs (.t 29) (.t 31) 1) [0,1,2,3,8,9,10,11]),
     .hide (.t 42),
     .op (o1 32 (ao 4 1)),
     .op (p1 33 (lf 32 1) [4]),
     .op (o1 34 (ao 5 5)),
     .op (p1 35 (lf 34 1) [6]),
     .op (o1 40 (ao 5 1)),
     .op (p1 41 (lf 40 1) [12])] 0 1 [
     ⟨none,.st (.t 42) (.t 39) 1,none,[0,1,2,3,8,9,10,11,14]⟩,
     ⟨some 43,.ixs (.t 33) (.t 35) 1,none,[0,1,2,3,4,5,6,7,8,9,10,11,12,13,14,15]⟩,
     ⟨none,.st (.t 43) (.t 41) 1,none,[0,1,2,3,4,5,6,7,8,9,10,11,12,13,14,15,16]⟩])
    (sr1 [
     o1 45 (.bin .eql (.t 9) (.c (.int .u8 4))),
     m1 44 45]
     (.cond (.t 44)
     (.reg [
      o1 46 (lt 3 4),
      o1 47 (lt 4 7),
      o1 48 (ao 5 5),
      o1 49 (lf 48 1),
      o1 50 (ao 5 1),
      o1 51 (lf 50 1),
      o1 52 (.callm 77 [.t 46,.t 47,.t 49,.t 51]),
      ⟨none,.st (.t 4) (.t 52) 7,none,[]⟩])
     (sr1 [
      o1 54 (.bin .eql (.t 9) (.c (.int .u8 5))),
      m1 53 54]
      (.cond (.t 53)
      (sr1 [
       o1 55 (lt 3 4),
       o1 56 (lt 4 7),
       o1 57 (ao 5 5),
       o1 58 (lf 57 1),
       o1 59 (ao 5 1),
       o1 60 (lf 59 1),
       o1 61 (.callm 77 [.t 55,.t 56,.t 58,.t 60]),
       ⟨none,.st (.t 4) (.t 61) 7,none,[]⟩]
       (.reg [
       o1 62 (ao 4 2),
       o1 63 (lf 62 1),
       o1 64 (ao 5 5),
       o1 65 (lf 64 1),
       o1 66 (.ixs (.t 63) (.t 65) 1),
       ⟨none,.st (.t 66) (.c (.bool true)) 1,none,[]⟩]))
      (sr1 [
       o1 68 (.bin .eql (.t 9) (.c (.int .u8 6))),
       m1 67 68]
       (.cond (.t 67)
       (sr1 [
        o1 69 (ao 5 6),
        o1 70 (lf 69 1),
        o1 71 (ao 3 1),
        o1 72 (lf 71 1),
        o1 73 (.bin .mul (.t 70) (.t 72)),
        o1 74 (.div .quo (.t 73) (cn 1000)),
        m1 7 74]
        (.seq (.regd [0,1,2,3,4,5,6,7,8,9,10,11,12,13] [
        .op (o1 75 (ao 4 5)),
        .op (p1 76 (lf 75 1) [0]),
        .op (o1 77 (ao 4 0)),
        .op (p1 78 (lf 77 1) [2]),
        .op (o1 79 (ao 5 5)),
        .op (p1 80 (lf 79 1) [4]),
        .op (p1 81 (.ixs (.t 78) (.t 80) 1) [3,5]),
        .op (p1 82 (lf 81 1) [6]),
        .op (p1 83 (.ixs (.t 76) (.t 82) 1) [1,7]),
        .op (p1 84 (lf 83 1) [8]),
        .op (m1 85 7),
        .op (p1 86 (.bin .add (.t 84) (.t 85)) [9,10]),
        .op (p1 87 (.ixs (.t 76) (.t 82) 1) [0,1,2,3,4,5,6,7,8,9,10,11])] 0 1 [
        ⟨none,.st (.t 87) (.t 86) 1,none,[0,1,2,3,4,5,6,7,8,9,10,11,12]⟩])
        (sr1 [
        o1 88 (ao 4 4),
        o1 89 (lf 88 1),
        o1 90 (ao 5 6),
        o1 91 (lf 90 1),
        m1 92 7,
        o1 93 (.bin .sub (.t 91) (.t 92)),
        o1 94 (.bin .add (.t 89) (.t 93)),
        o1 95 (ao 4 4),
        ⟨none,.st (.t 95) (.t 94) 1,none,[]⟩]
        (.reg [
        o1 96 (ao 4 3),
        o1 97 (lf 96 1),
        o1 98 (ao 5 4),
        o1 99 (lf 98 1),
        o1 100 (.ixs (.t 97) (.t 99) 1),
        ⟨none,.st (.t 100) (.c (.bool true)) 1,none,[]⟩]))))
       (sr1 [
        o1 102 (.bin .eql (.t 9) (.c (.int .u8 7))),
        m1 101 102]
        (.cond (.t 101)
        (.regd [0,1,2,3,4,5,6,7,8,9,10,11,12,13,14,15,16,17,18] [
         .op (o1 103 (ao 4 6)),
         .op (p1 104 (lf 103 1) [0]),
         .op (o1 105 (lt 3 4)),
         .op (o1 106 (ao 5 3)),
         .op (p1 107 (lf 106 1) [3]),
         .op (p1 108 (.call 55 [.t 105,.t 107]) [2,4]),
         .op (p1 109 (.ixs (.t 104) (.t 108) 1) [1,5]),
         .op (p1 110 (lf 109 1) [6]),
         .op (o1 111 (lt 3 4)),
         .op (o1 112 (ao 5 4)),
         .op (p1 113 (lf 112 1) [9]),
         .op (p1 114 (.call 55 [.t 111,.t 113]) [5,8,10]),
         .op (p1 115 (.ixs (.t 110) (.t 114) 1) [7,11]),
         .op (p1 116 (lf 115 1) [12]),
         .op (o1 117 (ao 5 6)),
         .op (p1 118 (lf 117 1) [14]),
         .op (p1 119 (.bin .add (.t 116) (.t 118)) [13,15]),
         .op (p1 120 (.ixs (.t 110) (.t 114) 1) [0,1,2,3,4,5,6,7,8,9,10,11,12,13,14,15,16])] 0 1 [
         ⟨none,.st (.t 120) (.t 119) 1,none,[0,1,2,3,4,5,6,7,8,9,10,11,12,13,14,15,16,17]⟩])
        (sr1 [
         o1 122 (.bin .eql (.t 9) (.c (.int .u8 8))),
         m1 121 122]
         (.cond (.t 121)
         (.regd [0,1,2,3,4,5,6,7,8,9,10,11,12,13,14,15,16,17,18] [
          .op (o1 123 (ao 4 6)),
          .op (p1 124 (lf 123 1) [0]),
          .op (o1 125 (lt 3 4)),
          .op (o1 126 (ao 5 3)),
          .op (p1 127 (lf 126 1) [3]),
          .op (p1 128 (.call 55 [.t 125,.t 127]) [2,4]),
          .op (p1 129 (.ixs (.t 124) (.t 128) 1) [1,5]),
          .op (p1 130 (lf 129 1) [6]),
          .op (o1 131 (lt 3 4)),
          .op (o1 132 (ao 5 4)),
          .op (p1 133 (lf 132 1) [9]),
          .op (p1 134 (.call 55 [.t 131,.t 133]) [5,8,10]),
          .op (p1 135 (.ixs (.t 130) (.t 134) 1) [7,11]),
          .op (p1 136 (lf 135 1) [12]),
          .op (o1 137 (ao 5 6)),
          .op (p1 138 (lf 137 1) [14]),
          .op (p1 139 (.bin .sub (.t 136) (.t 138)) [13,15]),
          .op (p1 140 (.ixs (.t 130) (.t 134) 1) [0,1,2,3,4,5,6,7,8,9,10,11,12,13,14,15,16])] 0 1 [
          ⟨none,.st (.t 140) (.t 139) 1,none,[0,1,2,3,4,5,6,7,8,9,10,11,12,13,14,15,16,17]⟩])
         .skip))))))))))))))))))
 (sr1 [
 o1 141 (lt 4 7),
 ⟨none,.st (.t 6) (.t 141) 7,none,[]⟩]
 .ret)))
def r76:List RV:=[.cell 6 7 true]
theorem n76:Try.f76.ntmps=142:=by kernel_rfl
theorem b76:ZW Try.prog 76=true:=by kernel_rfl
theorem Zy4:Yx Try.prog c76 ((Try.f76.body).getD .skip)=true:=by kernel_rfl
theorem Zzb:YQ Try.prog r76 Try.f76.results.toList=true:=by kernel_rfl
theorem m76 {n0:Nat} {hp0:List (Nat × HB)} {args:List SV} {Zs:Ot->Prop} (hh:hpb n0 hp0) (hx:∀ o,Zs o->KX o.res/\KXP o.hp) (h:sx Try.prog Y0 n0 c76 ⟨YN 0 args,hp0,n0,142,[]⟩ (Wd r76 fun o=>∃ o',Zs o'/\Ws n0 o o')) (hA:Nat.ble args.length 142=true:=by rfl):CtM Try.prog 76 hp0 n0 args Zs:=Zr Try.func76 rfl b76 Zy4 Zzb n76 (Nat.le_of_ble_eq_true hA) hh hx h
def c53:SC:=(sr1 [
 o1 2 (.box (.t 0) 0 24),
 o1 4 (.alloc zv1 95),
 o1 5 (.mv (.c (.slice none 0 0)))]
 (sr1 [
 o1 11 (lt 2 4),
 o1 12 (.callm 74 [.t 11]),
 o1 6 (.alloc zv1 95),
 ⟨none,.st (.t 6) (.t 12) 7,none,[]⟩]
 (.gh (sr1 [
 o1 7 (.mv (.c (.slice none 0 0)))]
 (.seq (sr1 [
 o1 8 (.mv (cn 0))]
 (.block 0 (.loop (.seq (sr1 [
  m1 13 8,
  m1 14 1,
  o1 15 (.len (.t 14)),
  o1 16 (.bin .lss (.t 13) (.t 15))]
  (.cond (.t 16)
  .skip
  (.exit 0)))
  (.seq (.block 1 (.seq (.regd [0,1,2,3,4,5,6,7] [
   .op (o1 19 (lt 2 4)),
   .op (o1 20 (lt 6 7)),
   .op (m1 21 1),
   .op (m1 22 8),
   .op (p1 23 (.ixs (.t 21) (.t 22) 8) [2,3]),
   .op (p1 24 (lt 23 8) [4]),
   .op (p1 25 (.call 75 [.t 19,.t 20,.t 24]) [0,1,5]),
   .op (p1 9 (.mv (.t 25)) [0,1,2,3,4,5,6])] 0 0 [
])
 (sr1 [
 m1 26 7,
 m1 27 9,
 o1 28 (.bsl 1 5 [.t 27]),
 o1 29 (.appm 1 1 5 (.t 26) (.t 28)),
 m1 7 29]
 (sr1 [
 m1 30 9,
 o1 31 (.bin .eql (.t 30) (.c (.int .u8 0)))]
 (.cond (.t 31)
 (.regd [0,1,2,3,4,5,6,7] [
  .op (o1 32 (lt 2 4)),
  .op (o1 33 (lt 6 7)),
  .op (m1 34 1),
  .op (m1 35 8),
  .op (p1 36 (.ixs (.t 34) (.t 35) 8) [2,3]),
  .op (p1 37 (lt 36 8) [4])] 0 0 [
  ⟨some 38,.callm 76 [.t 32,.t 33,.t 37],none,[0,1,5]⟩,
  ⟨none,.st (.t 6) (.t 38) 7,none,[0,1,2,3,4,5,6]⟩])
 .skip)))))
 (.reg [
 m1 17 8,
 o1 18 (.bin .add (.t 17) (cn 1)),
 m1 8 18]))))))
 (.gh (.seq (sr1 [
 o1 10 (.mv (cn 0))]
 (.block 2 (.loop (.seq (sr1 [
  m1 39 10,
  o1 40 (.bin .leq (.t 39) (cn 9999))]
  (.cond (.t 40)
  .skip
  (.exit 2)))
  (.seq (.block 3 (sr1 [
   o1 43 (ao 6 0),
   o1 44 (lf 43 1),
   m1 45 10,
   o1 46 (.ixs (.t 44) (.t 45) 1),
   o1 47 (lf 46 1),
   o1 48 (.bin .geq (.t 47) (cn 0))]
   (.cond (.t 48)
   (.reg [
    o1 49 (lt 2 4),
    o1 50 (lt 6 7),
    m1 51 10,
    o1 52 (ao 2 3),
    o1 53 (lf 52 1),
    o1 54 (.callm 77 [.t 49,.t 50,.t 51,.t 53]),
    ⟨none,.st (.t 6) (.t 54) 7,none,[]⟩])
   .skip)))
  (.reg [
  m1 41 10,
  o1 42 (.bin .add (.t 41) (cn 1)),
  m1 10 42]))))))
 (.gh (sr1 [
 o1 55 (lt 6 7),
 m1 56 7,
 ⟨none,.st (.t 4) (.t 55) 7,none,[]⟩,
 m1 5 56]
 .ret)))))))))
def r53:List RV:=[.cell 4 7 true,.tmp 5]
theorem n53:Try.f53.ntmps=57:=by kernel_rfl
theorem b53:ZW Try.prog 53=true:=by kernel_rfl
theorem Zy8:Yx Try.prog c53 ((Try.f53.body).getD .skip)=true:=by kernel_rfl
theorem Zw4:YQ Try.prog r53 Try.f53.results.toList=true:=by kernel_rfl
def c52:SC:=(sr1 [
 o1 2 (.box (.t 0) 0 24),
 o1 4 (.mv (.c (.slice none 0 0)))]
 (sr1 [
 o1 5 (.mv (.c (.slice none 0 0)))]
 (.seq (sr1 [
 o1 6 (.mv (cn 0))]
 (.block 0 (.loop (.seq (sr1 [
  m1 10 6,
  m1 11 1,
  o1 12 (.len (.t 11)),
  o1 13 (.bin .lss (.t 10) (.t 12))]
  (.cond (.t 13)
  .skip
  (.exit 0)))
  (.seq (.block 1 (.seq (.regd [0,1,2,3,4,5,6,7,8] [
   .op (m1 16 1),
   .op (m1 17 6),
   .op (p1 18 (.ixs (.t 16) (.t 17) 8) [0,1]),
   .op (p1 19 (ao 18 1) [2]),
   .op (p1 20 (lf 19 1) [3]),
   .op (o1 21 (ao 2 3)),
   .op (p1 22 (lf 21 1) [5]),
   .op (p1 23 (.bin .gtr (.t 20) (.t 22)) [4,6]),
   .op (p1 7 (.mv (.t 23)) [0,1,2,3,4,5,6,7])] 0 0 [
])
 (.seq (sr1 [
 o1 8 (.mv (cn 0))]
 (.block 2 (.loop (.seq (sr1 [
  m1 24 8,
  m1 25 6,
  o1 26 (.bin .lss (.t 24) (.t 25))]
  (.cond (.t 26)
  .skip
  (.exit 2)))
  (.seq (.block 3 (.regd [0,1,2,3,4,5,6,7,8,9,10,11,12,13,14] [
   .op (m1 29 7),
   .op (p1 30 (.mv (.t 29)) [0]),
   .op (q1 31 30 false (.mv (.t 1)) [1]),
   .op (q1 32 30 false (.mv (.t 8)) [1]),
   .op (q1 33 30 false (.ixs (.t 31) (.t 32) 8) [1,2,3]),
   .op (q1 34 30 false (ao 33 0) [1,4]),
   .op (q1 35 30 false (lf 34 1) [1,5]),
   .op (q1 36 30 false (.mv (.t 1)) [1]),
   .op (q1 37 30 false (.mv (.t 6)) [1]),
   .op (q1 38 30 false (.ixs (.t 36) (.t 37) 8) [1,7,8]),
   .op (q1 39 30 false (ao 38 0) [1,9]),
   .op (q1 40 30 false (lf 39 1) [1,10]),
   .op (q1 41 30 false (.bin .eql (.t 35) (.t 40)) [1,6,11]),
   .op (p1 42 (.pick (.t 30) (.c (.bool true)) (.t 41)) [1,12])] 0 0 [
   ⟨some 7,.mv (.t 42),none,[0,1,2,3,4,5,6,7,8,9,10,11,12,13]⟩]))
  (.reg [
  m1 27 8,
  o1 28 (.bin .add (.t 27) (cn 1)),
  m1 8 28]))))))
 (.gh (.seq (sr1 [
 m1 43 7]
 (.cond (.t 43)
 (.exit 1)
 .skip))
 (sr1 [
 m1 44 5,
 m1 45 1,
 m1 46 6,
 o1 47 (.ixs (.t 45) (.t 46) 8),
 o1 48 (lt 47 8),
 o1 49 (.bsl 8 50 [.t 48]),
 o1 50 (.appm 8 64 50 (.t 44) (.t 49)),
 m1 5 50]
 (sr1 [
 m1 51 5,
 o1 52 (.len (.t 51)),
 o1 53 (.bin .sub (.t 52) (cn 1)),
 m1 9 53]
 (.block 4 (.loop (.seq (.seq (.regd [0,1,2,3,4,5,6,7,8,9,10,11,12,13,14,15,16,17,18,19,20,21,22,23,24,25,26,27,28,29,30,31,32,33,34,35,36,37,38,39,40,41,42,43] [
  .op (m1 54 9),
  .op (p1 55 (.bin .gtr (.t 54) (cn 0)) [0]),
  .op (p1 56 (.mv (.t 55)) [1]),
  .op (q1 57 56 true (.mv (.t 5)) [2]),
  .op (q1 58 56 true (.mv (.t 9)) [2]),
  .op (q1 59 56 true (.ixs (.t 57) (.t 58) 8) [2,3,4]),
  .op (q1 60 56 true (ao 59 1) [2,5]),
  .op (q1 61 56 true (lf 60 1) [2,6]),
  .op (q1 62 56 true (.mv (.t 5)) [2]),
  .op (q1 63 56 true (.mv (.t 9)) [2]),
  .op (q1 64 56 true (.bin .sub (.t 63) (cn 1)) [2,9]),
  .op (q1 65 56 true (.ixs (.t 62) (.t 64) 8) [2,8,10]),
  .op (q1 66 56 true (ao 65 1) [2,11]),
  .op (q1 67 56 true (lf 66 1) [2,12]),
  .op (q1 68 56 true (.bin .lss (.t 61) (.t 67)) [2,7,13]),
  .op (q1 69 56 true (.mv (.t 68)) [2,14]),
  .op (q1 70 69 false (.mv (.t 5)) [15]),
  .op (q1 71 69 false (.mv (.t 9)) [15]),
  .op (q1 72 69 false (.ixs (.t 70) (.t 71) 8) [15,16,17]),
  .op (q1 73 69 false (ao 72 1) [15,18]),
  .op (q1 74 69 false (lf 73 1) [15,19]),
  .op (q1 75 69 false (.mv (.t 5)) [15]),
  .op (q1 76 69 false (.mv (.t 9)) [15]),
  .op (q1 77 69 false (.bin .sub (.t 76) (cn 1)) [15,22]),
  .op (q1 78 69 false (.ixs (.t 75) (.t 77) 8) [15,21,23]),
  .op (q1 79 69 false (ao 78 1) [15,24]),
  .op (q1 80 69 false (lf 79 1) [15,25]),
  .op (q1 81 69 false (.bin .eql (.t 74) (.t 80)) [15,20,26]),
  .op (q1 82 69 false (.mv (.t 81)) [15,27]),
  .op (q1 83 82 true (.mv (.t 5)) [28]),
  .op (q1 84 82 true (.mv (.t 9)) [28]),
  .op (q1 85 82 true (.ixs (.t 83) (.t 84) 8) [28,29,30]),
  .op (q1 86 82 true (ao 85 0) [28,31]),
  .op (q1 87 82 true (lf 86 1) [28,32]),
  .op (q1 88 82 true (.mv (.t 5)) [28]),
  .op (q1 89 82 true (.mv (.t 9)) [28]),
  .op (q1 90 82 true (.bin .sub (.t 89) (cn 1)) [28,35]),
  .op (q1 91 82 true (.ixs (.t 88) (.t 90) 8) [28,34,36]),
  .op (q1 92 82 true (ao 91 0) [28,37]),
  .op (q1 93 82 true (lf 92 1) [28,38]),
  .op (q1 94 82 true (.bin .lss (.t 87) (.t 93)) [28,33,39]),
  .op (q1 95 69 false (.pick (.t 82) (.t 94) (.c (.bool false))) [15,28,40]),
  .op (q1 96 56 true (.pick (.t 69) (.c (.bool true)) (.t 95)) [2,15,41]),
  .op (p1 97 (.pick (.t 56) (.t 96) (.c (.bool false))) [2,42])] 0 0 [
])
 (.cond (.t 97)
 .skip
 (.exit 4)))
 (.seq (.block 5 (.regd [0,1,5,6,7,8,9,10,11,12,13,14,2,3,4,15,16,17] [
  .op (m1 100 5),
  .op (m1 101 9),
  .op (m1 105 5),
  .op (m1 106 9),
  .op (p1 107 (.bin .sub (.t 106) (cn 1)) [6]),
  .op (p1 108 (.ixs (.t 105) (.t 107) 8) [5,7]),
  .op (p1 109 (lt 108 8) [8]),
  .op (m1 110 5),
  .op (m1 111 9),
  .op (p1 112 (.ixs (.t 110) (.t 111) 8) [10,11]),
  .op (p1 113 (lt 112 8) [12]),
  .op (p1 114 (.ixs (.t 100) (.t 101) 8) [0,1,5,6,7,8,9,13]),
  .hide (.t 114),
  .op (m1 102 5),
  .op (m1 103 9),
  .op (p1 104 (.bin .sub (.t 103) (cn 1)) [3])] 0 1 [
  ⟨none,.st (.t 114) (.t 109) 8,none,[0,1,5,6,7,8,9,13,14]⟩,
  ⟨some 115,.ixs (.t 102) (.t 104) 8,none,[0,1,2,3,4,5,6,7,8,9,10,11,12,13,14,15]⟩,
  ⟨none,.st (.t 115) (.t 113) 8,none,[0,1,2,3,4,5,6,7,8,9,10,11,12,13,14,15,16]⟩]))
 (.reg [
 m1 98 9,
 o1 99 (.bin .sub (.t 98) (cn 1)),
 m1 9 99]))))))))))))
 (.gh (.reg [
 m1 14 6,
 o1 15 (.bin .add (.t 14) (cn 1)),
 m1 6 15])))))))
 (.gh (sr1 [
 m1 116 5,
 m1 4 116]
 .ret)))))
def r52:List RV:=[.tmp 4]
theorem n52:Try.f52.ntmps=117:=by kernel_rfl
theorem b52:ZW Try.prog 52=true:=by kernel_rfl
theorem Zyb:Yx Try.prog c52 ((Try.f52.body).getD .skip)=true:=by kernel_rfl
theorem Zxt:YQ Try.prog r52 Try.f52.results.toList=true:=by kernel_rfl
end Go.Proofs.Ythilckbkffjliaa
namespace Go.Sx
open Go Go.RowKit
section
variable {g:Option (Nat × Bool)} {k v' m0 T o m' T':Nat} {xs:List (List SV)} {inn:List (List (List SV))} {d:Option Nat} {σ : St} {r:KT} {K:RK}
theorem ZyH {j:Int} (n:Nat) (hi:j=(n:Int)) (hn:n < xs.length) (hk:Ym d (.pr k v' m0 n 0) g σ r K) :
 ∃ i rows TT,v'=v'+i/\Yf k v' m0 xs T o m' inn T' i=some (m0,rows,TT)/\IXR g k v' m0 rows.length j d σ r K :=
 ⟨0,_,_,rfl,rfl,Xk n hi (by rw [YS];exact hn) hk⟩
theorem ZqJ {j:Int} {v:Nat} {rows:List (List SV)} (i n:Nat) (hv:v=v'+(i+1)) (hr:inn[i]? = some rows) (hi:j=(n:Int)) (hn:n < rows.length) (hk:Ym d (.pr k v m' n 0) g σ r K) :
 ∃ i rows TT,v=v'+i/\Yf k v' m0 xs T o m' inn T' i=some (m',rows,TT)/\IXR g k v m' rows.length j d σ r K :=
 ⟨i+1,rows,T',hv,by simp only [Yf,hr],Xk n hi hn hk⟩
theorem ZzC {i oo m:Nat} {ag:Bool} {row:List SV} (hx:xs[i]? = some row) (hi:i < inn.length) (hk:XW (Xj (row.set o (.mr k (v'+1+i))) oo m ag) d g σ r K) :
 ∃ a rows TT,v'=v'+a/\Yf k v' m0 xs T o m' inn T' a=some (m0,rows,TT)/\LDR g rows i oo m ag d σ r K :=
 ⟨0,_,_,rfl,rfl,row.set o (.mr k (v'+1+i)),ZG.2 fun _=>by rw [XN,if_pos hi,hx];rfl,hk⟩
theorem ZxS {v j oo m:Nat} {ag:Bool} {rows:List (List SV)} {row:List SV} (a:Nat) (hv:v=v'+(a+1)) (hr:inn[a]? = some rows) (hx:rows[j]? = some row) (hk:XW (Xj row oo m ag) d g σ r K) :
 ∃ a rows TT,v=v'+a/\Yf k v' m0 xs T o m' inn T' a=some (m',rows,TT)/\LDR g rows j oo m ag d σ r K :=
 ⟨a+1,rows,T',hv,by simp only [Yf,hr],row,ZG.2 fun _=>hx,hk⟩
theorem Zyv {α : Type} {l:List α} {f:α->List SV} {h:α->List (List SV)} {v j oo:Nat} {c row:List SV} (i:Nat) (y:α) (hv:v=v'+(i+1)) (hi:i < l.length) (hr:(h l[i])[j]? = some row) (hb:oo+c.length<=row.length) (he:h y=(h l[i]).set j (Zo row oo c)) (hf:f y=f l[i])
 (hk:r ⟨σ.fr,(k,.rws v' m0 ((l.set i y).map f) T o m' ((l.set i y).map h) T') :: σ.hp,σ.n,σ.N,σ.gs⟩ K):STW v' m0 (l.map f) T o m' (l.map h) T' v m' j oo k c σ r K:=by
 refine .inr ⟨i,h l[i],row,hv,rfl,by simp [hi],hr,hb,?_⟩
 rw [<- he,<- List.map_set]
 have e:(l.set i y).map f=l.map f:=by
  rw [List.map_set,hf]
  refine List.ext_getElem? fun q=>?_
  by_cases hq:q=i
  . subst hq;rw [List.getElem?_set_self (by simpa using hi),List.getElem?_map,List.getElem?_eq_getElem hi];rfl
  . rw [List.getElem?_set_ne (Ne.symm hq)]
 rw [e] at hk
 exact hk
end
theorem ZeC {α : Type} {f:α->List SV} {h:α->List (List SV)} (o m':Nat):∀ l:List α,Zao o m' (l.map h) (l.map f)=l.map fun x=>(f x).set o (.sl false m' (h x))
 | []=>rfl
 | x :: l=>by simp only [List.map_cons,Zao,ZeC o m' l]
theorem Zm3 {m:Nat} {σ : St} (kb i k:Nat) {v:Nat} {l:List SV} {T1 mm T o m' T':Nat} {xs:List (List SV)} {inn:List (List (List SV))} (hm:Nat.ble m k=true) (hkb:lkh kb σ.hp = .cells l T1) (hl:l[i]? = some (.mr k v)) (hk:lkh k σ.hp = .rws v mm xs T o m' inn T') :
 Ent m σ ⟨σ.fr,(kb,.cells (l.set i (.sl false mm (Zao o m' inn xs))) T1) :: (k,.gone) :: σ.hp,σ.n,σ.N,σ.gs⟩:=fun C E a w hmc h=>by
 obtain ⟨g1,g2⟩:=VO h.hs k
 have hne:kb≠k:=by rintro rfl;rw [hk] at hkb;cases hkb
 have hk2:lkh kb ((k,.gone) :: σ.hp) = .cells l T1:=by rw [Zk,if_neg hne];exact hkb
 have hocc:∀ b,occ E kb (.cells (l.set i (.sl false mm (Zao o m' inn xs))) T1) b↔occ E kb (lkh kb ((k,.gone) :: σ.hp)) b:=fun b=>by rw [hk2];rfl
 have hbk:=h.hs.bk k
 rw [hk] at hbk
 have hok:∀ i b,i<=inn.length->ZaR (E.hv k (v+i)) b->okS C E ((k,.gone) :: σ.hp) b:=fun i b hi hb=>by
  have hoc:occ E k (lkh k σ.hp) b:=by rw [hk];exact ⟨i,hi,hb⟩
  refine ⟨?_,fun j ho=>?_⟩
  . rcases h.hs.lo k b hoc with q | q
    . exact .inr q
    . have h1:=hmc.2 k b q;have h2:=hmc.1;have h3:=Nat.le_of_ble_eq_true hm;omega
  . rw [Zk] at ho
    split at ho
    . exact ho.elim
    . exact absurd (h.hs.dj j k b ho hoc).symm (by omega)
 have hval:=ZqY g2 hok hbk
 obtain ⟨h6,h7⟩:=Wj (hb:=.cells (l.set i (.sl false mm (Zao o m' inn xs))) T1) (B:=E.β kb) g1 hocc (by rw [hk2];rfl) ⟨rfl,rfl,rfl,rfl,fun _ _=>rfl⟩ (fun hst=>by
  have hb:=h.hs.bk kb
  rw [hkb] at hb
  simp only [ZT] at hb ⊢
  obtain ⟨cs,e1,e2⟩:=hb
  refine ⟨cs,e1,Vn (ZdA (p:=fun s s'=>∀ y,R w E (ltn σ.n) (okS C E σ.hp) s y->R w E (ltn σ.n) (okS C E ((kb,.cells (l.set i (.sl false mm (Zao o m' inn xs))) T1) :: (k,.gone) :: σ.hp)) s' y)
   (fun s y hy=>ZB hst.c (fun _ _=>Ele.rfl) (fun _ h=>h) _ _ (ZB g2.c (fun _ _=>Ele.rfl) (fun _ h=>h) _ _ hy)) (fun y hy=>?_) hl) e2⟩
  have hy2:y=E.hv k v:=by simp only [R] at hy;exact hy.2.2.1
  rw [hy2]
  exact ZB hst.c (fun _ _=>Ele.rfl) (fun _ h=>h) _ _ hval)
 have hst:Zt w w (okS C E σ.hp) (okS C E ((kb,.cells (l.set i (.sl false mm (Zao o m' inn xs))) T1) :: (k,.gone) :: σ.hp)):=fun b hb hs=>by
  obtain ⟨q1,q2⟩:=g2 b hb hs
  exact h7 b q1 hs
 exact ⟨E,Z1 h hst (fun _ _=>Ele.rfl) (Nat.le_refl _) h6⟩
theorem Ct.res {P:Program} {f:FuncId} {args:List SV} {res res0:SV} (h:Ct P f args res) (kr:KF res0) (hw:ZaT res res0):Ct P f args res0 :=
 ⟨h.1,h.2,kr,fun w ok vs hR=>Calls.mono (h.4 w ok vs hR) fun e w' q=>by
  obtain ⟨y,h1,h2,h3⟩:=q
  exact ⟨y,h1,hw _ _ _ _ _ h2,h3⟩⟩
theorem Zq7 {l:List SV}:∀ (w:World) (E:Env) (n ok:Nat->Prop) (ys:List Value),RL w E n ok l ys->RL w E n ok l ys:=fun _ _ _ _ _ h=>h
def UA (fr:List (Nat × SV)):List Nat->List (Nat × SV)
 | []=>[]
 | t :: ts=>(t,lk t fr) :: UA fr ts
theorem Zjc (fr:List (Nat × SV)):UA fr []=[]:=rfl
theorem Zfz (fr:List (Nat × SV)) (t:Nat) (ts:List Nat):UA fr (t :: ts)=(t,lk t fr) :: UA fr ts:=rfl
attribute [go_sem] Zjc Zfz
theorem Zc1 (fr:List (Nat × SV)):∀ ts,ZwE (UA fr ts) fr
 | []=>trivial
 | _ :: ts=>⟨rfl,Zc1 fr ts⟩
theorem ZbR {m:Nat} {σ : St} (ts:List Nat) (hg:ZwB (UA σ.fr ts)=true):Ent m σ ⟨UA σ.fr ts,σ.hp,σ.n,σ.N,[]⟩:=by
 intro C E a w _ h
 refine ⟨E,fun t=>?_,h.sz,h.df,fun t j b s ht=>absurd ht (Zdp hg t j b s),h.hs⟩
 have hfr:=h.fr t
 rcases Zkz (Zc1 σ.fr ts) t with h1 | h1
 . rw [h1];exact trivial
 . rw [h1]
   have:=Zdp hg t
   rw [h1] at this
   cases hq:lk t σ.fr<;>rw [hq] at hfr this<;>first | exact hfr | exact absurd rfl (this _ _ _)
theorem Zir {m:Nat} {f:CT} {σ : St} {K:Ex->St->Prop} {S:Type} (ts:List Nat) (hg:ZwB (UA σ.fr ts)=true) (ov:S->List (Nat × SV)) (hv:S->List (Nat × HB)) (rel:S->Prop) (μ : S->Nat) (s0:S) (h0:rel s0)
 (he:Ent m ⟨UA σ.fr ts,σ.hp,σ.n,σ.N,[]⟩ (stO ⟨UA σ.fr ts,σ.hp,σ.n,σ.N,[]⟩ ov hv s0))
 (hb:∀ s,rel s->f (stO ⟨UA σ.fr ts,σ.hp,σ.n,σ.N,[]⟩ ov hv s) (ZpE m (stO ⟨UA σ.fr ts,σ.hp,σ.n,σ.N,[]⟩ ov hv) rel μ s K)):ZuJ m f σ K :=
 Zg3 (ZbR ts hg) ov hv rel μ s0 h0 he hb
end Go.Sx
namespace Go.Proofs.Ythilckbkffjliaa
open Go Go.Sx Go.Azalai
def boL (b:Bool):List SV:=[B b]
def fX (_:List Int):List SV:=[.any]
def hI (r:List Int):List (List SV):=r.map ZP
theorem XX (x:List Int):KFL (fX x)=True:=eq_true (by simp [fX,KFL,KF])
theorem XB (x:List Int):KFR (hI x)=True:=eq_true (by simp [hI,ZP,Zc,KFL,KF])
theorem W0 (b:Bool):KFL (boL b)=True:=eq_true (by simp [boL,KFL,KF])
theorem Xg (b:Int):KFL (ZP b)=True:=eq_true (by simp [ZP,KFL,KF])
def bkH (p:Pact) (c:Co) (s:Int->Int) (v:Nat):List (Nat × HB):=[(0,.row 0 1 ((rg 10000 (Ux p c)).map ZP) 3),(1,.row 0 1 ((rg 10000 s).map ZP) 3),(2,.row 0 1 ((rg 10000 c.dead).map boL) 4),(3,.row 0 1 ((rg 10000 c.known).map boL) 4),
 (4,.row 0 1 ((pp p c.extra).map ZP) 3),(5,.rws v 1 ((ddL p c.debts).map fX) 27 0 1 ((ddL p c.debts).map hI) 3)]
def bkV (c:Co) (v:Nat):List SV:=[.mr 0 0,.mr 1 0,.mr 2 0,.mr 3 0,I c.result,.mr 4 0,.mr 5 v]
def bkW (p:Pact) (c:Co) (s:Int->Int):List SV:=[.sl false 1 ((rg 10000 (Ux p c)).map ZP),.sl false 1 ((rg 10000 s).map ZP),.sl false 1 ((rg 10000 c.dead).map boL),.sl false 1 ((rg 10000 c.known).map boL),I c.result,.sl false 1 ((pp p c.extra).map ZP),
 .sl false 1 ((ddL p c.debts).map fun r=>[.sl false 1 (r.map ZP)])]
theorem ZpS {p:Pact} {c:Co} {a d:Int} {l:Int × Int}:Ux p (ZE p c a d l)=upd (Ux p c) a (-1):=by
 funext i
 simp only [Ux,ZE,upd]
 split
 . rename_i h
   split at h
   . rename_i e;rw [if_pos e]
   . rename_i e;rw [if_neg e,h]
 . rename_i m h
   split at h
   . cases h
   . rename_i e;rw [if_neg e,h]
theorem Zby {p:Pact} {c:Co} {a:Int} {l:Int × Int} (h:c.loans a=some l):Ux p c a=atF p l.1:=by simp only [Ux,h]
theorem ZjO {p:Pact} {c:Co} (hc:CoOk p c) (a:Int):decide (Ux p c a ≥ 0)=(c.loans a).isSome:=by
 cases h:c.loans a with
 | none=>simp [Ux,h]
 | some l =>
  obtain ⟨i,hi,e,_⟩:=XV (hc.who a l h)
  rw [Zby h,e];simp
theorem Zd0 {p:Pact} {n:Nat} {c:Co} {b:Bks} (h:BkR n c b) (hn:n<=100000) (hp:0<=p.hire/\p.hire<=1000) (hids:(ids p).Nodup) {s:Int->Int} (hs:ZaM c s) {v a:Nat} (ha:a < 10000) {l:Int × Int} (hl:c.loans a=some l) (hw:l.1 ∈ ids p) {d:Int} (hd:0<=d/\d<=100000) :
 CtM Try.prog 77 (bkH p c s v) 6 [.agg (Zj p),.agg (bkV c v),I (a:Int),I d] (fun o=>o=⟨false,.agg (bkV (ZE p c a d l) v),bkH p (ZE p c a d l) s v,6⟩):=by
 refine m77 (by simp [hpb,bkH]) (fun o ho=>by subst ho;simp [bkH,bkV,KX,KXL,KXP,KXH,Zc,KFL,KF,ZP,boL,fX,hI]) ?_
 have hsb:=h.sb a l hl
 have hrb:=h.rb
 have heb:=h.eb l.1
 have hhb:=ZbP (h:=p.hire) (t:=d - l.2) hp.1 hp.2 (by omega) (by omega)
 obtain ⟨i,hi,hi1,hi2⟩:=XV hw
 dsimp only [c77,r77,bkH,bkV,Zj,go_sem,rA,rM,rS]
 simp only [List.length_map,Yg]
 refine Xk a rfl ha ?_
 dsimp only [go_sem,rA,rM,rS]
 refine V0 (by rw [Yg];exact ha) ?_
 dsimp only [ZP,go_sem,rA,rM,rS]
 rw [Um ha,hs a l hl]
 rw [Zi (n:=d - l.2) (by omega) (by omega),Zi (n:=p.hire * (d - l.2)) (by omega) (by omega),Zi (n:=c.result - p.hire * (d - l.2)) (by omega) (by omega)]
 simp only [List.length_map,Yg]
 refine Xk a rfl ha ?_
 dsimp only [go_sem,rA,rM,rS]
 refine V0 (by rw [Yg];exact ha) ?_
 dsimp only [ZP,go_sem,rA,rM,rS]
 rw [Um ha,Zby hl,hi1]
 simp only [List.length_map,Xh]
 refine Xk i rfl hi ?_
 dsimp only [go_sem,rA,rM,rS]
 refine V0 (by rw [Xh];exact hi) ?_
 dsimp only [ZP,go_sem,rA,rM,rS]
 rw [Zfe hi,hi2,Zi (n:=c.extra l.1+p.hire * (d - l.2)) (by omega) (by omega)]
 simp only [List.length_map,Xh]
 refine Xk i rfl hi ?_
 dsimp only [go_sem,rA,rM,rS]
 refine ZbE (c.extra l.1+p.hire * (d - l.2)) (by rw [Xh];exact hi) (by simp [ZP]) (by simp [ZP,Zo]) ?_
 dsimp only [go_sem,rA,rM,rS]
 rw [ZeG hids hi,hi2]
 simp only [List.length_map,Yg]
 refine Xk a rfl ha ?_
 dsimp only [go_sem,rA,rM,rS]
 refine ZbE (-1:Int) (by rw [Yg];exact ha) (by simp [ZP]) (by simp [ZP,Zo]) ?_
 dsimp only [go_sem,rA,rM,rS]
 rw [Zbw ha,<- ZpS (p:=p) (c:=c) (d:=d) (l:=l)]
 refine ⟨_,rfl,?_⟩
 have e1:(ZE p c a d l).extra=upd c.extra l.1 (c.extra l.1+p.hire * (d - l.2)):=rfl
 have e2:(ZE p c a d l).dead=c.dead/\(ZE p c a d l).known=c.known/\(ZE p c a d l).debts=c.debts/\(ZE p c a d l).result=c.result - p.hire * (d - l.2):=⟨rfl,rfl,rfl,rfl⟩
 rw [e1,e2.1,e2.2.1,e2.2.2.1,e2.2.2.2]
 (refine Zm ?_ ?_ ?_ rfl<;>dsimp only [ZP,W0,Xg,XX,XB,id,go_sem,rA,rM,rS]<;>simp [ZP,W0,Xg,XX,XB,Zc,Ze,KFR,KFL,KF,Zd,mtO,nbr])
theorem ZjF {p:Pact} {x:Letter} (hx:Zh p x=true):0<=x.animal/\x.animal<=9999:=by
 rcases WM hx with hk | hk | hk | hk | hk | hk | hk | hk<;>simp [Zh,hk,inR] at hx<;>omega
theorem ZxT {p:Pact} (hps:Yr p) {c:Co} (hc:CoOk p c) {s:Int->Int} {x:Letter} (hx:Zh p x=true):Ct Try.prog 75 [.agg (Zj p),.agg (bkW p c s),.agg (Zb x)] (U8 (Zn p c x).2):=by
 have hk:=WM hx
 have hab:=ZjF hx
 obtain ⟨a,ha,hae⟩:∃ a:Nat,a < 10000/\x.animal=(a:Int):=⟨x.animal.toNat,by omega,by omega⟩
 have hod:=ZjO hc x.animal
 refine t75.1 (by simp [Zj,Za,bkW,Zb,Zc,ZP,boL,KFL,KF]) (by simp [KFL,KF]) ?_
 dsimp only [c75,r75,Zj,bkW,Zb,go_sem,rA,rM,rS]
 refine ZF a (by rw [Yg];exact ha) hae ?_
 dsimp only [ZP,go_sem,rA,rM,rS]
 rw [Um ha,<- hae,hod]
 rcases hk with hk | hk | hk | hk | hk | hk | hk | hk
 . simp only [hk]
   repeat (refine Zz (by decide) ?_;dsimp only [go_sem,rA,rM,rS])
   simp [Zn,hk]
 . simp only [hk]
   repeat (refine Zz (by decide) ?_;dsimp only [go_sem,rA,rM,rS])
   simp [Zn,hk]
 . simp only [hk]
   refine ZK (by decide) ?_
   dsimp only [go_sem,rA,rM,rS]
   cases hl:c.loans x.animal with
   | some l =>
    refine ZK (by simp) ?_
    dsimp only [go_sem,rA,rM,rS]
    simp [Zn,hk,hl]
   | none =>
    refine Zz (by simp) ?_
    dsimp only [go_sem,rA,rM,rS]
    refine ZF a (by rw [Yg];exact ha) hae ?_
    dsimp only [boL,go_sem,rA,rM,rS]
    rw [Um ha,<- hae]
    cases hd:c.dead x.animal with
    | true =>
     refine ZK rfl ?_
     dsimp only [go_sem,rA,rM,rS]
     simp [Zn,hk,hl,hd]
    | false =>
     refine Zz rfl ?_
     dsimp only [go_sem,rA,rM,rS]
     simp [Zn,hk,hl,hd]
 . simp only [hk]
   refine Zz (by decide) ?_
   dsimp only [go_sem,rA,rM,rS]
   refine ZK (by decide) ?_
   dsimp only [go_sem,rA,rM,rS]
   cases hl:c.loans x.animal with
   | some l =>
    refine Zz (by simp) ?_
    dsimp only [go_sem,rA,rM,rS]
    simp [Zn,hk,hl]
   | none =>
    refine ZK (by simp) ?_
    dsimp only [go_sem,rA,rM,rS]
    simp [Zn,hk,hl]
 . simp only [hk]
   iterate 2 (refine Zz (by decide) ?_;dsimp only [go_sem,rA,rM,rS])
   refine ZK (by decide) ?_
   dsimp only [go_sem,rA,rM,rS]
   refine ZF a (by rw [Yg];exact ha) hae ?_
   dsimp only [boL,go_sem,rA,rM,rS]
   rw [Um ha,<- hae]
   cases hd:c.dead x.animal with
   | true =>
    refine ZK rfl ?_
    dsimp only [go_sem,rA,rM,rS]
    simp [Zn,hk,hd]
   | false =>
    refine Zz rfl ?_
    dsimp only [go_sem,rA,rM,rS]
    cases hl:c.loans x.animal with
    | some l =>
     refine Zz (by simp) ?_
     dsimp only [go_sem,rA,rM,rS]
     simp [Zn,hk,hl,hd]
    | none =>
     refine ZK (by simp) ?_
     dsimp only [go_sem,rA,rM,rS]
     simp [Zn,hk,hl,hd]
 . simp only [hk]
   iterate 3 (refine Zz (by decide) ?_;dsimp only [go_sem,rA,rM,rS])
   refine ZK (by decide) ?_
   dsimp only [go_sem,rA,rM,rS]
   have hoi:0<=x.other/\x.other<=9999:=by simp [Zh,hk,inR] at hx;omega
   obtain ⟨o,ho,hoe⟩:∃ o:Nat,o < 10000/\x.other=(o:Int):=⟨x.other.toNat,by omega,by omega⟩
   refine ZF o (by rw [Yg];exact ho) hoe ?_
   dsimp only [boL,go_sem,rA,rM,rS]
   rw [Um ho,<- hoe]
   cases hd:c.known x.other with
   | true =>
    refine ZK rfl ?_
    dsimp only [go_sem,rA,rM,rS]
    simp [Zn,hk,hd]
   | false =>
    refine Zz rfl ?_
    dsimp only [go_sem,rA,rM,rS]
    cases hl:c.loans x.animal with
    | some l =>
     refine Zz (by simp) ?_
     dsimp only [go_sem,rA,rM,rS]
     simp [Zn,hk,hl,hd]
    | none =>
     refine ZK (by simp) ?_
     dsimp only [go_sem,rA,rM,rS]
     simp [Zn,hk,hl,hd]
 . simp only [hk]
   repeat (refine Zz (by decide) ?_;dsimp only [go_sem,rA,rM,rS])
   simp [Zn,hk]
 . simp only [hk]
   iterate 4 (refine Zz (by decide) ?_;dsimp only [go_sem,rA,rM,rS])
   refine ZK (by decide) ?_
   dsimp only [go_sem,rA,rM,rS]
   have hww:x.who ∈ ids p/\x.other ∈ ids p:=by
    simp [Zh,hk,Ui] at hx
    exact ⟨hx.2.1.1.1.1,hx.2.1.1.1.2⟩
   obtain ⟨i,hi,hi1,hi2⟩:=XV hww.1
   obtain ⟨j,hj,hj1,hj2⟩:=XV hww.2
   refine call (YW p x.who hps) ?_
   dsimp only [go_sem,rA,rM,rS]
   refine ZF i (by rw [V5];exact hi) hi1 ?_
   dsimp only [go_sem,rA,rM,rS]
   refine call (YW p x.other hps) ?_
   dsimp only [go_sem,rA,rM,rS]
   refine ZF j (by simp only [ddL,Zfe hi,Xh];exact hj) hj1 ?_
   dsimp only [ZP,go_sem,rA,rM,rS]
   rw [ZkY hi hj,hi2,hj2]
   by_cases hd:c.debts x.who x.other < x.rials
   . refine ZK (by simpa using hd) ?_
     dsimp only [go_sem,rA,rM,rS]
     simp [Zn,hk,hd]
   . refine Zz (by simpa using hd) ?_
     dsimp only [go_sem,rA,rM,rS]
     simp [Zn,hk,hd]
end Go.Proofs.Ythilckbkffjliaa
namespace Go.Sx
open Go
def ZwA:Nat->List Ins->Nat->List (Nat × Ins)
 | _,[],_=>[]
 | i,x :: l,D=>bif !Nat.testBit D i && x.af.all (Nat.testBit D) then (i,x) :: ZwA (i+1) l D else ZwA (i+1) l D
theorem Zfk:∀ {l:List Ins} {i0 D i:Nat} {x:Ins},l[i]? = some x->Nat.testBit D (i0+i)=false->x.af.all (Nat.testBit D)=true->(i0+i,x) ∈ ZwA i0 l D
 | [],_,_,_,_,h,_,_=>by simp at h
 | y :: l,i0,D,0,x,h,hb,ha=>by
  simp only [List.getElem?_cons_zero,Option.some.injEq] at h
  subst h
  have hc:(!Nat.testBit D i0 && y.af.all (Nat.testBit D))=true:=by rw [ha,show Nat.testBit D i0=false from hb];rfl
  simp only [ZwA,hc,cond_true]
  exact List.mem_cons_self ..
 | y :: l,i0,D,i+1,x,h,hb,ha=>by
  have ih:=Zfk (l:=l) (i0:=i0+1) (D:=D) (i:=i) (x:=x) (by simpa using h) (by rw [show i0+1+i=i0+(i+1) from by omega];exact hb) ha
  rw [show i0+1+i=i0+(i+1) from by omega] at ih
  simp only [ZwA]
  cases (!Nat.testBit D i0 && y.af.all (Nat.testBit D))
  . exact ih
  . exact List.mem_cons_of_mem _ ih
def Zsb (f:Nat->Ins->Prop):List (Nat × Ins)->Prop
 | []=>True
 | (i,x) :: r=>f i x/\Zsb f r
theorem ZnK {f:Nat->Ins->Prop} {rs:List (Nat × Ins)}:∀ {i:Nat} {x:Ins},Zsb f rs->(i,x) ∈ rs->f i x:=by
 induction rs with
 | nil=>intro i x _ hm;cases hm
 | cons y r ih =>
  intro i x h hm
  obtain ⟨j,z⟩:=y
  have h':f j z/\Zsb f r:=h
  rcases List.mem_cons.1 hm with e | e
  . injection e with e1 e2;subst e1 e2;exact h'.1
  . exact ih h'.2 e
theorem YM {f:Nat->Ins->Prop} {i:Nat} {x:Ins} {r:List (Nat × Ins)} (h:f i x) (h':Zsb f r):Zsb f ((i,x) :: r):=⟨h,h'⟩
theorem XO {f:Nat->Ins->Prop}:Zsb f []:=trivial
theorem Ys {P:Program} {Y:Hd} {m:Nat} {l:List Ins} {n D:Nat} {σ : St} {K:Ex->St->Prop} (rs:List (Nat × Ins)) (h:ZwA 0 l D=rs) (ha:Zsb (fun i x=>st1 P Y x σ (fun σ' K'=>∃ σc,Ent m σ' σc/\LAT P Y m l n (D ||| 2 ^ i) σc K') K) rs):LAT P Y m l (n+1) D σ K:=by
 intro i x hx hb haf
 have hm:=Zfk (i0:=0) hx (by rw [Nat.zero_add];exact hb) haf
 rw [Nat.zero_add,h] at hm
 exact ZnK ha hm
theorem UY {l:List Nat} {n:Nat} (hn:Nat.beq l.length n=true) (hi:ZaL l=true):∀ i,i < n->∀ j,j < n->rho l i=rho l j->i=j:=fun i hi' j hj e=>by
 have hn:=Nat.eq_of_beq_eq_true hn
 rw [Uc l i (by omega),Uc l j (by omega)] at e
 have hp:=List.pairwise_iff_getElem.1 (XK hi)
 rcases Nat.lt_trichotomy i j with h | h | h
 . exact absurd e (hp i j (by omega) (by omega) h)
 . exact h
 . exact absurd e.symm (hp j i (by omega) (by omega) h)
theorem Zk3 {σ σ':St} (l:List Nat) (hf:mtF (rho l) σ'.n [] σ'.fr σ.fr) (hp:mtP (rho l) σ'.hp σ.hp σ'.n σ'.n) (hb:hpb σ'.n σ'.hp) (hn:Nat.beq l.length σ'.n=true) (hi:ZaL l=true) (hN:Nat.beq σ'.N σ.N=true):Ent 0 σ σ' :=
 ent (rho l) hf hp hb (UY hn hi) hN rfl (fun i h=>absurd h (Nat.not_lt_zero i))
theorem Zt2 {P:Program} {Y:Hd} {r:KT} {σ : St} {K:RK}:rxT P Y [] r σ K=r σ K:=rfl
theorem Znl {P:Program} {Y:Hd} {x:Ins} {l:List Ins} {r:KT} {σ : St} {K:RK}:rxT P Y (x :: l) r σ K=st1 P Y x σ (rxT P Y l r) K:=rfl
attribute [go_sem] Zt2 Znl
open Go.RowKit
section
variable {P:Program} {C:Cx} {E:Env} {w w':World}
theorem Zey {k o:Nat}:∀ {N u:Nat} {xs ys:List (List SV)},N<=xs.length->XY k o u N (xs ++ ys)=XY k o u N xs ++ ys
 | 0,_,_,_,_=>by simp only [XY]
 | N+1,u,[],ys,h=>by simp at h
 | N+1,u,x :: xs,ys,h=>by simp only [List.cons_append,XY];rw [Zey (by simpa using h)]
theorem ZeF {p:SV->SV->Prop} (hp:∀ s,p s s) {k o:Nat}:∀ {N:Nat} {xs:List (List SV)} {u u':Nat},(∀ i,i < N->p (.mr k (u+i)) (.mr k (u'+i)))->F2 p (XY k o u N xs).flatten (XY k o u' N xs).flatten
 | 0,xs,u,u',_=>by simp only [XY];exact Vw hp _
 | N+1,[],u,u',_=>by simp only [XY];exact .nil
 | N+1,r :: xs,u,u',h=>by
  simp only [XY,List.flatten_cons]
  exact Zai (Ze9 (by simpa using h 0 (by omega)) o (Vw hp r)) (ZeF hp fun i hi=>by
   have:=h (i+1) (by omega)
   rw [show u+(i+1)=u+1+i from by omega,show u'+(i+1)=u'+1+i from by omega] at this;exact this)
theorem ZfH {n ok:Nat->Prop} {y:Value} {m:Nat} {xs:List (List SV)} {T:TypeId} (h:Zo4 w E n ok y m xs T):∃ cs,WB w y m xs.length cs/\RL w E n ok xs.flatten cs/\((∀ r ∈ xs,r.length=m)\/xs=[]):=by
 rcases h with ⟨rfl,a0,h⟩ | ⟨b,cap,cs,h1,h2,h3,⟨h4,_⟩,h5,h6,h7⟩
 . exact ⟨[],by rw [h];exact ⟨a0,0,rfl,Nat.le_refl _,by simp,.inl rfl⟩,by simp [RL],.inr rfl⟩
 . refine ⟨_,⟨_,cap,h1,h4,?_,.inr ⟨b,0,rfl,fun j c hj=>?_⟩⟩,h7,.inl h6⟩
   . have:=Nat.mul_le_mul_right m h4
     simp only [List.length_take,Array.length_toList,h3];exact Nat.min_eq_left this
   . rw [Nat.zero_add,cell_of_row _ _ _ _ _ _ h2]
     have hj':j < xs.length * m:=by have:=(List.getElem?_eq_some_iff.1 hj).1;simp at this;omega
     rw [List.getElem?_take_of_lt hj'] at hj;simpa using hj
theorem ZdS {hp:List (Nat × HB)} {n:Nat->Prop} {k v m o m':Nat} {xs ys:List (List SV)} {T T':TypeId} {inn:List (List (List SV))} {y:Value} {b cap:Nat} {cs:Array Value}
 (h:HSim C E hp n w) (hk:lkh k hp = .rws v m xs T o m' inn T')
 (ho:w'.os=w.os) (ht:w'.tape=w.tape) (hu:w'.output=w.output) (hsz:w.heap.size<=w'.heap.size) (hsame:∀ b,b < w.heap.size->¬ ZaR (E.hv k v) b->w'.heap[b]? = w.heap[b]?)
 (e1:y = .slice (some ⟨b,0,none⟩) (xs.length+ys.length) cap) (eb:ZaR (E.hv k v) b\/w.heap.size<=b) (e2:w'.heap[b]? = some (.cells cs T (0,0))) (e3:cs.size=cap * m) (e4:xs.length+ys.length<=cap/\cap≠0) (e5:xs.length+ys.length<=9223372036854775807)
 (e6:(∀ r ∈ xs,r.length=m)/\∀ r ∈ ys,r.length=m) (e7:RL w E n (okS C E hp) ((XY k o (v+1) inn.length xs).flatten ++ ys.flatten) (cs.toList.take ((xs.length+ys.length) * m))) :
 ∃ E',(∀ j,n j->Ele E E' j j)/\E'.hv k (v+1+inn.length)=y/\v+1+inn.length < E'.iss k/\n k/\HSim C E' ((k,.rws (v+1+inn.length) m (xs ++ ys) T o m' inn T') :: hp) n w'/\Zt w w' (okS C E hp) (okS C E' ((k,.rws (v+1+inn.length) m (xs ++ ys) T o m' inn T') :: hp)):=by
 have hkn:n k:=by
  rcases Classical.em (n k) with h' | h'
  . exact h'
  . rw [h.kn k h'] at hk;cases hk
 have hb0:=h.bk k
 rw [hk] at hb0
 simp only [ZT] at hb0
 obtain ⟨a1,a2,a3,a4⟩:=hb0
 generalize hV:v+1+inn.length=V at *
 let E':Env:=⟨E.β,fun j u=>if j=k/\V<=u then (if u=V then y else E.hv k (u - V+v)) else E.hv j u,fun j=>if j=k then V+1+inn.length else E.iss j⟩
 have hv0:∀ j u,j≠k\/u < V->E'.hv j u=E.hv j u:=fun j u hj=>by
  simp only [E'];rw [if_neg];rintro ⟨rfl,q⟩;rcases hj with hj | hj
  . exact hj rfl
  . omega
 have hvV:E'.hv k V=y:=by simp [E']
 have hvi:∀ i,E'.hv k (V+(i+1))=E.hv k (v+(i+1)):=fun i=>by
  show (if k=k/\V<=V+(i+1) then (if V+(i+1)=V then y else E.hv k (V+(i+1) - V+v)) else E.hv k (V+(i+1)))=_
  rw [if_pos ⟨rfl,by omega⟩,if_neg (by omega),show V+(i+1) - V+v=v+(i+1) from by omega]
 have hik:E'.iss k=V+1+inn.length:=if_pos rfl
 have hE:∀ j,n j->Ele E E' j j:=fun j _=>⟨rfl,by
  by_cases hj:j=k
  . subst hj;simp [E',a1];omega
  . simp [E',hj],fun u hu'=>by
  by_cases hj:j=k
  . subst hj;rw [a1] at hu';exact hv0 _ _ (.inr hu')
  . exact hv0 _ _ (.inl hj)⟩
 have hoc:∀ j b,j≠k->(occ E' j (lkh j ((k,.rws V m (xs ++ ys) T o m' inn T') :: hp)) b↔occ E j (lkh j hp) b):=fun j b hj=>by
  rw [Zk,if_neg hj]
  have hvv:∀ u,E'.hv j u=E.hv j u:=fun u=>hv0 j u (.inl hj)
  have hbb:E'.β j=E.β j:=rfl
  cases hl:lkh j hp<;>simp only [occ,hvv,hbb]
 have hok:∀ i b,i<=inn.length->ZaR (E.hv k (v+i)) b->occ E k (lkh k hp) b:=fun i b hi hb=>by rw [hk];exact ⟨i,hi,hb⟩
 have hdy:∀ b',ZaR y b'->b'=b:=fun b' hb=>by
  obtain ⟨len,c2,q1,q2⟩:=hb
  rw [e1] at q1;simp at q1;exact q1.1.symm
 have hocn:∀ b,occ E' k (lkh k ((k,.rws V m (xs ++ ys) T o m' inn T') :: hp)) b->occ E k (lkh k hp) b\/w.heap.size<=b:=fun b'=>by
  rw [Zk,if_pos rfl]
  rintro ⟨i,hi,hb⟩
  cases i with
  | zero =>
   rw [Nat.add_zero,hvV] at hb
   have:=hdy b' hb;subst this
   rcases eb with q | q
   . exact .inl (hok 0 _ (Nat.zero_le _) q)
   . exact .inr q
  | succ i=>rw [hvi] at hb;exact .inl (hok (i+1) _ hi hb)
 have hst:Zt w w' (okS C E hp) (okS C E' ((k,.rws V m (xs ++ ys) T o m' inn T') :: hp)):=fun b' hb hs=>by
  have hlt':b' < w.heap.size:=by
   obtain ⟨o,ho⟩:=Option.isSome_iff_exists.1 hs
   exact (Array.getElem?_eq_some_iff.1 ho).1
  refine ⟨⟨hb.1,fun j hj=>?_⟩,hsame b' hlt' (fun q=>hb.2 k (hok 0 _ (Nat.zero_le _) q))⟩
  by_cases hjk:j=k
  . subst hjk
    rcases hocn b' hj with q | q
    . exact hb.2 _ q
    . omega
  . exact hb.2 j ((hoc j b' hjk).1 hj)
 have hidx:∀ i,i < inn.length->∀ b',ZaR (E.hv k (v+(i+1))) b'->w'.heap[b']? = w.heap[b']?:=fun i hi b' hb =>
  hsame b' (Yc h (hok (i+1) b' hi hb)) (fun q=>by have:=a4 0 (i+1) b' (Nat.zero_le _) hi q hb;omega)
 refine ⟨E',hE,hvV,by rw [hik];omega,hkn,⟨fun j hj=>?_,fun j=>?_,fun j j' b' h1 h2=>?_,fun j b' h1=>?_,⟨ho.trans h.kp.os,ht.trans h.kp.tape,hu.trans h.kp.output,Nat.le_trans h.kp.size hsz,fun b' h1 h2=>?_⟩,fun j hj=>(by obtain ⟨p1,p2⟩:=h.pin j hj;exact ⟨p1,p2.trans (hE j p1)⟩)⟩,hst⟩
 . rw [Zk,if_neg (fun e=>hj (by rw [e];exact hkn))];exact h.kn j hj
 . rw [Zk]
   by_cases hj:j=k
   . subst hj;rw [if_pos rfl]
     simp only [ZT]
     refine ⟨hik,by rw [List.length_append];omega,fun i mm rows TT hr=>?_,fun i i' b' hi hi' g1 g2=>?_⟩
     . cases i with
       | zero =>
        simp only [Yf,Option.some.injEq,Prod.mk.injEq] at hr
        obtain ⟨rfl,rfl,rfl⟩:=hr
        rw [Nat.add_zero,hvV]
        have hl:=YS j o (V+1) inn.length (xs ++ ys)
        refine .inr ⟨b,cap,cs,by rw [hl,List.length_append];exact e1,e2,e3,by rw [hl,List.length_append];exact e4,by rw [hl,List.length_append];exact e5,Y9.2 fun r hr=>?_,?_⟩
        . rcases List.mem_append.1 hr with hr | hr
          . exact e6.1 r hr
          . exact e6.2 r hr
        . rw [hl,List.length_append,Zey a2,List.flatten_append]
          have e8:=Zx hst.c hE (fun _ h=>h) _ _ e7
          refine Vn ?_ e8
          refine Zai (ZeF (p:=fun s s'=>∀ y,R w' E' n (okS C E' ((j,.rws V m (xs ++ ys) T o m' inn T') :: hp)) s y->R w' E' n (okS C E' ((j,.rws V m (xs ++ ys) T o m' inn T') :: hp)) s' y) (fun s y hy=>hy) fun i hi y hy=>?_) (Vw (fun s y hy=>hy) _)
          simp only [R] at hy ⊢
          obtain ⟨q1,q2,q3,q4⟩:=hy
          refine ⟨q1,by rw [hik];omega,?_,q4⟩
          rw [q3,hv0 j (v+1+i) (.inr (by omega)),show V+1+i=V+(i+1) from by omega,hvi,show v+(i+1)=v+1+i from by omega]
       | succ i =>
        have hil:=VW hr
        rw [hvi]
        simp only [Yf] at hr
        have hr2:Yf j v m xs T o m' inn T' (i+1)=some (mm,rows,TT):=by simp only [Yf];exact hr
        exact (a3 (i+1) mm rows TT hr2).mono hst.c hE (fun _ h=>h) (hidx i (by omega))
     . have aux:∀ i i',i<=inn.length->i'<=inn.length->ZaR (E'.hv j (V+i)) b'->ZaR (E'.hv j (V+i')) b'->i=0->i'=0:=fun i i' hi hi' g1 g2 hz=>by
        subst hz
        rw [Nat.add_zero,hvV] at g1
        have:=hdy b' g1;subst this
        cases i' with
        | zero=>rfl
        | succ i' =>
         rw [hvi] at g2
         rcases eb with q | q
         . have:=a4 0 (i'+1) _ (Nat.zero_le _) hi' q g2;omega
         . have:=Yc h (hok (i'+1) _ hi' g2);omega
       cases i with
       | zero=>exact (aux 0 i' hi hi' g1 g2 rfl).symm
       | succ i =>
        cases i' with
        | zero=>exact aux 0 (i+1) hi' hi g2 g1 rfl
        | succ i' =>
         rw [hvi] at g1 g2
         exact a4 (i+1) (i'+1) b' hi hi' g1 g2
   . rw [if_neg hj]
     refine Z4 hst hE (fun _ h=>h) ?_ (fun b' hob=>hsame b' (Yc h hob) (fun q=>hj (h.dj j k b' hob (hok 0 _ (Nat.zero_le _) q)))) (by simp [E',hj]) (h.bk j)
     rcases Classical.em (n j) with h' | h'
     . exact .inr h'
     . exact .inl (h.kn j h')
 . by_cases hj:j=k<;>by_cases hj':j'=k
   . omega
   . subst hj;rw [hoc j' b' hj'] at h2
     rcases hocn b' h1 with q | q
     . exact h.dj _ _ b' q h2
     . have:=Yc h h2;omega
   . subst hj';rw [hoc j b' hj] at h1
     rcases hocn b' h2 with q | q
     . exact h.dj _ _ b' h1 q
     . have:=Yc h h1;omega
   . exact h.dj j j' b' ((hoc j b' hj).1 h1) ((hoc j' b' hj').1 h2)
 . by_cases hj:j=k
   . subst hj
     rcases hocn b' h1 with q | q
     . exact h.lo _ b' q
     . exact .inl (Nat.le_trans h.kp.size q)
   . exact h.lo j b' ((hoc j b' hj).1 h1)
 . rw [hsame b' (Nat.lt_of_lt_of_le h1 h.kp.size) (fun q=>by rcases h.lo k b' (hok 0 _ (Nat.zero_le _) q) with g | g;omega;exact h2 _ g)]
   exact h.kp.block b' h1 h2
theorem Znp {ty:TypeId} {ax ay:Operand} {az:Array Operand} {ts:Array TypeId} {σ : St} {r:KT} {K:RK} {k v m o m':Nat} {xs ys:List (List SV)} {inn:List (List (List SV))} {T T' t:TypeId} {u bs:Nat}
 (hx:V2 σ ax = .mr k v) (hy:Zc8 m (V2 σ ay)=some ys) (hk:lkh k σ.hp = .rws v m xs T o m' inn T')
 (has:az = #[ax,ay]) (hts:ts = #[t,t]) (ht:P.underlying t=some (.slice T)) (hsz:Xl P T=some m) (hby:Xu P T=some bs) (hz:(ZU P T).map (fun z=>z.cells.size)=some m) (hbs:Nat.blt 0 bs=true) (hm0:Nat.blt 0 m=true)
 (hone:∀ c ∈ ys,Z9 c=true) (hys:ys≠[]) (hlim:(xs.length+ys.length) * bs<=140737488355328)
 (h1:YV u σ.gs=false) (h2:Nat.blt u σ.N=true) (h:r ⟨(u,.mr k (v+1+inn.length)) :: σ.fr,(k,.rws (v+1+inn.length) m (xs ++ ys) T o m' inn T') :: σ.hp,σ.n,σ.N,σ.gs⟩ K) :
 RAW P (some u) (.call ⟨.builtin .append,az,ts⟩) ty σ r K:=by
 intro o' C E a w next Q q1 q2 q3 hS hn hq
 have hxv:=Wa hS hx (fun _ _ _=>by simp)
 have hng:∀ j b s,V2 σ ay≠.gd j b s:=fun j b s e=>by rw [e] at hy;simp [Zc8] at hy
 have hyv:=Wa hS (s:=V2 σ ay) rfl hng
 simp only [R] at hxv
 obtain ⟨hnk,hvi,hxv,_⟩:=hxv
 have hb:=hS.hs.bk k
 rw [hk] at hb
 simp only [ZT] at hb
 obtain ⟨a1,a2,a3,a4⟩:=hb
 have hR0:=a3 0 _ _ _ rfl
 rw [Nat.add_zero] at hR0
 have hl1:=YS k o (v+1) inn.length xs
 obtain ⟨cx,x1,x2,x3⟩:=ZfH hR0
 obtain ⟨cy,y1,y2,y3⟩:=X7 hyv hy
 have x3':∀ r ∈ xs,r.length=m:=by
  rcases x3 with x3 | x3
  . exact Y9.1 x3
  . intro r hr
    have:xs=[]:=List.eq_nil_of_length_eq_zero (by rw [<- hl1,x3];rfl)
    rw [this] at hr;simp at hr
 have hone':∀ z ∈ cy,z.oneCell'=true:=by
  have:∀ l:List (List SV),(∀ c ∈ l,Z9 c=true)->Z9 l.flatten=true:=by
   intro l
   induction l with
   | nil=>intro _;rfl
   | cons c l ih=>intro hh;rw [List.flatten_cons];exact WE (hh c (by simp)) (ih (fun d hd=>hh d (by simp [hd])))
  exact YJ (this _ hone) y2
 have hb0:0 < bs:=by simpa [Nat.blt_eq] using hbs
 have hlim2:xs.length+ys.length<=140737488355328:=Nat.le_trans (Nat.le_mul_of_pos_right _ hb0) hlim
 have hcy:cy.length=ys.length * m:=by rw [Zw y2];exact Y7 y3
 have hcx:cx.length=xs.length * m:=by rw [Zw x2];rw [Y7 (Y9.2 x3'),hl1]
 have hyl:ys.length≠0:=fun e=>hys (List.eq_nil_of_length_eq_zero e)
 obtain ⟨i,hi⟩:∃ i,P.info? T=some i:=by
  unfold Xl at hsz
  cases hq:P.info? T with
  | none=>simp [hq] at hsz
  | some i=>exact ⟨i,rfl⟩
 have hszi:i.size=m:=by simpa [Xl,hi] using hsz
 have hbyi:i.bytes=bs:=by simpa [Xu,hi] using hby
 obtain ⟨z,hz1,hz2⟩:∃ z,ZU P T=some z/\z.cells.size=m:=by
  cases hzz:ZU P T with
  | none=>simp [hzz] at hz
  | some z=>exact ⟨z,rfl,by simpa [hzz] using hz⟩
 have hzi:i.zero=some z:=by simpa [ZU,hi] using hz1
 have hsz':∀ w,(sizeOf T).run P w = .ok m w:=fun w=>ZY hsz
 have fin:∀ (y':Value) (w':World),(Builtin.append_ #[t,t] ty #[a.eval ax,a.eval ay]).run P w = .ok y' w'->y'.oneCell'=true->w'.os=w.os->w'.tape=w.tape->w'.output=w.output->w.heap.size<=w'.heap.size ->
  (∀ b,b < w.heap.size->¬ ZaR (E.hv k v) b->w'.heap[b]? = w.heap[b]?) ->
  (∃ b cap cs,y' = .slice (some ⟨b,0,none⟩) (xs.length+ys.length) cap/\(ZaR (E.hv k v) b\/w.heap.size<=b)/\w'.heap[b]? = some (.cells cs T (0,0))/\cs.size=cap * m/\(xs.length+ys.length<=cap/\cap≠0) /\
   RL w E (ltn σ.n) (okS C E σ.hp) ((XY k o (v+1) inn.length xs).flatten ++ ys.flatten) (cs.toList.take ((xs.length+ys.length) * m))) ->
  o'.wpq C.rd P a w next Q:=fun y' w' hrun ho1 g1 g2 g3 g4 g5 ⟨b,cap,cs,f1,f2,f3,f4,f5,f6⟩=>by
  obtain ⟨E',k1,k2,k3,k4,k5,k6⟩:=ZdS hS.hs hk g1 g2 g3 g4 g5 f1 f2 f3 f4 f5 (by omega) ⟨x3',y3⟩ f6
  have hx:(execOp a.eval o').run P w = .ok (.value y') w':=by
   obtain ⟨dst',op',ty',pos,after,guard⟩:=o'
   simp only at q2 q3;subst q2;subst q3
   subst has hts
   simp [execOp,resolve,invoke,builtin,hrun]
  refine Zv hx (by simp) ?_
  show next (a.put o'.dst _) w'
  rw [q1]
  exact hn _ E' _ _ h (Xe (σ:=σ) (hp':=(k,.rws (v+1+inn.length) m (xs ++ ys) T o m' inn T') :: σ.hp) hS k6 k1 (Nat.le_refl _) k5 (fun hh=>by rw [ZN.2 hh] at h1;cases h1) (by simpa [Nat.blt_eq] using h2) (fun _ _ _ e=>by cases e)
   (by simp only [R];exact ⟨k4,k3,k2.symm,ho1⟩))
 have hfx:=fun w' (hw:∀ a,w'.cell? a=w.cell? a)=>ZQ (P:=P) (w':=w') (by rw [hszi];rw [hl1] at x1;exact x1:WB w (E.hv k v) i.size xs.length cx) hw
 have hfy:=fun w' (hw:∀ a,w'.cell? a=w.cell? a)=>ZQ (P:=P) (w':=w') (by rw [hszi];exact y1:WB w (a.eval ay) i.size ys.length cy) hw
 obtain ⟨ay',capy,hye,hcy',_,_⟩:=y1
 obtain ⟨ax',capx,hxe,hxl,_,_⟩:=x1
 rw [hxe] at hfx
 rw [hye] at hfy
 rw [hl1] at hxe hxl hfx
 by_cases hfit:xs.length+ys.length<=capx
 ·
  rcases hR0 with ⟨g0,a0,g1⟩ | ⟨b',cap,cs,g1,g2,g3,g4,g5,g6,g7⟩
  . rw [hxe] at g1;simp at g1;omega
  . rw [hl1] at g1 g4 g7
    rw [hxe] at g1;simp at g1;obtain ⟨rfl,rfl⟩:=g1
    have hle:xs.length * m+cy.length<=cs.toList.length:=by
     have e3:cs.toList.length=capx * m:=by rw [Array.length_toList];exact g3
     rw [hcy,e3,<- Nat.add_mul];exact Nat.mul_le_mul_right m hfit
    obtain ⟨w',s1,s2⟩:=YE (P:=P) cy (w:=w) (b:=b') (o:=xs.length * m) (i:=0) (cs:=cs.toList) (T:=T) (by simpa using g2) (by simpa using hle) hone'
    refine fin (.slice (some ⟨b',0,none⟩) (xs.length+ys.length) capx) w' ?_ rfl s2.os s2.tape s2.output (Nat.le_of_eq s2.size.symm) (fun b hb hno=>s2.same b (fun e=>by subst e;exact hno ⟨_,_,hxe,g4.2⟩)) ⟨b',capx,(Zy cs.toList (xs.length * m) cy).toArray,rfl,.inl ⟨_,_,hxe,g4.2⟩,by simpa using s2.here,by simp [ZI,g3],⟨hfit,g4.2⟩,?_⟩
    . rw [hxv,hxe,hye]
      simp [Builtin.append_,Sem.run_bind,run_underlying ht,hsz',Builtin.lenOf,hfit,<- hszi,hfy w (fun _=>rfl),Yw]
      rw [hszi,s1];rfl
    . rw [Nat.add_mul,<- hcy]
      rw [List.toList_toArray,YL (Nat.le_refl _) hle]
      have e1:Zy (List.take (xs.length * m+cy.length) cs.toList) (xs.length * m) cy=List.take (xs.length * m) cs.toList ++ cy:=by
       rw [WI _ _ _ (by rw [List.length_take,Nat.min_eq_left hle];exact Nat.le_refl _),List.take_take,Nat.min_eq_left (by omega),List.drop_of_length_le (by rw [List.length_take,Nat.min_eq_left hle];exact Nat.le_refl _),List.append_nil]
      rw [e1]
      exact Z0 g7 y2
 ·
  have hn':¬ (xs.length+ys.length<=capx):=hfit
  have h63':¬ (9223372036854775807 < ((xs.length:Int)+(ys.length:Int))):=by omega
  have hfit':Builtin.nextslicecap (xs.length+ys.length) capx * i.bytes<=281474976710656:=growslice_fits (by omega) (by rw [hbyi];exact hlim)
  have h48':¬ (281474976710656 < Builtin.nextslicecap (xs.length+ys.length) capx * i.bytes):=by omega
  have hcap:xs.length+ys.length<=grownCap w (xs.length+ys.length) capx T:=by unfold grownCap;simp only [Question.cut];omega
  refine fin (.slice (some ⟨w.heap.size,0,none⟩) (xs.length+ys.length) (grownCap w (xs.length+ys.length) capx T)) (w.drew.alloc (.cells (cx.toArray ++ cy.toArray ++ Builtin.zeroCells z.cells (grownCap w (xs.length+ys.length) capx T - (xs.length+ys.length))) T)) ?_ rfl rfl rfl rfl
   (by have:=(X2.alloc (Nat.le_refl _) (.cells (cx.toArray ++ cy.toArray ++ Builtin.zeroCells z.cells (grownCap w (xs.length+ys.length) capx T - (xs.length+ys.length))) T):Below w.heap.size w _).size;exact this)
   (fun b hb _=>(X2.alloc (Nat.le_refl _) _:Below w.heap.size w _).block b hb) ⟨w.heap.size,grownCap w (xs.length+ys.length) capx T,_,rfl,.inr (Nat.le_refl _),heap_alloc_new _ _,?_,⟨hcap,by omega⟩,?_⟩
  . rw [hxv,hxe,hye]
    simp [Builtin.append_,run_underlying ht,sizeOf,typeInfo,zeroValue,hi,hzi,Builtin.lenOf,hn',h63',h48',Question.forced,hfx w.drew (fun _=>rfl),hfy w.drew (fun _=>rfl),newRow,grownCap]
    congr 2
    apply Array.ext'
    simp [List.append_assoc]
  . simp only [Array.size_append,List.size_toArray,Builtin.zeroCells,Array.size_map,Array.size_range,hz2,hcx,hcy]
    rw [<- Nat.add_mul,<- Nat.add_mul];congr 1;omega
  . have e:∀ Z:Array Value,List.take ((xs.length+ys.length) * m) (cx.toArray ++ cy.toArray ++ Z).toList=cx ++ cy:=fun Z=>by
     have e9:(cx.toArray ++ cy.toArray ++ Z).toList=(cx ++ cy) ++ Z.toList:=by simp
     rw [e9];exact List.take_left' (by rw [List.length_append,Nat.add_mul,hcx,hcy])
    rw [e]
    exact Z0 x2 y2
end
def sB:Bool->SV->SV
 | true,s=>s
 | false,_=>.any
def hB:Bool->HB->HB
 | true,h=>h
 | false,_=>.gone
theorem Za8 {ρ : Nat->Nat} {n:Nat} {o:Bool} {v v':SV}:mtS ρ n (sB o v) v'=(o=true->mtS ρ n v v'):=by
 cases o<;>simp [sB,mtS]
theorem Za7 {ρ : Nat->Nat} {n:Nat} {o:Bool} {v v':HB}:mtH ρ n (hB o v) v'=(o=true->mtH ρ n v v'):=by
 cases o<;>simp [hB,mtH]
theorem sBt {v:SV}:sB true v=v:=rfl
theorem sBf {v:SV}:sB false v = .any:=rfl
theorem hBt {v:HB}:hB true v=v:=rfl
theorem hBf {v:HB}:hB false v = .gone:=rfl
theorem Zdu {ρ : Nat->Nat} {n:Nat} {h:HB}:mtH ρ n .gone h=True:=rfl
theorem ZdC {ρ : Nat->Nat} {n:Nat} {l l2:List SV} {T T2:TypeId}:mtH ρ n (.cells l T) (.cells l2 T2)=(T2=T/\mtL ρ n l l2):=rfl
theorem Zdx {ρ : Nat->Nat} {n v m:Nat} {xs:List (List SV)} {T:TypeId} {h:HB}:mtH ρ n (.row v m xs T) h=(h = .row v m xs T/\KFR xs):=rfl
theorem tn {b:Bool} (h:(!b).toNat=0):b=true:=by cases b<;>simp_all
def sbF:List Nat->List (Nat × SV)->List (Nat × SV)->Prop
 | _,[],_=>True
 | seen,(t,s) :: r,fr=>(YV t seen=true\/s = .any\/lk t fr=s)/\sbF (t :: seen) r fr
theorem ZqS {fr:List (Nat × SV)}:∀ {fr':List (Nat × SV)} {seen:List Nat},sbF seen fr' fr->∀ t,YV t seen=false->lk t fr' = .any\/lk t fr'=lk t fr
 | [],_,_,_,_=>.inl rfl
 | (u,s) :: r,seen,h,t,ht=>by
  obtain ⟨h1,h2⟩:=h
  rw [Zu]
  split
  . rename_i e
    subst e
    rcases h1 with h1 | h1 | h1
    . rw [ht] at h1;cases h1
    . exact .inl h1
    . exact .inr h1.symm
  . rename_i e
    refine ZqS h2 t ?_
    rcases Bool.eq_false_or_eq_true (YV t (u :: seen)) with q | q
    . rw [ZN] at q
      rcases List.mem_cons.1 q with q | q
      . exact absurd q (by first | exact e | exact fun x=>e x.symm)
      . rw [ZN.2 q] at ht;cases ht
    . exact q
theorem YH {m n N:Nat} {fr fr':List (Nat × SV)} {hp:List (Nat × HB)} (h:sbF [] fr' fr) (hg:∀ t j b s,lk t fr'≠.gd j b s):Ent m ⟨fr,hp,n,N,[]⟩ ⟨fr',hp,n,N,[]⟩:=fun C E a w _ hs=>by
 refine ⟨E,fun t=>?_,hs.sz,hs.df,fun t j b s e=>absurd e (hg t j b s),hs.hs⟩
 have h0:=hs.fr t
 rcases ZqS h t rfl with q | q
 . rw [q];exact trivial
 . have hng:=hg t
   rw [q] at hng ⊢
   simp only at h0
   cases hc:lk t fr<;>rw [hc] at h0 hng<;>first | exact h0 | exact absurd rfl (hng _ _ _)
def ngF:List (Nat × SV)->Prop
 | []=>True
 | (_,s) :: r=>(∀ j b u,s≠.gd j b u)/\ngF r
theorem Xi:∀ {fr:List (Nat × SV)},ngF fr->∀ t j b s,lk t fr≠.gd j b s
 | [],_,_,_,_,_=>by simp [lk]
 | (u,s) :: r,h,t,j,b,s'=>by
  rw [Zu]
  split
  . exact h.1 j b s'
  . exact Xi h.2 t j b s'
end Go.Sx
namespace Go.Proofs.Ythilckbkffjliaa
open Go Go.Sx Go.Azalai
def zI (n:Nat):List (List SV):=List.replicate n [I 0]
def zB (n:Nat):List (List SV):=List.replicate n [B false]
theorem Vg (n:Nat):KFR (zI n)=True:=eq_true (Zab (by simp [KFL,KF]) n)
theorem Vi (n:Nat):KFR (zB n)=True:=eq_true (Zab (by simp [KFL,KF]) n)
theorem Zdn (n:Nat):List.replicate n [SV.v (.int .i64 0)]=zI n:=rfl
theorem ZdX (n:Nat):List.replicate n [SV.v (.bool false)]=zB n:=rfl
theorem mt7 {ρ : Nat->Nat} {n:Nat} {o:Bool}:mtL ρ n (bif o then [.mr 2 0,.mr 3 0,.mr 4 0,.mr 5 0,I 0,.mr 6 0,.v (.slice none 0 0)] else [.v (.slice none 0 0),.v (.slice none 0 0),.v (.slice none 0 0),.v (.slice none 0 0),I 0,.v (.slice none 0 0),.v (.slice none 0 0)]) (bif o then [.mr 2 0,.mr 3 0,.mr 4 0,.mr 5 0,I 0,.mr 6 0,.v (.slice none 0 0)] else [.v (.slice none 0 0),.v (.slice none 0 0),.v (.slice none 0 0),.v (.slice none 0 0),I 0,.v (.slice none 0 0),.v (.slice none 0 0)])=(o=true->mtL ρ n [.mr 2 0,.mr 3 0,.mr 4 0,.mr 5 0,I 0,.mr 6 0,.v (.slice none 0 0)] [.mr 2 0,.mr 3 0,.mr 4 0,.mr 5 0,I 0,.mr 6 0,.v (.slice none 0 0)]):=by
 cases o
 . simp [mtL,mtB,mtS]
 . simp
theorem ZyJ (p:Pact):KFL (Zj p)=True:=eq_true (by simp [Zj,Za,KFL,KF,Zc])
theorem ZZ {ρ : Nat->Nat} {n:Nat} {p:Pact}:mtL ρ n (Zj p) (Zj p)=True:=eq_true (Zd (by rw [ZyJ];trivial))
def opE (p:Pact) (n:Nat) (o0 o1 o2 o3 o4 o5 o6 o7 o8:Bool):St:=⟨[(10,sB o0 (.mr 2 0)),(11,sB o1 (.mr 3 0)),(12,sB o2 (.mr 4 0)),(13,sB o3 (.mr 5 0)),(14,sB o4 (I (n:Int))),(15,sB o5 (.mr 6 0)),(16,sB o6 (.agg [.mr 2 0,.mr 3 0,.mr 4 0,.mr 5 0,I 0,.mr 6 0,.v (.slice none 0 0)])),(4,sB o7 (.p 7 0)),(3,I (n:Int)),(2,.p 1 0),(1,.p 0 0)],[(7,hB o7 (.cells (bif o8 then [.mr 2 0,.mr 3 0,.mr 4 0,.mr 5 0,I 0,.mr 6 0,.v (.slice none 0 0)] else [.v (.slice none 0 0),.v (.slice none 0 0),.v (.slice none 0 0),.v (.slice none 0 0),I 0,.v (.slice none 0 0),.v (.slice none 0 0)]) 95)),(6,hB o5 (.row 0 1 (zI n) 3)),(5,hB o3 (.row 0 1 (zB 10000) 4)),(4,hB o2 (.row 0 1 (zB 10000) 4)),(3,hB o1 (.row 0 1 (zI 10000) 3)),(2,hB o0 (.row 0 1 (zI 10000) 3)),(1,.cells [.v (.slice none 0 0),.v (.slice none 0 0),.v (.slice none 0 0),.v (.slice none 0 0),I 0,.v (.slice none 0 0),.v (.slice none 0 0)] 95),(0,.cells (Zj p) 24)],8,38,[]⟩
def op0 (p:Pact) (n:Nat):St:=⟨[(3,I (n:Int)),(2,.p 1 0),(1,.p 0 0)],[(1,.cells [.v (.slice none 0 0),.v (.slice none 0 0),.v (.slice none 0 0),.v (.slice none 0 0),I 0,.v (.slice none 0 0),.v (.slice none 0 0)] 95),(0,.cells (Zj p) 24)],2,38,[]⟩
def op1 (p:Pact) (n:Nat):St:=⟨[(4,.p 7 0),(3,I (n:Int)),(2,.p 1 0),(1,.p 0 0)],[(7,.cells [.mr 2 0,.mr 3 0,.mr 4 0,.mr 5 0,I 0,.mr 6 0,.v (.slice none 0 0)] 95),(6,.row 0 1 (zI n) 3),(5,.row 0 1 (zB 10000) 4),(4,.row 0 1 (zB 10000) 4),(3,.row 0 1 (zI 10000) 3),(2,.row 0 1 (zI 10000) 3),(1,.cells [.v (.slice none 0 0),.v (.slice none 0 0),.v (.slice none 0 0),.v (.slice none 0 0),I 0,.v (.slice none 0 0),.v (.slice none 0 0)] 95),(0,.cells (Zj p) 24)],8,38,[]⟩
attribute [go_sem] opE op0 op1 sBt sBf hBt hBf
theorem ZoR {p:Pact} {n:Nat}:Ent 0 (op0 p n) (opE p n false false false false false false false false false):=by
 refine Zk3 [0,1,2,3,4,5,6,7] ?_ ?_ ?_ rfl rfl rfl<;>dsimp only [go_sem,rA,rM,rS]<;>simp +contextual [Za8,Za7,mt7,sBt,sBf,hBt,hBf,Vg,Vi,Zdn,ZdX,ZZ,ZdC,Zdx,Zdu,rho,KFL,KF,Zd,mtL,mtB,mtS,mtO,VT,nbr]
theorem opT0 {p:Pact} {n:Nat} {Y:Hd} {K:Ex->St->Prop} {m E:Nat} {o1 o2 o3 o4 o5 o7:Bool} (hn:n<=1000) (h:LAT Try.prog Y 0 Vh m E (opE p n true o1 o2 o3 o4 o5 false o7 false) K):st1 Try.prog Y Zip (opE p n false o1 o2 o3 o4 o5 false o7 false) (fun σ' K'=>∃ σc,Ent 0 σ' σc/\LAT Try.prog Y 0 Vh m E σc K') K:=by
 dsimp only [go_sem,rA,rM,rS]
 refine ⟨10000,rfl,by decide,?_⟩
 dsimp only [go_sem,rA,rM,rS]
 refine ⟨_,?_,h⟩
 refine Zk3 [0,1,8,3,4,5,6,7] ?_ ?_ ?_ rfl rfl rfl<;>dsimp only [go_sem,rA,rM,rS]<;>simp +contextual [Za8,Za7,mt7,sBt,sBf,hBt,hBf,Vg,Vi,Zdn,ZdX,ZZ,ZdC,Zdx,Zdu,rho,KFL,KF,Zd,mtL,mtB,mtS,mtO,VT,nbr]
theorem opT1 {p:Pact} {n:Nat} {Y:Hd} {K:Ex->St->Prop} {m E:Nat} {o0 o2 o3 o4 o5 o7:Bool} (hn:n<=1000) (h:LAT Try.prog Y 0 Vh m E (opE p n o0 true o2 o3 o4 o5 false o7 false) K):st1 Try.prog Y Zjg (opE p n o0 false o2 o3 o4 o5 false o7 false) (fun σ' K'=>∃ σc,Ent 0 σ' σc/\LAT Try.prog Y 0 Vh m E σc K') K:=by
 dsimp only [go_sem,rA,rM,rS]
 refine ⟨10000,rfl,by decide,?_⟩
 dsimp only [go_sem,rA,rM,rS]
 refine ⟨_,?_,h⟩
 refine Zk3 [0,1,2,8,4,5,6,7] ?_ ?_ ?_ rfl rfl rfl<;>dsimp only [go_sem,rA,rM,rS]<;>simp +contextual [Za8,Za7,mt7,sBt,sBf,hBt,hBf,Vg,Vi,Zdn,ZdX,ZZ,ZdC,Zdx,Zdu,rho,KFL,KF,Zd,mtL,mtB,mtS,mtO,VT,nbr]
theorem opT2 {p:Pact} {n:Nat} {Y:Hd} {K:Ex->St->Prop} {m E:Nat} {o0 o1 o3 o4 o5 o7:Bool} (hn:n<=1000) (h:LAT Try.prog Y 0 Vh m E (opE p n o0 o1 true o3 o4 o5 false o7 false) K):st1 Try.prog Y Zh4 (opE p n o0 o1 false o3 o4 o5 false o7 false) (fun σ' K'=>∃ σc,Ent 0 σ' σc/\LAT Try.prog Y 0 Vh m E σc K') K:=by
 dsimp only [go_sem,rA,rM,rS]
 refine ⟨10000,rfl,by decide,?_⟩
 dsimp only [go_sem,rA,rM,rS]
 refine ⟨_,?_,h⟩
 refine Zk3 [0,1,2,3,8,5,6,7] ?_ ?_ ?_ rfl rfl rfl<;>dsimp only [go_sem,rA,rM,rS]<;>simp +contextual [Za8,Za7,mt7,sBt,sBf,hBt,hBf,Vg,Vi,Zdn,ZdX,ZZ,ZdC,Zdx,Zdu,rho,KFL,KF,Zd,mtL,mtB,mtS,mtO,VT,nbr]
theorem opT3 {p:Pact} {n:Nat} {Y:Hd} {K:Ex->St->Prop} {m E:Nat} {o0 o1 o2 o4 o5 o7:Bool} (hn:n<=1000) (h:LAT Try.prog Y 0 Vh m E (opE p n o0 o1 o2 true o4 o5 false o7 false) K):st1 Try.prog Y ZiN (opE p n o0 o1 o2 false o4 o5 false o7 false) (fun σ' K'=>∃ σc,Ent 0 σ' σc/\LAT Try.prog Y 0 Vh m E σc K') K:=by
 dsimp only [go_sem,rA,rM,rS]
 refine ⟨10000,rfl,by decide,?_⟩
 dsimp only [go_sem,rA,rM,rS]
 refine ⟨_,?_,h⟩
 refine Zk3 [0,1,2,3,4,8,6,7] ?_ ?_ ?_ rfl rfl rfl<;>dsimp only [go_sem,rA,rM,rS]<;>simp +contextual [Za8,Za7,mt7,sBt,sBf,hBt,hBf,Vg,Vi,Zdn,ZdX,ZZ,ZdC,Zdx,Zdu,rho,KFL,KF,Zd,mtL,mtB,mtS,mtO,VT,nbr]
theorem opT4 {p:Pact} {n:Nat} {Y:Hd} {K:Ex->St->Prop} {m E:Nat} {o0 o1 o2 o3 o5 o6 o7 o8:Bool} (hn:n<=1000) (h:LAT Try.prog Y 0 Vh m E (opE p n o0 o1 o2 o3 true o5 o6 o7 o8) K):st1 Try.prog Y Zhg (opE p n o0 o1 o2 o3 false o5 o6 o7 o8) (fun σ' K'=>∃ σc,Ent 0 σ' σc/\LAT Try.prog Y 0 Vh m E σc K') K:=by
 dsimp only [go_sem,rA,rM,rS]
 refine ⟨_,?_,h⟩
 refine Zk3 [0,1,2,3,4,5,6,7] ?_ ?_ ?_ rfl rfl rfl<;>dsimp only [go_sem,rA,rM,rS]<;>simp +contextual [Za8,Za7,mt7,sBt,sBf,hBt,hBf,Vg,Vi,Zdn,ZdX,ZZ,ZdC,Zdx,Zdu,rho,KFL,KF,Zd,mtL,mtB,mtS,mtO,VT,nbr]
theorem opT5 {p:Pact} {n:Nat} {Y:Hd} {K:Ex->St->Prop} {m E:Nat} {o0 o1 o2 o3 o7:Bool} (hn:n<=1000) (h:LAT Try.prog Y 0 Vh m E (opE p n o0 o1 o2 o3 true true false o7 false) K):st1 Try.prog Y Zhw (opE p n o0 o1 o2 o3 true false false o7 false) (fun σ' K'=>∃ σc,Ent 0 σ' σc/\LAT Try.prog Y 0 Vh m E σc K') K:=by
 dsimp only [go_sem,rA,rM,rS]
 refine ⟨n,rfl,by omega,?_⟩
 dsimp only [go_sem,rA,rM,rS]
 refine ⟨_,?_,h⟩
 refine Zk3 [0,1,2,3,4,5,8,7] ?_ ?_ ?_ rfl rfl rfl<;>dsimp only [go_sem,rA,rM,rS]<;>simp +contextual [Za8,Za7,mt7,sBt,sBf,hBt,hBf,Vg,Vi,Zdn,ZdX,ZZ,ZdC,Zdx,Zdu,rho,KFL,KF,Zd,mtL,mtB,mtS,mtO,VT,nbr]
theorem opT6 {p:Pact} {n:Nat} {Y:Hd} {K:Ex->St->Prop} {m E:Nat} {o4 o7 o8:Bool} (hn:n<=1000) (h:LAT Try.prog Y 0 Vh m E (opE p n true true true true o4 true true o7 o8) K):st1 Try.prog Y ZiT (opE p n true true true true o4 true false o7 o8) (fun σ' K'=>∃ σc,Ent 0 σ' σc/\LAT Try.prog Y 0 Vh m E σc K') K:=by
 dsimp only [go_sem,rA,rM,rS]
 refine ⟨_,?_,h⟩
 refine Zk3 [0,1,2,3,4,5,6,7] ?_ ?_ ?_ rfl rfl rfl<;>dsimp only [go_sem,rA,rM,rS]<;>simp +contextual [Za8,Za7,mt7,sBt,sBf,hBt,hBf,Vg,Vi,Zdn,ZdX,ZZ,ZdC,Zdx,Zdu,rho,KFL,KF,Zd,mtL,mtB,mtS,mtO,VT,nbr]
theorem opT7 {p:Pact} {n:Nat} {Y:Hd} {K:Ex->St->Prop} {m E:Nat} {o0 o1 o2 o3 o4 o5 o6:Bool} (hn:n<=1000) (h:LAT Try.prog Y 0 Vh m E (opE p n o0 o1 o2 o3 o4 o5 o6 true false) K):st1 Try.prog Y ZkM (opE p n o0 o1 o2 o3 o4 o5 o6 false false) (fun σ' K'=>∃ σc,Ent 0 σ' σc/\LAT Try.prog Y 0 Vh m E σc K') K:=by
 dsimp only [go_sem,rA,rM,rS]
 refine ⟨_,?_,h⟩
 refine Zk3 [0,1,2,3,4,5,6,8] ?_ ?_ ?_ rfl rfl rfl<;>dsimp only [go_sem,rA,rM,rS]<;>simp +contextual [Za8,Za7,mt7,sBt,sBf,hBt,hBf,Vg,Vi,Zdn,ZdX,ZZ,ZdC,Zdx,Zdu,rho,KFL,KF,Zd,mtL,mtB,mtS,mtO,VT,nbr]
theorem opT8 {p:Pact} {n:Nat} {Y:Hd} {K:Ex->St->Prop} {m E:Nat} (hn:n<=1000) (h:LAT Try.prog Y 0 Vh m E (opE p n true true true true true true true true true) K):st1 Try.prog Y Zig (opE p n true true true true true true true true false) (fun σ' K'=>∃ σc,Ent 0 σ' σc/\LAT Try.prog Y 0 Vh m E σc K') K:=by
 dsimp only [go_sem,rA,rM,rS]
 refine ⟨_,?_,h⟩
 refine Zk3 [0,1,2,3,4,5,6,7] ?_ ?_ ?_ rfl rfl rfl<;>dsimp only [go_sem,rA,rM,rS]<;>simp +contextual [Za8,Za7,mt7,sBt,sBf,hBt,hBf,Vg,Vi,Zdn,ZdX,ZZ,ZdC,Zdx,Zdu,rho,KFL,KF,Zd,mtL,mtB,mtS,mtO,VT,nbr]
theorem Zy6 {p:Pact} {n:Nat} {Y:Hd} {K:Ex->St->Prop} (hn:n<=1000) (hK:K .n (opE p n true true true true true true true true true)):∀ m D,(!Nat.testBit D 0).toNat+(!Nat.testBit D 1).toNat+(!Nat.testBit D 2).toNat+(!Nat.testBit D 3).toNat+(!Nat.testBit D 4).toNat+(!Nat.testBit D 5).toNat+(!Nat.testBit D 6).toNat+(!Nat.testBit D 7).toNat+(!Nat.testBit D 8).toNat=m->(Nat.testBit D 6=true->Nat.testBit D 0=true/\Nat.testBit D 1=true/\Nat.testBit D 2=true/\Nat.testBit D 3=true/\Nat.testBit D 5=true)->(Nat.testBit D 8=true->Nat.testBit D 7=true/\Nat.testBit D 6=true)->LAT Try.prog Y 0 Vh m D (opE p n (Nat.testBit D 0) (Nat.testBit D 1) (Nat.testBit D 2) (Nat.testBit D 3) (Nat.testBit D 4) (Nat.testBit D 5) (Nat.testBit D 6) (Nat.testBit D 7) (Nat.testBit D 8)) K
 | 0,D,hm,i6,i8=>by
  rw [tn (b:=Nat.testBit D 0) (by omega),tn (b:=Nat.testBit D 1) (by omega),tn (b:=Nat.testBit D 2) (by omega),tn (b:=Nat.testBit D 3) (by omega),tn (b:=Nat.testBit D 4) (by omega),tn (b:=Nat.testBit D 5) (by omega),tn (b:=Nat.testBit D 6) (by omega),tn (b:=Nat.testBit D 7) (by omega),tn (b:=Nat.testBit D 8) (by omega)]
  exact hK
 | m+1,D,hm,i6,i8=>by
  intro i x hx hb ha
  have ih:=Zy6 (p:=p) (Y:=Y) hn hK m (D ||| 2 ^ i)
  rcases i with _ | _ | _ | _ | _ | _ | _ | _ | _ | i
  . obtain rfl:Zip=x:=by simpa [Vh] using hx
    simp only [Zip,Nat.zero_add,Nat.reduceAdd,List.all_cons,List.all_nil,Bool.and_true,Bool.and_eq_true] at hb ha
    simp only [Nat.testBit_or,Nat.testBit_two_pow] at ih
    simp [-Nat.testBit_zero] at ih
    have b6:Nat.testBit D 6=false:=by cases h:Nat.testBit D 6<;>simp_all [-Nat.testBit_zero]
    have b8:Nat.testBit D 8=false:=by cases h:Nat.testBit D 8<;>simp_all [-Nat.testBit_zero]
    simp only [hb,b6,b8] at hm ⊢
    simp only [b6,b8] at ih
    apply opT0 hn;apply ih<;>first | (simp [-Nat.testBit_zero] at hm ⊢;omega) | simp_all [-Nat.testBit_zero]
  . obtain rfl:Zjg=x:=by simpa [Vh] using hx
    simp only [Zjg,Nat.zero_add,Nat.reduceAdd,List.all_cons,List.all_nil,Bool.and_true,Bool.and_eq_true] at hb ha
    simp only [Nat.testBit_or,Nat.testBit_two_pow] at ih
    simp [-Nat.testBit_zero] at ih
    have b6:Nat.testBit D 6=false:=by cases h:Nat.testBit D 6<;>simp_all [-Nat.testBit_zero]
    have b8:Nat.testBit D 8=false:=by cases h:Nat.testBit D 8<;>simp_all [-Nat.testBit_zero]
    simp only [hb,b6,b8] at hm ⊢
    simp only [b6,b8] at ih
    apply opT1 hn;apply ih<;>first | (simp [-Nat.testBit_zero] at hm ⊢;omega) | simp_all [-Nat.testBit_zero]
  . obtain rfl:Zh4=x:=by simpa [Vh] using hx
    simp only [Zh4,Nat.zero_add,Nat.reduceAdd,List.all_cons,List.all_nil,Bool.and_true,Bool.and_eq_true] at hb ha
    simp only [Nat.testBit_or,Nat.testBit_two_pow] at ih
    simp [-Nat.testBit_zero] at ih
    have b6:Nat.testBit D 6=false:=by cases h:Nat.testBit D 6<;>simp_all [-Nat.testBit_zero]
    have b8:Nat.testBit D 8=false:=by cases h:Nat.testBit D 8<;>simp_all [-Nat.testBit_zero]
    simp only [hb,b6,b8] at hm ⊢
    simp only [b6,b8] at ih
    apply opT2 hn;apply ih<;>first | (simp [-Nat.testBit_zero] at hm ⊢;omega) | simp_all [-Nat.testBit_zero]
  . obtain rfl:ZiN=x:=by simpa [Vh] using hx
    simp only [ZiN,Nat.zero_add,Nat.reduceAdd,List.all_cons,List.all_nil,Bool.and_true,Bool.and_eq_true] at hb ha
    simp only [Nat.testBit_or,Nat.testBit_two_pow] at ih
    simp [-Nat.testBit_zero] at ih
    have b6:Nat.testBit D 6=false:=by cases h:Nat.testBit D 6<;>simp_all [-Nat.testBit_zero]
    have b8:Nat.testBit D 8=false:=by cases h:Nat.testBit D 8<;>simp_all [-Nat.testBit_zero]
    simp only [hb,b6,b8] at hm ⊢
    simp only [b6,b8] at ih
    apply opT3 hn;apply ih<;>first | (simp [-Nat.testBit_zero] at hm ⊢;omega) | simp_all [-Nat.testBit_zero]
  . obtain rfl:Zhg=x:=by simpa [Vh] using hx
    simp only [Zhg,Nat.zero_add,Nat.reduceAdd,List.all_cons,List.all_nil,Bool.and_true,Bool.and_eq_true] at hb ha
    simp only [Nat.testBit_or,Nat.testBit_two_pow] at ih
    simp [-Nat.testBit_zero] at ih
    simp only [hb] at hm ⊢
    apply opT4 hn;apply ih<;>first | (simp [-Nat.testBit_zero] at hm ⊢;omega) | simp_all [-Nat.testBit_zero]
  . obtain rfl:Zhw=x:=by simpa [Vh] using hx
    simp only [Zhw,Nat.zero_add,Nat.reduceAdd,List.all_cons,List.all_nil,Bool.and_true,Bool.and_eq_true] at hb ha
    simp only [Nat.testBit_or,Nat.testBit_two_pow] at ih
    simp [-Nat.testBit_zero] at ih
    have a4:=ha
    have b6:Nat.testBit D 6=false:=by cases h:Nat.testBit D 6<;>simp_all [-Nat.testBit_zero]
    have b8:Nat.testBit D 8=false:=by cases h:Nat.testBit D 8<;>simp_all [-Nat.testBit_zero]
    simp only [hb,a4,b6,b8] at hm ⊢
    simp only [a4,b6,b8] at ih
    apply opT5 hn;apply ih<;>first | (simp [-Nat.testBit_zero] at hm ⊢;omega) | simp_all [-Nat.testBit_zero]
  . obtain rfl:ZiT=x:=by simpa [Vh] using hx
    simp only [ZiT,Nat.zero_add,Nat.reduceAdd,List.all_cons,List.all_nil,Bool.and_true,Bool.and_eq_true] at hb ha
    simp only [Nat.testBit_or,Nat.testBit_two_pow] at ih
    simp [-Nat.testBit_zero] at ih
    obtain ⟨a0,a1,a2,a3,a5⟩:=ha
    simp only [hb,a0,a1,a2,a3,a5] at hm ⊢
    simp only [a0,a1,a2,a3,a5] at ih
    apply opT6 hn;apply ih<;>first | (simp [-Nat.testBit_zero] at hm ⊢;omega) | simp_all [-Nat.testBit_zero]
  . obtain rfl:ZkM=x:=by simpa [Vh] using hx
    simp only [ZkM,Nat.zero_add,Nat.reduceAdd,List.all_cons,List.all_nil,Bool.and_true,Bool.and_eq_true] at hb ha
    simp only [Nat.testBit_or,Nat.testBit_two_pow] at ih
    simp [-Nat.testBit_zero] at ih
    have b8:Nat.testBit D 8=false:=by cases h:Nat.testBit D 8<;>simp_all [-Nat.testBit_zero]
    simp only [hb,b8] at hm ⊢
    simp only [b8] at ih
    apply opT7 hn;apply ih<;>first | (simp [-Nat.testBit_zero] at hm ⊢;omega) | simp_all [-Nat.testBit_zero]
  . obtain rfl:Zig=x:=by simpa [Vh] using hx
    simp only [Zig,Nat.zero_add,Nat.reduceAdd,List.all_cons,List.all_nil,Bool.and_true,Bool.and_eq_true] at hb ha
    simp only [Nat.testBit_or,Nat.testBit_two_pow] at ih
    simp [-Nat.testBit_zero] at ih
    obtain ⟨a0,a1,a2,a3,a4,a5,a6,a7⟩:=ha
    simp only [hb,a0,a1,a2,a3,a4,a5,a6,a7] at hm ⊢
    simp only [a0,a1,a2,a3,a4,a5,a6,a7] at ih
    apply opT8 hn;apply ih<;>first | (simp [-Nat.testBit_zero] at hm ⊢;omega) | simp_all [-Nat.testBit_zero]
  . simp [Vh] at hx
theorem opReg {p:Pact} {n:Nat} {Y:Hd} {K:Ex->St->Prop} (hn:n<=1000) (hK:∀ σF,σF=opE p n true true true true true true true true true->K .n σF):LAT Try.prog Y 0 Vh 9 0 (opE p n false false false false false false false false false) K:=by
 have h:=Zy6 (p:=p) (Y:=Y) (K:=K) hn (hK _ rfl) 9 0 (by simp) (by simp) (by simp)
 simpa using h
theorem Zud (M:List (List Int)) (r:List Int) (x:SV):(M.map fX ++ [[x]]).set (M.map hI).length ([x].set 0 .any)=(M ++ [r]).map fX:=by
 rw [List.length_map,List.set_append_right _ _ (by simp),List.length_map,Nat.sub_self]
 simp [fX]
theorem Zvy (M:List (List Int)) (n:Nat):M.map hI ++ [zI n]=(M ++ [List.replicate n (0:Int)]).map hI:=by simp [hI,zI,ZP]
def ow0 (p:Pact) (xO xS xD xK xE:List (List SV)) (n i:Nat) (M:List (List Int)) (ver:Nat):St:=⟨[(6,I (i:Int)),(4,.p 7 0),(3,I (n:Int)),(2,.p 1 0)],[(7,.cells [.mr 2 0,.mr 3 0,.mr 4 0,.mr 5 0,I 0,.mr 6 0,.mr 8 ver] 95),(8,.rws ver 1 (M.map fX) 27 0 1 (M.map hI) 3),(6,.row 0 1 xE 3),(5,.row 0 1 xK 4),(4,.row 0 1 xD 4),(3,.row 0 1 xS 3),(2,.row 0 1 xO 3),(1,.cells [.v (.slice none 0 0),.v (.slice none 0 0),.v (.slice none 0 0),.v (.slice none 0 0),I 0,.v (.slice none 0 0),.v (.slice none 0 0)] 95),(0,.cells (Zj p) 24)],9,38,[]⟩
def ow1 (p:Pact) (xO xS xD xK xE:List (List SV)) (n i:Nat) (M:List (List Int)) (ver:Nat):St:=⟨[(30,.p 7 6),(6,I (i:Int)),(4,.p 7 0),(3,I (n:Int)),(2,.p 1 0)],[(7,.cells [.mr 2 0,.mr 3 0,.mr 4 0,.mr 5 0,I 0,.mr 6 0,.mr 8 ver] 95),(8,.rws ver 1 (M.map fX) 27 0 1 (M.map hI) 3),(6,.row 0 1 xE 3),(5,.row 0 1 xK 4),(4,.row 0 1 xD 4),(3,.row 0 1 xS 3),(2,.row 0 1 xO 3),(1,.cells [.v (.slice none 0 0),.v (.slice none 0 0),.v (.slice none 0 0),.v (.slice none 0 0),I 0,.v (.slice none 0 0),.v (.slice none 0 0)] 95),(0,.cells (Zj p) 24)],9,38,[]⟩
def ow3 (p:Pact) (xO xS xD xK xE:List (List SV)) (n i:Nat) (M:List (List Int)) (ver:Nat):St:=⟨[(31,.mr 8 ver),(6,I (i:Int)),(4,.p 7 0),(3,I (n:Int)),(2,.p 1 0)],[(7,.cells [.mr 2 0,.mr 3 0,.mr 4 0,.mr 5 0,I 0,.mr 6 0,.mr 8 ver] 95),(8,.rws ver 1 (M.map fX) 27 0 1 (M.map hI) 3),(6,.row 0 1 xE 3),(5,.row 0 1 xK 4),(4,.row 0 1 xD 4),(3,.row 0 1 xS 3),(2,.row 0 1 xO 3),(1,.cells [.v (.slice none 0 0),.v (.slice none 0 0),.v (.slice none 0 0),.v (.slice none 0 0),I 0,.v (.slice none 0 0),.v (.slice none 0 0)] 95),(0,.cells (Zj p) 24)],9,38,[]⟩
def ow4 (p:Pact) (xO xS xD xK xE:List (List SV)) (n i:Nat) (M:List (List Int)) (ver:Nat):St:=⟨[(32,I (n:Int)),(6,I (i:Int)),(4,.p 7 0),(3,I (n:Int)),(2,.p 1 0)],[(7,.cells [.mr 2 0,.mr 3 0,.mr 4 0,.mr 5 0,I 0,.mr 6 0,.mr 8 ver] 95),(8,.rws ver 1 (M.map fX) 27 0 1 (M.map hI) 3),(6,.row 0 1 xE 3),(5,.row 0 1 xK 4),(4,.row 0 1 xD 4),(3,.row 0 1 xS 3),(2,.row 0 1 xO 3),(1,.cells [.v (.slice none 0 0),.v (.slice none 0 0),.v (.slice none 0 0),.v (.slice none 0 0),I 0,.v (.slice none 0 0),.v (.slice none 0 0)] 95),(0,.cells (Zj p) 24)],9,38,[]⟩
def ow5 (p:Pact) (xO xS xD xK xE:List (List SV)) (n i:Nat) (M:List (List Int)) (ver:Nat):St:=⟨[(30,.p 7 6),(32,I (n:Int)),(6,I (i:Int)),(4,.p 7 0),(3,I (n:Int)),(2,.p 1 0)],[(7,.cells [.mr 2 0,.mr 3 0,.mr 4 0,.mr 5 0,I 0,.mr 6 0,.mr 8 ver] 95),(8,.rws ver 1 (M.map fX) 27 0 1 (M.map hI) 3),(6,.row 0 1 xE 3),(5,.row 0 1 xK 4),(4,.row 0 1 xD 4),(3,.row 0 1 xS 3),(2,.row 0 1 xO 3),(1,.cells [.v (.slice none 0 0),.v (.slice none 0 0),.v (.slice none 0 0),.v (.slice none 0 0),I 0,.v (.slice none 0 0),.v (.slice none 0 0)] 95),(0,.cells (Zj p) 24)],9,38,[]⟩
def ow7 (p:Pact) (xO xS xD xK xE:List (List SV)) (n i:Nat) (M:List (List Int)) (ver:Nat):St:=⟨[(31,.mr 8 ver),(32,I (n:Int)),(6,I (i:Int)),(4,.p 7 0),(3,I (n:Int)),(2,.p 1 0)],[(7,.cells [.mr 2 0,.mr 3 0,.mr 4 0,.mr 5 0,I 0,.mr 6 0,.mr 8 ver] 95),(8,.rws ver 1 (M.map fX) 27 0 1 (M.map hI) 3),(6,.row 0 1 xE 3),(5,.row 0 1 xK 4),(4,.row 0 1 xD 4),(3,.row 0 1 xS 3),(2,.row 0 1 xO 3),(1,.cells [.v (.slice none 0 0),.v (.slice none 0 0),.v (.slice none 0 0),.v (.slice none 0 0),I 0,.v (.slice none 0 0),.v (.slice none 0 0)] 95),(0,.cells (Zj p) 24)],9,38,[]⟩
def ZzT (p:Pact) (xO xS xD xK xE:List (List SV)) (n i:Nat) (M:List (List Int)) (ver:Nat):St:=⟨[(33,.mr 9 0),(6,I (i:Int)),(4,.p 7 0),(3,I (n:Int)),(2,.p 1 0)],[(9,.row 0 1 (zI n) 3),(7,.cells [.mr 2 0,.mr 3 0,.mr 4 0,.mr 5 0,I 0,.mr 6 0,.mr 8 ver] 95),(8,.rws ver 1 (M.map fX) 27 0 1 (M.map hI) 3),(6,.row 0 1 xE 3),(5,.row 0 1 xK 4),(4,.row 0 1 xD 4),(3,.row 0 1 xS 3),(2,.row 0 1 xO 3),(1,.cells [.v (.slice none 0 0),.v (.slice none 0 0),.v (.slice none 0 0),.v (.slice none 0 0),I 0,.v (.slice none 0 0),.v (.slice none 0 0)] 95),(0,.cells (Zj p) 24)],10,38,[]⟩
def Zya (p:Pact) (xO xS xD xK xE:List (List SV)) (n i:Nat) (M:List (List Int)) (ver:Nat):St:=⟨[(30,.p 7 6),(33,.mr 9 0),(6,I (i:Int)),(4,.p 7 0),(3,I (n:Int)),(2,.p 1 0)],[(9,.row 0 1 (zI n) 3),(7,.cells [.mr 2 0,.mr 3 0,.mr 4 0,.mr 5 0,I 0,.mr 6 0,.mr 8 ver] 95),(8,.rws ver 1 (M.map fX) 27 0 1 (M.map hI) 3),(6,.row 0 1 xE 3),(5,.row 0 1 xK 4),(4,.row 0 1 xD 4),(3,.row 0 1 xS 3),(2,.row 0 1 xO 3),(1,.cells [.v (.slice none 0 0),.v (.slice none 0 0),.v (.slice none 0 0),.v (.slice none 0 0),I 0,.v (.slice none 0 0),.v (.slice none 0 0)] 95),(0,.cells (Zj p) 24)],10,38,[]⟩
def ZzY (p:Pact) (xO xS xD xK xE:List (List SV)) (n i:Nat) (M:List (List Int)) (ver:Nat):St:=⟨[(31,.mr 8 ver),(33,.mr 9 0),(6,I (i:Int)),(4,.p 7 0),(3,I (n:Int)),(2,.p 1 0)],[(9,.row 0 1 (zI n) 3),(7,.cells [.mr 2 0,.mr 3 0,.mr 4 0,.mr 5 0,I 0,.mr 6 0,.mr 8 ver] 95),(8,.rws ver 1 (M.map fX) 27 0 1 (M.map hI) 3),(6,.row 0 1 xE 3),(5,.row 0 1 xK 4),(4,.row 0 1 xD 4),(3,.row 0 1 xS 3),(2,.row 0 1 xO 3),(1,.cells [.v (.slice none 0 0),.v (.slice none 0 0),.v (.slice none 0 0),.v (.slice none 0 0),I 0,.v (.slice none 0 0),.v (.slice none 0 0)] 95),(0,.cells (Zj p) 24)],10,38,[]⟩
def ow28 (p:Pact) (xO xS xD xK xE:List (List SV)) (n i:Nat) (M:List (List Int)) (ver:Nat):St:=⟨[(34,.sl true 1 [[.mr 9 0]]),(6,I (i:Int)),(4,.p 7 0),(3,I (n:Int)),(2,.p 1 0)],[(9,.row 0 1 (zI n) 3),(7,.cells [.mr 2 0,.mr 3 0,.mr 4 0,.mr 5 0,I 0,.mr 6 0,.mr 8 ver] 95),(8,.rws ver 1 (M.map fX) 27 0 1 (M.map hI) 3),(6,.row 0 1 xE 3),(5,.row 0 1 xK 4),(4,.row 0 1 xD 4),(3,.row 0 1 xS 3),(2,.row 0 1 xO 3),(1,.cells [.v (.slice none 0 0),.v (.slice none 0 0),.v (.slice none 0 0),.v (.slice none 0 0),I 0,.v (.slice none 0 0),.v (.slice none 0 0)] 95),(0,.cells (Zj p) 24)],10,38,[]⟩
def ZzS (p:Pact) (xO xS xD xK xE:List (List SV)) (n i:Nat) (M:List (List Int)) (ver:Nat):St:=⟨[(30,.p 7 6),(34,.sl true 1 [[.mr 9 0]]),(6,I (i:Int)),(4,.p 7 0),(3,I (n:Int)),(2,.p 1 0)],[(9,.row 0 1 (zI n) 3),(7,.cells [.mr 2 0,.mr 3 0,.mr 4 0,.mr 5 0,I 0,.mr 6 0,.mr 8 ver] 95),(8,.rws ver 1 (M.map fX) 27 0 1 (M.map hI) 3),(6,.row 0 1 xE 3),(5,.row 0 1 xK 4),(4,.row 0 1 xD 4),(3,.row 0 1 xS 3),(2,.row 0 1 xO 3),(1,.cells [.v (.slice none 0 0),.v (.slice none 0 0),.v (.slice none 0 0),.v (.slice none 0 0),I 0,.v (.slice none 0 0),.v (.slice none 0 0)] 95),(0,.cells (Zj p) 24)],10,38,[]⟩
def Zz4 (p:Pact) (xO xS xD xK xE:List (List SV)) (n i:Nat) (M:List (List Int)) (ver:Nat):St:=⟨[(31,.mr 8 ver),(34,.sl true 1 [[.mr 9 0]]),(6,I (i:Int)),(4,.p 7 0),(3,I (n:Int)),(2,.p 1 0)],[(9,.row 0 1 (zI n) 3),(7,.cells [.mr 2 0,.mr 3 0,.mr 4 0,.mr 5 0,I 0,.mr 6 0,.mr 8 ver] 95),(8,.rws ver 1 (M.map fX) 27 0 1 (M.map hI) 3),(6,.row 0 1 xE 3),(5,.row 0 1 xK 4),(4,.row 0 1 xD 4),(3,.row 0 1 xS 3),(2,.row 0 1 xO 3),(1,.cells [.v (.slice none 0 0),.v (.slice none 0 0),.v (.slice none 0 0),.v (.slice none 0 0),I 0,.v (.slice none 0 0),.v (.slice none 0 0)] 95),(0,.cells (Zj p) 24)],10,38,[]⟩
def ow63 (p:Pact) (xO xS xD xK xE:List (List SV)) (n i:Nat) (M:List (List Int)) (ver:Nat):St:=⟨[(35,.mr 8 (ver+1+(M.map hI).length)),(6,I (i:Int)),(4,.p 7 0),(3,I (n:Int)),(2,.p 1 0)],[(7,.cells [.mr 2 0,.mr 3 0,.mr 4 0,.mr 5 0,I 0,.mr 6 0,.mr 8 ver] 95),(8,.rws (ver+1+(M.map hI).length) 1 ((M ++ [List.replicate n (0:Int)]).map fX) 27 0 1 ((M ++ [List.replicate n (0:Int)]).map hI) 3),(6,.row 0 1 xE 3),(5,.row 0 1 xK 4),(4,.row 0 1 xD 4),(3,.row 0 1 xS 3),(2,.row 0 1 xO 3),(1,.cells [.v (.slice none 0 0),.v (.slice none 0 0),.v (.slice none 0 0),.v (.slice none 0 0),I 0,.v (.slice none 0 0),.v (.slice none 0 0)] 95),(0,.cells (Zj p) 24)],10,38,[]⟩
def ZtP (p:Pact) (xO xS xD xK xE:List (List SV)) (n i:Nat) (M:List (List Int)) (ver:Nat):St:=⟨[(35,.mr 8 (ver+1+(M.map hI).length)),(36,.p 7 6),(6,I (i:Int)),(4,.p 7 0),(3,I (n:Int)),(2,.p 1 0)],[(7,.cells [.mr 2 0,.mr 3 0,.mr 4 0,.mr 5 0,I 0,.mr 6 0,.mr 8 ver] 95),(8,.rws (ver+1+(M.map hI).length) 1 ((M ++ [List.replicate n (0:Int)]).map fX) 27 0 1 ((M ++ [List.replicate n (0:Int)]).map hI) 3),(6,.row 0 1 xE 3),(5,.row 0 1 xK 4),(4,.row 0 1 xD 4),(3,.row 0 1 xS 3),(2,.row 0 1 xO 3),(1,.cells [.v (.slice none 0 0),.v (.slice none 0 0),.v (.slice none 0 0),.v (.slice none 0 0),I 0,.v (.slice none 0 0),.v (.slice none 0 0)] 95),(0,.cells (Zj p) 24)],10,38,[]⟩
def Zme (p:Pact) (xO xS xD xK xE:List (List SV)) (n i:Nat) (M:List (List Int)) (ver:Nat):St:=⟨[(6,I (i:Int)),(4,.p 7 0),(3,I (n:Int)),(2,.p 1 0)],[(7,.cells [.mr 2 0,.mr 3 0,.mr 4 0,.mr 5 0,I 0,.mr 6 0,.mr 8 (ver+1+(M.map hI).length)] 95),(8,.rws (ver+1+(M.map hI).length) 1 ((M ++ [List.replicate n (0:Int)]).map fX) 27 0 1 ((M ++ [List.replicate n (0:Int)]).map hI) 3),(6,.row 0 1 xE 3),(5,.row 0 1 xK 4),(4,.row 0 1 xD 4),(3,.row 0 1 xS 3),(2,.row 0 1 xO 3),(1,.cells [.v (.slice none 0 0),.v (.slice none 0 0),.v (.slice none 0 0),.v (.slice none 0 0),I 0,.v (.slice none 0 0),.v (.slice none 0 0)] 95),(0,.cells (Zj p) 24)],10,38,[]⟩
theorem owReg (p:Pact) (xO xS xD xK xE:List (List SV)) (n i:Nat) (M:List (List Int)) (ver:Nat) (Y:Hd) (K:Ex->St->Prop) (kO:KFR xO) (kS:KFR xS) (kD:KFR xD) (kK:KFR xK) (kE:KFR xE) (hn:n<=1000) (hM:M.length<=1000) (hK:∀ σF,σF=Zme p xO xS xD xK xE n i M ver->K .n σF):LAT Try.prog Y 0 Zcx 8 0 (ow0 p xO xS xD xK xE n i M ver) K:=by
 have h255:LAT Try.prog Y 0 Zcx 0 255 (Zme p xO xS xD xK xE n i M ver) K:=hK _ rfl
 have h127:LAT Try.prog Y 0 Zcx 1 127 (ZtP p xO xS xD xK xE n i M ver) K:=by
  refine Ys [(7,ZrT)] (by kernel_rfl) ?_
  refine YM ?_ ?_
  . dsimp only [ZtP,go_sem,rA,rM,rS]
    refine ⟨_,?_,h255⟩
    refine Zl ?_ ?_ ?_ rfl rfl<;>dsimp only [Zme,id,go_sem,rA,rM,rS]<;>simp +contextual [Vg,Vi,Zdn,ZdX,ZZ,XX,XB,kO,kS,kD,kK,kE,ZdC,Zdx,Zdu,Zc,Ze,KFR,KFL,KF,Zd,mtL,mtB,mtS,mtO,VT,nbr]<;>(intro r hr;rcases hr with ⟨x,_,rfl⟩ | rfl<;>(rw [XB];trivial))
  exact XO
 have h63:LAT Try.prog Y 0 Zcx 2 63 (ow63 p xO xS xD xK xE n i M ver) K:=by
  refine Ys [(6,ZvT)] (by kernel_rfl) ?_
  refine YM ?_ ?_
  . dsimp only [ow63,go_sem,rA,rM,rS]
    refine ⟨_,YH ?_ (Xi ?_),h127⟩
    . repeat first | exact trivial | refine ⟨.inr (.inr rfl),?_⟩
    . simp [ZtP,ngF]
  exact XO
 have h31:LAT Try.prog Y 0 Zcx 3 31 (Zz4 p xO xS xD xK xE n i M ver) K:=by
  refine Ys [(5,Zvd)] (by kernel_rfl) ?_
  refine YM ?_ ?_
  . dsimp only [Zz4,go_sem,rA,rM,rS]
    refine Znp (k:=8) (v:=ver) (m:=1) (o:=0) (m':=1) (xs:=M.map fX) (ys:=[[.mr 9 0]]) (inn:=M.map hI) (T:=27) (T':=3) (t:=93) (bs:=24) rfl rfl rfl rfl rfl (by kernel_rfl) (by kernel_rfl) (by kernel_rfl) (by kernel_rfl) rfl rfl (by intro c hc;simp only [List.mem_singleton] at hc;subst hc;rfl) (by simp) (by simp;omega) rfl rfl ?_
    dsimp only [go_sem,rA,rM,rS]
    refine ⟨_,Y4 (ZjE 8 9 [.mr 9 0] rfl rfl rfl (by rw [List.length_map,List.getElem?_append_right (by simp),List.length_map,Nat.sub_self];rfl) rfl) ?_,h63⟩
    rw [Zud M (List.replicate n 0),Zvy M n]
    refine Zl ?_ ?_ ?_ rfl rfl<;>dsimp only [ow63,id,go_sem,rA,rM,rS]<;>simp +contextual [Vg,Vi,Zdn,ZdX,ZZ,XX,XB,kO,kS,kD,kK,kE,ZdC,Zdx,Zdu,Zc,Ze,KFR,KFL,KF,Zd,mtL,mtB,mtS,mtO,VT,nbr]<;>(intro r hr;rcases hr with ⟨x,_,rfl⟩ | rfl<;>(rw [XB];trivial))
  exact XO
 have h15:LAT Try.prog Y 0 Zcx 4 15 (ZzY p xO xS xD xK xE n i M ver) K:=by
  refine Ys [(4,Zji)] (by kernel_rfl) ?_
  refine YM ?_ ?_
  . dsimp only [ZzY,go_sem,rA,rM,rS]
    refine ⟨_,YH ?_ (Xi ?_),h31⟩
    . repeat first | exact trivial | refine ⟨.inr (.inr rfl),?_⟩
    . simp [Zz4,ngF]
  exact XO
 have h29:LAT Try.prog Y 0 Zcx 4 29 (ZzS p xO xS xD xK xE n i M ver) K:=by
  refine Ys [(1,Zgt)] (by kernel_rfl) ?_
  refine YM ?_ ?_
  . dsimp only [ZzS,go_sem,rA,rM,rS]
    refine ⟨_,YH ?_ (Xi ?_),h31⟩
    . repeat first | exact trivial | refine ⟨.inr (.inr rfl),?_⟩
    . simp [Zz4,ngF]
  exact XO
 have h7:LAT Try.prog Y 0 Zcx 5 7 (ow7 p xO xS xD xK xE n i M ver) K:=by
  refine Ys [(3,Zjb)] (by kernel_rfl) ?_
  refine YM ?_ ?_
  . dsimp only [ow7,go_sem,rA,rM,rS]
    refine ⟨n,rfl,by omega,?_⟩
    dsimp only [go_sem,rA,rM,rS]
    refine ⟨_,?_,h15⟩
    refine Zl ?_ ?_ ?_ rfl rfl<;>dsimp only [ZzY,id,go_sem,rA,rM,rS]<;>simp +contextual [Vg,Vi,Zdn,ZdX,ZZ,XX,XB,kO,kS,kD,kK,kE,ZdC,Zdx,Zdu,Zc,Ze,KFR,KFL,KF,Zd,mtL,mtB,mtS,mtO,VT,nbr]<;>(intro r hr;rcases hr with ⟨x,_,rfl⟩ | rfl<;>(rw [XB];trivial))
  exact XO
 have h13:LAT Try.prog Y 0 Zcx 5 13 (Zya p xO xS xD xK xE n i M ver) K:=by
  refine Ys [(1,Zgt),(4,Zji)] (by kernel_rfl) ?_
  refine YM ?_ ?_
  . dsimp only [Zya,go_sem,rA,rM,rS]
    refine ⟨_,YH ?_ (Xi ?_),h15⟩
    . repeat first | exact trivial | refine ⟨.inr (.inr rfl),?_⟩
    . simp [ZzY,ngF]
  refine YM ?_ ?_
  . dsimp only [Zya,go_sem,rA,rM,rS]
    refine ⟨_,YH ?_ (Xi ?_),h29⟩
    . repeat first | exact trivial | refine ⟨.inr (.inr rfl),?_⟩
    . simp [ZzS,ngF]
  exact XO
 have h28:LAT Try.prog Y 0 Zcx 5 28 (ow28 p xO xS xD xK xE n i M ver) K:=by
  refine Ys [(0,ZgB)] (by kernel_rfl) ?_
  refine YM ?_ ?_
  . dsimp only [ow28,go_sem,rA,rM,rS]
    refine ⟨_,YH ?_ (Xi ?_),h29⟩
    . repeat first | exact trivial | refine ⟨.inr (.inr rfl),?_⟩
    . simp [ZzS,ngF]
  exact XO
 have h3:LAT Try.prog Y 0 Zcx 6 3 (ow3 p xO xS xD xK xE n i M ver) K:=by
  refine Ys [(2,Zio)] (by kernel_rfl) ?_
  refine YM ?_ ?_
  . dsimp only [ow3,go_sem,rA,rM,rS]
    refine ⟨_,YH ?_ (Xi ?_),h7⟩
    . repeat first | exact trivial | refine ⟨.inr (.inr rfl),?_⟩
    . simp [ow7,ngF]
  exact XO
 have h5:LAT Try.prog Y 0 Zcx 6 5 (ow5 p xO xS xD xK xE n i M ver) K:=by
  refine Ys [(1,Zgt),(3,Zjb)] (by kernel_rfl) ?_
  refine YM ?_ ?_
  . dsimp only [ow5,go_sem,rA,rM,rS]
    refine ⟨_,YH ?_ (Xi ?_),h7⟩
    . repeat first | exact trivial | refine ⟨.inr (.inr rfl),?_⟩
    . simp [ow7,ngF]
  refine YM ?_ ?_
  . dsimp only [ow5,go_sem,rA,rM,rS]
    refine ⟨n,rfl,by omega,?_⟩
    dsimp only [go_sem,rA,rM,rS]
    refine ⟨_,?_,h13⟩
    refine Zl ?_ ?_ ?_ rfl rfl<;>dsimp only [Zya,id,go_sem,rA,rM,rS]<;>simp +contextual [Vg,Vi,Zdn,ZdX,ZZ,XX,XB,kO,kS,kD,kK,kE,ZdC,Zdx,Zdu,Zc,Ze,KFR,KFL,KF,Zd,mtL,mtB,mtS,mtO,VT,nbr]<;>(intro r hr;rcases hr with ⟨x,_,rfl⟩ | rfl<;>(rw [XB];trivial))
  exact XO
 have h12:LAT Try.prog Y 0 Zcx 6 12 (ZzT p xO xS xD xK xE n i M ver) K:=by
  refine Ys [(0,ZgB),(4,Zji)] (by kernel_rfl) ?_
  refine YM ?_ ?_
  . dsimp only [ZzT,go_sem,rA,rM,rS]
    refine ⟨_,YH ?_ (Xi ?_),h13⟩
    . repeat first | exact trivial | refine ⟨.inr (.inr rfl),?_⟩
    . simp [Zya,ngF]
  refine YM ?_ ?_
  . dsimp only [ZzT,go_sem,rA,rM,rS]
    refine ⟨_,YH ?_ (Xi ?_),h28⟩
    . repeat first | exact trivial | refine ⟨.inr (.inr rfl),?_⟩
    . simp [ow28,ngF]
  exact XO
 have h1:LAT Try.prog Y 0 Zcx 7 1 (ow1 p xO xS xD xK xE n i M ver) K:=by
  refine Ys [(1,Zgt),(2,Zio)] (by kernel_rfl) ?_
  refine YM ?_ ?_
  . dsimp only [ow1,go_sem,rA,rM,rS]
    refine ⟨_,YH ?_ (Xi ?_),h3⟩
    . repeat first | exact trivial | refine ⟨.inr (.inr rfl),?_⟩
    . simp [ow3,ngF]
  refine YM ?_ ?_
  . dsimp only [ow1,go_sem,rA,rM,rS]
    refine ⟨_,YH ?_ (Xi ?_),h5⟩
    . repeat first | exact trivial | refine ⟨.inr (.inr rfl),?_⟩
    . simp [ow5,ngF]
  exact XO
 have h4:LAT Try.prog Y 0 Zcx 7 4 (ow4 p xO xS xD xK xE n i M ver) K:=by
  refine Ys [(0,ZgB),(3,Zjb)] (by kernel_rfl) ?_
  refine YM ?_ ?_
  . dsimp only [ow4,go_sem,rA,rM,rS]
    refine ⟨_,YH ?_ (Xi ?_),h5⟩
    . repeat first | exact trivial | refine ⟨.inr (.inr rfl),?_⟩
    . simp [ow5,ngF]
  refine YM ?_ ?_
  . dsimp only [ow4,go_sem,rA,rM,rS]
    refine ⟨n,rfl,by omega,?_⟩
    dsimp only [go_sem,rA,rM,rS]
    refine ⟨_,?_,h12⟩
    refine Zl ?_ ?_ ?_ rfl rfl<;>dsimp only [ZzT,id,go_sem,rA,rM,rS]<;>simp +contextual [Vg,Vi,Zdn,ZdX,ZZ,XX,XB,kO,kS,kD,kK,kE,ZdC,Zdx,Zdu,Zc,Ze,KFR,KFL,KF,Zd,mtL,mtB,mtS,mtO,VT,nbr]<;>(intro r hr;rcases hr with ⟨x,_,rfl⟩ | rfl<;>(rw [XB];trivial))
  exact XO
 have h0:LAT Try.prog Y 0 Zcx 8 0 (ow0 p xO xS xD xK xE n i M ver) K:=by
  refine Ys [(0,ZgB),(2,Zio)] (by kernel_rfl) ?_
  refine YM ?_ ?_
  . dsimp only [ow0,go_sem,rA,rM,rS]
    refine ⟨_,YH ?_ (Xi ?_),h1⟩
    . repeat first | exact trivial | refine ⟨.inr (.inr rfl),?_⟩
    . simp [ow1,ngF]
  refine YM ?_ ?_
  . dsimp only [ow0,go_sem,rA,rM,rS]
    refine ⟨_,YH ?_ (Xi ?_),h4⟩
    . repeat first | exact trivial | refine ⟨.inr (.inr rfl),?_⟩
    . simp [ow4,ngF]
  exact XO
 exact h0
end Go.Proofs.Ythilckbkffjliaa
namespace Go.Azalai
theorem Ze6 {α : Type} {n:Nat} {f g:Int->α} (h:∀ a:Nat,a < n->f a=g a):rg n f=rg n g:=List.map_congr_left fun a ha=>h a (List.mem_range.1 ha)
def gk (k:Nat) (a:Int):Int:=if a < k then -1 else 0
theorem Zyw {k:Nat}:upd (gk k) k (-1)=gk (k+1):=by
 funext a
 simp only [upd,gk]
 by_cases h:a=k
 . subst h;rw [if_pos rfl,if_pos (by omega)]
 . rw [if_neg h]
   by_cases q:a < k
   . rw [if_pos q,if_pos (by omega)]
   . rw [if_neg q,if_neg (by omega)]
theorem ZeU {α : Type} {n:Nat} {x:α}:rg n (fun _=>x)=List.replicate n x:=by
 rw [List.eq_replicate_iff]
 exact ⟨Yg,fun b hb=>by obtain ⟨_,_,rfl⟩:=List.mem_map.1 hb;rfl⟩
theorem ZeZ {α : Type} {p:Pact} {x:α}:pp p (fun _=>x)=List.replicate p.partners.length x:=by
 rw [List.eq_replicate_iff]
 exact ⟨Xh,fun b hb=>by obtain ⟨_,_,rfl⟩:=List.mem_map.1 hb;rfl⟩
end Go.Azalai
namespace Go.Proofs.Ythilckbkffjliaa
open Go Go.Sx Go.Azalai
theorem zI_rg (n:Nat):zI n=(rg n fun _=>0).map ZP:=by rw [ZeU,zI,List.map_replicate];rfl
theorem zB_rg (n:Nat):zB n=(rg n fun _=>false).map boL:=by rw [ZeU,zB,List.map_replicate];rfl
theorem zI_pp (p:Pact):zI p.partners.length=(pp p fun _=>0).map ZP:=by rw [ZeZ,zI,List.map_replicate];rfl
theorem ddL_0 (p:Pact):ddL p co0.debts=List.replicate p.partners.length (List.replicate p.partners.length 0):=by
 simp only [ddL,co0,ZeZ]
theorem own_0 (p:Pact):rg 10000 (gk 10000)=rg 10000 (Ux p co0):=Ze6 fun a ha=>by simp only [gk,Ux,co0];rw [if_pos (by omega)]
theorem Ztn {p:Pact} (hn:p.partners.length<=1000):CtM Try.prog 74 [] 0 [.agg (Zj p)] (fun o=>∃ v,o=⟨false,.agg (bkV co0 v),bkH p co0 (fun _=>0) v,6⟩):=by
 refine m74 (by simp [hpb]) (fun o ho=>by obtain ⟨v,rfl⟩:=ho;simp [bkH,bkV,KX,KXL,KXP,KXH,Zc,KFL,KF,ZP,boL,fX,hI]) ?_
 dsimp only [c74,r74,Zj,go_sem,rA,rM,rS]
 simp only [List.length_map]
 refine gh (σ1:=opE p p.partners.length false false false false false false false false false) (Y4 (σ':=op0 p p.partners.length) ?_ ZoR) ?_
 . dsimp only [Zj,go_sem,rA,rM,rS]
   (refine Zl ?_ ?_ ?_ rfl rfl<;>dsimp only [Za,id,go_sem,rA,rM,rS]<;>simp [Za,Zc,Ze,KFR,KFL,KF,Zd,mtO,nbr])
 show LAT _ _ _ _ 9 0 _ _
 refine opReg hn ?_
 intro σF eF
 subst eF
 dsimp only [go_sem,rA,rM,rS]
 rw [zI_rg 10000,zB_rg 10000,zI_pp]
 have hg0:(rg 10000 fun _=>(0:Int))=rg 10000 (gk 0):=Ze6 fun a _=>by simp only [gk];rw [if_neg (by omega)]
 refine Zir [2,3,4,5] rfl (fun k:Nat=>[(5,I k)]) (fun k=>[(2,.row 0 1 ((rg 10000 (gk k)).map ZP) 3)]) (fun k=>k<=10000) (fun k=>10000 - k) 0 (Nat.zero_le _) ?_ ?_
 . have hg1:=hg0.symm
   (refine Zl ?_ ?_ ?_ rfl rfl<;>dsimp only [Za,ZP,boL,hg1,ZZ,id,go_sem,rA,rM,rS]<;>simp [Za,ZP,boL,hg1,ZZ,Zc,Ze,KFR,KFL,KF,Zd,mtO,nbr])
 intro k hk
 dsimp only [go_sem,rA,rM,rS]
 by_cases hlt:k < 10000
 . refine ZK (by simp;omega) ?_
   dsimp only [go_sem,rA,rM,rS]
   simp only [List.length_map,Yg]
   refine Xk k rfl hlt ?_
   dsimp only [go_sem,rA,rM,rS]
   refine ZbE (-1:Int) (by rw [Yg];exact hlt) (by simp [ZP]) (by simp [ZP,Zo]) ?_
   dsimp only [go_sem,rA,rM,rS]
   rw [Zbw hlt,Zyw,Zi (n:=(k:Int)+1) (by omega) (by omega)]
   refine ⟨k+1,by omega,by omega,?_⟩
   (refine Zl ?_ ?_ ?_ rfl rfl<;>dsimp only [Za,ZP,boL,ZZ,id,go_sem,rA,rM,rS]<;>simp [Za,ZP,boL,ZZ,Zc,Ze,KFR,KFL,KF,Zd,mtO,nbr])
 refine Zz (by simp;omega) ?_
 dsimp only [go_sem,rA,rM,rS]
 rw [show k=10000 from by omega,own_0 p]
 refine gh (Y4 (U9 7 6 1 27 rfl rfl) (ZsZ 8 0 0 1 3 rfl rfl)) ?_
 dsimp only [go_sem,rA,rM,rS]
 generalize hNn:p.partners.length=N at hn
 refine Zir [2,3,4,6] rfl (fun q:Nat × Nat=>[(6,I q.1)]) (fun q=>[(7,.cells [.mr 2 0,.mr 3 0,.mr 4 0,.mr 5 0,I 0,.mr 6 0,.mr 8 q.2] 95),(8,.rws q.2 1 ((List.replicate q.1 (List.replicate N (0:Int))).map fX) 27 0 1 ((List.replicate q.1 (List.replicate N (0:Int))).map hI) 3)]) (fun q=>q.1<=N) (fun q=>N - q.1) (0,0) (Nat.zero_le _) ?_ ?_
 . (refine Zl ?_ ?_ ?_ rfl rfl<;>dsimp only [Za,ZP,boL,List.replicate_zero,List.map_nil,ZZ,id,go_sem,rA,rM,rS]<;>simp [Za,ZP,boL,List.replicate_zero,List.map_nil,ZZ,Zc,Ze,KFR,KFL,KF,Zd,mtO,nbr])
 rintro ⟨i,ver⟩ hi
 simp only at hi
 dsimp only [go_sem,rA,rM,rS]
 by_cases hlt:i < N
 . refine ZK (by simp;omega) ?_
   dsimp only [go_sem,rA,rM,rS]
   have hkr:∀ l:List Int,KFR (l.map ZP):=fun l=>by simp [Zc,ZP,KFL,KF]
   have hkb:∀ l:List Bool,KFR (l.map boL):=fun l=>by simp [Zc,boL,KFL,KF]
   refine gh (σ1:=ow0 p ((rg 10000 (Ux p co0)).map ZP) ((rg 10000 fun _=>0).map ZP) ((rg 10000 fun _=>false).map boL) ((rg 10000 fun _=>false).map boL) ((pp p fun _=>0).map ZP) N i (List.replicate i (List.replicate N 0)) ver) ?_ ?_
   . dsimp only [ow0,go_sem,rA,rM,rS]
     generalize List.replicate i (List.replicate N (0:Int))=M
     (refine Zl ?_ ?_ ?_ rfl rfl<;>dsimp only [Za,ZP,boL,XX,XB,ZZ,id,go_sem,rA,rM,rS]<;>simp [Za,ZP,boL,XX,XB,ZZ,Zc,Ze,KFR,KFL,KF,Zd,mtO,nbr])
   show LAT _ _ _ _ 8 0 _ _
   refine owReg p _ _ _ _ _ N i _ ver _ _ (hkr _) (hkr _) (hkb _) (hkb _) (hkr _) hn (by simp;omega) ?_
   intro σF eF
   subst eF
   dsimp only [Zme,go_sem,rA,rM,rS]
   rw [show List.replicate i (List.replicate N (0:Int)) ++ [List.replicate N 0]=List.replicate (i+1) (List.replicate N 0) from by rw [List.replicate_succ'],Zi (n:=(i:Int)+1) (by omega) (by omega)]
   generalize ver+1+((List.replicate i (List.replicate N (0:Int))).map hI).length=ver2
   refine ⟨(i+1,ver2),by simp only;omega,by simp only;omega,?_⟩
   generalize List.replicate (i+1) (List.replicate N (0:Int))=M
   (refine Zl ?_ ?_ ?_ rfl rfl<;>dsimp only [Za,ZP,boL,XX,XB,ZZ,id,go_sem,rA,rM,rS]<;>simp [Za,ZP,boL,XX,XB,ZZ,Zc,Ze,KFR,KFL,KF,Zd,mtO,nbr])
 refine Zz (by simp;omega) ?_
 dsimp only [go_sem,rA,rM,rS]
 refine gh Yq ?_
 dsimp only [go_sem,rA,rM,rS]
 rw [show i=N from by omega]
 refine ⟨_,⟨ver,rfl⟩,?_⟩
 have e0:ddL p co0.debts=List.replicate N (List.replicate N 0):=by rw [ddL_0,hNn]
 have e1:co0.dead=(fun _=>false)/\co0.known=(fun _=>false)/\co0.extra=(fun _=>0)/\co0.result=0:=⟨rfl,rfl,rfl,rfl⟩
 simp only [bkH,bkV,e0,e1.1,e1.2.1,e1.2.2.1,e1.2.2.2]
 generalize List.replicate N (List.replicate N (0:Int))=M
 refine Zy2 (rho [2,3,4,5,6,8]) ?_ ?_ ?_ (UY rfl rfl) rfl (fun i hi=>absurd hi (Nat.not_lt_zero i))<;>dsimp only [go_sem,rA,rM,rS]<;>simp [Zc,Ze,KFR,KFL,KF,Zd,mtO,nbr,ZP,boL,XX,XB]
end Go.Proofs.Ythilckbkffjliaa
namespace Go.Azalai
def ZaZ (s:Int->Int) (x:Letter):Int->Int:=if x.kind=3 then upd s x.animal x.day else s
theorem ZgH {p:Pact} {c:Co} {s:Int->Int} (h:ZaM c s) {x:Letter} (hx:Zh p x=true) (h0:(Zn p c x).2=0):ZaM (Zn p c x).1 (ZaZ s x):=by
 have hhome:∀ (a d:Int) (l:Int × Int),ZaM (ZE p c a d l) s:=fun a d l b m hb=>by
  simp only [ZE,upd] at hb
  split at hb
  . cases hb
  . exact h b m hb
 unfold ZaZ
 unfold Zn at h0 ⊢
 split
 . rename_i hk;rw [if_neg (by omega)];exact h
 split
 . rename_i hk;rw [if_neg (by omega)];exact h
 split
 . rename_i n1 n2 k3
   rw [if_neg n1,if_neg n2,if_pos k3] at h0
   split
   . rename_i q;rw [if_pos q] at h0;cases h0
   rename_i q1
   rw [if_neg q1] at h0
   split
   . rename_i q;rw [if_pos q] at h0;cases h0
   intro b m hb
   simp only [upd] at hb ⊢
   split at hb
   . rename_i e;rw [if_pos e];cases hb;rfl
   . rename_i e;rw [if_neg e];exact h b m hb
 split
 . split
   . exact h
   . exact hhome _ _ _
 split
 . split
   . exact h
   split
   . exact h
   . rename_i l hl;exact fun b m hb=>hhome x.animal x.day l b m hb
 split
 . split
   . exact h
   split
   . exact h
   . exact h
 split
 . exact h
 split
 . split
   . exact h
   . exact h
 . exact h
theorem Zyq {p:Pact} {c:Co} {x:Letter} (hk:x.kind=3) (h0:(Zn p c x).2=0):(Zn p c x).1={ c with loans:=upd c.loans x.animal (some (x.who,x.day)) }:=by
 simp only [Zn,hk] at h0 ⊢
 by_cases q1:(c.loans x.animal).isSome=true
 . simp [q1] at h0
 by_cases q2:c.dead x.animal=true
 . simp [q1,q2] at h0
 simp [q1,q2]
theorem ZwV {p:Pact} {c:Co} {x:Letter} (hk:x.kind=4) (h0:(Zn p c x).2=0):∃ l,c.loans x.animal=some l/\(Zn p c x).1=ZE p c x.animal x.day l:=by
 cases hl:c.loans x.animal with
 | some l=>exact ⟨l,rfl,by simp [Zn,hk,hl]⟩
 | none=>simp [Zn,hk,hl] at h0
theorem Zyt {p:Pact} {c:Co} {x:Letter} (hk:x.kind=5) (h0:(Zn p c x).2=0):∃ l,c.loans x.animal=some l/\(Zn p c x).1={ ZE p c x.animal x.day l with dead:=upd c.dead x.animal true }:=by
 cases hd:c.dead x.animal with
 | true=>simp [Zn,hk,hd] at h0
 | false =>
  cases hl:c.loans x.animal with
  | some l=>exact ⟨l,rfl,by simp [Zn,hk,hl,hd]⟩
  | none=>simp [Zn,hk,hl,hd] at h0
theorem Zy3 {p:Pact} {c:Co} {x:Letter} (hk:x.kind=6) (h0:(Zn p c x).2=0):∃ l,c.loans x.animal=some l/\(Zn p c x).1={ c with extra:=upd c.extra l.1 (c.extra l.1+(x.rials * p.calf).tdiv 1000),result:=c.result+(x.rials - (x.rials * p.calf).tdiv 1000),known:=upd c.known x.other true }:=by
 cases hd:c.known x.other with
 | true=>simp [Zn,hk,hd] at h0
 | false =>
  cases hl:c.loans x.animal with
  | some l=>exact ⟨l,rfl,by simp [Zn,hk,hl,hd]⟩
  | none=>simp [Zn,hk,hl,hd] at h0
theorem Ze5 {p:Pact} {x:Letter} (hr:0<=x.rials/\x.rials<=10000000) (hc:0<=p.calf/\p.calf<=1000):(0<=x.rials * p.calf/\x.rials * p.calf<=10000000 * 1000)/\0<=(x.rials * p.calf).tdiv 1000/\(x.rials * p.calf).tdiv 1000<=10000000:=by
 have hm:0<=x.rials * p.calf/\x.rials * p.calf<=10000000 * 1000:=⟨Int.mul_nonneg hr.1 hc.1,Int.mul_le_mul hr.2 hc.2 hc.1 (by decide)⟩
 refine ⟨hm,Int.tdiv_nonneg hm.1 (by decide),?_⟩
 rw [Int.tdiv_eq_ediv_of_nonneg hm.1];omega
end Go.Azalai
namespace Go.Proofs.Ythilckbkffjliaa
open Go Go.Sx Go.Azalai
theorem Zlh {p:Pact} {c:Co} {a w d:Int}:Ux p { c with loans:=upd c.loans a (some (w,d)) }=upd (Ux p c) a (atF p w):=by
 funext i
 simp only [Ux,upd]
 by_cases e:i=a
 . rw [if_pos e,if_pos e]
 . rw [if_neg e,if_neg e]
theorem Zfa {p:Pact} {c:Co} {f:Int->Bool}:Ux p { c with dead:=f }=Ux p c:=rfl
theorem do_ok {p:Pact} (hps:Yr p) {n:Nat} {c:Co} {b:Bks} (h:BkR n c b) (hn:n<=100000) (hpp:(0<=p.hire/\p.hire<=1000)/\(0<=p.calf/\p.calf<=1000)) (hids:(ids p).Nodup) (hc:CoOk p c) {s:Int->Int} (hs:ZaM c s) {v:Nat} {x:Letter} (hx:Zh p x=true) (h0:(Zn p c x).2=0) :
 CtM Try.prog 76 (bkH p c s v) 6 [.agg (Zj p),.agg (bkV c v),.agg (Zb x)] (fun o=>o=⟨false,.agg (bkV (Zn p c x).1 v),bkH p (Zn p c x).1 (ZaZ s x) v,6⟩):=by
 refine m76 (by simp [hpb,bkH]) (fun o ho=>by subst ho;simp [bkH,bkV,KX,KXL,KXP,KXH,Zc,KFL,KF,ZP,boL,fX,hI]) ?_
 have hk:=WM hx
 have hab:=ZjF hx
 obtain ⟨a,ha,hae⟩:∃ a:Nat,a < 10000/\x.animal=(a:Int):=⟨x.animal.toNat,by omega,by omega⟩
 have hday:0<=x.day/\x.day<=100000:=by
  simp only [Zh,Bool.and_eq_true,inR,decide_eq_true_eq] at hx
  exact hx.1.2
 have hrb:=h.rb
 dsimp only [c76,r76,bkH,bkV,Zj,Zb,go_sem,rA,rM,rS]
 rcases hk with hk | hk | hk | hk | hk | hk | hk
 . have hr:0<=x.rials/\x.rials<=10000000:=by simp [Zh,hk,inR] at hx;omega
   have e:(Zn p c x).1={ c with result:=c.result+x.rials }:=by simp [Zn,hk]
   have e2:ZaZ s x=s:=by simp [ZaZ,hk]
   rw [e,e2]
   simp only [hk]
   refine ZK (by decide) ?_
   dsimp only [go_sem,rA,rM,rS]
   rw [Zi (n:=c.result+x.rials) (by omega) (by omega)]
   refine ⟨_,rfl,?_⟩
   have hO:Ux p { c with result:=c.result+x.rials }=Ux p c:=rfl
   (refine Zm ?_ ?_ ?_ rfl<;>dsimp only [ZP,W0,Xg,XX,XB,hO,id,go_sem,rA,rM,rS]<;>simp [ZP,W0,Xg,XX,XB,hO,Zc,Ze,KFR,KFL,KF,Zd,mtO,nbr])
 . have hr:0<=x.rials/\x.rials<=10000000:=by simp [Zh,hk,inR] at hx;omega
   have e:(Zn p c x).1={ c with result:=c.result - x.rials }:=by simp [Zn,hk]
   have e2:ZaZ s x=s:=by simp [ZaZ,hk]
   rw [e,e2]
   simp only [hk]
   refine Zz (by decide) ?_
   dsimp only [go_sem,rA,rM,rS]
   refine ZK (by decide) ?_
   dsimp only [go_sem,rA,rM,rS]
   rw [Zi (n:=c.result - x.rials) (by omega) (by omega)]
   refine ⟨_,rfl,?_⟩
   have hO:Ux p { c with result:=c.result - x.rials }=Ux p c:=rfl
   (refine Zm ?_ ?_ ?_ rfl<;>dsimp only [ZP,W0,Xg,XX,XB,hO,id,go_sem,rA,rM,rS]<;>simp [ZP,W0,Xg,XX,XB,hO,Zc,Ze,KFR,KFL,KF,Zd,mtO,nbr])
 . have hw:x.who ∈ ids p:=by simp [Zh,hk,Ui] at hx;exact hx.2.1.1
   have e:=Zyq hk h0
   have e2:ZaZ s x=upd s x.animal x.day:=by simp [ZaZ,hk]
   obtain ⟨i,hi,hi1,hi2⟩:=XV hw
   rw [e,e2,Zlh]
   simp only [hk]
   iterate 2 (refine Zz (by decide) ?_;dsimp only [go_sem,rA,rM,rS])
   refine ZK (by decide) ?_
   dsimp only [go_sem,rA,rM,rS]
   refine call (YW p x.who hps) ?_
   dsimp only [go_sem,rA,rM,rS]
   simp only [List.length_map,Yg]
   refine Xk a hae ha ?_
   dsimp only [go_sem,rA,rM,rS]
   refine ZbE (atF p x.who) (by rw [Yg];exact ha) (by simp [ZP]) (by simp [ZP,Zo]) ?_
   dsimp only [go_sem,rA,rM,rS]
   rw [Zbw ha,<- hae]
   simp only [List.length_map,Yg]
   refine Xk a hae ha ?_
   dsimp only [go_sem,rA,rM,rS]
   refine ZbE x.day (by rw [Yg];exact ha) (by simp [ZP]) (by simp [ZP,Zo]) ?_
   dsimp only [go_sem,rA,rM,rS]
   rw [Zbw ha,<- hae]
   refine ⟨_,rfl,?_⟩
   (refine Zm ?_ ?_ ?_ rfl<;>dsimp only [ZP,W0,Xg,XX,XB,id,go_sem,rA,rM,rS]<;>simp [ZP,W0,Xg,XX,XB,Zc,Ze,KFR,KFL,KF,Zd,mtO,nbr])
 . obtain ⟨l,hl,e⟩:=ZwV hk h0
   have e2:ZaZ s x=s:=by simp [ZaZ,hk]
   have hho:=Zd0 h hn hpp.1 hids hs (v:=v) ha (l:=l) (by rw [<- hae];exact hl) (hc.who _ _ hl) hday
   rw [<- hae] at hho
   rw [e,e2]
   simp only [hk]
   iterate 3 (refine Zz (by decide) ?_;dsimp only [go_sem,rA,rM,rS])
   refine ZK (by decide) ?_
   dsimp only [go_sem,rA,rM,rS]
   refine Zp [0,1,2,3,4,5] hho rfl rfl rfl ?_ ?_ ?_
   . dsimp only [rho,bkV,Zj,go_sem,rA,rM,rS]
     simp [Zc,Ze,KFR,KFL,KF,Zd,mtL,mtB,mtS,mtO,VT,nbr,Za]
   . dsimp only [rho,bkH,go_sem,rA,rM,rS]
     simp [Zc,Ze,KFR,KFL,KF,Zd,mtO,nbr,ZP,boL,XX,XB]
   rintro _ rfl
   dsimp only [bkH,bkV,go_sem,rA,rM,rS]
   refine ⟨_,rfl,?_⟩
   (refine Zm ?_ ?_ ?_ rfl<;>dsimp only [ZP,W0,Xg,XX,XB,id,go_sem,rA,rM,rS]<;>simp [ZP,W0,Xg,XX,XB,Zc,Ze,KFR,KFL,KF,Zd,mtO,nbr])
 . obtain ⟨l,hl,e⟩:=Zyt hk h0
   have e2:ZaZ s x=s:=by simp [ZaZ,hk]
   have hho:=Zd0 h hn hpp.1 hids hs (v:=v) ha (l:=l) (by rw [<- hae];exact hl) (hc.who _ _ hl) hday
   rw [<- hae] at hho
   rw [e,e2]
   simp only [hk]
   iterate 4 (refine Zz (by decide) ?_;dsimp only [go_sem,rA,rM,rS])
   refine ZK (by decide) ?_
   dsimp only [go_sem,rA,rM,rS]
   refine Zp [0,1,2,3,4,5] hho rfl rfl rfl ?_ ?_ ?_
   . dsimp only [rho,bkV,Zj,go_sem,rA,rM,rS]
     simp [Zc,Ze,KFR,KFL,KF,Zd,mtL,mtB,mtS,mtO,VT,nbr,Za]
   . dsimp only [rho,bkH,go_sem,rA,rM,rS]
     simp [Zc,Ze,KFR,KFL,KF,Zd,mtO,nbr,ZP,boL,XX,XB]
   rintro _ rfl
   dsimp only [bkH,bkV,go_sem,rA,rM,rS]
   simp only [List.length_map,Yg]
   refine Xk a hae ha ?_
   dsimp only [go_sem,rA,rM,rS]
   refine ZbE true (by rw [Yg];exact ha) (by simp [boL]) (by simp [boL,Zo]) ?_
   dsimp only [go_sem,rA,rM,rS]
   rw [Zbw ha,<- hae]
   refine ⟨_,rfl,?_⟩
   have e3:(ZE p c x.animal x.day l).dead=c.dead:=rfl
   rw [e3]
   (refine Zm ?_ ?_ ?_ rfl<;>dsimp only [ZP,W0,Xg,XX,XB,Zfa,id,go_sem,rA,rM,rS]<;>simp [ZP,W0,Xg,XX,XB,Zfa,Zc,Ze,KFR,KFL,KF,Zd,mtO,nbr])
 . have hq:(0<=x.rials/\x.rials<=10000000)/\0<=x.other/\x.other<=9999:=by simp [Zh,hk,inR] at hx;omega
   obtain ⟨hr,hoi⟩:=hq
   obtain ⟨o,ho,hoe⟩:∃ o:Nat,o < 10000/\x.other=(o:Int):=⟨x.other.toNat,by omega,by omega⟩
   obtain ⟨l,hl,e⟩:=Zy3 hk h0
   have e2:ZaZ s x=s:=by simp [ZaZ,hk]
   obtain ⟨i,hi,hi1,hi2⟩:=XV (hc.who _ _ hl)
   have hpart:=Ze5 hr hpp.2
   have hm:=hpart.1
   replace hpart:=hpart.2
   have heb:=h.eb l.1
   rw [e,e2]
   simp only [hk]
   iterate 5 (refine Zz (by decide) ?_;dsimp only [go_sem,rA,rM,rS])
   refine ZK (by decide) ?_
   dsimp only [go_sem,rA,rM,rS]
   rw [Zi (n:=x.rials * p.calf) (by omega) (by omega)]
   refine ZzG (by decide) ?_
   dsimp only [go_sem,rA,rM,rS]
   rw [Zi (n:=(x.rials * p.calf).tdiv 1000) (by omega) (by omega)]
   simp only [List.length_map,Yg]
   refine Xk a hae ha ?_
   dsimp only [go_sem,rA,rM,rS]
   refine V0 (by rw [Yg];exact ha) ?_
   dsimp only [ZP,go_sem,rA,rM,rS]
   rw [Um ha,<- hae,Zby hl,hi1]
   simp only [List.length_map,Xh]
   refine Xk i rfl hi ?_
   dsimp only [go_sem,rA,rM,rS]
   refine V0 (by rw [Xh];exact hi) ?_
   dsimp only [ZP,go_sem,rA,rM,rS]
   rw [Zfe hi,hi2,Zi (n:=c.extra l.1+(x.rials * p.calf).tdiv 1000) (by omega) (by omega)]
   simp only [List.length_map,Xh]
   refine Xk i rfl hi ?_
   dsimp only [go_sem,rA,rM,rS]
   refine ZbE (c.extra l.1+(x.rials * p.calf).tdiv 1000) (by rw [Xh];exact hi) (by simp [ZP]) (by simp [ZP,Zo]) ?_
   dsimp only [go_sem,rA,rM,rS]
   rw [ZeG hids hi,hi2,Zi (n:=x.rials - (x.rials * p.calf).tdiv 1000) (by omega) (by omega),Zi (n:=c.result+(x.rials - (x.rials * p.calf).tdiv 1000)) (by omega) (by omega)]
   simp only [List.length_map,Yg]
   refine Xk o hoe ho ?_
   dsimp only [go_sem,rA,rM,rS]
   refine ZbE true (by rw [Yg];exact ho) (by simp [boL]) (by simp [boL,Zo]) ?_
   dsimp only [go_sem,rA,rM,rS]
   rw [Zbw ho,<- hoe]
   refine ⟨_,rfl,?_⟩
   have hO:Ux p { c with extra:=upd c.extra l.1 (c.extra l.1+(x.rials * p.calf).tdiv 1000),result:=c.result+(x.rials - (x.rials * p.calf).tdiv 1000),known:=upd c.known x.other true }=Ux p c:=rfl
   (refine Zm ?_ ?_ ?_ rfl<;>dsimp only [ZP,W0,Xg,XX,XB,hO,id,go_sem,rA,rM,rS]<;>simp [ZP,W0,Xg,XX,XB,hO,Zc,Ze,KFR,KFL,KF,Zd,mtO,nbr])
 . obtain ⟨hww,hr⟩:(x.who ∈ ids p/\x.other ∈ ids p)/\0<=x.rials/\x.rials<=10000000:=by
    rcases hk with hk | hk<;>(simp [Zh,hk,Ui,inR] at hx;exact ⟨⟨hx.2.1.1.1.1,hx.2.1.1.1.2⟩,hx.2.1.2⟩)
   obtain ⟨i,hi,hi1,hi2⟩:=XV hww.1
   obtain ⟨j,hj,hj1,hj2⟩:=XV hww.2
   have hbb:=h.bb x.who x.other
   have hiL:i < (ddL p c.debts).length:=by rw [V5];exact hi
   have hrow:=Zkj (d:=c.debts) hi
   have hgi:((ddL p c.debts).map hI)[i]? = some (hI (pp p (c.debts x.who))):=by
    rw [List.getElem?_map,List.getElem?_eq_getElem hiL,hrow,hi2];rfl
   have hjl:j < (pp p (c.debts x.who)).length:=by rw [Xh];exact hj
   have hgj:(hI (pp p (c.debts x.who)))[j]? = some (ZP (c.debts x.who x.other)):=by
    rw [hI,List.getElem?_map,List.getElem?_eq_getElem hjl,Zfe hj,hj2];rfl
   rcases hk with hk | hk
   obtain ⟨w,hw⟩:∃ w,w=c.debts x.who x.other+x.rials:=⟨_,rfl⟩
   have e:(Zn p c x).1={ c with debts:=upd c.debts x.who (upd (c.debts x.who) x.other w) }:=by simp [Zn,hk,hw]
   have e2:ZaZ s x=s:=by simp [ZaZ,hk]
   rw [e,e2]
   simp only [hk]
   iterate 6 (refine Zz (by decide) ?_;dsimp only [go_sem,rA,rM,rS])
   rotate_left
   obtain ⟨w,hw⟩:∃ w,w=c.debts x.who x.other - x.rials:=⟨_,rfl⟩
   have hd:¬ c.debts x.who x.other < x.rials:=fun q=>by simp [Zn,hk,q] at h0
   have e:(Zn p c x).1={ c with debts:=upd c.debts x.who (upd (c.debts x.who) x.other w) }:=by simp [Zn,hk,hd,hw]
   have e2:ZaZ s x=s:=by simp [ZaZ,hk]
   rw [e,e2]
   simp only [hk]
   iterate 7 (refine Zz (by decide) ?_;dsimp only [go_sem,rA,rM,rS])
   all_goals
    refine ZK (by decide) ?_
    dsimp only [go_sem,rA,rM,rS]
    refine call (YW p x.who hps) ?_
    dsimp only [go_sem,rA,rM,rS]
    refine ZyH i hi1 (by rw [List.length_map,V5];exact hi) ?_
    dsimp only [go_sem,rA,rM,rS]
    refine ZzC (row:=[.any]) (by simp [fX,hiL]) (by rw [List.length_map,V5];exact hi) ?_
    dsimp only [go_sem,rA,rM,rS]
    refine call (YW p x.other hps) ?_
    dsimp only [go_sem,rA,rM,rS]
    refine ZqJ (rows:=hI (pp p (c.debts x.who))) i j (by omega) hgi hj1 (by rw [hI,List.length_map,Xh];exact hj) ?_
    dsimp only [go_sem,rA,rM,rS]
    refine ZxS (rows:=hI (pp p (c.debts x.who))) (row:=ZP (c.debts x.who x.other)) i (by omega) hgi hgj ?_
    dsimp only [ZP,go_sem,rA,rM,rS]
    rw [<- hw,Zi (n:=w) (by omega) (by omega)]
    refine ZqJ (rows:=hI (pp p (c.debts x.who))) i j (by omega) hgi hj1 (by rw [hI,List.length_map,Xh];exact hj) ?_
    dsimp only [go_sem,rA,rM,rS]
    refine Zyv (row:=ZP (c.debts x.who x.other)) i ((pp p (c.debts x.who)).set j w) (by omega) hiL (by rw [hrow,hi2];exact hgj) (by simp [ZP]) (by rw [hrow,hi2];simp [hI,ZP,Zo,List.map_set]) rfl ?_
    dsimp only [go_sem,rA,rM,rS]
    have hset:=ZvD hids (d:=c.debts) (v:=w) hi hj
    rw [hi2,hj2] at hset
    rw [hset]
    refine ⟨_,rfl,?_⟩
    have hO:Ux p { c with debts:=upd c.debts x.who (upd (c.debts x.who) x.other w) }=Ux p c:=rfl
    (refine Zm ?_ ?_ ?_ rfl<;>dsimp only [ZP,W0,Xg,XX,XB,hO,id,go_sem,rA,rM,rS]<;>simp [ZP,W0,Xg,XX,XB,hO,Zc,Ze,KFR,KFL,KF,Zd,mtO,nbr])
end Go.Proofs.Ythilckbkffjliaa
namespace Go.Azalai
open Go.Sx
theorem ZcL {ends:Int}:∀ {l:List Letter} {seen:List Int},(YO ends seen l).length<=l.length
 | [],_=>by simp [YO]
 | x :: l,seen=>by
  have h:=ZcL (ends:=ends) (l:=l) (seen:=x.id :: seen)
  simp only [YO]
  split
  . simp;omega
  . simp;omega
theorem Wx {p:Pact} {l:List Letter}:(Yn p l).length<=l.length:=by
 rw [Yn,X0.length_eq];exact ZcL
theorem Zd2 {p:Pact} {l:List Letter} (h:Z2 p l=0):ZH p=true/\l.length<=100/\(∀ x ∈ l,Zh p x=true)/\Zfd l=false:=by
 unfold Z2 at h
 split at h
 . cases h
 rename_i h1
 split at h
 . cases h
 rename_i h2
 split at h
 . cases h
 rename_i h3
 split at h
 . cases h
 rename_i h4
 refine ⟨by simpa using h1,by omega,?_,by simpa using h4⟩
 rw [Bool.not_eq_false] at h3
 exact List.all_eq_true.1 h3
theorem UR {p:Pact} {l:List Letter} (h:Z2 p l=0):∀ x ∈ Yn p l,Zh p x=true:=fun x hx=>by
 obtain ⟨_,_,h3,h4⟩:=Zd2 h
 exact h3 x ((Zj6 h4).1 hx).1
def ZbU (p:Pact) (l:List Letter):List Int:=if Z2 p l=0 then Xz p (Yn p l) else []
def Za1 (p:Pact) (l:List Letter):List Int:=if Z2 p l=0 then V3 p co0 (Yn p l) else []
def VL (p:Pact) (who other:Int):Bool:=!atP p who || !atP p other || decide (who=other)
def UC (p:Pact) (l:List Letter) (who other:Int):Int:=if Z2 p l=0/\VL p who other=false then (YX p co0 (Yn p l)).debts who other else 0
def UF (p:Pact) (l:List Letter) (who other:Int):Int:=if Z2 p l=0 then (if VL p who other=true then 2 else 0) else Z2 p l
end Go.Azalai
namespace Go.Proofs.Ythilckbkffjliaa
open Go Go.Sx Go.Azalai
def bHo (o:Nat) (p:Pact) (b:Bks):List (Nat × HB):=[(o,.map (mpS kI Zq b.loans) b.cl),(o+1,.map (mpS kI ZL b.dead) b.cd),(o+2,.map (mpS kI ZL b.known) b.ck),(o+3,.map (mpS kP ZD b.debts) b.cb),(o+4,.map (mpS kI ZD b.extra) b.ce),
 (o+5,.cells [.sl false 3 (p.partners.map Za),I p.calf,I p.hire,I p.ends,.mp o,.mp (o+1),.mp (o+2),.mp (o+3),.mp (o+4),I b.result] 103)]
theorem Zj9 {K V:Type} {key:K->Value} {val:V->SV}:mpS key val ([]:List (Nat × K × V))=[]:=rfl
theorem Zg2 (p:Pact) (l:List Letter) (who other:Int) (hs:Yr p) (hl:l.length<=1000) (c:Bool):Ct Try.prog 26 [.agg (Zj p),.sl c 8 (l.map Zb),I who,I other] (.tup [I (UC p l who other),I (UF p l who other)]):=by
 refine t26.1 (by simp [Zj,Za,Zb,Zc,KFL,KF]) (by simp [KFL,KF]) ?_
 dsimp only [c26,r26,Zj,go_sem,rA,rM,rS]
 refine call (ZuF p l hs hl c) ?_
 dsimp only [go_sem,rA,rM,rS]
 by_cases h0:Z2 p l=0
 case neg =>
  refine ZK (by simpa using h0) ?_
  dsimp only [go_sem,rA,rM,rS]
  simp [UC,UF,h0]
 refine Zz (by simpa using h0) ?_
 dsimp only [go_sem,rA,rM,rS]
 obtain ⟨hp,h100,-,-⟩:=Zd2 h0
 have hlen:=Wx (p:=p) (l:=l)
 refine call (ZiK p who hs) ?_
 dsimp only [go_sem,rA,rM,rS]
 repeat (first | (refine gb ?_;dsimp only [go_sem,rA,rM,rS]) | (refine call (ZiK p other hs) ?_;dsimp only [go_sem,rA,rM,rS]))
 have g1:=Xf p who
 have g2:=Xf p other
 have e1:decide (atF p who < 0) = !atP p who:=by rw [<- g1];by_cases q:atF p who < 0<;>simp [q]<;>omega
 have e2:decide (atF p other < 0) = !atP p other:=by rw [<- g2];by_cases q:atF p other < 0<;>simp [q]<;>omega
 by_cases hb:VL p who other=true
 . refine ZK ?_ ?_
   . simp only [VL] at hb;rw [e1,e2];revert hb;cases atP p who<;>cases atP p other<;>simp
   dsimp only [go_sem,rA,rM,rS]
   simp [UC,UF,h0,hb]
 refine Zz ?_ ?_
 . rw [Bool.not_eq_true] at hb
   simp only [VL] at hb;rw [e1,e2];revert hb;cases atP p who<;>cases atP p other<;>simp
 dsimp only [go_sem,rA,rM,rS]
 have hr:VN p l=Yn p l:=by rw [VN,if_pos h0]
 rw [Bool.not_eq_true] at hb
 have hw:UC p l who other=(YX p co0 (Yn p l)).debts who other:=by rw [UC,if_pos ⟨h0,hb⟩]
 have he:UF p l who other=0:=by simp [UF,h0,hb]
 rw [hr,hw,he]
 have hX:=UR h0
 generalize Yn p l=X at *
 refine Zp [] (Zeq p) rfl rfl rfl ?_ ?_ ?_
 . (repeat first | dsimp only [Zj,go_sem,rA,rM,rS] | simp only [nbr])
   try simp [mtL,mtB,mtS,Zc,KFL,KF,Za]
 . trivial
 rintro _ rfl
 (repeat first | dsimp only [Zc4,go_sem,rA,rM,rS] | simp only [nbr])
 refine Zp [2,3,4,5,6,7] (Zvp p Zdg X false) rfl rfl rfl ?_ ?_ ?_
 . (repeat first | dsimp only [bH,go_sem,rA,rM,rS] | simp only [nbr])
   try simp [mtL,mtB,mtS,Zc,KFL,KF,Zb]
 . (repeat first | dsimp only [bH,Zdg,go_sem,rA,rM,rS] | simp only [nbr])
   try simp [mpS,Za,Zc,KFL,KF]
 rintro _ rfl
 (repeat first | dsimp only [rsH,bH,Zdg,go_sem,rA,rM,rS] | simp only [nbr])
 refine gh Yq ?_
 (repeat first | dsimp only [go_sem,rA,rM,rS] | simp only [nbr])
 refine ⟨b71,fun rec=>?_⟩
 refine y71 ?_
 (repeat first | dsimp only [c71,r71,go_sem,rA,rM,rS] | simp only [nbr])
 refine Zp [] Zae rfl rfl rfl ?_ ?_ ?_
 . (repeat first | dsimp only [go_sem,rA,rM,rS] | simp only [nbr])
   try simp [mtL,mtB,mtS]
 . trivial
 rintro _ rfl
 (repeat first | dsimp only [go_sem,rA,rM,rS] | simp only [nbr])
 simp only [List.length_map]
 refine YY (fun s:Nat × Bks=>[(10,I (s.1:Nat))]) (fun s=>bHo 2 p s.2) (fun s=>s.1<=X.length/\BkR s.1 (YX p co0 (X.take s.1)) s.2) (fun s=>X.length - s.1) (0,Zdg) ⟨Nat.zero_le _,BkR.start⟩ ?_ ?_
 . dsimp only [bHo,Zdg,go_sem,rA,rM,rS]
   (refine Zl ?_ ?_ ?_ rfl rfl<;>dsimp only [Zj9,Zg,Za,Zb,YP,id,go_sem,rA,rM,rS]<;>simp [Zj9,Zg,Za,Zb,YP,Zc,Ze,KFR,KFL,KF,Zd,mtO,nbr])
 rintro ⟨j,b⟩ ⟨hj,hb⟩
 simp only at hj hb
 dsimp only [bHo,go_sem,rA,rM,rS]
 by_cases hlt:j < X.length
 . refine ZK (by simpa using hlt) ?_
   dsimp only [go_sem,rA,rM,rS]
   refine ZF j hlt rfl ?_
   dsimp only [Zb,go_sem,rA,rM,rS]
   have hx:=hX X[j] (List.getElem_mem _)
   obtain ⟨ka,kb',hkg⟩:=Ze7 (WM hx)
   refine YF (key:=kB) (val:=YP) (sv:=fun n=>.v (kB n)) (L:=ZA) (k:=X[j].kind) (zs:=zk) rfl rfl Zid Zko rfl ZdM zk_R (fun v hg=>?_) (fun hg=>?_)
   case refine_2=>rw [hkg] at hg;cases hg
   rw [hkg] at hg
   cases hg
   dsimp only [YP,go_sem,rA,rM,rS]
   refine Zp [2,3,4,5,6,7] (Zq3 hb (by omega) hp X[j] hx) rfl rfl rfl ?_ ?_ ?_
   . (repeat first | dsimp only [bH,go_sem,rA,rM,rS] | simp only [nbr])
     try simp [mtL,mtB,mtS,Zb]
   . (repeat first | dsimp only [bH,go_sem,rA,rM,rS] | simp only [nbr])
     try simp [Zg,Zq,ZD,ZL,Za,Zb,Zc,KFL,KF]
   rintro _ ⟨b2,hb2,rfl⟩
   (repeat first | dsimp only [ZgU,bH,go_sem,rA,rM,rS] | simp only [nbr])
   refine ⟨trivial,trivial,?_⟩
   (repeat first | dsimp only [go_sem,rA,rM,rS] | simp only [nbr])
   refine ⟨trivial,?_⟩
   refine Zz rfl ?_
   (repeat first | dsimp only [go_sem,rA,rM,rS] | simp only [nbr])
   rw [Zi (n:=(j:Int)+1) (by omega) (by omega)]
   refine ⟨(j+1,b2),⟨hlt,by rw [WF hlt];exact hb2⟩,by simp only;omega,?_⟩
   dsimp only [bHo,go_sem,rA,rM,rS]
   (refine Zl ?_ ?_ ?_ rfl rfl<;>dsimp only [Zg,Za,Zb,YP,Zq,ZD,ZL,id,go_sem,rA,rM,rS]<;>simp [Zg,Za,Zb,YP,Zq,ZD,ZL,Zc,Ze,KFR,KFL,KF,Zd,mtO,nbr])
 refine Zz (by simpa using hlt) ?_
 dsimp only [go_sem,rA,rM,rS]
 have hjl:j=X.length:=by omega
 subst hjl
 rw [List.take_length] at hb
 have hdb:=hb.db who other
 refine YF (key:=kP) (val:=ZD) (sv:=sP) (L:=b.debts) (k:=(who,other)) (zs:=ZD 0) rfl rfl Zs4 Zak rfl Za4 Zk2 (fun v hg=>?_) (fun hg=>?_)
 . rw [hg] at hdb
   dsimp only [ZD,go_sem,rA,rM,rS]
   rw [<- hdb];rfl
 . rw [hg] at hdb
   dsimp only [ZD,go_sem,rA,rM,rS]
   rw [<- hdb];rfl
end Go.Proofs.Ythilckbkffjliaa
namespace Go.Sx
open Go Go.RowKit
end Go.Sx
namespace Go.Azalai
def mN (l:List Letter):Nat:=(l.filter (·.mouth)).length
def Zb7 (p:Pact) (l:List Letter):Int:=if Z2 p l=0 then (if mN (Yn p l) > 6 then 83 else 0) else Z2 p l
def Zh9 (p:Pact) (l:List Letter):List (Int × Int):=if Zb7 p l=0 then Zg0 p (Yn p l) else []
end Go.Azalai
namespace Go.Proofs.Ythilckbkffjliaa
open Go Go.Sx Go.Azalai
end Go.Proofs.Ythilckbkffjliaa
namespace Go.Sx
open Go
def byS (ns:List Int):ByteArray:=ns.foldl (fun r n=>r.push (UInt8.ofNat n.toNat)) ByteArray.empty
theorem Zi5 {w:World} {E:Env} {n ok:Nat->Prop}:∀ {l ys:List Value},RL w E n ok (l.map SV.v) ys->ys=l
 | [],ys,h=>by simpa [RL] using h
 | x :: l,ys,h=>by
  simp only [List.map_cons,RL] at h
  obtain ⟨y,r,rfl,h1,h2⟩:=h
  simp only [R] at h1
  rw [h1,Zi5 h2]
theorem Zym {α β : Type} (f:α->β):∀ l:List α,(l.map fun n=>[f n]).flatten=l.map f
 | []=>rfl
 | x :: l=>by simp only [List.map_cons,List.flatten_cons,Zym f l];rfl
theorem ZbO {P:Program} {d:Option Nat} {u src dst ty e:Nat} {ns:List Int} {s:SV} {σ : St} {r:KT} {K:RK} (hl:lk u σ.fr=s) (hng:∀ j b u,s≠.gd j b u) (hs:Zc8 1 s=some (ns.map fun n=>[SV.v (.int .u8 n)]))
 (hsrc:P.underlying src=some (.slice e)) (hdst:P.underlying dst=some .string) (he:P.underlying e=some (.int .u8)) (hk:Ym d (.v (.string (byS ns))) none σ r K):RAW P d (.convert src dst (.tmp u)) ty σ r K:=by
 intro o C E a w next Q h1 h2 h3 hS hn hq
 have hR:=Zq4 (hS.fr u) (fun j b u' e=>hng j b u' (hl ▸ e))
 rw [hl] at hR
 obtain ⟨cs,⟨ad,cap,y0,y1,y2,y3⟩,hcs,_⟩:=X7 hR hs
 have hflat:(ns.map fun n=>[SV.v (.int .u8 n)]).flatten=(ns.map (Value.int .u8)).map SV.v:=by rw [Zym (fun n=>SV.v (.int .u8 n)),List.map_map];rfl
 rw [hflat] at hcs
 have hcs:=Zi5 hcs
 subst hcs
 have hrun:(convert src dst (a.tmps.getD u undef)).run P w = .ok (.string (byS ns)) w:=by
  rw [y0,run_convert_bytes_string w src dst e ad _ cap hsrc he hdst]
  cases ad with
  | none =>
   have:ns=[]:=by
    rcases y3 with h | ⟨b,off,h,_⟩
    . simpa using h
    . cases h
   subst this
   simp [Conv.bytesToString,Sem.run_pure,byS]
  | some ad =>
   refine run_bytesToString w ad _ cap ns ?_
   rcases y3 with h | ⟨b,off,h,hc⟩
   . have:ns=[]:=by simpa using h
     subst this
     simp [loadCells,loadCellsFrom,Sem.run_pure]
   . cases h
     have hlen:(ns.map fun n=>[SV.v (.int .u8 n)]).length=(ns.map (Value.int .u8)).length:=by simp
     rw [hlen]
     exact run_loadCells_list w _ _ (fun j v hv=>by rw [Yw];exact hc j v hv)
 have hx:(execOp a.eval o).run P w = .ok (.value (.string (byS ns))) w:=by
  obtain ⟨dst',op',ty',pos,after,guard⟩:=o
  simp only at h2;subst h2
  simp only [Array.getD_eq_getD_getElem?] at hrun
  simp only [execOp,Act.eval]
  simp [Sem.run_bind,hrun]
 refine Zv hx (by simp) ?_
 show next (a.put o.dst _) w
 rcases Vk hk with ⟨g1,g2⟩ | ⟨t,g1,g2,g3,g4,g5⟩
 . rw [h1,g1];exact hn _ E _ _ g2 hS
 . rw [h1,g1]
   exact hn _ E _ _ g5 (Xe hS (fun b hb _=>⟨hb,rfl⟩) (fun _ _=>Ele.rfl) (Nat.le_refl _) hS.hs g2 g3 (fun j b u e=>by rw [e] at g4;cases g4) (by simp only [R]))
theorem ZeK {P:Program} {d:Option Nat} {ax bx:Operand} {t t' ty:Nat} {x y:ByteArray} {σ : St} {r:KT} {K:RK} (hu:V2 σ ax = .v (.string x)) (hv:V2 σ bx = .v (.string y))
 (hk:Ym d (.v (.bool (x.toList == y.toList))) none σ r K):RAW P d (.binOp .eql t ax bx t') ty σ r K:=by
 intro o C E a w next Q e1 h2 h3 hS hn hq
 have hx:=Wa hS hu (fun _ _ _=>by simp)
 have hy:=Wa hS hv (fun _ _ _=>by simp)
 simp only [R] at hx hy
 have hrun:(execOp a.eval o).run P w = .ok (.value (.bool (x.toList == y.toList))) w:=by
  obtain ⟨dst',op',ty',pos,after,guard⟩:=o
  simp only at h2;subst h2
  simp only [execOp,hx,hy]
  simp [Sem.run_bind,eqGuard,binOp,Op.stringOp,Sem.run_pure]
 refine Zv hrun (by simp) ?_
 show next (a.put o.dst _) w
 rw [e1]
 exact Va hk hS (by simp only [R]) hn
end Go.Sx
namespace Go.Proofs.Ythilckbkffjliaa
open Go Go.Sx Go.Azalai
theorem ZaO (a b:List Letter) (ha:a.length<=1000000) (hb:b.length<=1000000) (c c':Bool):Ct Try.prog 28 [.sl c 8 (a.map Zb),.sl c' 8 (b.map Zb)] (B (decide (a=b))):=by
 refine t28.1 (by simp [Zc,Zb,KFL,KF]) (by simp [KFL,KF]) ?_
 dsimp only [c28,r28,go_sem,rA,rM,rS]
 simp only [List.length_map]
 by_cases hl:a.length=b.length
 case neg =>
  refine ZK (by simp;omega) ?_
  dsimp only [go_sem,rA,rM,rS]
  have:a≠b:=fun e=>hl (by rw [e])
  simp [this]
 refine Zz (by simp;omega) ?_
 dsimp only [go_sem,rA,rM,rS]
 refine YY (fun j:Nat=>[(5,I j)]) (fun _=>[]) (fun j=>j<=a.length/\a.take j=b.take j) (fun j=>a.length - j) 0 ⟨Nat.zero_le _,rfl⟩ ?_ ?_
 . (refine Zl ?_ ?_ ?_ rfl rfl<;>dsimp only [Zb,id,go_sem,rA,rM,rS]<;>simp [Zb,Zc,Ze,KFR,KFL,KF,Zd,mtO,nbr])
 rintro j ⟨hj,ht⟩
 dsimp only [go_sem,rA,rM,rS]
 simp only [List.length_map]
 by_cases hlt:j < a.length
 . refine ZK (by simpa using hlt) ?_
   dsimp only [go_sem,rA,rM,rS]
   have hltb:j < b.length:=by omega
   refine ZF j hlt rfl ?_
   dsimp only [go_sem,rA,rM,rS]
   refine ZF j hltb rfl ?_
   dsimp only [Zb,go_sem,rA,rM,rS]
   by_cases he:a[j]=b[j]
   . refine Zz (by rw [he];simp [ngB]) ?_
     dsimp only [go_sem,rA,rM,rS]
     rw [Zi (n:=(j:Int)+1) (by omega) (by omega)]
     refine ⟨j+1,⟨hlt,?_⟩,by omega,?_⟩
     . rw [List.take_succ_eq_append_getElem hlt,List.take_succ_eq_append_getElem hltb,ht,he]
     (refine Zl ?_ ?_ ?_ rfl rfl<;>dsimp only [Zb,id,go_sem,rA,rM,rS]<;>simp [Zb,Zc,Ze,KFR,KFL,KF,Zd,mtO,nbr])
   . refine ZK ?_ ?_
     . rw [Zys];simp [ngB,he]
     dsimp only [go_sem,rA,rM,rS]
     have:a≠b:=fun e=>he (by subst e;rfl)
     simp [this]
 refine Zz (by simp;omega) ?_
 dsimp only [go_sem,rA,rM,rS]
 have:a=b:=by
  rw [List.take_of_length_le (by omega),List.take_of_length_le (by omega)] at ht
  exact ht
 simp [this]
def ZeP (p:Pact) (l:List Letter):Bool:=decide (p.partners.length > 12) || decide (l.length > 150)
theorem Zmm (p:Pact) (l:List Letter) (c:Bool):Ct Try.prog 16 [.agg (Zj p),.sl c 8 (l.map Zb)] (B (ZeP p l)):=by
 refine t16.1 (by simp [Zj,Za,Zb,Zc,KFL,KF]) (by simp [KFL,KF]) ?_
 dsimp only [c16,r16,Zj,go_sem,rA,rM,rS]
 repeat (refine gb ?_;dsimp only [go_sem,rA,rM,rS])
 simp only [List.length_map]
 simp only [ZeP,Option.some.injEq,SV.v.injEq,Value.bool.injEq]
 rw [Bool.eq_iff_iff]
 simp
 omega
theorem Zgl (p:Pact) (x:Letter) (hs:Yr p):Ct Try.prog 36 [.agg (Zj p),.agg (Zb x)] (B (Zh p x)):=by
 refine t36.1 (by simp [Zj,Za,Zb,Zc,KFL,KF]) (by simp [KFL,KF]) ?_
 dsimp only [c36,r36,Zj,Zb,go_sem,rA,rM,rS]
 refine call (ZR _ _ _) ?_
 dsimp only [go_sem,rA,rM,rS]
 repeat (first | (refine gb ?_;dsimp only [go_sem,rA,rM,rS]) | (refine call (ZR _ _ _) ?_;dsimp only [go_sem,rA,rM,rS]))
 by_cases h1:(inR 0 9999 x.id && inR 0 100000 x.day)=true
 case neg =>
  refine ZK (by grind) ?_
  dsimp only [go_sem,rA,rM,rS]
  rw [Bool.not_eq_true] at h1
  simp only [Zh,h1,Bool.false_and]
 refine Zz (by grind) ?_
 dsimp only [go_sem,rA,rM,rS]
 refine call (YW p x.who hs) ?_
 dsimp only [go_sem,rA,rM,rS]
 refine call (ZR _ _ _) ?_
 dsimp only [go_sem,rA,rM,rS]
 refine call (ZR _ _ _) ?_
 dsimp only [go_sem,rA,rM,rS]
 rw [Xf p x.who]
 by_cases k1:x.kind=1
 . simp only [k1]
   repeat (first | (refine ZK rfl ?_;dsimp only [go_sem,rA,rM,rS]) | (refine Zz rfl ?_;dsimp only [go_sem,rA,rM,rS]))
   repeat (first | (refine gb ?_;dsimp only [go_sem,rA,rM,rS]) | (refine call (ZR _ _ _) ?_;dsimp only [go_sem,rA,rM,rS]) | (refine call (YW p x.other hs) ?_;dsimp only [go_sem,rA,rM,rS]))
   have g2:=Xf p x.other
   simp only [Option.some.injEq,SV.v.injEq,Value.bool.injEq]
   rw [Bool.eq_iff_iff]
   obtain ⟨id',day,kind,who,other,animal,rials,mouth⟩:=x
   simp only at k1
   subst k1
   simp only [Zh] at h1 ⊢
   simp only [h1]
   try rw [g2]
   simp
   try grind
 by_cases k2:x.kind=2
 . simp only [k2]
   repeat (first | (refine ZK rfl ?_;dsimp only [go_sem,rA,rM,rS]) | (refine Zz rfl ?_;dsimp only [go_sem,rA,rM,rS]))
   repeat (first | (refine gb ?_;dsimp only [go_sem,rA,rM,rS]) | (refine call (ZR _ _ _) ?_;dsimp only [go_sem,rA,rM,rS]) | (refine call (YW p x.other hs) ?_;dsimp only [go_sem,rA,rM,rS]))
   have g2:=Xf p x.other
   simp only [Option.some.injEq,SV.v.injEq,Value.bool.injEq]
   rw [Bool.eq_iff_iff]
   obtain ⟨id',day,kind,who,other,animal,rials,mouth⟩:=x
   simp only at k2
   subst k2
   simp only [Zh] at h1 ⊢
   simp only [h1]
   try rw [g2]
   simp
   try grind
 by_cases k3:x.kind=3
 . simp only [k3]
   repeat (first | (refine ZK rfl ?_;dsimp only [go_sem,rA,rM,rS]) | (refine Zz rfl ?_;dsimp only [go_sem,rA,rM,rS]))
   repeat (first | (refine gb ?_;dsimp only [go_sem,rA,rM,rS]) | (refine call (ZR _ _ _) ?_;dsimp only [go_sem,rA,rM,rS]) | (refine call (YW p x.other hs) ?_;dsimp only [go_sem,rA,rM,rS]))
   have g2:=Xf p x.other
   simp only [Option.some.injEq,SV.v.injEq,Value.bool.injEq]
   rw [Bool.eq_iff_iff]
   obtain ⟨id',day,kind,who,other,animal,rials,mouth⟩:=x
   simp only at k3
   subst k3
   simp only [Zh] at h1 ⊢
   simp only [h1]
   try rw [g2]
   simp
   try grind
 by_cases k4:x.kind=4
 . simp only [k4]
   repeat (first | (refine ZK rfl ?_;dsimp only [go_sem,rA,rM,rS]) | (refine Zz rfl ?_;dsimp only [go_sem,rA,rM,rS]))
   repeat (first | (refine gb ?_;dsimp only [go_sem,rA,rM,rS]) | (refine call (ZR _ _ _) ?_;dsimp only [go_sem,rA,rM,rS]) | (refine call (YW p x.other hs) ?_;dsimp only [go_sem,rA,rM,rS]))
   have g2:=Xf p x.other
   simp only [Option.some.injEq,SV.v.injEq,Value.bool.injEq]
   rw [Bool.eq_iff_iff]
   obtain ⟨id',day,kind,who,other,animal,rials,mouth⟩:=x
   simp only at k4
   subst k4
   simp only [Zh] at h1 ⊢
   simp only [h1]
   try rw [g2]
   simp
   try grind
 by_cases k5:x.kind=5
 . simp only [k5]
   repeat (first | (refine ZK rfl ?_;dsimp only [go_sem,rA,rM,rS]) | (refine Zz rfl ?_;dsimp only [go_sem,rA,rM,rS]))
   repeat (first | (refine gb ?_;dsimp only [go_sem,rA,rM,rS]) | (refine call (ZR _ _ _) ?_;dsimp only [go_sem,rA,rM,rS]) | (refine call (YW p x.other hs) ?_;dsimp only [go_sem,rA,rM,rS]))
   have g2:=Xf p x.other
   simp only [Option.some.injEq,SV.v.injEq,Value.bool.injEq]
   rw [Bool.eq_iff_iff]
   obtain ⟨id',day,kind,who,other,animal,rials,mouth⟩:=x
   simp only at k5
   subst k5
   simp only [Zh] at h1 ⊢
   simp only [h1]
   try rw [g2]
   simp
   try grind
 by_cases k6:x.kind=6
 . simp only [k6]
   repeat (first | (refine ZK rfl ?_;dsimp only [go_sem,rA,rM,rS]) | (refine Zz rfl ?_;dsimp only [go_sem,rA,rM,rS]))
   repeat (first | (refine gb ?_;dsimp only [go_sem,rA,rM,rS]) | (refine call (ZR _ _ _) ?_;dsimp only [go_sem,rA,rM,rS]) | (refine call (YW p x.other hs) ?_;dsimp only [go_sem,rA,rM,rS]))
   have g2:=Xf p x.other
   simp only [Option.some.injEq,SV.v.injEq,Value.bool.injEq]
   rw [Bool.eq_iff_iff]
   obtain ⟨id',day,kind,who,other,animal,rials,mouth⟩:=x
   simp only at k6
   subst k6
   simp only [Zh] at h1 ⊢
   simp only [h1]
   try rw [g2]
   simp
   try grind
 by_cases k7:x.kind=7
 . simp only [k7]
   repeat (first | (refine ZK rfl ?_;dsimp only [go_sem,rA,rM,rS]) | (refine Zz rfl ?_;dsimp only [go_sem,rA,rM,rS]))
   repeat (first | (refine gb ?_;dsimp only [go_sem,rA,rM,rS]) | (refine call (ZR _ _ _) ?_;dsimp only [go_sem,rA,rM,rS]) | (refine call (YW p x.other hs) ?_;dsimp only [go_sem,rA,rM,rS]))
   have g2:=Xf p x.other
   simp only [Option.some.injEq,SV.v.injEq,Value.bool.injEq]
   rw [Bool.eq_iff_iff]
   obtain ⟨id',day,kind,who,other,animal,rials,mouth⟩:=x
   simp only at k7
   subst k7
   simp only [Zh] at h1 ⊢
   simp only [h1]
   try rw [g2]
   simp
   try grind
 by_cases k8:x.kind=8
 . simp only [k8]
   repeat (first | (refine ZK rfl ?_;dsimp only [go_sem,rA,rM,rS]) | (refine Zz rfl ?_;dsimp only [go_sem,rA,rM,rS]))
   repeat (first | (refine gb ?_;dsimp only [go_sem,rA,rM,rS]) | (refine call (ZR _ _ _) ?_;dsimp only [go_sem,rA,rM,rS]) | (refine call (YW p x.other hs) ?_;dsimp only [go_sem,rA,rM,rS]))
   have g2:=Xf p x.other
   simp only [Option.some.injEq,SV.v.injEq,Value.bool.injEq]
   rw [Bool.eq_iff_iff]
   obtain ⟨id',day,kind,who,other,animal,rials,mouth⟩:=x
   simp only at k8
   subst k8
   simp only [Zh] at h1 ⊢
   simp only [h1]
   try rw [g2]
   simp
   try grind
 repeat (refine Zz (by simp [k1,k2,k3,k4,k5,k6,k7,k8]) ?_;dsimp only [go_sem,rA,rM,rS])
 repeat (refine gb ?_;dsimp only [go_sem,rA,rM,rS])
 simp [Zh,k1,k2,k3,k4,k5,k6,k7,k8]
end Go.Proofs.Ythilckbkffjliaa
