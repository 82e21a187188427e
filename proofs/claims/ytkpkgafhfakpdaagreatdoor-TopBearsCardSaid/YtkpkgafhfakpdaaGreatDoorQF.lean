/- Walks and plain laws that lead to the given statement, part 6 of 9. -/
import Derived.Test.YtkpkgafhfakpdaaGreatDoorQE
import Derived.Recover
import Derived.Test.YtkpkgafhfakpdaaGreatDoorProg
import Derived.WideLaws
import Derived.Lib.AppendZerosOnto
set_option maxRecDepth 100000
set_option maxHeartbeats 4000000
set_option linter.all false
open Nat renaming beq_refl->nbr
namespace Go.Sx
open Go Go.RowKit
inductive FB where
 | tail (c:SC)
 | seq (a:SC) (b:FB)
 | dfr (ops:List Ins) (mx kx:X) (t:TypeId) (b:FB)
 | rcv (ops:List Ins) (cx:X) (b:FB)
def ZwN (mx kx:X) (t:TypeId) (o:Oper):Bool :=
 match o.op,o.dst,o.guard with
 | .defer c,none,none=>(match c.callee with | .builtin .delete=>true | _=>false) && (match c.args.toList with | [m,k]=>YA mx m && YA kx k | _=>false) && (match c.argTypes[0]? with | some u=>u == t | none=>false)
 | _,_,_=>false
def Zp0 (cx:X) (o:Oper):Bool :=
 match o.op,o.dst,o.guard with
 | .defer c,none,none=>(match c.callee with | .value y=>YA cx y | _=>false) && c.args.isEmpty
 | _,_,_=>false
def UO (P:Program):FB->Code->Bool
 | .tail c,code=>YC P c code
 | .seq a b,code=>(match code with | .seq x y=>YC P a x && UO P b y | _=>false)
 | .dfr ops mx kx t b,code=>(match code with
  | .seq (.region _ os false) y=>ZfN P os ops (os.toList.take ops.length) && (match os.toList.drop ops.length with | [o]=>ZwN mx kx t o | _=>false) && UO P b y
  | _=>false)
 | .rcv ops cx b,code=>(match code with
  | .seq (.region _ os false) y=>ZfN P os ops (os.toList.take ops.length) && (match os.toList.drop ops.length with | [o]=>Zp0 cx o | _=>false) && UO P b y
  | _=>false)
def ZvO (P:Program) (t:TypeId) (kv:Value) (hb hb':HB):Prop :=
 ∃ (K V:Type) (_:DecidableEq K) (key:K->Value) (val:V->SV) (sv:K->SV) (L:List (Nat × K × V)) (k:K) (kt et:TypeId) (c:Nat),
  hb = .map (mpS key val L) c/\hb' = .map (mpS key val (ZjH k L)) c/\kv=key k/\P.underlying t=some (.map kt et)/\KeyT P kt key sv
def dK (P:Program) (t:TypeId) (km:Nat) (kv:Value) (K:Ex->St->Prop):Ex->St->Prop
 | .n,σ=>∃ hb',ZvO P t kv (lkh km σ.hp) hb'/\K .n ⟨σ.fr,(km,hb') :: σ.hp,σ.n,σ.N,σ.gs⟩
 | .ret,σ=>∃ hb',ZvO P t kv (lkh km σ.hp) hb'/\K .ret ⟨σ.fr,(km,hb') :: σ.hp,σ.n,σ.N,σ.gs⟩
 | _,_=>False
def fxS (f:St->(Ex->St->Prop)->Prop) (K:Ex->St->Prop):Ex->St->Prop
 | .n,σ=>f σ K
 | .ex _,_=>False
 | .ret,σ=>K .ret σ
 | .pan s,σ=>K (.pan s) σ
def mpO:SV->Option Nat
 | .mp k=>some k
 | _=>none
def vO:SV->Option Value
 | .v x=>some x
 | _=>none
def Zyp (P:Program) (t:TypeId) (f:Nat->St->(Ex->St->Prop)->Prop) (km:Option Nat) (kv:Option Value) (σ : St) (K:Ex->St->Prop):Prop :=
 match km,kv with
 | some km,some kv=>Nat.blt km σ.n=true/\f σ.n σ (dK P t km kv K)
 | _,_=>False
def ZkN (t:Nat) (o:Oper):Bool :=
 match o.op,o.dst,o.guard with
 | .call c,some u,none=>u == t && (match c.callee with | .builtin .recover=>true | _=>false) && c.args.isEmpty
 | _,_,_=>false
structure RcF (P:Program) (g:FuncId) (t:Nat) (l:List Ins) (c:SC) (N:Nat):Prop where
 ex:∃ fn id os y0 o1,P.funcs[g]? = some fn/\fn.body=some (.seq (.region id os false) y0)/\os[0]? = some o1/\ZkN t o1=true/\ZfN P os l (os.toList.drop 1)=true/\YC P c y0=true/\fn.ntmps=N/\t < N/\fn.results = #[]
 bd:Z5 P g=true
def rcK (σ : St) (k:St->Prop):Ex->St->Prop
 | .n,σ'=>k ⟨σ.fr,σ'.hp,σ'.n,σ.N,σ.gs⟩
 | .ret,σ'=>k ⟨σ.fr,σ'.hp,σ'.n,σ.N,σ.gs⟩
 | _,_=>False
def rcR (P:Program) (t:Nat) (l:List Ins) (c:SC) (N:Nat) (caps:List SV) (s:SV) (σ : St) (k:St->Prop):Prop :=
 Nat.ble caps.length N=true/\rx P Y0 l ⟨(t,s) :: YF 0 caps,σ.hp,σ.n,N,[]⟩ (Zb8 (fxS (λσ' K=>sx P Y0 σ.n c σ' K) (rcK σ k)))
def Zwi (P:Program) (f:Nat->St->(Ex->St->Prop)->Prop) (rk:FuncId->List SV->Ex->St->Prop) (s:SV) (σ : St):Prop :=
 match s with
 | .cl g caps=>f σ.n σ (rk g caps)
 | _=>False
def rK (P:Program) (K:Ex->St->Prop) (g:FuncId) (caps:List SV):Ex->St->Prop
 | .n,σ=>∃ t l c N,RcF P g t l c N/\rcR P t l c N caps (.v .nilIface) σ (K .n)
 | .ret,σ=>∃ t l c N,RcF P g t l c N/\rcR P t l c N caps (.v .nilIface) σ (K .ret)
 | .pan s,σ=>∃ t l c N,RcF P g t l c N/\rcR P t l c N caps s σ (K .ret)
 | .ex _,_=>False
def fx (P:Program):Nat->FB->St->(Ex->St->Prop)->Prop
 | m,.tail c,σ,K=>sx P Y0 m c σ K
 | m,.seq a b,σ,K=>sx P Y0 m a σ (fxS (fx P m b) K)
 | _,.dfr ops mx kx t b,σ,K=>rx P Y0 ops σ (Zb8 (fxS (λσ K=>Zyp P t (λn=>fx P n b) (mpO (rdG none σ.fr mx)) (vO (rdG none σ.fr kx)) σ K) K))
 | _,.rcv ops cx b,σ,K=>rx P Y0 ops σ (Zb8 (fxS (λσ K=>Zwi P (λn=>fx P n b) (rK P K) (rdG none σ.fr cx) σ) K))
theorem ZtN (P:Program) (m:Nat) (c:SC) (σ : St) (K:Ex->St->Prop):fx P m (.tail c) σ K=sx P Y0 m c σ K:=rfl
theorem Zyx (P:Program) (m:Nat) (a:SC) (b:FB) (σ : St) (K:Ex->St->Prop):fx P m (.seq a b) σ K=sx P Y0 m a σ (fxS (fx P m b) K):=rfl
theorem Zxa (P:Program) (m:Nat) (ops:List Ins) (mx kx:X) (t:TypeId) (b:FB) (σ : St) (K:Ex->St->Prop):fx P m (.dfr ops mx kx t b) σ K=rx P Y0 ops σ (Zb8 (fxS (λσ K=>Zyp P t (λn=>fx P n b) (mpO (rdG none σ.fr mx)) (vO (rdG none σ.fr kx)) σ K) K)):=rfl
theorem Zys (P:Program) (m:Nat) (ops:List Ins) (cx:X) (b:FB) (σ : St) (K:Ex->St->Prop):fx P m (.rcv ops cx b) σ K=rx P Y0 ops σ (Zb8 (fxS (λσ K=>Zwi P (λn=>fx P n b) (rK P K) (rdG none σ.fr cx) σ) K)):=rfl
theorem Zud (P:Program) (f:Nat->St->(Ex->St->Prop)->Prop) (rk:FuncId->List SV->Ex->St->Prop) (g:FuncId) (caps:List SV) (σ : St):Zwi P f rk (.cl g caps) σ = f σ.n σ (rk g caps):=rfl
theorem rK_n (P:Program) (K:Ex->St->Prop) (g:FuncId) (caps:List SV) (σ : St):rK P K g caps .n σ = ∃ t l c N,RcF P g t l c N/\rcR P t l c N caps (.v .nilIface) σ (K .n):=rfl
theorem Zwe (P:Program) (K:Ex->St->Prop) (g:FuncId) (caps:List SV) (σ : St):rK P K g caps .ret σ = ∃ t l c N,RcF P g t l c N/\rcR P t l c N caps (.v .nilIface) σ (K .ret):=rfl
theorem ZwW (P:Program) (K:Ex->St->Prop) (g:FuncId) (caps:List SV) (s:SV) (σ : St):rK P K g caps (.pan s) σ = ∃ t l c N,RcF P g t l c N/\rcR P t l c N caps s σ (K .ret):=rfl
theorem e_rcR (P:Program) (t:Nat) (l:List Ins) (c:SC) (N:Nat) (caps:List SV) (s:SV) (σ : St) (k:St->Prop):rcR P t l c N caps s σ k=(Nat.ble caps.length N=true/\rx P Y0 l ⟨(t,s) :: YF 0 caps,σ.hp,σ.n,N,[]⟩ (Zb8 (fxS (λσ' K=>sx P Y0 σ.n c σ' K) (rcK σ k)))):=rfl
theorem rcK_n (σ : St) (k:St->Prop) (σ':St):rcK σ k .n σ'=k ⟨σ.fr,σ'.hp,σ'.n,σ.N,σ.gs⟩:=rfl
theorem ZtP (σ : St) (k:St->Prop) (σ':St):rcK σ k .ret σ'=k ⟨σ.fr,σ'.hp,σ'.n,σ.N,σ.gs⟩:=rfl
attribute [go_sem] Zys Zud rK_n Zwe ZwW e_rcR rcK_n ZtP
theorem fxS_n (f:St->(Ex->St->Prop)->Prop) (K:Ex->St->Prop) (σ : St):fxS f K .n σ = f σ K:=rfl
theorem Zrl (f:St->(Ex->St->Prop)->Prop) (K:Ex->St->Prop) (σ : St):fxS f K .ret σ = K .ret σ:=rfl
theorem Zxk (P:Program) (t:TypeId) (f:Nat->St->(Ex->St->Prop)->Prop) (km:Nat) (kv:Value) (σ : St) (K:Ex->St->Prop):Zyp P t f (some km) (some kv) σ K=(Nat.blt km σ.n=true/\f σ.n σ (dK P t km kv K)):=rfl
theorem Zwc (k:Nat):mpO (.mp k)=some k:=rfl
theorem vO_v (x:Value):vO (.v x)=some x:=rfl
theorem dK_n (P:Program) (t:TypeId) (km:Nat) (kv:Value) (K:Ex->St->Prop) (σ : St):dK P t km kv K .n σ = ∃ hb',ZvO P t kv (lkh km σ.hp) hb'/\K .n ⟨σ.fr,(km,hb') :: σ.hp,σ.n,σ.N,σ.gs⟩:=rfl
theorem Zwf (P:Program) (t:TypeId) (km:Nat) (kv:Value) (K:Ex->St->Prop) (σ : St):dK P t km kv K .ret σ = ∃ hb',ZvO P t kv (lkh km σ.hp) hb'/\K .ret ⟨σ.fr,(km,hb') :: σ.hp,σ.n,σ.N,σ.gs⟩:=rfl
attribute [go_sem] ZtN Zyx Zxa fxS_n Zrl Zxk Zwc vO_v dK_n Zwf
section
variable {P:Program}
theorem ZgL {C:Cx} {Y:Hd} (hY:ZdW P C Y) {ops:Array Oper} {Q:Exit->Act->World->Prop} {K:RK} {os2:List Oper} (hn:∀ σ E a w,K .n σ->Sim C E σ a w->Vk C.rd P ops Q os2 a w)
 (hp:∀ s σ' E a w y,K (.pan s) σ'->Sim C E σ' a w->R w E (ltn σ'.n) (okS C E σ'.hp) s y->Q (.panic [{ v:=y,recovered:=false }]) a w):∀ (l:List Ins) (os:List Oper),ZfN P ops l os=true ->
 ∀ (σ : St) E a w,rx P Y l σ K->Sim C E σ a w->Vk C.rd P ops Q (os ++ os2) a w
 | [],[],_,σ,E,a,w,hr,h=>hn σ E a w hr h
 | io :: l,o :: os,hc,σ,E,a,w,hr,h=>by
  simp only [ZfN,Bool.and_eq_true] at hc;have ih:=ZgL hY hn hp l os hc.2;exact ZaF (next:=Vk C.rd P ops Q (os ++ os2)) hc.1 hr h (λσ' E' a' w' h1 h2=>ih σ' E' a' w' h1 h2) (λs σ' E' w' y h1 h2 h3=>hp s σ' E' a w' y h1 h2 h3) hY
 | [],_ :: _,h,_,_,_,_,_,_=>by simp [ZfN] at h
 | _ :: _,[],h,_,_,_,_,_,_=>by simp [ZfN] at h
theorem Zus {C:Cx} {E:Env} {σ : St} {a:Act} {w:World} (h:Sim C E σ a w) {t:TypeId} {km:Nat} {kv:Value} {hb':HB} {ats:Array TypeId} {ty:TypeId} {cc:Array Bool} (ha:ats[0]? = some t) (hd:ZvO P t kv (lkh km σ.hp) hb') :
 ∃ x w',(invoke (.builtin .delete ats ty cc) #[.map (some (E.β km)),kv]).run P w = .ok (.value x) w'/\Sim C E ⟨σ.fr,(km,hb') :: σ.hp,σ.n,σ.N,σ.gs⟩ a w'/\ZE w w' (okS C E σ.hp) (okS C E ((km,hb') :: σ.hp)):=by
 obtain ⟨K,V,_,key,val,sv,L,k,kt,et,c,hh,rfl,rfl,ht,hK⟩:=hd;obtain ⟨g0,ys,g1,g2⟩:=Zd8 h hh;have hfn:=λw=>hK.fnd k _ _ w (ZaA g2);have hex:∀ w',(Builtin.delete_ ats ty #[.map (some (E.β km)),key k]).run P w = .ok (.tuple #[]) w'->(invoke (.builtin .delete ats ty cc) #[.map (some (E.β km)),key k]).run P w = .ok (.value (.tuple #[])) w':=λw' hy=>by
  simp [invoke,builtin,hy]
 have hfin:∀ ys':Array MapEntry,(∀ {w':World} {ok':Nat->Prop},RM w' E (ltn σ.n) ok' (mpS key val L) ys.toList->RM w' E (ltn σ.n) ok' (mpS key val (ZjH k L)) ys'.toList) ->
  Sim C E ⟨σ.fr,(km,.map (mpS key val (ZjH k L)) c) :: σ.hp,σ.n,σ.N,σ.gs⟩ a (Ub w (E.β km) (.map ys' c))/\ZE w (Ub w (E.β km) (.map ys' c)) (okS C E σ.hp) (okS C E ((km,.map (mpS key val (ZjH k L)) c) :: σ.hp)):=λys' hRM=>by
  obtain ⟨q1,q2⟩:=VF (k:=km) (hb:=.map (mpS key val (ZjH k L)) c) (o:=.map ys' c) h.hs (λb=>by rw [hh];simp only [occ]) (λb=>by simp only [occ]) (λhlt hst=>by
   simp only [Z0]
   exact ⟨ys',Ww hlt,hRM (VR hst.c (λ_ _=>Ele.rfl) (λ_ h=>h) _ _ g2)⟩)
  exact ⟨Ya h q2 (λ_ _=>Ele.rfl) (Nat.le_refl _) q1,q2⟩
 rcases Zan (w:=w) (E:=E) (n:=ltn σ.n) (ok:=okS C E σ.hp) k L ys.toList 0 g2 with ⟨a1,a2,a3,-⟩ | ⟨j,v0,e,b1,b2,b3,b4,b5,b6⟩
 . have hrun:(Builtin.delete_ ats ty #[.map (some (E.β km)),key k]).run P w = .ok (.tuple #[]) (Ub w (E.β km) (.map ys c)):=by
    simp [Builtin.delete_,Sem.run_bind,ha,run_underlying ht,Result.andThen_ok,Yy g1 rfl,Sem.run_pure,hK.chk,hfn,a2,Xa _ g1 rfl]
   exact ⟨_,_,hex _ hrun,hfin _ λh1=>by rw [a3];exact h1⟩
 . rw [Nat.zero_add] at b2;have hlt:j < ys.size:=by
    have:ys[j]? = some e:=by simpa using b3
    exact (Array.getElem?_eq_some_iff.1 this).1
   have hrun:(Builtin.delete_ ats ty #[.map (some (E.β km)),key k]).run P w = .ok (.tuple #[]) (Ub w (E.β km) (.map (ys.eraseIdxIfInBounds j) c)):=by
    simp [Builtin.delete_,Sem.run_bind,ha,run_underlying ht,Result.andThen_ok,Yy g1 rfl,Sem.run_pure,hK.chk,hfn,b2,Xa _ g1 rfl]
   exact ⟨_,_,hex _ hrun,hfin _ λ{w' ok'} h1=>by
    have:(ys.eraseIdxIfInBounds j).toList=ys.toList.eraseIdx j:=by simp [Array.eraseIdxIfInBounds,hlt]
    rw [this];exact (b6 h1).1⟩
theorem Zda {C C':Cx} {E E':Env} {σ σ':St} {a a':Act} {w w':World} (h:Sim C E σ a w) (h':Sim C' E' σ' a' w') (c1:C'.w0=w) (c2:C'.okp=okS C E σ.hp) (c3:C'.pass=λk b=>occ E k (lkh k σ.hp) b) (c4:C'.e0=E) (c5:C'.m0 = σ.n) (hm:C.m0<=σ.n) :
 Sim { C with ds:=a'.defers } E' σ' a' w':=by
 have hok:∀ b,okS C' E' σ'.hp b->okS C E' σ'.hp b:=λb hb=>by
  obtain ⟨g1,g2⟩:=hb;refine ⟨?_,g2⟩;rw [c1,c2] at g1;rcases g1 with g1 | g1
  . exact g1.1
  . exact .inr (Nat.le_trans h.hs.kp.size g1)
 have hst:Yv w' w' (okS C' E' σ'.hp) (okS C E' σ'.hp):=λb hb _=>⟨hok b hb,rfl⟩;refine ⟨λt=>?_,h'.sz,V8,h'.gs,⟨h'.hs.kn,λk=>?_,h'.hs.dj,λk b ho=>?_,⟨?_,?_,?_,?_,λb h1 h2=>?_⟩,λk hk=>?_⟩⟩
 . have:=h'.fr t;cases hq:lk t σ'.fr<;>rw [hq] at this<;>try exact ZQ hst (λ_ _=>Ele.rfl) (λ_ h=>h) _ _ this
   exact ⟨λhg=>ZQ hst (λ_ _=>Ele.rfl) (λ_ h=>h) _ _ (this.1 hg),this.2⟩
 . refine Xd hst (λ_ _=>Ele.rfl) (λ_ h=>h) ?_ (λb ho=>rfl) rfl (h'.hs.bk k);rcases Classical.em (ltn σ'.n k) with hk | hk
   . exact .inr hk
   . exact .inl (h'.hs.kn k hk)
 . rcases h'.hs.lo k b ho with g | g
   . rw [c1] at g;exact .inl (Nat.le_trans h.hs.kp.size g)
   . rw [c3] at g;exact h.hs.lo k b g
 . have:=h'.hs.kp.os;rw [c1] at this;exact this.trans h.hs.kp.os
 . have:=h'.hs.kp.tape;rw [c1] at this;exact this.trans h.hs.kp.tape
 . have:=h'.hs.kp.output;rw [c1] at this;exact this.trans h.hs.kp.output
 . have:=h'.hs.kp.size;rw [c1] at this;exact Nat.le_trans h.hs.kp.size this
 . have h1':b < C.w0.heap.size:=h1;have h2':∀ k,¬ C.pass k b:=h2
   have hb:=h'.hs.kp.block b (by rw [c1];exact Nat.lt_of_lt_of_le h1' h.hs.kp.size) (λk hk=>by
    rw [c3] at hk;rcases h.hs.lo k b hk with g | g
    . exact absurd h1' (Nat.not_lt.2 g)
    . exact h2' k g)
   rw [c1] at hb;exact hb.trans (h.hs.kp.block b h1' h2')
 . have hk':k < C.m0:=hk;have p1:=h.hs.pin k hk';have p2:=h'.hs.pin k (by rw [c5];exact Nat.lt_of_lt_of_le hk' hm);rw [c4] at p2;exact ⟨p2.1,p1.2.trans p2.2⟩
theorem Vr {fn:Func} {R':Ending->World->Prop} {C:Cx} {K:Ex->St->Prop}
 (hK:∀ e σ',K e σ'->∀ (C':Cx) E' a' w',C'.w0=C.w0->C'.okp=C.okp->C'.pass=C.pass->C'.e0=C.e0->C'.m0=C.m0->Sim C' E' σ' a' w'->match e with
  | .n | .ret=>Lv P fn a'.tmps R' C.ds .returning w'
  | .ex _=>False
  | .pan s=>∀ y,R w' E' (ltn σ'.n) (okS C' E' σ'.hp) s y->Lv P fn a'.tmps R' C.ds (.panicking [{ v:=y,recovered:=false }]) w')
 (e:Ex) (σ':St) (hk:K e σ') (E':Env) (a':Act) (w':World) (hs:Sim C E' σ' a' w'):ExQ C (Yf P fn R') e σ' E' a' w':=by
 obtain ⟨ms,d1,d2,d3⟩:=hs.df;have key:=hK e σ' hk;cases e with
 | ex i=>exact (key C E' a' w' rfl rfl rfl rfl rfl hs).elim
 | n =>
  show Lv P fn a'.tmps R' a'.defers .returning w';rw [d1];refine Y6 ms _ _ (by simp) d2.1 (λm hm=>(d3 m hm).2.2) λw'' hu=>?_;exact key { C with ds:=a'.defers } E' a' w'' rfl rfl rfl rfl rfl (XB hs d3 hu)
 | ret =>
  show Lv P fn a'.tmps R' a'.defers .returning w';rw [d1];refine Y6 ms _ _ (by simp) d2.1 (λm hm=>(d3 m hm).2.2) λw'' hu=>?_;exact key { C with ds:=a'.defers } E' a' w'' rfl rfl rfl rfl rfl (XB hs d3 hu)
 | pan s =>
  intro y hy;show Lv P fn a'.tmps R' a'.defers (.panicking _) w';rw [d1];refine Y6 ms _ _ (by simp) d2.1 (λm hm=>(d3 m hm).2.2) λw'' hu=>?_;have hst:Yv w' w'' (okS C E' σ'.hp) (okS C E' σ'.hp):=λb hb q=>⟨hb,hu.other b λhm'=>by rcases q with ⟨cs,T,fz,e⟩ | ⟨es,c,e⟩<;>(rw [(d3 b hm').2.2] at e;cases e)⟩;exact key { C with ds:=a'.defers } E' a' w'' rfl rfl rfl rfl rfl (XB hs d3 hu) y (ZQ hst (λ_ _=>Ele.rfl) (λ_ h=>h) _ _ hy)
theorem Zg2 {C:Cx} {E:Env} {σ : St} {a:Act} {w:World} (h:Sim C E σ a w) (ds:List Deferred):Sim ⟨w,okS C E σ.hp,λk b=>occ E k (lkh k σ.hp) b,ds,none,E,σ.n,Zo h.hs,λ_ _ hg k=>We h.hs hg k⟩ E σ { a with defers:=ds } w:=by
 have hst:Yv w w (okS C E σ.hp) (okS ⟨w,okS C E σ.hp,λk b=>occ E k (lkh k σ.hp) b,ds,none,E,σ.n,Zo h.hs,λ_ _ hg k=>We h.hs hg k⟩ E σ.hp):=λb hb _=>⟨⟨.inl hb,hb.2⟩,rfl⟩;refine ⟨λt=>?_,h.sz,V8,h.gs,⟨h.hs.kn,λk=>?_,h.hs.dj,λk b ho=>.inr ho,⟨rfl,rfl,rfl,Nat.le_refl _,λ_ _ _=>rfl⟩,λk hk=>⟨hk,Ele.rfl⟩⟩⟩
 . have:=h.fr t;show FR w E (ltn σ.n) _ σ.fr (lk t σ.fr) (a.tmps.getD t undef);cases hq:lk t σ.fr<;>rw [hq] at this<;>try exact ZQ hst (λ_ _=>Ele.rfl) (λ_ h=>h) _ _ this
   exact ⟨λhg=>ZQ hst (λ_ _=>Ele.rfl) (λ_ h=>h) _ _ (this.1 hg),this.2⟩
 . refine Xd hst (λ_ _=>Ele.rfl) (λ_ h=>h) ?_ (λb ho=>rfl) rfl (h.hs.bk k);rcases Classical.em (ltn σ.n k) with hk | hk
   . exact .inr hk
   . exact .inl (h.hs.kn k hk)
def ZyY (v:Value) (u u':FrameMode):Prop:=(u = .returning/\v = .nilIface/\u' = .returning)\/(u = .panicking [{ v:=v,recovered:=false }]/\u' = .panicking [{ v:=v,recovered:=true }])
theorem ZnN {b c₀:Frame} {a:Act} {k:List Item} {cs:List Frame} {w:World} {os:Array Oper} {o:Oper} {rest:List Nat} {t:Nat} {v:Value} {u u':FrameMode} (hb:b.kind = .deferred) (h0:os[0]? = some o) (hr:ZkN t o=true)
 (hc:c₀.mode=u) (hu:ZyY v u u'):step P (lone (b.at a (.inRegion os (0 :: rest) :: k)) (c₀ :: cs) w) = .next (lone (b.at (a.put (some t) v) (.inRegion os rest :: k)) ({ c₀ with mode:=u' } :: cs) w):=by
 obtain ⟨dst,op,ty,pos,after,guard⟩:=o;unfold ZkN at hr;split at hr
 case h_2=>cases hr
 rename_i c x e1 e2 e3;simp only at e1 e2 e3;subst e1;subst e2;subst e3;simp only [Bool.and_eq_true,beq_iff_eq] at hr;obtain ⟨⟨rfl,hr1⟩,hr2⟩:=hr;split at hr1
 case h_2=>cases hr1
 rename_i hcal;have hw:Region.wanted (⟨some x,.call c,ty,pos,after,none⟩:Oper) (yielded os a.tmps)=true:=rfl;have hg:=stepG_op (P:=P) (b:=b) (k:=k) (cs:=c₀ :: cs) (w:=w) (rest:=rest) h0 hw;have hfin:∀ v,(b.at a (.inRegion os (0 :: rest) :: k)).finish v=b.at (a.put (some x) v) (.inRegion os rest :: k):=by
  intro v;rw [Frame.finish_at,h0];rfl
 have hrun:(execOp a.eval (⟨some x,.call c,ty,pos,after,none⟩:Oper)).run P w = .ok .recover w:=by
  simp [execOp,resolve,hcal,invoke,builtin,Sem.run_bind,Sem.run_pure]
 have hk:(b.at a (.inRegion os (0 :: rest) :: k)).kind = .deferred:=hb;have htr:=tryRecover_deferred hk (c₀ :: cs);refine step_lone_go ?_;rw [hg,<- hfin];rcases hu with ⟨rfl,rfl,rfl⟩ | ⟨rfl,rfl⟩
 . have hrd:recoverD (c₀ :: cs)=none:=by simp [recoverD,hc]
   have hcc:({ c₀ with mode:=.returning }:Frame)=c₀:=by rw [<- hc]
   simp only [Frame.at] at htr ⊢;simp [stepG.apply,hrun,htr,hrd,hcc]
 . have hrd:recoverD (c₀ :: cs)=some (v,{ c₀ with mode:=.panicking [{ v:=v,recovered:=true }] } :: cs):=by simp [recoverD,hc]
   simp only [Frame.at] at htr ⊢;simp [stepG.apply,hrun,htr,hrd]
theorem ZpT {fr:Frame} {cs:List Frame}:∀ (ms:List Nat) (w:World),fr.mode≠.run->fr.defers=ms.map ZbZ->ms.Nodup->(∀ m ∈ ms,w.heap[m]? = some (.deferred (some []))) ->
 ∃ w',Unm ms w w'/\Steps P (lone fr cs w) (lone { fr with defers:=[] } cs w')
 | [],w,_,hd,_,_=>⟨w,Unm.refl w,by rw [show ({ fr with defers:=[] }:Frame)=fr by rw [<- show fr.defers=[] from hd]];exact Steps.refl P _⟩
 | m :: ms,w,hm,hd,hnd,hh=>by
  rw [List.nodup_cons] at hnd;have hm0:=hh m (by simp);have hlt:=(Array.getElem?_eq_some_iff.1 hm0).1;have h1:step P (lone fr cs w) = .next (lone { fr with defers:=ms.map ZbZ } cs (Ub w m (.deferred none))) :=
   WX hm hd rfl (by simp only [Instr.takeDeferred,Sem.run_bind,Yy hm0 rfl,Result.andThen_ok,Xa _ hm0 rfl,Sem.run_pure])
  obtain ⟨w',g1,g2⟩:=ZpT (fr:={ fr with defers:=ms.map ZbZ }) (cs:=cs) ms (Ub w m (.deferred none)) hm rfl hnd.2 (λk hk=>by
   rw [XP (by rintro rfl;exact hnd.1 hk)];exact hh k (by simp [hk]))
  refine ⟨w',⟨g1.os,g1.tape,g1.output,by rw [g1.size,ZaE],λb hb=>?_⟩,.head h1 g2⟩;rw [List.mem_cons,not_or] at hb;rw [g1.other b hb.2];exact XP hb.1
theorem ZjO {g:FuncId} {fn:Func} {id:Nat} {os:Array Oper} {y0:Code} {o1:Oper} {t:Nat} {args:Array Value} {w:World} {u u':FrameMode} {v:Value} {R:Ending->FrameMode->World->Prop} {Q:Exit->Act->World->Prop}
 (hf:P.funcs[g]? = some fn) (hb:fn.body=some (.seq (.region id os false) y0)) (h0:os[0]? = some o1) (hrec:ZkN t o1=true) (hu:ZyY v u u')
 (h:Vk none P os (Exit.then (wpX none P y0 Q) Q) (os.toList.drop 1) (({ tmps:=args ++ Array.replicate (fn.ntmps - args.size) undef,defers:=[] }:Act).put (some t) v) w)
 (hQ:∀ e a w,Q e a w->(e = .normal\/e = .ret)/\∃ ms:List Nat,a.defers=ms.map ZbZ/\ms.Nodup/\(∀ m ∈ ms,w.heap[m]? = some (.deferred (some [])))/\∀ w',Unm ms w w'->∃ val,(results fn a.tmps).run P w' = .ok val w'/\R (.returned val) u' w') :
 CallsD P g args u w R:=by
 intro c₀ cs hc
 let b:Frame:={ (default:Frame) with fn:=g,kind:=.deferred }
 let a0:Act:={ tmps:=args ++ Array.replicate (fn.ntmps - args.size) undef,defers:=[] }
 have henter:Frame.enter P g args .deferred=b.at a0 [.code (.seq (.region id os false) y0)]:=by
  simp [Frame.enter,Frame.at,hf,hb,b,a0]
 have hsz:0 < os.size:=(Array.getElem?_eq_some_iff.1 h0).1;have hrange:List.range os.size=0 :: List.range' 1 (os.size - 1):=by
  rw [List.range_eq_range',show os.size=(os.size - 1)+1 from by omega,List.range'_succ];simp
 have h1:=Zah (r:=none) (P:=P) (ops:=os) (os.toList.drop 1) 1 (λj hj=>by simp [List.getElem?_drop,Nat.add_comm]) _ w h;rw [List.length_drop,Array.length_toList] at h1;obtain ⟨e,a1,w1,q,s⟩:=UF _ _ w h1 b [.code y0] ({ c₀ with mode:=u' } :: cs) rfl (by simp [b,hf]);have s:=(arrivesIn_iff (b:=b) (λ_ _=>steps_iff.symm) rfl).1 s;rw [Frame.atR_of_none (b:=b) rfl] at s;have hpre:Steps P (lone (Frame.enter P g args .deferred) (c₀ :: cs) w) (lone (b.at (a0.put (some t) v) (.inRegion os (List.range' 1 (os.size - 1)) :: [.code y0])) ({ c₀ with mode:=u' } :: cs) w):=by
  rw [henter];refine .head step_seq (.head step_region ?_);rw [hrange];exact .one (ZnN rfl h0 hrec hc hu)
 have fin:∀ (e:Exit) (a:Act) (w2:World) (todo:List Item),Q e a w2->Steps P (lone (Frame.enter P g args .deferred) (c₀ :: cs) w) (lone ({ b.at a todo with mode:=.returning }:Frame) ({ c₀ with mode:=u' } :: cs) w2) ->
  ∃ e u'' w' fr,R e u'' w'/\Comes P (lone (Frame.enter P g args .deferred) (c₀ :: cs) w) (lone fr ({ c₀ with mode:=u'' } :: cs) w') e/\fr.kind = .deferred/\fr.going P w' e:=λe a w2 todo hq hs=>by
  obtain ⟨_,ms,d1,d2,d3,d4⟩:=hQ e a w2 hq;obtain ⟨w3,g1,g2⟩:=ZpT (P:=P) (fr:={ b.at a todo with mode:=.returning }) (cs:={ c₀ with mode:=u' } :: cs) ms w2 (by simp) d1 d2 d3;obtain ⟨val,hr,hR⟩:=d4 w3 g1;exact ⟨.returned val,u',w3,_,hR,Steps.trans hs g2,rfl,rfl,rfl,fn,hf,hr⟩
 have tl:∀ (a:Act) (w2:World),wpX none P y0 Q a w2->Steps P (lone (Frame.enter P g args .deferred) (c₀ :: cs) w) (lone (b.at a [.code y0]) ({ c₀ with mode:=u' } :: cs) w2) ->
  ∃ e u'' w' fr,R e u'' w'/\Comes P (lone (Frame.enter P g args .deferred) (c₀ :: cs) w) (lone fr ({ c₀ with mode:=u'' } :: cs) w') e/\fr.kind = .deferred/\fr.going P w' e:=λa w2 hy hs=>by
  obtain ⟨e2,a2,w3,q2,s2⟩:=hy b [] ({ c₀ with mode:=u' } :: cs) rfl (by simp [b,hf]);have s2:=(arrivesIn_iff (b:=b) (λ_ _=>steps_iff.symm) rfl).1 s2;rw [Frame.atR_of_none (b:=b) rfl] at s2;rcases (hQ e2 a2 w3 q2).1 with rfl | rfl
  . exact fin _ a2 w3 [] q2 (Steps.trans hs (Steps.trans s2 (.one step_end)))
  . obtain ⟨todo,s3⟩:=s2;exact fin _ a2 w3 todo q2 (Steps.trans hs s3)
 cases e with
 | normal=>exact tl a1 w1 q (Steps.trans hpre s)
 | ret =>
  obtain ⟨todo,s3⟩:=s;exact fin _ a1 w1 todo q (Steps.trans hpre s3)
 | panic chain=>rcases (hQ _ a1 w1 q).1 with h | h<;>cases h
 | exit id=>rcases (hQ _ a1 w1 q).1 with h | h<;>cases h
 | goto l=>rcases (hQ _ a1 w1 q).1 with h | h<;>cases h
 | outgrown=>rcases (hQ _ a1 w1 q).1 with h | h<;>cases h
theorem ZjS {C:Cx} {E:Env} {hp0:List (Nat × HB)} {n0 N:Nat} {args:List SV} {vs:List Value} {w:World} (hN:args.length<=N) (hds:C.ds=[]) (hH:HSim C E hp0 (ltn n0) w) (hR:RL w E (ltn n0) (okS C E hp0) args vs) :
 Sim C E ⟨YF 0 args,hp0,n0,N,[]⟩ { tmps:=vs.toArray ++ Array.replicate (N - vs.toArray.size) undef,defers:=[] } w:=by
 have hlen:=ZD hR;have hng:∀ t j b s,lk t (YF 0 args)≠.gd j b s:=by
  intro t j b s ht;simp only [WZ,Nat.zero_le,if_true,Nat.sub_zero] at ht;by_cases htl:t < args.length
  . have e1:args.getD t .any=args[t]:=by simp [htl]
    obtain ⟨y,h1,h2⟩:=Wn hR (List.getElem?_eq_getElem htl);rw [e1] at ht;rw [ht] at h2;simp only [R] at h2
  . have e1:args.getD t .any = .any:=by simp [List.getElem?_eq_none (Nat.le_of_not_lt htl)]
    rw [e1] at ht;cases ht
 refine ⟨λt=>?_,by simp;omega,by rw [<- hds];exact V8,λt j b s ht=>absurd ht (hng t j b s),hH⟩;have hng:=hng t;have hFR:R w E (ltn n0) (okS C E hp0) (lk t (YF 0 args)) ((vs.toArray ++ Array.replicate (N - vs.toArray.size) undef).getD t undef):=by
  simp only [WZ,Nat.zero_le,if_true,Nat.sub_zero];by_cases ht:t < args.length
  . have e1:args.getD t .any=args[t]:=by simp [ht]
    obtain ⟨y,h1,h2⟩:=Wn hR (List.getElem?_eq_getElem ht);have e2:(vs.toArray ++ Array.replicate (N - vs.toArray.size) undef).getD t undef=y:=by
     have:t < vs.length:=by omega
     have h1':=(List.getElem?_eq_some_iff.1 h1).2;simp [Array.getElem?_append,this,h1']
    rw [e1,e2];exact h2
  . have e1:args.getD t .any = .any:=by simp [List.getElem?_eq_none (Nat.le_of_not_lt ht)]
    rw [e1];simp only [R]
 simp only;cases hq:lk t (YF 0 args)<;>rw [hq] at hFR hng<;>first | exact hFR | exact absurd rfl (hng _ _ _)
theorem Zxo {g:FuncId} {t N:Nat} {l:List Ins} {c:SC} (hF:RcF P g t l c N) {C:Cx} {E:Env} {σ : St} {a:Act} {w:World} (hS:Sim C E σ a w) (hm:C.m0<=σ.n) {caps:List SV} {vs:List Value} (hR:RL w E (ltn σ.n) (okS C E σ.hp) caps vs)
 {s:SV} {v:Value} (hv:R w E (ltn σ.n) (okS C E σ.hp) s v) {k:St->Prop} (hrun:rcR P t l c N caps s σ k) {u u':FrameMode} (hu:ZyY v u u') {R':Ending->FrameMode->World->Prop}
 (hk:∀ hp' n' E' w',k ⟨σ.fr,hp',n',σ.N,σ.gs⟩->Sim C E' ⟨σ.fr,hp',n',σ.N,σ.gs⟩ a w'->R' (.returned (.tuple #[])) u' w'):CallsD P g vs.toArray u w R':=by
 obtain ⟨fn,id,os,y0,o1,f1,f2,f3,f4,f5,f6,f7,f8,f9⟩:=hF.ex;obtain ⟨hcl,hrun⟩:=hrun;have hcl:=Nat.le_of_ble_eq_true hcl
 let C2:Cx:=⟨w,okS C E σ.hp,λk b=>occ E k (lkh k σ.hp) b,[],none,E,σ.n,Zo hS.hs,λ_ _ hg k=>We hS.hs hg k⟩
 have hst:Yv w w (okS C E σ.hp) (okS C2 E σ.hp):=λb hb _=>⟨⟨.inl hb,hb.2⟩,rfl⟩;have hin:=Zg2 hS [];have hR2:RL w E (ltn σ.n) (okS C2 E σ.hp) caps vs:=ZC hst (λ_ _=>Ele.rfl) (λ_ h=>h) _ _ hR;have hv2:R w E (ltn σ.n) (okS C2 E σ.hp) s v:=ZQ hst (λ_ _=>Ele.rfl) (λ_ h=>h) _ _ hv;have h0:Sim C2 E ⟨YF 0 caps,σ.hp,σ.n,N,[]⟩ { tmps:=vs.toArray ++ Array.replicate (N - vs.toArray.size) undef,defers:=[] } w:=ZjS hcl rfl hin.hs hR2
 have h1:Sim C2 E ⟨(t,s) :: YF 0 caps,σ.hp,σ.n,N,[]⟩ (Act.put { tmps:=vs.toArray ++ Array.replicate (N - vs.toArray.size) undef,defers:=[] } (some t) v) w :=
  YJ h0 (λb hb _=>⟨hb,rfl⟩) (λ_ _=>Ele.rfl) (Nat.le_refl _) hin.hs (by simp) f8 (Vu hv) hv2
 let Q:Exit->Act->World->Prop:=λe a2 w2=>(e = .normal\/e = .ret)/\∃ σ' E',k ⟨σ.fr,σ'.hp,σ'.n,σ.N,σ.gs⟩/\Sim C2 E' σ' a2 w2
 have hKQ:LkQ C2 (rcK σ k) Q:=λe σ' hk' E' a' w' hs=>by
  cases e with
  | n=>exact ⟨.inl rfl,σ',E',hk',hs⟩
  | ret=>exact ⟨.inr rfl,σ',E',hk',hs⟩
  | ex i=>exact hk'.elim
  | pan s=>exact hk'.elim
 have hmc:MC C2 σ.n:=⟨Nat.le_refl _,λj b ho=>by
  rcases Classical.em (ltn σ.n j) with hj | hj
  . exact hj
  . have ho':occ E j (lkh j σ.hp) b:=ho
    rw [hS.hs.kn j hj] at ho';exact ho'.elim⟩
 have hlist:=ZbW (P:=P) (C:=C2) (Y:=Y0) Zar (ops:=os) (Q:=Exit.then (wpX none P y0 Q) Q) (K:=Zb8 (fxS (λσ' K=>sx P Y0 σ.n c σ' K) (rcK σ k))) (λe σ' hk' E' a' w' hs0=>by
  have hs:=Y3 hs0;cases e with
  | n =>
   have hwp:=Yj c C2 Y0 σ.n y0 (WT σ') (rcK σ k) Q E' a' w' hmc Zar (.inl rfl) f6 hk' hKQ hs;exact hwp
  | ret=>exact hKQ .ret _ hk' E' a' w' hs
  | ex i=>exact hk'.elim
  | pan s=>exact hk'.elim) l _ f5 _ E _ w hrun h1
 refine ZjO (u':=u') (v:=v) f1 f2 f3 f4 hu (Q:=Q) (by rw [f7];exact hlist) (λe a2 w2 hq=>⟨hq.1,?_⟩);obtain ⟨_,σ',E',hk',hs'⟩:=hq;obtain ⟨ms,d1,d2,d3⟩:=hs'.df;refine ⟨ms,by rw [d1];simp [C2],d2.1,λm hm'=>(d3 m hm').2.2,λw3 hu3=>?_⟩;refine ⟨.tuple #[],by simp [results,f9],?_⟩;have hs3:=XB hs' d3 hu3;have hout:=Zda hS hs3 rfl rfl rfl rfl rfl hm;obtain ⟨g1,g2⟩:=Zdz (C:=C) hout.hs rfl rfl rfl rfl rfl
 have hpin:∀ j,j < σ.n->j < σ'.n/\Ele E E' j j:=λj hj=>hs3.hs.pin j hj;refine hk σ'.hp σ'.n E' w3 hk' (Ya hS (λb hb hsome=>?_) (λj hj=>(hpin j hj).2) ?_ g1)
 . obtain ⟨b1,b2⟩:=hb;have hlt:b < w.heap.size:=by
    rcases Nat.lt_or_ge b w.heap.size with q | q
    . exact q
    . rw [Array.getElem?_eq_none q] at hsome;cases hsome
   refine ⟨⟨b1,λj ho=>?_⟩,?_⟩
   . rcases hs3.hs.lo j b ho with q | q
     . exact absurd hlt (Nat.not_lt.2 q)
     . exact b2 j q
   . exact hs3.hs.kp.block b hlt (λj q=>b2 j q)
 . rcases Nat.lt_or_ge σ'.n σ.n with q | q
   . exact absurd (hpin σ'.n q).1 (Nat.lt_irrefl _)
   . exact q
theorem Uy {fn:Func} {R':Ending->World->Prop}:∀ (b:FB) (C:Cx) (m:Nat) (code:Code) (σ : St) (K:Ex->St->Prop) (E:Env) (a:Act) (w:World),MC C m->C.rd=none->UO P b code=true->fx P m b σ K->Sim C E σ a w ->
 (∀ e σ',K e σ'->∀ (C':Cx) E' a' w',C'.w0=C.w0->C'.okp=C.okp->C'.pass=C.pass->C'.e0=C.e0->C'.m0=C.m0->Sim C' E' σ' a' w'->match e with
  | .n | .ret=>Lv P fn a'.tmps R' C.ds .returning w'
  | .ex _=>False
  | .pan s=>∀ y,R w' E' (ltn σ'.n) (okS C' E' σ'.hp) s y->Lv P fn a'.tmps R' C.ds (.panicking [{ v:=y,recovered:=false }]) w') ->
 wpX none P code (Yf P fn R') a w
 | .tail c,C,m,code,σ,K,E,a,w,hm,hrd,hc,h,hS,hK=>by
  have hwp:=Yj c C Y0 m code σ K (Yf P fn R') E a w hm Zar (.inl hrd) hc h (λe σ' hk E' a' w' hs=>Vr hK e σ' hk E' a' w' hs) hS;rw [hrd] at hwp;exact hwp
 | .seq x b,C,m,code,σ,K,E,a,w,hm,hrd,hc,h,hS,hK=>by
  cases code<;>simp [UO] at hc
  rename_i cx cy;refine ZbL ?_;have hwp:=Yj x C Y0 m cx σ (fxS (fx P m b) K) (Exit.then (wpX none P cy (Yf P fn R')) (Yf P fn R')) E a w hm Zar (.inl hrd) hc.1 h (λe σ' hk E' a' w' hs=>?_) hS
  . rw [hrd] at hwp;exact hwp
  cases e with
  | n=>exact Uy b C m cy σ' K E' a' w' hm hrd hc.2 hk hs hK
  | ex i=>exact hk.elim
  | ret=>exact Vr hK .ret σ' hk E' a' w' hs
  | pan s=>exact Vr hK (.pan s) σ' hk E' a' w' hs
 | .dfr ops mx kx t b,C,m,code,σ,K,E,a,w,hm,hrd,hc,h,hS,hK=>by
  unfold UO at hc;split at hc
  case h_2=>cases hc
  rename_i id os cy;simp only [Bool.and_eq_true] at hc;obtain ⟨⟨hc1,hc2⟩,hc3⟩:=hc;split at hc2
  case h_2=>cases hc2
  rename_i o ho;have hos:os.toList=os.toList.take ops.length ++ [o]:=by rw [<- ho,List.take_append_drop]
  refine ZbL (Xk ?_);rw [hos,<- hrd];refine ZgL (C:=C) (Q:=Exit.then (wpX C.rd P cy (Yf P fn R')) (Yf P fn R')) (os2:=[o]) Zar (K:=Zb8 (fxS (λσ K=>Zyp P t (λn=>fx P n b) (mpO (rdG none σ.fr mx)) (vO (rdG none σ.fr kx)) σ K) K)) (λσ0 E1 a1 w1 hk0 hs0=>?_)
   (λs σ' E' a' w' y hk hs hy=>Vr hK (.pan s) (WT σ') hk E' a' w' (Y3 hs) y (by rw [ZdI,Zca];exact hy)) ops _ hc1 σ E a w h hS
  have hs:=Y3 hs0;simp only [Zb8,fxS] at hk0;generalize WT σ0 = σ1 at hs hk0;obtain ⟨ms,d1,d2,d3⟩:=hs.df;unfold Zyp at hk0;split at hk0
  case h_2=>exact hk0.elim
  rename_i km kv hkm hkv;obtain ⟨hlt,hfx⟩:=hk0;have hlt:=Nat.le_of_ble_eq_true hlt;have hmv:a1.tmps=a1.tmps/\evX a1 mx = .map (some (E1.β km)):=by
   have hR:=Yp (Zo hs.hs) hs.fr (g:=none) trivial mx;cases hq:rdG none σ1.fr mx<;>rw [hq] at hkm<;>simp only [mpO,Option.some.injEq,reduceCtorEq] at hkm
   subst hkm;rw [hq] at hR;simp only [R] at hR;exact ⟨rfl,hR.2⟩
  have hkv':evX a1 kx=kv:=by
   have hR:=Yp (Zo hs.hs) hs.fr (g:=none) trivial kx;cases hq:rdG none σ1.fr kx<;>rw [hq] at hkv<;>simp only [vO,Option.some.injEq,reduceCtorEq] at hkv
   subst hkv;rw [hq] at hR;simp only [R] at hR;exact hR
  have hmn:C.m0<=σ1.n:=by
   rcases Nat.lt_or_ge σ1.n C.m0 with q | q
   . exact absurd (hs.hs.pin σ1.n q).1 (Nat.lt_irrefl _)
   . exact q
  unfold ZwN at hc2;split at hc2
  case h_2=>cases hc2
  rename_i c hop hdst hgd;simp only [Bool.and_eq_true] at hc2;obtain ⟨⟨e1,e2⟩,e3⟩:=hc2;split at e1
  case h_2=>cases e1
  rename_i hcal;split at e2
  case h_2=>cases e2
  rename_i om ok hargs;simp only [Bool.and_eq_true] at e2;split at e3
  case h_2=>cases e3
  rename_i u hu;have hut:u=t:=by simpa using e3
  subst hut;have hca:c.args = #[om,ok]:=by apply Array.toList_inj.1;rw [hargs]
  rw [hrd];simp only [Vk,Region.wanted,hgd];simp only [if_true];have hrun:(o.semAt none a1.eval).run P w1 = .ok (.defer { target:=.builtin .delete c.argTypes o.type (c.args.map λ| .const _=>true | _=>false),args:=#[.map (some (E1.β km)),kv] }) w1:=by
   rw [Oper.semAt_none];obtain ⟨dst',op',ty',pos,after,guard⟩:=o;simp only at hop;subst hop;simp only [execOp,Sem.run_bind,resolve,hcal,Sem.run_pure,Result.andThen_ok,hca];simp only [List.map_toArray,List.map_cons,List.map_nil,Ze e2.1 a1,Ze e2.2 a1,hmv.2,hkv'];cases om<;>cases ok<;>rfl
  show o.wpq none P a1 w1 _ _;unfold Oper.wpq;rw [hrun];simp only [Oper.uponX,hdst];show Exit.then _ _ .normal _ w1;simp only [Exit.then];show wpX none P cy (Yf P fn R') { a1 with defers:=_ :: a1.defers } w1;refine Uy b _ σ1.n cy σ1 (dK P u km kv K) E1 _ w1 ⟨Nat.le_refl _,λk b ho=>?_⟩ rfl hc3 hfx (Zg2 hs _) (λe σ' hk C2 E' a' w' c1 c2 c3 c4 c5 hs'=>?_)
  . rcases Classical.em (ltn σ1.n k) with hk | hk
    . exact hk
    . have ho':occ E1 k (lkh k σ1.hp) b:=ho;rw [hs.hs.kn k hk] at ho';exact ho'.elim
  have main:∀ (hb':HB),ZvO P u kv (lkh km σ'.hp) hb'->(∀ (C':Cx) E' a' w',C'.w0=C.w0->C'.okp=C.okp->C'.pass=C.pass->C'.e0=C.e0->C'.m0=C.m0->Sim C' E' ⟨σ'.fr,(km,hb') :: σ'.hp,σ'.n,σ'.N,σ'.gs⟩ a' w'->Lv P fn a'.tmps R' C.ds .returning w') ->
   Lv P fn a'.tmps R' ({ target:=.builtin .delete c.argTypes o.type (c.args.map λ| .const _=>true | _=>false),args:=#[.map (some (E1.β km)),kv] } :: a1.defers) .returning w':=λhb' hdel hKK=>by
   obtain ⟨x,w2,hrun2,hs2,_⟩:=Zus hs' (ty:=o.type) (cc:=c.args.map λ| .const _=>true | _=>false) hu hdel;have hβ : E'.β km=E1.β km:=by
    have:=(hs'.hs.pin km (by rw [c5];exact hlt)).2.1;rw [c4] at this;exact this
   rw [hβ] at hrun2;refine ⟨by simp,.inr (.inl ⟨.delete,c.argTypes,o.type,_,w2,x,rfl,hrun2,?_⟩)⟩;rw [d1];have hsim:=Zda hs hs2 c1 c2 c3 c4 c5 hmn;have hmark:∀ m ∈ ms,C.w0.heap.size<=m/\okS C E' ((km,hb') :: σ'.hp) m/\w2.heap[m]? = some (.deferred (some [])):=λm hm=>by
    obtain ⟨p1,p2,p3⟩:=d3 m hm;have hlt':m < w1.heap.size:=(Array.getElem?_eq_some_iff.1 p3).1;have hnp:∀ k,¬ C2.pass k m:=λk hk=>by rw [c3] at hk;exact p2.2 k hk
    refine ⟨p1,⟨p2.1,λk ho=>?_⟩,?_⟩
    . rcases hs2.hs.lo k m ho with g | g
      . rw [c1] at g;exact absurd hlt' (Nat.not_lt.2 g)
      . exact hnp k g
    . have:=hs2.hs.kp.block m (by rw [c1];exact hlt') hnp;rw [c1] at this;rw [this];exact p3
   refine Y6 ms _ _ (by simp) d2.1 (λm hm=>(hmark m hm).2.2) λw3 hu3=>?_;exact hKK { C with ds:=a'.defers } E' a' w3 rfl rfl rfl rfl rfl (XB (C:={ C with ds:=a'.defers }) hsim hmark hu3)
  cases e with
  | ex i=>exact hk.elim
  | pan s=>exact hk.elim
  | n =>
   obtain ⟨hb',h1,h2⟩:=hk;exact main hb' h1 (λC' E' a' w' q1 q2 q3 q4 q5 q6=>hK .n _ h2 C' E' a' w' q1 q2 q3 q4 q5 q6)
  | ret =>
   obtain ⟨hb',h1,h2⟩:=hk;exact main hb' h1 (λC' E' a' w' q1 q2 q3 q4 q5 q6=>hK .ret _ h2 C' E' a' w' q1 q2 q3 q4 q5 q6)
 | .rcv ops cx b,C,m,code,σ,K,E,a,w,hm,hrd,hc,h,hS,hK=>by
  unfold UO at hc;split at hc
  case h_2=>cases hc
  rename_i id os cy;simp only [Bool.and_eq_true] at hc;obtain ⟨⟨hc1,hc2⟩,hc3⟩:=hc;split at hc2
  case h_2=>cases hc2
  rename_i o ho;have hos:os.toList=os.toList.take ops.length ++ [o]:=by rw [<- ho,List.take_append_drop]
  refine ZbL (Xk ?_);rw [hos,<- hrd];refine ZgL (C:=C) (Q:=Exit.then (wpX C.rd P cy (Yf P fn R')) (Yf P fn R')) (os2:=[o]) Zar (K:=Zb8 (fxS (λσ K=>Zwi P (λn=>fx P n b) (rK P K) (rdG none σ.fr cx) σ) K)) (λσ0 E1 a1 w1 hk0 hs0=>?_)
   (λs σ' E' a' w' y hk hs hy=>Vr hK (.pan s) (WT σ') hk E' a' w' (Y3 hs) y (by rw [ZdI,Zca];exact hy)) ops _ hc1 σ E a w h hS
  have hs:=Y3 hs0;simp only [Zb8,fxS] at hk0;generalize WT σ0 = σ1 at hs hk0;obtain ⟨ms,d1,d2,d3⟩:=hs.df;unfold Zwi at hk0;split at hk0
  case h_2=>exact hk0.elim
  rename_i g caps hcl;have hRx:=Yp (Zo hs.hs) hs.fr (g:=none) trivial cx;rw [hcl] at hRx;simp only [R] at hRx;obtain ⟨cs,k1,k2⟩:=hRx;have hmn:C.m0<=σ1.n:=by
   rcases Nat.lt_or_ge σ1.n C.m0 with q | q
   . exact absurd (hs.hs.pin σ1.n q).1 (Nat.lt_irrefl _)
   . exact q
  unfold Zp0 at hc2;split at hc2
  case h_2=>cases hc2
  rename_i cc hop hdst hgd;simp only [Bool.and_eq_true] at hc2;obtain ⟨e1,e2⟩:=hc2;split at e1
  case h_2=>cases e1
  rename_i y hcal;have hca:cc.args = #[]:=by simpa using e2
  rw [hrd];simp only [Vk,Region.wanted,hgd];simp only [if_true];have hrun:(o.semAt none a1.eval).run P w1 = .ok (.defer { target:=.fn (.func g) cs,args:=#[] }) w1:=by
   rw [Oper.semAt_none];obtain ⟨dst',op',ty',pos,after,guard⟩:=o;simp only at hop;subst hop;simp [execOp,resolve,hcal,hca,Ze e1 a1,k1,Deferred.ofValue,Sem.run_bind,Sem.run_pure]
  show o.wpq none P a1 w1 _ _;unfold Oper.wpq;rw [hrun];simp only [Oper.uponX,hdst];show Exit.then _ _ .normal _ w1;simp only [Exit.then];show wpX none P cy (Yf P fn R') { a1 with defers:=_ :: a1.defers } w1;refine Uy b _ σ1.n cy σ1 (rK P K g caps) E1 _ w1 ⟨Nat.le_refl _,λk b ho=>?_⟩ rfl hc3 hk0 (Zg2 hs _) (λe σ' hk C2 E' a' w' c1 c2 c3 c4 c5 hs'=>?_)
  . rcases Classical.em (ltn σ1.n k) with hk | hk
    . exact hk
    . have ho':occ E1 k (lkh k σ1.hp) b:=ho;rw [hs.hs.kn k hk] at ho';exact ho'.elim
  have hpin:∀ j,j < σ1.n->j < σ'.n/\Ele E1 E' j j:=λj hj=>by
   have:=hs'.hs.pin j (by rw [c5];exact hj);rw [c4] at this;exact this
  have hstC:Yv w1 w' (okS C E1 σ1.hp) (okS C2 E' σ'.hp):=λb hb q=>by
   have hlt:b < w1.heap.size:=by rcases q with ⟨cells,T,fz,hcell⟩ | ⟨es,c,hcell⟩<;>exact (Array.getElem?_eq_some_iff.1 hcell).1
   refine ⟨⟨.inl (by rw [c2];exact hb),λj ho=>?_⟩,?_⟩
   . rcases hs'.hs.lo j b ho with q | q
     . rw [c1] at q;exact absurd hlt (Nat.not_lt.2 q)
     . rw [c3] at q;exact hb.2 j q
   . have:=hs'.hs.kp.block b (by rw [c1];exact hlt) (λj q=>by rw [c3] at q;exact hb.2 j q);rw [c1] at this;exact this
  have hcaps:RL w' E' (ltn σ'.n) (okS C2 E' σ'.hp) caps cs.toList:=ZC hstC (λj hj=>(hpin j hj).2) (λj hj=>(hpin j hj).1) _ _ k2;have fin:∀ (kk:St->Prop) (eK:Ex) (heK:eK = .n\/eK = .ret),(∀ σ,kk σ->K eK σ)->∀ hp' n' E3 w3,kk ⟨σ'.fr,hp',n',σ'.N,σ'.gs⟩->Sim C2 E3 ⟨σ'.fr,hp',n',σ'.N,σ'.gs⟩ a' w3->Lv P fn a'.tmps R' a1.defers .returning w3:=λkk eK heK hkk hp' n' E3 w3 hq hs2=>by
   rw [d1];have hsim:=Zda hs hs2 c1 c2 c3 c4 c5 hmn;have hmark:∀ m ∈ ms,C.w0.heap.size<=m/\okS C E3 hp' m/\w3.heap[m]? = some (.deferred (some [])):=λm hm=>by
    obtain ⟨p1,p2,p3⟩:=d3 m hm;have hlt':m < w1.heap.size:=(Array.getElem?_eq_some_iff.1 p3).1;have hnp:∀ k,¬ C2.pass k m:=λk hk=>by rw [c3] at hk;exact p2.2 k hk
    refine ⟨p1,⟨p2.1,λk ho=>?_⟩,?_⟩
    . rcases hs2.hs.lo k m ho with g | g
      . rw [c1] at g;exact absurd hlt' (Nat.not_lt.2 g)
      . exact hnp k g
    . have:=hs2.hs.kp.block m (by rw [c1];exact hlt') hnp;rw [c1] at this;rw [this];exact p3
   refine Y6 ms _ _ (by simp) d2.1 (λm hm=>(hmark m hm).2.2) λw4 hu4=>?_;rcases heK with rfl | rfl
   . exact hK .n _ (hkk _ hq) { C with ds:=a'.defers } E3 a' w4 rfl rfl rfl rfl rfl (XB (C:={ C with ds:=a'.defers }) hsim hmark hu4)
   . exact hK .ret _ (hkk _ hq) { C with ds:=a'.defers } E3 a' w4 rfl rfl rfl rfl rfl (XB (C:={ C with ds:=a'.defers }) hsim hmark hu4)
  have hm2:C2.m0<=σ'.n:=by
   rw [c5];rcases Nat.lt_or_ge σ'.n σ1.n with q | q
   . exact absurd (hpin σ'.n q).1 (Nat.lt_irrefl _)
   . exact q
  have main:∀ (s:SV) (v:Value) (u u':FrameMode) (eK:Ex),(eK = .n\/eK = .ret)->R w' E' (ltn σ'.n) (okS C2 E' σ'.hp) s v->ZyY v u u'->(∃ t l c N,RcF P g t l c N/\rcR P t l c N caps s σ' (K eK)) ->
   Lv P fn a'.tmps R' ({ target:=.fn (.func g) cs,args:=#[] } :: a1.defers) u w':=λs v u u' eK heK hv hu hex=>by
   obtain ⟨t,l,c,N,hF,hrun⟩:=hex;have hset:u≠.run/\settle u' = .returning:=by
    rcases hu with ⟨rfl,rfl,rfl⟩ | ⟨rfl,rfl⟩
    . exact ⟨by simp,rfl⟩
    . exact ⟨by simp,rfl⟩
   refine ⟨hset.1,.inr (.inr ⟨.func g,cs,g,cs,rfl,by simp [invoke,YD hF.bd],?_⟩)⟩
   have hcalls:=Zxo hF hs' hm2 hcaps hv hrun hu (R':=λe u'' w''=>match e with
    | .returned _=>Lv P fn a'.tmps R' a1.defers (settle u'') w''
    | .panicked chain=>Lv P fn a'.tmps R' a1.defers (raised u'' chain) w''
    | .outgrown=>R' .outgrown w'') (λhp' n' E3 w3 hq hs3=>by
    show Lv P fn a'.tmps R' a1.defers (settle u') w3;rw [hset.2]
    exact fin (K eK) eK heK (λ_ h=>h) hp' n' E3 w3 hq hs3)
   rw [show cs.toList.toArray=cs from rfl] at hcalls;intro c₀ cs0 hc0;obtain ⟨e2,u2,w2,fr2,q1,q2,q3,q4⟩:=hcalls c₀ cs0 hc0;refine ⟨e2,u2,w2,fr2,?_,q2,q3,q4⟩;cases e2<;>exact q1
  cases e with
  | ex i=>exact hk.elim
  | n=>exact main _ _ _ _ .n (.inl rfl) (by simp only [R]) (.inl ⟨rfl,rfl,rfl⟩) hk
  | ret=>exact main _ _ _ _ .ret (.inr rfl) (by simp only [R]) (.inl ⟨rfl,rfl,rfl⟩) hk
  | pan s=>intro y hy;exact main s y _ _ .ret (.inr rfl) hy (.inr ⟨rfl,rfl⟩) hk
theorem Zdb {f:FuncId} {fn:Func} {code:Code} {fb:FB} {args:List SV} {N n0 m:Nat} {hp0:List (Nat × HB)} {C:Cx} {E:Env} {w:World} {vs:List Value} {K:Ex->St->Prop} {R':Ending->World->Prop}
 (hf:P.funcs[f]? = some fn) (hb:fn.body=some code) (hc:UO P fb code=true) (hN:fn.ntmps=N) (hA:args.length<=N) (hds:C.ds=[]) (hrd:C.rd=none) (hm:MC C m)
 (hH:HSim C E hp0 (ltn n0) w) (hR:RL w E (ltn n0) (okS C E hp0) args vs) (h:fx P m fb ⟨YF 0 args,hp0,n0,N,[]⟩ K)
 (hK:∀ e σ,K e σ->∀ C' E a w',C'.w0=C.w0->C'.okp=C.okp->C'.pass=C.pass->C'.e0=C.e0->C'.m0=C.m0->Sim C' E σ a w'->match e with
  | .n | .ret=>∃ v,(results fn a.tmps).run P w' = .ok v w'/\R' (.returned v) w'
  | .ex _=>False
  | .pan s=>∀ y,R w' E (ltn σ.n) (okS C' E σ.hp) s y->R' (.panicked [{ v:=y,recovered:=false }]) w'):Calls P f vs.toArray w R':=by
 have hlen:=ZD hR;have hng:∀ t j b s,lk t (YF 0 args)≠.gd j b s:=by
  intro t j b s ht;simp only [WZ,Nat.zero_le,if_true,Nat.sub_zero] at ht;by_cases htl:t < args.length
  . have e1:args.getD t .any=args[t]:=by simp [htl]
    obtain ⟨y,h1,h2⟩:=Wn hR (List.getElem?_eq_getElem htl);rw [e1] at ht;rw [ht] at h2;simp only [R] at h2
  . have e1:args.getD t .any = .any:=by simp [List.getElem?_eq_none (Nat.le_of_not_lt htl)]
    rw [e1] at ht;cases ht
 have hS:Sim C E ⟨YF 0 args,hp0,n0,N,[]⟩ { tmps:=vs.toArray ++ Array.replicate (fn.ntmps - vs.toArray.size) undef,defers:=[] } w:=by
  refine ⟨λt=>?_,by simp [hN];omega,by rw [<- hds];exact V8,λt j b s ht=>absurd ht (hng t j b s),hH⟩;have hng:=hng t;have hFR:R w E (ltn n0) (okS C E hp0) (lk t (YF 0 args)) ((vs.toArray ++ Array.replicate (fn.ntmps - vs.toArray.size) undef).getD t undef):=by
   simp only [WZ,Nat.zero_le,if_true,Nat.sub_zero];by_cases ht:t < args.length
   . have e1:args.getD t .any=args[t]:=by simp [ht]
     obtain ⟨y,h1,h2⟩:=Wn hR (List.getElem?_eq_getElem ht);have e2:(vs.toArray ++ Array.replicate (fn.ntmps - vs.toArray.size) undef).getD t undef=y:=by
      have:t < vs.length:=by omega
      have h1':=(List.getElem?_eq_some_iff.1 h1).2;simp [Array.getElem?_append,this,h1']
     rw [e1,e2];exact h2
   . have e1:args.getD t .any = .any:=by simp [List.getElem?_eq_none (Nat.le_of_not_lt ht)]
     rw [e1];simp only [R]
  simp only;cases hq:lk t (YF 0 args)<;>rw [hq] at hFR hng<;>first | exact hFR | exact absurd rfl (hng _ _ _)
 refine WV hf hb ?_;refine Uy fb C m code _ K E _ w hm hrd hc h hS (λe σ hk C' E a w' c1 c2 c3 c4 c5 hs=>?_);have key:=hK e σ hk C' E a w' c1 c2 c3 c4 c5 hs;rw [hds];cases e with
 | ex i=>exact key
 | n=>exact key
 | ret=>exact key
 | pan s=>exact key
theorem Zgd {f:FuncId} {fn:Func} {code:Code} {fb:FB} {args:List SV} {rs:List RV} {N n0:Nat} {hp0:List (Nat × HB)} {Zx:Ot->Prop} (hf:P.funcs[f]? = some fn) (hb:fn.body=some code) (hc:UO P fb code=true)
 (hr:Y2 P rs fn.results.toList=true) (hN:fn.ntmps=N) (hA:args.length<=N) (h:fx P n0 fb ⟨YF 0 args,hp0,n0,N,[]⟩ (Wa rs Zx)):CtY P Y0 f hp0 n0 args Zx:=by
 intro C E w vs d1 d2 d3 d4 d5 d6 hY hH hR;refine Zdb hf hb hc hN hA d3 d2 ⟨Nat.le_of_eq d5,d6⟩ hH hR h λe σ hk C' E' a w' c1 c2 c3 c4 c5 hs=>?_;obtain ⟨g1,g2⟩:=Zdz hs.hs c1 c2 c3 c4 c5;have hend:Zqt Zx σ.hp σ.n (rvE (Zc5 σ rs))->∃ v,(results fn a.tmps).run P w' = .ok v w'/\∃ o E' y,Zx o/\HSim C E' o.hp (ltn o.n) w'/\R w' E' (ltn o.n) (okS C E' o.hp) o.res y/\Ending.returned v=ZrQ o.pn y:=λhrr=>by
  cases hq:rvE (Zc5 σ rs) with
  | none=>rw [hq] at hrr;exact hrr.elim
  | some s =>
   rw [hq] at hrr;obtain ⟨v,h1,h2⟩:=U9 (P:=P) (fn:=fn) (a:=a) (w:=w') (E:=E') (n:=ltn σ.n) (ok:=okS C' E' σ.hp) hq λl hl=>ZdG hs rs _ l hr hl;rw [g2] at h2;exact ⟨v,h1,_,E',v,hrr,g1,h2,rfl⟩
 cases e with
 | ex i=>exact hk.elim
 | n=>exact hend hk
 | ret=>exact hend hk
 | pan s=>intro y hy;rw [g2] at hy;exact ⟨_,E',y,hk,g1,hy,rfl⟩
theorem ZeS {f:FuncId} {fn:Func} {code:Code} {fb:FB} {args:List SV} {rs:List RV} {N n0:Nat} {hp0:List (Nat × HB)} {Zx:Ot->Prop} (hf:P.funcs[f]? = some fn) (hb:fn.body=some code) (hnm:Z5 P f=true) (hc:UO P fb code=true)
 (hr:Y2 P rs fn.results.toList=true) (hN:fn.ntmps=N) (hA:args.length<=N) (hh:hpb n0 hp0) (hx:∀ o,Zx o->KX o.res/\KXP o.hp) (h:fx P n0 fb ⟨YF 0 args,hp0,n0,N,[]⟩ (Wa rs λo=>∃ o',Zx o'/\Wk n0 o o')):CtM P f hp0 n0 args Zx :=
 ⟨hnm,hh,hx,(Zgd hf hb hc hr hN hA h).mono λ_ h=>h⟩
end
end Go.Sx
namespace Go.Proofs.YtkpkgafhfakpdaaGreatDoor
open Go Go.Sx
def c9:SC:=(sr1 [o1 3 (Jz 0 0 28),o1 4 (Jz 1 0 31),o1 5 (Jz 2 0 3),o1 6 (.alloc [.int .u8 0] 5),Jk 7 0] (sr1 [o1 8 (.mkf 46 [.t 3,.t 4,.t 5,.t 6]),o1 9 (.callm 45 [.t 8]),m1 7 9] (sr1 [o1 10 (lf 6 1),m1 11 7,Js 6 10 1,m1 7 11] .ret)))
def r9:List RV:=[.cell 6 1 false,.tmp 7]
theorem t9:Qt1 Tryz.prog 9 c9 r9 12:=ZU Tryz.func9
def c10:SC:=(sr1 [o1 2 (Jz 0 0 28),o1 3 (Jz 1 0 31),o1 4 (.alloc zv1 23),o1 5 (.alloc zv1 23),o1 6 (.alloc zv1 23),Jk 7 0] (sr1 [o1 8 (.mkf 51 [.t 2,.t 3,.t 4,.t 5,.t 6]),o1 9 (.callm 45 [.t 8]),m1 7 9] (.seq (.regd (Jr 8) [Jo 10 (lt 4 2),.hide (.t
 4),Jo 11 (lt 5 2),.hide (.t 5),Jo 12 (lt 6 2),.hide (.t 6),Jm 13 7] 0 3 [Ju 4 10 2 [0],Ju 5 11 2 [0,1,4],Ju 6 12 2 [0,1,2,4,5],⟨some 7,.mv (.t 13),none,(Jr 7)⟩]) .ret)))
def r10:List RV:=[.cell 4 2 true,.cell 5 2 true,.cell 6 2 true,.tmp 7]
theorem t10:Qt1 Tryz.prog 10 c10 r10 14:=ZU Tryz.func10
def c12:SC:=(sr1 [o1 5 (Jz 0 0 25),o1 6 (Jz 1 0 27),o1 7 (Jz 2 0 28),o1 8 (Jz 3 0 31),o1 9 (Jz 4 0 3),o1 10 (.alloc [.int .u8 0] 5),Jk 11 0] (sr1 [o1 12 (.mkf 59 [.t 7,.t 8,.t 5,.t 6,.t 9,.t 10]),o1 13 (.callm 45 [.t 12]),m1 11 13] (sr1 [o1 14 (lf 10 1),m1 15 11,Js 10 14 1,m1 11 15] .ret)))
def r12:List RV:=[.cell 10 1 false,.tmp 11]
theorem t12:Qt1 Tryz.prog 12 c12 r12 16:=ZU Tryz.func12
def c16:SC:=(sr1 [o1 1 (Jz 0 0 49),o1 2 (.alloc zv1 23),o1 3 (.alloc zv1 23),o1 4 (.mv (.c (.int .u8 0))),Jk 5 0] (.seq (sr1 [o1 6 (lt 1 11),o1 7 (J1 67 6),o1 8 (Jh 7)] (Ji 8 (.seq (.regd (Jr 6) [Jo 9 (.ld (.g 0) 2 true),.hide (.t 2),Jo 10 (.ld (.g 0)
 2 true)] 0 4 [Ju 2 9 2 [0],Ju 3 10 2 [0,1,2],⟨some 4,.mv (.c (.int .u8 0)),none,(Jr 4)⟩,⟨some 5,.mv (cn 50),none,(Jr 5)⟩]) .ret) .skip)) (.seq (.regd (Jr 14) [Jo 12 (.call 68 []),Jo 13 (ao 1 0),Jp 14 (lf 13 1) [1],Jp 15 (.rv (Go.Op.lookup 146
 (Go.Operand.tmp 12) (Go.Operand.tmp 14) Bool.false) [.t 12,.t 14]) [0,2],Jp 16 (.fld (.t 15) 1 1 false) [3],Jo 17 (lt 1 11),Jp 18 (.calv (.t 16) [.t 17]) [0,4,5],Jp 11 (.mv (.t 18)) [6],Jp 19 (Je 11 0) [7],.hide (.t 2),Jp 20 (Je 11 1) [7],.hide (.t
 3),Jp 21 (Je 11 2) [7]] 0 3 [Ju 2 19 2 (Jr 9),Ju 3 20 2 [0,1,2,3,4,5,6,7,8,9,11],⟨some 4,.mv (.t 21),none,(Jr 13)⟩]) (.seq (.regd (Jr 7) [Jo 22 (lt 2 2),.hide (.t 2),Jo 23 (lt 3 2),.hide (.t 3),Jm 24 4] 0 2 [Ju 2 22 2 [0],Ju 3 23 2 [0,1,3],⟨some
 4,.mv (.t 24),none,(Jr 5)⟩,⟨some 5,.mv (cn 0),none,(Jr 6)⟩]) .ret))))
def r16:List RV:=[.cell 2 2 true,.cell 3 2 true,.tmp 4,.tmp 5]
theorem t16:Qt1 Tryz.prog 16 c16 r16 25:=ZU Tryz.func16
def c40:SC:=(sr1 [o1 4 (Jz 0 0 28),o1 5 (Jz 1 0 113),o1 6 (Jz 2 0 191),o1 7 (Jz 3 0 3),o1 8 (.alloc [.slice none 0 0] 28),Jk 9 0] (sr1 [o1 10 (.mkf 94 [.t 4,.t 5,.t 7,.t 6,.t 8]),o1 11 (.callm 45 [.t 10]),m1 9 11] (sr1 [o1 12 (lf 8 1),m1 13 9,Js 8 12 1,m1 9 13] .ret)))
def r40:List RV:=[.cell 8 1 false,.tmp 9]
theorem t40:Qt1 Tryz.prog 40 c40 r40 14:=ZU Tryz.func40
def c46:SC:=(sr1 [o1 4 (lf 0 1),o1 5 (lt 1 3),o1 6 (.bsl 3 31 [.t 5]),o1 7 (.callm 47 [.t 4,.t 6])] (sr1 [o1 8 (lf 2 1),o1 9 (.callm 48 [.t 8])] (.regd (Jr 7) [Jo 10 (lt 1 3),Jo 11 (lf 0 1),Jp 12 (J1 49 11) [1],Jp 13 (.build zv7 [(0,3,.t 10),(3,1,.t
 12)]) [0,2],Jo 14 (lf 2 1),Jp 15 (J2 50 13 14) [2,3,4]] 0 1 [Ju 3 15 1 (Jr 6)])))
def r46:List RV:=[]
theorem n46:Tryz.f46.ntmps=16:=by kernel_rfl
theorem b46:Z5 Tryz.prog 46=true:=by kernel_rfl
theorem Zxh:YC Tryz.prog c46 ((Tryz.f46.body).getD .skip)=true:=by kernel_rfl
theorem ZwD:Y2 Tryz.prog r46 Tryz.f46.results.toList=true:=by kernel_rfl
theorem m46 {n0:Nat} {hp0:List (Nat × HB)} {args:List SV} {Zx:Ot->Prop} (hh:hpb n0 hp0) (hx:∀ o,Zx o->KX o.res/\KXP o.hp) (h:sx Tryz.prog Y0 n0 c46 ⟨YF 0 args,hp0,n0,16,[]⟩ (Wa r46 λo=>∃ o',Zx o'/\Wk n0 o o')) (hA:Nat.ble args.length 16=true:=by rfl):CtM Tryz.prog 46 hp0 n0 args Zx:=Zv Tryz.func46 rfl b46 Zxh ZwD n46 (Nat.le_of_ble_eq_true hA) hh hx h
def c47:SC:=(sr1 [m1 12 0,o1 13 (Jl 12),o1 14 (Jc .leq 13 30),m1 15 14,g1 16 15 true (.mv (.t 0)),g1 17 15 true (.call 100 [.t 16,.f 67]),o1 18 (.pick (.t 15) (.t 17) Jf),o1 19 (.callm 61 [.t 18,cn 50])] (sr1 [o1 20 (.raw (Go.Op.makeMap 213
 Option.none) 213),m1 4 20] (sr1 [Jk 5 0] (.seq (sr1 [m1 21 1,o1 22 (Jl 21),Jk 23 0] (.block 0 (.loop (sr1 [o1 24 (Jb .lss 23 22)] (.seq (Ji 24 .skip (.exit 0)) (.seq (.block 1 (sr1 [o1 25 (Jx 21 23 3),o1 26 (lt 25 3),o1 7 (.alloc zv9 31),Js 7 26 3]
 (.seq (sr1 [o1 27 (lt 7 3),o1 28 (J1 99 27),Jk 29 0] (.block 2 (.loop (sr1 [o1 30 (Jc .lss 29 3)] (.seq (Ji 30 .skip (.exit 2)) (.seq (.block 3 (sr1 [o1 31 (.idx (.t 28) (.t 29) 3 1 false),m1 9 31] (sr1 [m1 32 9,m1 33 0,o1 34 (Jl 33),o1 35 (J2 110 32
 34),o1 36 (.callm 61 [.t 35,cn 51])] (.seq (sr1 [m1 37 9,o1 38 (Jl 37),Jk 39 0] (.block 4 (.loop (sr1 [o1 40 (Jb .lss 39 38)] (.seq (Ji 40 .skip (.exit 4)) (.seq (.block 5 (sr1 [o1 41 (Jx 37 39 1),o1 42 (lf 41 1),m1 11 42] (.reg [m1 43 4,m1 44
 11,⟨none,.raw (Go.Op.mapUpdate 213 (Go.Operand.tmp 43) (Go.Operand.tmp 44) (Go.Operand.const (Go.Value.bool Bool.true))) 0,none,[]⟩]))) (.reg [o1 45 (Jc .add 39 1),m1 39 45]))))))) (.reg [m1 46 5,m1 47 9,o1 48 (Jl 47),o1 49 (Jb .add 46 48),m1 5
 49]))))) (.reg [o1 50 (Jc .add 29 1),m1 29 50]))))))) (.reg [o1 51 (lt 7 3),o1 52 (J1 53 51),o1 53 (Jl 52),o1 54 (Jc .leq 53 10),o1 55 (.callm 61 [.t 54,cn 51])])))) (.reg [o1 56 (Jc .add 23 1),m1 23 56]))))))) (.reg [m1 57 1,o1 58 (Jl 57),o1 59 (Jc
 .leq 58 8),m1 60 59,g1 61 60 true (.mv (.t 4)),g1 62 60 true (.raw (Go.Op.call { callee:=(Go.Callee.builtin Go.Builtin.len),args:=#[(Go.Operand.tmp 61)],argTypes:=#[213] }) 3),g1 63 60 true (.mv (.t 5)),g1 64 60 true (Jb .eql 62 63),o1 65 (.pick (.t
 60) (.t 64) Jf),o1 66 (.callm 61 [.t 65,cn 51])])))))
def r47:List RV:=[]
theorem n47:Tryz.f47.ntmps=67:=by kernel_rfl
theorem b47:Z5 Tryz.prog 47=true:=by kernel_rfl
theorem ZyD:YC Tryz.prog c47 ((Tryz.f47.body).getD .skip)=true:=by kernel_rfl
theorem Zyo:Y2 Tryz.prog r47 Tryz.f47.results.toList=true:=by kernel_rfl
theorem m47 {n0:Nat} {hp0:List (Nat × HB)} {args:List SV} {Zx:Ot->Prop} (hh:hpb n0 hp0) (hx:∀ o,Zx o->KX o.res/\KXP o.hp) (h:sx Tryz.prog Y0 n0 c47 ⟨YF 0 args,hp0,n0,67,[]⟩ (Wa r47 λo=>∃ o',Zx o'/\Wk n0 o o')) (hA:Nat.ble args.length 67=true:=by rfl):CtM Tryz.prog 47 hp0 n0 args Zx:=Zv Tryz.func47 rfl b47 ZyD Zyo n47 (Nat.le_of_ble_eq_true hA) hh hx h
def c48:SC:=(.reg [m1 2 0,o1 3 (.bsl 1 3 [.t 2]),o1 4 (.call 95 [cn 0,cn 1000000000,.t 3]),o1 5 (.callm 61 [.t 4,cn 2])])
def r48:List RV:=[]
theorem n48:Tryz.f48.ntmps=6:=by kernel_rfl
theorem b48:Z5 Tryz.prog 48=true:=by kernel_rfl
theorem ZxA:YC Tryz.prog c48 ((Tryz.f48.body).getD .skip)=true:=by kernel_rfl
theorem ZwH:Y2 Tryz.prog r48 Tryz.f48.results.toList=true:=by kernel_rfl
theorem m48 {n0:Nat} {hp0:List (Nat × HB)} {args:List SV} {Zx:Ot->Prop} (hh:hpb n0 hp0) (hx:∀ o,Zx o->KX o.res/\KXP o.hp) (h:sx Tryz.prog Y0 n0 c48 ⟨YF 0 args,hp0,n0,6,[]⟩ (Wa r48 λo=>∃ o',Zx o'/\Wk n0 o o')) (hA:Nat.ble args.length 6=true:=by rfl):CtM Tryz.prog 48 hp0 n0 args Zx:=Zv Tryz.func48 rfl b48 ZxA ZwH n48 (Nat.le_of_ble_eq_true hA) hh hx h
def c49:SC:=(sr1 [o1 2 (.mv (.c (.slice none 0 0)))] (sr1 [o1 3 (.mv (.c (.slice none 0 0)))] (.seq (sr1 [m1 10 0,o1 11 (Jl 10),Jk 12 0] (.block 0 (.loop (sr1 [o1 13 (Jb .lss 12 11)] (.seq (Ji 13 .skip (.exit 0)) (.seq (.block 1 (sr1 [o1 14 (Jx 10 12
 11),o1 15 (lt 14 11),o1 5 (.alloc zv5 49),Js 5 15 11] (sr1 [o1 17 (lt 5 11),o1 18 (J1 16 17),m1 16 18,o1 19 (Je 16 0),o1 20 (Je 16 1),o1 21 (Je 16 2),o1 22 (Je 16 3),o1 6 (.alloc zv1 23),o1 7 (.alloc zv1 23),Js 6 19 2,Js 7 20 2,m1 8 21,m1 9 22] (.reg
 [m1 23 3,o1 24 (lt 6 2),o1 25 (.bsl 2 23 [.t 24]),o1 26 (.appm 2 16 23 (.t 23) (.t 25)),m1 3 26])))) (.reg [o1 27 (Jc .add 12 1),m1 12 27]))))))) (sr1 [m1 28 3,m1 2 28] .ret))))
def r49:List RV:=[.tmp 2]
theorem t49:Qt1 Tryz.prog 49 c49 r49 29:=ZU Tryz.func49
def c50:SC:=(sr1 [o1 2 (Jz 0 0 122),o1 4 (.mv (.c (.int .u8 0)))] (.seq (.regd (Jr 14) [Jo 9 (lt 2 4),Jo 10 (ao 2 0),Jp 11 (ao 10 0) [1],Jp 12 (lf 11 1) [2],Jp 13 (J2 52 9 12) [0,3],Jo 14 (lt 2 4),Jo 15 (ao 2 0),Jp 16 (ao 15 1) [6],Jp 17 (lf 16 1)
 [7],Jp 18 (J2 52 14 17) [4,5,8]] 2 2 [o1 5 (.alloc zv1 23),o1 6 (.alloc zv1 23),Ju 5 13 2 [0,1,2,3,4,9,10,11],Ju 6 18 2 (Jr 13)]) (.seq (.seq (.regd (Jr 12) [Jo 19 (ao 5 0),Jp 20 (lf 19 1) [0],Jo 21 (ao 6 1),Jp 22 (lf 21 1) [2],Jp 23 (Jb .sub 20 22)
 [1,3],Jo 24 (ao 5 1),Jp 25 (lf 24 1) [5],Jo 26 (ao 6 0),Jp 27 (lf 26 1) [7],Jp 28 (Jb .sub 25 27) [6,8],Jp 7 (.mv (.t 23)) (Jr 5),Jp 8 (.mv (.t 28)) (Jr 11)] 0 0 []) (.block 0 (sr1 [m1 30 1,o1 31 (.un .neg (.t 30)),m1 32 1,m1 33 7,m1 34 8,o1 35 (.bsl
 1 3 [.t 33,.t 34]),o1 36 (J3 95 31 32 35),m1 29 36] (Ji 29 (sr1 [o1 4 (.mv (.c (.int .u8 2)))] .ret) (sr1 [m1 38 7,m1 39 1,o1 40 (Jb .gtr 38 39),m1 41 40,g1 42 41 false (.mv (.t 8)),g1 43 41 false (.mv (.t 1)),g1 44 41 false (.un .neg (.t 43)),g1 45
 41 false (Jb .lss 42 44),o1 46 (.pick (.t 41) Jt (.t 45)),m1 37 46] (Ji 37 (sr1 [o1 4 (.mv (.c (.int .u8 0)))] .ret) .skip)))))) (sr1 [o1 4 (.mv (.c (.int .u8 1)))] .ret))))
def r50:List RV:=[.tmp 4]
theorem t50:Qt1 Tryz.prog 50 c50 r50 47:=ZU Tryz.func50
def c51:SC:=(sr1 [o1 6 (lf 0 1),o1 7 (lt 1 3),o1 8 (.bsl 3 31 [.t 7]),o1 9 (.callm 47 [.t 6,.t 8])] (.seq (.regd (Jr 6) [Jo 10 (lt 1 3),Jo 11 (lf 0 1),Jp 12 (J1 49 11) [1],Jp 13 (.build zv7 [(0,3,.t 10),(3,1,.t 12)]) [0,2]] 1 1 [o1 5 (.alloc zv7
 122),Ju 5 13 4 (Jr 5)]) (.regd (Jr 17) [Jo 14 (lt 5 4),Jo 15 (ao 5 0),Jp 16 (ao 15 0) [1],Jp 17 (lf 16 1) [2],Jp 18 (J2 52 14 17) [0,3],Jo 19 (lt 5 4),Jo 20 (ao 5 0),Jp 21 (ao 20 1) [6],Jp 22 (lf 21 1) [7],Jp 23 (J2 52 19 22) [4,5,8],Jo 24 (lt 5
 4),Jo 25 (lt 1 3),Jp 26 (J1 53 25) [9,11],Jp 27 (J2 52 24 26) [10,12]] 0 3 [Ju 2 18 2 [0,1,2,3,4,9,11,12,13],Ju 3 23 2 [0,1,2,3,4,5,6,7,8,9,11,12,13,14],Ju 4 27 2 (Jr 16)])))
def r51:List RV:=[]
theorem n51:Tryz.f51.ntmps=28:=by kernel_rfl
theorem b51:Z5 Tryz.prog 51=true:=by kernel_rfl
theorem Zxw:YC Tryz.prog c51 ((Tryz.f51.body).getD .skip)=true:=by kernel_rfl
theorem Zyv:Y2 Tryz.prog r51 Tryz.f51.results.toList=true:=by kernel_rfl
theorem m51 {n0:Nat} {hp0:List (Nat × HB)} {args:List SV} {Zx:Ot->Prop} (hh:hpb n0 hp0) (hx:∀ o,Zx o->KX o.res/\KXP o.hp) (h:sx Tryz.prog Y0 n0 c51 ⟨YF 0 args,hp0,n0,28,[]⟩ (Wa r51 λo=>∃ o',Zx o'/\Wk n0 o o')) (hA:Nat.ble args.length 28=true:=by rfl):CtM Tryz.prog 51 hp0 n0 args Zx:=Zv Tryz.func51 rfl b51 Zxw Zyv n51 (Nat.le_of_ble_eq_true hA) hh hx h
def c52:SC:=(sr1 [o1 2 (Jz 0 0 122),o1 4 (.alloc zv1 23)] (sr1 [o1 5 (.mv (.c (.slice none 0 0)))] (.seq (sr1 [m1 8 1,o1 9 (Jl 8),Jk 10 0] (.block 0 (.loop (sr1 [o1 11 (Jb .lss 10 9)] (.seq (Ji 11 .skip (.exit 0)) (.seq (.block 1 (sr1 [o1 12 (Jx 8 10
 1),o1 13 (lf 12 1),m1 7 13] (.reg [m1 14 5,o1 15 (ao 2 3),o1 16 (lf 15 1),m1 17 7,o1 18 (Jx 16 17 2),o1 19 (lt 18 2),o1 20 (.bsl 2 23 [.t 19]),o1 21 (.appm 2 16 23 (.t 14) (.t 20)),m1 5 21]))) (.reg [o1 22 (Jc .add 10 1),m1 10 22]))))))) (sr1 [m1 23
 5,o1 24 (J1 111 23),Js 4 24 2] .ret))))
def r52:List RV:=[.cell 4 2 true]
theorem t52:Qt1 Tryz.prog 52 c52 r52 25:=ZU Tryz.func52
def c53:SC:=(sr1 [o1 1 (Jz 0 0 31),o1 2 (.mv (.c (.slice none 0 0)))] (sr1 [o1 3 (ao 1 0),o1 4 (lf 3 1),o1 5 (ao 1 1),o1 6 (lf 5 1),o1 7 (ao 1 2),o1 8 (lf 7 1),o1 9 (.bsl 1 29 [.t 4,.t 6,.t 8]),o1 10 (J1 112 9),m1 2 10] .ret))
def r53:List RV:=[.tmp 2]
theorem t53:Qt1 Tryz.prog 53 c53 r53 11:=ZU Tryz.func53
def c59:SC:=(sr1 [o1 10 (lf 0 1),o1 11 (lt 1 3),o1 12 (.bsl 3 31 [.t 11]),o1 13 (.callm 47 [.t 10,.t 12])] (sr1 [o1 15 (lt 2 17),o1 16 (lt 3 7),o1 17 (J2 60 15 16),m1 14 17,o1 18 (Je 14 0),o1 19 (Je 14 1),o1 6 (.alloc zv1 23),Js 6 18 2,m1 7 19] (sr1
 [m1 20 7,o1 21 (Jc .eql 20 0),m1 22 7,o1 23 (.callm 61 [.t 21,.t 22])] (sr1 [o1 24 (lf 4 1),o1 25 (.callm 48 [.t 24])] (.seq (.regd (Jr 6) [Jo 26 (lt 1 3),Jo 27 (lf 0 1),Jp 28 (J1 49 27) [1],Jp 29 (.build zv7 [(0,3,.t 26),(3,1,.t 28)]) [0,2]] 1 1 [o1
 8 (.alloc zv7 122),Ju 8 29 4 (Jr 5)]) (.seq (.regd (Jr 6) [Jo 30 (lt 8 4),Jo 31 (lt 1 3),Jp 32 (J1 53 31) [1],Jp 33 (J2 52 30 32) [0,2]] 1 1 [o1 9 (.alloc zv1 23),Ju 9 33 2 (Jr 5)]) (sr1 [o1 34 (lt 8 4),o1 35 (lf 4 1),o1 36 (J2 50 34 35),Js 5 36 1]
 (.seq (sr1 [o1 37 (ao 9 0),o1 38 (lf 37 1),o1 39 (ao 6 1),o1 40 (lf 39 1),o1 41 (Jb .gtr 38 40)] (Ji 41 (.reg [Jv 5 (.c (.int .u8 0)) 1]) .skip)) (sr1 [o1 42 (lf 5 1),o1 43 (.bin .eql (.t 42) (.c (.int .u8 2))),m1 44 43,g1 45 44 true (ao 9 1),g1 46
 44 true (lf 45 1),g1 47 44 true (ao 6 0),g1 48 44 true (lf 47 1),g1 49 44 true (Jb .gtr 46 48),o1 50 (.pick (.t 44) (.t 49) Jf)] (Ji 50 (.reg [Jv 5 (.c (.int .u8 1)) 1]) .skip))))))))))
def r59:List RV:=[]
theorem n59:Tryz.f59.ntmps=51:=by kernel_rfl
theorem b59:Z5 Tryz.prog 59=true:=by kernel_rfl
theorem Zyw:YC Tryz.prog c59 ((Tryz.f59.body).getD .skip)=true:=by kernel_rfl
theorem Zws:Y2 Tryz.prog r59 Tryz.f59.results.toList=true:=by kernel_rfl
theorem m59 {n0:Nat} {hp0:List (Nat × HB)} {args:List SV} {Zx:Ot->Prop} (hh:hpb n0 hp0) (hx:∀ o,Zx o->KX o.res/\KXP o.hp) (h:sx Tryz.prog Y0 n0 c59 ⟨YF 0 args,hp0,n0,51,[]⟩ (Wa r59 λo=>∃ o',Zx o'/\Wk n0 o o')) (hA:Nat.ble args.length 51=true:=by rfl):CtM Tryz.prog 59 hp0 n0 args Zx:=Zv Tryz.func59 rfl b59 Zyw Zws n59 (Nat.le_of_ble_eq_true hA) hh hx h
def c61:SC:=(sr1 [m1 4 0,o1 5 (Jh 4)] (Ji 5 (.reg [m1 6 1,o1 7 (.raw (Go.Op.makeInterface 35 (Go.Operand.tmp 6)) 20),⟨none,.raw (Go.Op.panic (Go.Operand.tmp 7)) 0,none,[]⟩]) .skip))
def r61:List RV:=[]
theorem n61:Tryz.f61.ntmps=8:=by kernel_rfl
theorem b61:Z5 Tryz.prog 61=true:=by kernel_rfl
theorem Zxl:YC Tryz.prog c61 ((Tryz.f61.body).getD .skip)=true:=by kernel_rfl
theorem Zw0:Y2 Tryz.prog r61 Tryz.f61.results.toList=true:=by kernel_rfl
theorem m61 {n0:Nat} {hp0:List (Nat × HB)} {args:List SV} {Zx:Ot->Prop} (hh:hpb n0 hp0) (hx:∀ o,Zx o->KX o.res/\KXP o.hp) (h:sx Tryz.prog Y0 n0 c61 ⟨YF 0 args,hp0,n0,8,[]⟩ (Wa r61 λo=>∃ o',Zx o'/\Wk n0 o o')) (hA:Nat.ble args.length 8=true:=by rfl):CtM Tryz.prog 61 hp0 n0 args Zx:=Zv Tryz.func61 rfl b61 Zxl Zw0 n61 (Nat.le_of_ble_eq_true hA) hh hx h
def c68:SC:=(sr1 [o1 0 (.mv (.c (.map none)))] (sr1 [o1 1 (.raw (Go.Op.makeMap 146 Option.none) 146),o1 2 (.build [.nilFunc,.nilFunc] [(0,1,.f 122),(1,1,.f 123)]),⟨none,.raw (Go.Op.insert 146 (Go.Operand.tmp 1) (Go.Operand.const (Go.Value.int
 Go.IntKind.u8 1)) (Go.Operand.tmp 2)) 0,none,[]⟩,o1 3 (.build [.nilFunc,.nilFunc] [(0,1,.f 124),(1,1,.f 125)]),⟨none,.raw (Go.Op.insert 146 (Go.Operand.tmp 1) (Go.Operand.const (Go.Value.int Go.IntKind.u8 2)) (Go.Operand.tmp 3)) 0,none,[]⟩,o1 4
 (.build [.nilFunc,.nilFunc] [(0,1,.f 126),(1,1,.f 127)]),⟨none,.raw (Go.Op.insert 146 (Go.Operand.tmp 1) (Go.Operand.const (Go.Value.int Go.IntKind.u8 3)) (Go.Operand.tmp 4)) 0,none,[]⟩,m1 5 1,m1 0 5] .ret))
def r68:List RV:=[.tmp 0]
theorem n68:Tryz.f68.ntmps=6:=by kernel_rfl
theorem b68:Z5 Tryz.prog 68=true:=by kernel_rfl
theorem ZwT:YC Tryz.prog c68 ((Tryz.f68.body).getD .skip)=true:=by kernel_rfl
theorem ZwX:Y2 Tryz.prog r68 Tryz.f68.results.toList=true:=by kernel_rfl
theorem m68 {n0:Nat} {hp0:List (Nat × HB)} {args:List SV} {Zx:Ot->Prop} (hh:hpb n0 hp0) (hx:∀ o,Zx o->KX o.res/\KXP o.hp) (h:sx Tryz.prog Y0 n0 c68 ⟨YF 0 args,hp0,n0,6,[]⟩ (Wa r68 λo=>∃ o',Zx o'/\Wk n0 o o')) (hA:Nat.ble args.length 6=true:=by rfl):CtM Tryz.prog 68 hp0 n0 args Zx:=Zv Tryz.func68 rfl b68 ZwT ZwX n68 (Nat.le_of_ble_eq_true hA) hh hx h
def c94:SC:=(sr1 [o1 13 (lf 0 1),o1 14 (lf 1 1),o1 15 (.callm 47 [.t 13,.t 14])] (sr1 [o1 16 (lf 2 1),o1 17 (.bsl 1 3 [.t 16]),o1 18 (.call 95 [cn 0,cn 100000,.t 17]),o1 19 (.callm 61 [.t 18,cn 2])] (sr1 [o1 20 (lf 3 1),o1 21 (Jl 20),o1 22 (Jc .leq 21
 60),o1 23 (.callm 61 [.t 22,cn 4])] (sr1 [o1 24 (lf 3 1),o1 25 (.mkf 97 [.t 1]),o1 26 (J2 96 24 25),o1 27 (.callm 61 [.t 26,cn 53])] (sr1 [o1 28 (lf 0 1),o1 29 (.callm 98 [.t 28]),m1 5 29] (.seq (sr1 [o1 30 (lf 3 1),o1 31 (Jl 30),Jk 32 0] (.block 0
 (.loop (sr1 [o1 33 (Jb .lss 32 31)] (.seq (Ji 33 .skip (.exit 0)) (.seq (.block 1 (sr1 [o1 34 (Jx 30 32 2),o1 35 (lt 34 2),o1 7 (.alloc zv1 194),Js 7 35 2] (sr1 [o1 36 (lf 1 1),o1 37 (ao 7 0),o1 38 (lf 37 1),o1 39 (Jx 36 38 3),o1 40 (lt 39 3),o1 41
 (J1 99 40),Jk 42 0] (.block 2 (.loop (sr1 [o1 43 (Jc .lss 42 3)] (.seq (Ji 43 .skip (.exit 2)) (.seq (.block 3 (sr1 [m1 44 42,o1 45 (.idx (.t 41) (.t 42) 3 1 false),m1 8 44,m1 9 45] (sr1 [m1 46 9,o1 47 (Jl 46),Jk 48 0] (.block 4 (.loop (sr1 [o1 49
 (Jb .lss 48 47)] (.seq (Ji 49 .skip (.exit 4)) (.seq (.block 5 (sr1 [o1 50 (Jx 46 48 1),o1 51 (lf 50 1),m1 11 51] (.seq (.regd (Jr 11) [Jm 52 5,Jm 53 11,Jp 54 (Jx 52 53 11) [0,1],Jp 55 (ao 54 9) [2],Jp 56 (lf 55 1) [3],Jo 57 (ao 7 1),Jp 58 (lf 57 1)
 [5],Jp 59 (Jb .add 56 58) [4,6],Jp 60 (Jx 52 53 11) (Jr 8),Jp 61 (ao 60 9) (Jr 9)] 0 1 [Ju 61 59 1 [0,1,2,3,4,5,6,7,9]]) (sr1 [m1 62 8,o1 63 (Jc .eql 62 2)] (Ji 63 (.regd (Jr 11) [Jm 64 5,Jm 65 11,Jp 66 (Jx 64 65 11) [0,1],Jp 67 (ao 66 9) [2],Jp 68
 (lf 67 1) [3],Jo 69 (ao 7 1),Jp 70 (lf 69 1) [5],Jp 71 (Jb .add 68 70) [4,6],Jp 72 (Jx 64 65 11) (Jr 8),Jp 73 (ao 72 9) (Jr 9)] 0 1 [Ju 73 71 1 [0,1,2,3,4,5,6,7,9]]) .skip))))) (.reg [o1 74 (Jc .add 48 1),m1 48 74]))))))))) (.reg [o1 75 (Jc .add 42
 1),m1 42 75]))))))))) (.reg [o1 76 (Jc .add 32 1),m1 32 76]))))))) (.seq (sr1 [m1 77 5,o1 78 (Jl 77),Jk 79 0] (.block 6 (.loop (sr1 [o1 80 (Jb .lss 79 78)] (.seq (Ji 80 .skip (.exit 6)) (.seq (.block 7 (sr1 [m1 81 79,m1 12 81] (.regd (Jr 10) [Jm 82
 5,Jm 83 12,Jp 84 (Jx 82 83 11) [0,1],Jp 85 (ao 84 10) [2],Jp 86 (lf 85 1) [3],Jo 87 (lf 2 1),Jp 88 (Jb .add 86 87) [4,5],Jp 89 (Jx 82 83 11) (Jr 7),Jp 90 (ao 89 10) (Jr 8)] 0 1 [Ju 90 88 1 [0,1,2,3,4,5,6,8]]))) (.reg [o1 91 (Jc .add 79 1),m1 79
 91]))))))) (sr1 [m1 92 5,o1 93 (.call 100 [.t 92,.f 67]),o1 94 (.callm 61 [.t 93,cn 9])] (.reg [m1 95 5,Js 4 95 1])))))))))
def r94:List RV:=[]
theorem n94:Tryz.f94.ntmps=96:=by kernel_rfl
theorem b94:Z5 Tryz.prog 94=true:=by kernel_rfl
theorem ZwE:YC Tryz.prog c94 ((Tryz.f94.body).getD .skip)=true:=by kernel_rfl
theorem ZwK:Y2 Tryz.prog r94 Tryz.f94.results.toList=true:=by kernel_rfl
theorem m94 {n0:Nat} {hp0:List (Nat × HB)} {args:List SV} {Zx:Ot->Prop} (hh:hpb n0 hp0) (hx:∀ o,Zx o->KX o.res/\KXP o.hp) (h:sx Tryz.prog Y0 n0 c94 ⟨YF 0 args,hp0,n0,96,[]⟩ (Wa r94 λo=>∃ o',Zx o'/\Wk n0 o o')) (hA:Nat.ble args.length 96=true:=by rfl):CtM Tryz.prog 94 hp0 n0 args Zx:=Zv Tryz.func94 rfl b94 ZwE ZwK n94 (Nat.le_of_ble_eq_true hA) hh hx h
def c95:SC:=(sr1 [o1 3 (Jz 0 0 3),o1 4 (Jz 1 0 3),Jw 6 Jf] (sr1 [m1 7 2,o1 8 (.mkf 156 [.t 3,.t 4]),o1 9 (J2 140 7 8),o1 10 (Jh 9),m1 6 10] .ret))
def r95:List RV:=[.tmp 6]
theorem t95:Qt1 Tryz.prog 95 c95 r95 11:=ZU Tryz.func95
def c96:SC:=(sr1 [o1 3 (Jz 1 0 195),Jw 4 Jf] (sr1 [m1 5 0,o1 6 (.mkf 158 [.t 3]),o1 7 (J2 157 5 6),o1 8 (Jh 7),m1 4 8] .ret))
def r96:List RV:=[.tmp 4]
theorem t96:Qt1 Tryz.prog 96 c96 r96 9:=ZU Tryz.func96
def c98:SC:=(sr1 [o1 2 (.mv (.c (.slice none 0 0)))] (.seq (sr1 [m1 3 0,o1 4 (.isn (.t 3))] (Ji 4 (sr1 [o1 2 (.mv (.c (.slice none 0 0)))] .ret) .skip)) (sr1 [o1 5 (.bsl 11 49 []),m1 6 0,o1 7 (.cln 11 88 49 (.t 5) (.t 6)),m1 2 7] .ret)))
def r98:List RV:=[.tmp 2]
theorem n98:Tryz.f98.ntmps=8:=by kernel_rfl
theorem b98:Z5 Tryz.prog 98=true:=by kernel_rfl
theorem ZyG:YC Tryz.prog c98 ((Tryz.f98.body).getD .skip)=true:=by kernel_rfl
theorem Zxf:Y2 Tryz.prog r98 Tryz.f98.results.toList=true:=by kernel_rfl
theorem m98 {n0:Nat} {hp0:List (Nat × HB)} {args:List SV} {Zx:Ot->Prop} (hh:hpb n0 hp0) (hx:∀ o,Zx o->KX o.res/\KXP o.hp) (h:sx Tryz.prog Y0 n0 c98 ⟨YF 0 args,hp0,n0,8,[]⟩ (Wa r98 λo=>∃ o',Zx o'/\Wk n0 o o')) (hA:Nat.ble args.length 8=true:=by rfl):CtM Tryz.prog 98 hp0 n0 args Zx:=Zv Tryz.func98 rfl b98 ZyG Zxf n98 (Nat.le_of_ble_eq_true hA) hh hx h
def c99:SC:=(sr1 [o1 1 (Jz 0 0 31),o1 2 (.alloc zv9 197)] (sr1 [o1 3 (ao 1 0),o1 4 (lf 3 1),o1 5 (ao 1 1),o1 6 (lf 5 1),o1 7 (ao 1 2),o1 8 (lf 7 1),o1 9 (.build zv9 [(0,1,.t 4),(1,1,.t 6),(2,1,.t 8)]),Js 2 9 3] .ret))
def r99:List RV:=[.cell 2 3 true]
theorem t99:Qt1 Tryz.prog 99 c99 r99 10:=ZU Tryz.func99
def c100:SC:=(sr1 [o1 3 (Jz 1 0 53),Jw 4 Jf] (sr1 [m1 5 0,o1 6 (.mkf 160 [.t 3]),o1 7 (J2 159 5 6),o1 8 (Jh 7),m1 4 8] .ret))
def r100:List RV:=[.tmp 4]
theorem t100:Qt1 Tryz.prog 100 c100 r100 9:=ZU Tryz.func100
def c111:SC:=(sr1 [o1 2 (.alloc zv1 23)] (.seq (sr1 [m1 5 0,o1 6 (Jl 5),Jk 7 0] (.block 0 (.loop (sr1 [o1 8 (Jb .lss 7 6)] (.seq (Ji 8 .skip (.exit 0)) (.seq (.block 1 (sr1 [o1 9 (Jx 5 7 2),o1 10 (lt 9 2),o1 4 (.alloc zv1 23),Js 4 10 2] (.regd
 [0,1,2,3,4,5,6,10,7,8,9,11,12,13] [Jo 11 (ao 2 0),Jp 12 (lf 11 1) [0],Jo 13 (ao 4 0),Jp 14 (lf 13 1) [2],Jp 15 (Jb .add 12 14) [1,3],Jo 16 (ao 2 1),Jp 17 (lf 16 1) [5],Jp 21 (ao 2 0) (Jr 7),.hide (.t 21),Jo 18 (ao 4 1),Jp 19 (lf 18 1) [7],Jp 20 (Jb
 .add 17 19) [6,8]] 0 1 [Ju 21 15 1 [0,1,2,3,4,5,6,10],⟨some 22,ao 2 1,none,(Jr 12)⟩,Ju 22 20 1 (Jr 13)]))) (.reg [o1 23 (Jc .add 7 1),m1 7 23]))))))) (sr1 [o1 24 (lt 2 2),Js 2 24 2] .ret)))
def r111:List RV:=[.cell 2 2 true]
theorem t111:Qt1 Tryz.prog 111 c111 r111 25:=ZU Tryz.func111
def c112:SC:=(sr1 [o1 2 (.mv (.c (.slice none 0 0)))] (sr1 [Jk 3 0] (.seq (sr1 [m1 9 0,o1 10 (Jl 9),Jk 11 0] (.block 0 (.loop (sr1 [o1 12 (Jb .lss 11 10)] (.seq (Ji 12 .skip (.exit 0)) (.seq (.block 1 (sr1 [o1 13 (Jx 9 11 1),o1 14 (lf 13 1),m1 5 14]
 (sr1 [m1 15 3,m1 16 5,o1 17 (Jl 16),o1 18 (Jb .add 15 17),m1 3 18] (sr1 [m1 19 3,o1 20 (Jc .lss 19 0)] (Ji 20 (.reg [o1 21 (.raw (Go.Op.makeInterface 9 (Go.Operand.const (Go.Value.string { data:=#[108,101,110,32,111,117,116,32,111,102,32,114,97,110,103,101] })))
 20),⟨none,.raw (Go.Op.panic (Go.Operand.tmp 21)) 0,none,[]⟩]) .skip))))) (.reg [o1 22 (Jc .add 11 1),m1 11 22]))))))) (sr1 [m1 23 3,o1 24 (.callm 172 [.c (.slice none 0 0),.t 23]),m1 6 24] (.gh (.seq (sr1 [m1 25 0,o1 26 (Jl 25),Jk 27 0] (.block 2
 (.loop (sr1 [o1 28 (Jb .lss 27 26)] (.seq (Ji 28 .skip (.exit 2)) (.seq (.block 3 (sr1 [o1 29 (Jx 25 27 1),o1 30 (lf 29 1),m1 8 30] (.reg [m1 31 6,m1 32 8,o1 33 (.appm 1 8 3 (.t 31) (.t 32)),m1 6 33]))) (.reg [o1 34 (Jc .add 27 1),m1 27 34])))))))
 (sr1 [m1 35 6,m1 2 35] .ret)))))))
def r112:List RV:=[.tmp 2]
theorem t112:Qt1 Tryz.prog 112 c112 r112 36:=ZU Tryz.func112
def c121:SC:=(sr1 [o1 3 (Jz 0 0 23),Jw 6 Jf] (sr1 [o1 7 (ao 3 0),o1 8 (lf 7 1),o1 9 (ao 3 1),o1 10 (lf 9 1),o1 11 (Jb .leq 8 10),m1 12 11,g1 13 12 true (.mv (.t 1)),g1 14 12 true (.mv (.t 2)),g1 15 12 true (ao 3 0),g1 16 12 true (lf 15 1),g1 17 12
 true (ao 3 1),g1 18 12 true (lf 17 1),g1 19 12 true (.bsl 1 3 [.t 16,.t 18]),g1 20 12 true (J3 95 13 14 19),o1 21 (.pick (.t 12) (.t 20) Jf),m1 6 21] .ret))
def r121:List RV:=[.tmp 6]
theorem t121:Qt1 Tryz.prog 121 c121 r121 22:=ZU Tryz.func121
def c122:SC:=(sr1 [o1 1 (Jz 0 0 49),Jw 2 Jf] (sr1 [o1 3 (ao 1 3),o1 4 (lt 3 2),o1 5 (.call 121 [.t 4,cn 1,cn 100000]),m1 6 5,g1 7 6 true (ao 1 5),g1 8 6 true (lt 7 2),g1 9 6 true (.call 121 [.t 8,cn 0,cn 1000]),o1 10 (.pick (.t 6) (.t 9) Jf),m1 11
 10,g1 12 11 true (ao 1 7),g1 13 11 true (lt 12 2),g1 14 11 true (.ld (.g 0) 2 true),g1 15 11 true (.eqs false true [1,1] (.t 13) (.t 14)),o1 16 (.pick (.t 11) (.t 15) Jf),m1 2 16] .ret))
def r122:List RV:=[.tmp 2]
theorem t122:Qt1 Tryz.prog 122 c122 r122 17:=ZU Tryz.func122
def c123:SC:=(sr1 [o1 1 (Jz 0 0 49),o1 2 (.alloc zv1 23),o1 3 (.alloc zv1 23),o1 4 (.mv (.c (.int .u8 0)))] (sr1 [o1 5 (ao 1 1),o1 6 (lt 5 2),Js 2 6 2] (.seq (sr1 [o1 7 (ao 1 9),o1 8 (lf 7 1),o1 9 (ao 1 3),o1 10 (ao 9 0),o1 11 (lf 10 1),o1 12 (Jb .lss
 8 11)] (Ji 12 (.seq (.regd (Jr 5) [Jo 13 (lt 2 2),.hide (.t 2),Jo 14 (.ld (.g 0) 2 true)] 0 3 [Ju 2 13 2 [0],Ju 3 14 2 [0,1,2],⟨some 4,.mv (.c (.int .u8 0)),none,(Jr 4)⟩]) .ret) .skip)) (sr1 [o1 16 (ao 1 1),o1 17 (ao 16 0),o1 18 (lf 17 1),o1 19 (ao 1
 5),o1 20 (ao 19 1),o1 21 (lf 20 1),o1 22 (.bin .sub (cn 1000) (.t 21)),o1 23 (J2 176 18 22),m1 15 23,o1 24 (Je 15 0),o1 25 (Je 15 1),o1 26 (ao 2 0),Js 26 24 1] (sr1 [o1 28 (ao 1 1),o1 29 (ao 28 1),o1 30 (lf 29 1),o1 31 (ao 1 5),o1 32 (ao 31 1),o1 33
 (lf 32 1),o1 34 (J2 176 30 33),m1 27 34,o1 35 (Je 27 0),o1 36 (Je 27 1),o1 37 (ao 3 1),Js 37 36 1] (.seq (sr1 [o1 38 (ao 1 9),o1 39 (lf 38 1),o1 40 (ao 1 3),o1 41 (ao 40 1),o1 42 (lf 41 1),o1 43 (Jb .lss 39 42)] (Ji 43 (.seq (.regd (Jr 5) [Jo 44 (lt
 2 2),.hide (.t 2),Jo 45 (lt 3 2)] 0 3 [Ju 2 44 2 [0],Ju 3 45 2 [0,1,2],⟨some 4,.mv (.c (.int .u8 1)),none,(Jr 4)⟩]) .ret) .skip)) (sr1 [o1 47 (ao 1 1),o1 48 (ao 47 1),o1 49 (lf 48 1),o1 50 (ao 1 5),o1 51 (ao 50 0),o1 52 (lf 51 1),o1 53 (.bin .sub (cn
 1000) (.t 52)),o1 54 (J2 176 49 53),m1 46 54,o1 55 (Je 46 0),o1 56 (Je 46 1),o1 57 (ao 2 1),Js 57 56 1] (sr1 [o1 59 (ao 1 1),o1 60 (ao 59 0),o1 61 (lf 60 1),o1 62 (ao 1 5),o1 63 (ao 62 0),o1 64 (lf 63 1),o1 65 (J2 176 61 64),m1 58 65,o1 66 (Je 58
 0),o1 67 (Je 58 1),o1 68 (ao 3 0),Js 68 66 1] (.seq (.regd (Jr 5) [Jo 69 (lt 2 2),.hide (.t 2),Jo 70 (lt 3 2)] 0 3 [Ju 2 69 2 [0],Ju 3 70 2 [0,1,2],⟨some 4,.mv (.c (.int .u8 2)),none,(Jr 4)⟩]) .ret)))))))))
def r123:List RV:=[.cell 2 2 true,.cell 3 2 true,.tmp 4]
theorem t123:Qt1 Tryz.prog 123 c123 r123 71:=ZU Tryz.func123
def c124:SC:=(sr1 [o1 1 (Jz 0 0 49),Jw 2 Jf] (sr1 [o1 3 (ao 1 3),o1 4 (lt 3 2),o1 5 (.ld (.g 0) 2 true),o1 6 (.eqs false true [1,1] (.t 4) (.t 5)),m1 7 6,g1 8 7 true (ao 1 5),g1 9 7 true (lt 8 2),g1 10 7 true (.ld (.g 0) 2 true),g1 11 7 true (.eqs
 false true [1,1] (.t 9) (.t 10)),o1 12 (.pick (.t 7) (.t 11) Jf),m1 13 12,g1 14 13 true (ao 1 7),g1 15 13 true (lt 14 2),g1 16 13 true (.ld (.g 0) 2 true),g1 17 13 true (.eqs false true [1,1] (.t 15) (.t 16)),o1 18 (.pick (.t 13) (.t 17) Jf),m1 2 18]
 .ret))
def r124:List RV:=[.tmp 2]
theorem t124:Qt1 Tryz.prog 124 c124 r124 19:=ZU Tryz.func124
def c125:SC:=(sr1 [o1 1 (Jz 0 0 49),o1 2 (.alloc zv1 23),o1 3 (.alloc zv1 23),o1 4 (.mv (.c (.int .u8 0)))] (.seq (.regd (Jr 6) [Jo 5 (ao 1 1),Jp 6 (lt 5 2) [0],.hide (.t 2),Jo 7 (.ld (.g 0) 2 true)] 0 3 [Ju 2 6 2 [0,1],Ju 3 7 2 (Jr 4),⟨some 4,.mv (.c (.int .u8 0)),none,(Jr 5)⟩]) .ret))
def r125:List RV:=[.cell 2 2 true,.cell 3 2 true,.tmp 4]
theorem t125:Qt1 Tryz.prog 125 c125 r125 8:=ZU Tryz.func125
def c126:SC:=(sr1 [o1 1 (Jz 0 0 49),Jw 2 Jf] (sr1 [o1 3 (ao 1 3),o1 4 (lt 3 2),o1 5 (.ld (.g 0) 2 true),o1 6 (.eqs false true [1,1] (.t 4) (.t 5)),m1 7 6,g1 8 7 true (ao 1 5),g1 9 7 true (lt 8 2),g1 10 7 true (.ld (.g 0) 2 true),g1 11 7 true (.eqs
 false true [1,1] (.t 9) (.t 10)),o1 12 (.pick (.t 7) (.t 11) Jf),m1 13 12,g1 14 13 true (ao 1 7),g1 15 13 true (lt 14 2),g1 16 13 true (.call 121 [.t 15,cn 0,cn 1000000]),o1 17 (.pick (.t 13) (.t 16) Jf),m1 2 17] .ret))
def r126:List RV:=[.tmp 2]
theorem t126:Qt1 Tryz.prog 126 c126 r126 18:=ZU Tryz.func126
def c127:SC:=(sr1 [o1 1 (Jz 0 0 49),o1 2 (.alloc zv1 23),o1 3 (.alloc zv1 23),o1 4 (.mv (.c (.int .u8 0)))] (sr1 [o1 6 (ao 1 7),o1 7 (ao 6 0),o1 8 (lf 7 1),o1 9 (ao 1 10),o1 10 (lf 9 1),o1 11 (Jb .mul 8 10),o1 12 (ao 1 7),o1 13 (ao 12 1),o1 14 (lf 13
 1),o1 15 (ao 1 10),o1 16 (lf 15 1),o1 17 (Jb .mul 14 16),o1 18 (.build zv1 [(0,1,.t 11),(1,1,.t 17)]),o1 5 (.alloc zv1 23),Js 5 18 2] (sr1 [o1 19 (ao 1 1),o1 20 (ao 19 0),o1 21 (lf 20 1),o1 22 (ao 5 1),o1 23 (lf 22 1),o1 24 (Jb .sub 21 23),o1 25 (.mm
 true [.t 24,cn 0]),o1 26 (ao 1 1),o1 27 (ao 26 1),o1 28 (lf 27 1),o1 29 (ao 5 0),o1 30 (lf 29 1),o1 31 (Jb .sub 28 30),o1 32 (.mm true [.t 31,cn 0]),o1 33 (.build zv1 [(0,1,.t 25),(1,1,.t 32)]),Js 2 33 2] (sr1 [o1 34 (ao 1 1),o1 35 (ao 34 0),o1 36
 (lf 35 1),o1 37 (ao 5 0),o1 38 (lf 37 1),o1 39 (.mm false [.t 36,.t 38]),o1 40 (ao 1 1),o1 41 (ao 40 1),o1 42 (lf 41 1),o1 43 (ao 5 1),o1 44 (lf 43 1),o1 45 (.mm false [.t 42,.t 44]),o1 46 (.build zv1 [(0,1,.t 39),(1,1,.t 45)]),Js 3 46 2] (.seq
 (.regd (Jr 5) [Jo 47 (lt 2 2),.hide (.t 2),Jo 48 (lt 3 2)] 0 3 [Ju 2 47 2 [0],Ju 3 48 2 [0,1,2],⟨some 4,.mv (.c (.int .u8 0)),none,(Jr 4)⟩]) .ret)))))
def r127:List RV:=[.cell 2 2 true,.cell 3 2 true,.tmp 4]
theorem t127:Qt1 Tryz.prog 127 c127 r127 49:=ZU Tryz.func127
def c156:SC:=(sr1 [Jw 4 Jf] (sr1 [m1 5 0,o1 6 (lf 1 1),o1 7 (Jb .lss 5 6),m1 8 7,g1 9 8 false (.mv (.t 0)),g1 10 8 false (lf 2 1),g1 11 8 false (Jb .gtr 9 10),o1 12 (.pick (.t 8) Jt (.t 11)),m1 4 12] .ret))
def r156:List RV:=[.tmp 4]
theorem t156:Qt1 Tryz.prog 156 c156 r156 13:=ZU Tryz.func156
def c157:SC:=(sr1 [Jw 4 Jf] (sr1 [m1 5 0,m1 6 1,o1 7 (J2 201 5 6),o1 8 (Jc .geq 7 0),m1 4 8] .ret))
def r157:List RV:=[.tmp 4]
theorem t157:Qt1 Tryz.prog 157 c157 r157 9:=ZU Tryz.func157
def c159:SC:=(sr1 [Jw 4 Jf] (sr1 [m1 5 0,m1 6 1,o1 7 (J2 202 5 6),o1 8 (Jc .geq 7 0),m1 4 8] .ret))
def r159:List RV:=[.tmp 4]
theorem t159:Qt1 Tryz.prog 159 c159 r159 9:=ZU Tryz.func159
def c160:SC:=(sr1 [o1 2 (Jz 0 0 49),Jw 3 Jf] (sr1 [o1 4 (lf 1 1),o1 5 (lt 2 11),o1 6 (.calv (.t 4) [.t 5]),o1 7 (Jh 6),m1 3 7] .ret))
def r160:List RV:=[.tmp 3]
theorem t160:Qt1 Tryz.prog 160 c160 r160 8:=ZU Tryz.func160
def c67:SC:=(sr1 [o1 1 (Jz 0 0 49),Jw 2 Jf] (.seq (.regd (Jr 10) [Jo 6 (.call 68 []),Jo 7 (ao 1 0),Jp 8 (lf 7 1) [1],Jp 9 (.rv (Go.Op.lookup 146 (Go.Operand.tmp 6) (Go.Operand.tmp 8) Bool.true) [.t 6,.t 8]) [0,2],Jp 5 (.mv (.t 9)) [3],Jp 10 (Je 5 0)
 [4],Jp 11 (Je 5 1) [4]] 1 2 [o1 3 (.alloc [.nilFunc,.nilFunc] 145),Ju 3 10 2 [0,1,2,3,4,5,7],⟨some 4,.mv (.t 11),none,(Jr 9)⟩]) (sr1 [m1 12 4,m1 13 12,g1 14 13 true (ao 3 0),g1 15 13 true (lf 14 1),g1 16 13 true (lt 1 11),g1 17 13 true (.calv (.t 15)
 [.t 16]),o1 18 (.pick (.t 13) (.t 17) Jf),m1 19 18,g1 20 19 true (ao 1 1),g1 21 19 true (lt 20 2),g1 22 19 true (.call 121 [.t 21,cn 0,cn 1000000]),o1 23 (.pick (.t 19) (.t 22) Jf),m1 24 23,g1 25 24 true (ao 1 9),g1 26 24 true (lf 25 1),g1 27 24 true
 (.bsl 1 3 [.t 26]),g1 28 24 true (.call 95 [cn 0,cn 6000000,.t 27]),o1 29 (.pick (.t 24) (.t 28) Jf),m1 30 29,g1 31 30 true (ao 1 10),g1 32 30 true (lf 31 1),g1 33 30 true (.bsl 1 3 [.t 32]),g1 34 30 true (.call 95 [cn 0,cn 100000,.t 33]),o1 35
 (.pick (.t 30) (.t 34) Jf),m1 2 35] .ret)))
def r67:List RV:=[.tmp 2]
theorem t67:Qt1 Tryz.prog 67 c67 r67 36:=ZU Tryz.func67
def ZyP:SC:=(sr1 [o1 4 (.mv (.c (.slice none 0 0)))] (.seq (sr1 [m1 5 1,o1 6 (Jc .lss 5 0)] (Ji 6 (.reg [o1 7 (.raw (Go.Op.makeInterface 9 (Go.Operand.const (Go.Value.string { data:=#[99,97,110,110,111,116,32,98,101,32,110,101,103,97,116,105,118,101] })))
 20),⟨none,.raw (Go.Op.panic (Go.Operand.tmp 7)) 0,none,[]⟩]) .skip)) (.seq (sr1 [m1 8 1,m1 9 0,o1 10 (.raw (Go.Op.call { callee:=(Go.Callee.builtin Go.Builtin.cap),args:=#[(Go.Operand.tmp 9)],argTypes:=#[29] }) 3),m1 11 0,o1 12 (.raw (Go.Op.call { callee:=(Go.Callee.builtin Go.Builtin.len),args:=#[(Go.Operand.tmp 11)],argTypes:=#[29] })
 3),o1 13 (Jb .sub 10 12),o1 14 (Jb .sub 8 13),m1 1 14] (sr1 [m1 15 1,o1 16 (Jc .gtr 15 0)] (Ji 16 (.reg [m1 17 0,m1 18 0,o1 19 (.raw (Go.Op.call { callee:=(Go.Callee.builtin Go.Builtin.cap),args:=#[(Go.Operand.tmp 18)],argTypes:=#[29] }) 3),o1 20
 (.raw (Go.Op.slice 29 (Go.Operand.tmp 17) Option.none (Option.some (Go.Operand.tmp 19)) Option.none) 29),m1 21 1,o1 22 (.raw (Go.Op.call { callee:=(Go.Callee.builtin Go.Builtin.append),args:=#[(Go.Operand.tmp 20),(Go.Operand.tmp 21)],argTypes:=#[29,3] })
 29),m1 23 0,o1 24 (.raw (Go.Op.call { callee:=(Go.Callee.builtin Go.Builtin.len),args:=#[(Go.Operand.tmp 23)],argTypes:=#[29] }) 3),o1 25 (.raw (Go.Op.slice 29 (Go.Operand.tmp 22) Option.none (Option.some (Go.Operand.tmp 24)) Option.none) 29),m1 0
 25]) .skip))) (sr1 [m1 26 0,m1 4 26] .ret))))
def ZyV:List RV:=[.tmp 4]
theorem n172:Tryz.f172.ntmps=27:=by kernel_rfl
theorem b172:Z5 Tryz.prog 172=true:=by kernel_rfl
theorem Zuf:YC Tryz.prog ZyP ((Tryz.f172.body).getD .skip)=true:=by kernel_rfl
theorem Zvc:Y2 Tryz.prog ZyV Tryz.f172.results.toList=true:=by kernel_rfl
theorem m172 {n0:Nat} {hp0:List (Nat × HB)} {args:List SV} {Zx:Ot->Prop} (hh:hpb n0 hp0) (hx:∀ o,Zx o->KX o.res/\KXP o.hp) (h:sx Tryz.prog Y0 n0 ZyP ⟨YF 0 args,hp0,n0,27,[]⟩ (Wa ZyV λo=>∃ o',Zx o'/\Wk n0 o o')) (hA:Nat.ble args.length 27=true:=by rfl):CtM Tryz.prog 172 hp0 n0 args Zx:=Zv Tryz.func172 rfl b172 Zuf Zvc n172 (Nat.le_of_ble_eq_true hA) hh hx h
def c176:SC:=(sr1 [Jk 4 0,Jk 5 0] (sr1 [m1 7 0,m1 8 1,o1 9 (Jb .mul 7 8),m1 6 9] (sr1 [m1 10 6,o1 11 (.div .quo (.t 10) (cn 1000)),m1 12 6,o1 13 (Jc .add 12 1000),o1 14 (Jc .sub 13 1),o1 15 (.div .quo (.t 14) (cn 1000)),m1 4 11,m1 5 15] .ret)))
def r176:List RV:=[.tmp 4,.tmp 5]
theorem t176:Qt1 Tryz.prog 176 c176 r176 16:=ZU Tryz.func176
def c201:SC:=(sr1 [Jk 4 0] (.seq (sr1 [m1 6 0,o1 7 (Jl 6),Jk 8 0] (.block 0 (.loop (sr1 [o1 9 (Jb .lss 8 7)] (.seq (Ji 9 .skip (.exit 0)) (.seq (.block 1 (sr1 [m1 10 8,m1 5 10] (sr1 [m1 11 1,m1 12 0,m1 13 5,o1 14 (Jx 12 13 2),o1 15 (lt 14 2),o1 16
 (.calv (.t 11) [.t 15])] (Ji 16 (sr1 [m1 17 5,m1 4 17] .ret) .skip)))) (.reg [o1 18 (Jc .add 8 1),m1 8 18]))))))) (sr1 [o1 4 (.mv (cn (-1)))] .ret)))
def r201:List RV:=[.tmp 4]
theorem t201:Qt1 Tryz.prog 201 c201 r201 19:=ZU Tryz.func201
def c202:SC:=(sr1 [Jk 4 0] (.seq (sr1 [m1 6 0,o1 7 (Jl 6),Jk 8 0] (.block 0 (.loop (sr1 [o1 9 (Jb .lss 8 7)] (.seq (Ji 9 .skip (.exit 0)) (.seq (.block 1 (sr1 [m1 10 8,m1 5 10] (sr1 [m1 11 1,m1 12 0,m1 13 5,o1 14 (Jx 12 13 11),o1 15 (lt 14 11),o1 16
 (.calv (.t 11) [.t 15])] (Ji 16 (sr1 [m1 17 5,m1 4 17] .ret) .skip)))) (.reg [o1 18 (Jc .add 8 1),m1 8 18]))))))) (sr1 [o1 4 (.mv (cn (-1)))] .ret)))
def r202:List RV:=[.tmp 4]
theorem t202:Qt1 Tryz.prog 202 c202 r202 19:=ZU Tryz.func202
end Go.Proofs.YtkpkgafhfakpdaaGreatDoor
namespace Go.Azalai
def Wd (b:Breed) (c:Camel) (m:March):Camel × Int × Int :=
 if Ve b c≠0 then (Vp,0,Ve b c) else if Zt m=false then (Vp,0,12) else if (ZR b c m).2=2 then (Vp,0,13) else ((ZR b c m).1,(ZR b c m).2,0)
end Go.Azalai
namespace Go.Proofs.YtkpkgafhfakpdaaGreatDoor.Cm
open Go Go.Sx Go.Azalai
def U8 (n:Int):SV:=.v (.int .u8 n)
theorem after1_ok (b:Breed) (c:Camel) (m:March):Ct Tryz.prog 13 [.agg (breedL b),.agg (camelL c),.agg (marchL m)] (.tup [.agg (camelL (Wd b c m).1),U8 (Wd b c m).2.1,I (Wd b c m).2.2]):=by
 refine t13.1 (by simp [breedL,camelL,marchL]) (by simp [camelL,U8]) ?_;dsimp only [c13,r13,breedL,camelL,marchL,go_sem];refine call (Y8 b c) ?_;dsimp only [go_sem];by_cases h0:Ve b c=0
 case neg =>
  refine Zs (by simpa using h0) ?_;dsimp only [go_sem];simp [Wd,h0,Vp,U8,camelL]
 refine Zp (by simpa using h0) ?_;dsimp only [go_sem];obtain ⟨hb,hc⟩:=errC_0.1 h0;refine call (Zig m true) ?_;dsimp only [go_sem];by_cases hm:Zt m=true
 case neg =>
  refine Zs (by simp [hm]) ?_;dsimp only [go_sem];simp [Wd,h0,hm,Vp,U8,camelL]
 refine Zp (by simp [hm]) ?_;dsimp only [go_sem];by_cases hd:(ZR b c m).2=2
 . refine call (Zef b c m hb hc hm hd) ?_;dsimp only [ZY,Vp,go_sem];refine Zs (by decide) ?_;dsimp only [go_sem];simp [Wd,h0,hm,hd,Vp,U8,camelL]
 refine call (Zqd b c m hb hc hm hd) ?_;dsimp only [ZY,go_sem];refine Zp (by simpa using hd) ?_;dsimp only [go_sem];simp [Wd,h0,hm,hd,U8,camelL]
theorem errL_0 {b:Breed} {c:Camel} {l:List March} (h0:Zgj b c l=0):Zw b=true/\Zz b c=true/\l.length<=60/\l.all Zt=true:=by
 unfold Zgj at h0;by_cases e1:Ve b c=0
 . obtain ⟨q1,q2⟩:=errC_0.1 e1;by_cases e2:l.length > 60
   . simp [e1,e2] at h0
   . by_cases e3:l.all Zt=true
     . exact ⟨q1,q2,by omega,e3⟩
     . simp only [e1,e2] at h0;simp at e3 h0;grind
 . simp [e1] at h0
end Go.Proofs.YtkpkgafhfakpdaaGreatDoor.Cm
namespace Go.Azalai
structure Pack where
 kind:Int
 mass:Span
 hard:Span
 crumbs:Span
 leak:Span
 hurt:Int
 days:Int
deriving DecidableEq
structure Tied where
 left:List Int
 right:List Int
 top:List Int
deriving DecidableEq
def Vb (p:Pack):Bool :=
 if p.kind=1 then Z4 1 100000 p.hard && Z4 0 1000 p.crumbs && decide (p.leak=ZB)
 else if p.kind=2 then decide (p.hard=ZB) && decide (p.crumbs=ZB) && decide (p.leak=ZB)
 else decide (p.kind=3) && decide (p.hard=ZB) && decide (p.crumbs=ZB) && Z4 0 1000000 p.leak
def ZJ (p:Pack):Bool:=Z4 0 1000000 p.mass && inR 0 6000000 p.hurt && inR 0 100000 p.days && Vb p
def YN (p:Pack):Span × Span × Int :=
 if p.kind=3 then (⟨max (p.mass.lo - p.leak.hi * p.days) 0,max (p.mass.hi - p.leak.lo * p.days) 0⟩,⟨min p.mass.lo (p.leak.lo * p.days),min p.mass.hi (p.leak.hi * p.days)⟩,0)
 else if p.kind=2\/p.hurt < p.hard.lo then (p.mass,ZB,0)
 else if p.hurt < p.hard.hi then (⟨(p.mass.lo * (1000 - p.crumbs.hi)).tdiv 1000,p.mass.hi⟩,⟨0,upF (p.mass.hi * p.crumbs.hi) 1000⟩,1)
 else (⟨(p.mass.lo * (1000 - p.crumbs.hi)).tdiv 1000,upF (p.mass.hi * (1000 - p.crumbs.lo)) 1000⟩,⟨(p.mass.lo * p.crumbs.lo).tdiv 1000,upF (p.mass.hi * p.crumbs.hi) 1000⟩,2)
def Yc (n:Int):Int->List Int->Bool
 | _,[]=>true
 | last,x :: l=>inR (last+1) (n - 1) x && Yc n x l
def WC (t:Tied):List Int:=t.left ++ (t.right ++ t.top)
def X8 (n:Int) (t:Tied):Bool :=
 Yc n (-1) t.left && Yc n (-1) t.right && Yc n (-1) t.top && decide ((WC t).length<=10) && decide (WC t).Nodup
def ZxC (l:List Pack) (t:Tied):Int:=if (decide (l.length<=30) && l.all ZJ)=false then 50 else if X8 l.length t=false then 51 else 0
def ZeV (a b:Span):Span:=⟨a.lo+b.lo,a.hi+b.hi⟩
def zeroP:Pack:=⟨2,ZB,ZB,ZB,ZB,0,0⟩
def Uo (l:List Pack) (i:Int):Span:=(YN (l.getD i.toNat zeroP)).1
def ZeL (acc:Span):List Span->Span
 | []=>acc
 | s :: r=>ZeL (ZeV acc s) r
def Z7 (l:List Pack) (q:List Int):Span:=ZeL ZB (q.map (Uo l))
def Zxc (a b:Span) (bound:Int):Int :=
 if -bound<=a.lo - b.hi/\a.hi - b.lo<=bound then 2 else if a.lo - b.hi > bound\/a.hi - b.lo < -bound then 0 else 1
def Zgn (l:List Pack) (t:Tied) (bound:Int):Int:=Zxc (Z7 l t.left) (Z7 l t.right) bound
def VJ (can:Span) (l:List Pack) (t:Tied) (bound:Int):Int :=
 if (Z7 l (WC t)).lo > can.hi then 0 else if Zgn l t bound=2/\(Z7 l (WC t)).hi > can.lo then 1 else Zgn l t bound
theorem ZgY {p:Pack} (h:ZJ p=true):0<=(YN p).1.lo/\(YN p).1.lo<=(YN p).1.hi/\(YN p).1.hi<=1000000:=by
 simp only [ZJ,Z4,inR,Bool.and_eq_true,decide_eq_true_eq] at h;obtain ⟨⟨⟨h1,h2⟩,h3⟩,h4⟩:=h;unfold Vb at h4;unfold YN;split at h4
 . rename_i hk;rw [if_neg (by omega)];simp only [Z4,Bool.and_eq_true,decide_eq_true_eq] at h4;obtain ⟨⟨g1,g2⟩,g3⟩:=h4;have m1:0<=p.mass.lo * (1000 - p.crumbs.hi)/\p.mass.lo * (1000 - p.crumbs.hi)<=p.mass.lo * 1000:=⟨Int.mul_nonneg (by omega) (by omega),Int.mul_le_mul_of_nonneg_left (by omega) (by omega)⟩
   have m2:p.mass.lo * (1000 - p.crumbs.hi)<=p.mass.hi * (1000 - p.crumbs.lo):=Int.mul_le_mul (by omega) (by omega) (by omega) (by omega);have m3:0<=p.mass.hi * (1000 - p.crumbs.lo)/\p.mass.hi * (1000 - p.crumbs.lo)<=p.mass.hi * 1000:=⟨Int.mul_nonneg (by omega) (by omega),Int.mul_le_mul_of_nonneg_left (by omega) (by omega)⟩
   have e1:(p.mass.lo * (1000 - p.crumbs.hi)).tdiv 1000=p.mass.lo * (1000 - p.crumbs.hi) / 1000:=Int.tdiv_eq_ediv_of_nonneg m1.1;have e2:upF (p.mass.hi * (1000 - p.crumbs.lo)) 1000=(p.mass.hi * (1000 - p.crumbs.lo)+1000 - 1) / 1000:=Int.tdiv_eq_ediv_of_nonneg (by omega);rw [e1,e2];split
   . simp only;omega
   . split<;>(simp only;omega)
 . split at h4
   . rename_i hk hk2;rw [if_neg (by omega),if_pos (.inl hk2)];simp only;omega
   . rename_i hk hk2;simp only [Z4,Bool.and_eq_true,decide_eq_true_eq] at h4;obtain ⟨⟨⟨g0,g1⟩,g2⟩,g3⟩:=h4;rw [if_pos g0];have m1:0<=p.leak.lo * p.days:=Int.mul_nonneg (by omega) (by omega);have m2:p.leak.lo * p.days<=p.leak.hi * p.days:=Int.mul_le_mul_of_nonneg_right (by omega) (by omega);simp only;omega
theorem Zd2 {l:List Pack} (h:l.all ZJ=true) (i:Int):0<=(Uo l i).lo/\(Uo l i).lo<=(Uo l i).hi/\(Uo l i).hi<=1000000:=by
 unfold Uo;rw [List.getD_eq_getElem?_getD];by_cases hi:i.toNat < l.length
 . rw [List.getElem?_eq_getElem hi];exact ZgY (List.all_eq_true.1 h _ (List.getElem_mem hi))
 . rw [List.getElem?_eq_none (by omega)];exact ZgY (by decide)
theorem Zjx {g:Int->Span} {M:Int} (hg:∀ i,0<=(g i).lo/\(g i).lo<=(g i).hi/\(g i).hi<=M):∀ (q:List Int) (acc:Span),0<=acc.lo->acc.lo<=acc.hi ->
 0<=(ZeL acc (q.map g)).lo/\(ZeL acc (q.map g)).lo<=(ZeL acc (q.map g)).hi/\(ZeL acc (q.map g)).hi<=acc.hi+q.length * M
 | [],acc,h0,h1=>by simp [ZeL,h0,h1]
 | i :: q,acc,h0,h1=>by
  have:=hg i;simp only [List.map_cons,ZeL];have ih:=Zjx hg q (ZeV acc (g i)) (by simp only [ZeV];omega) (by simp only [ZeV];omega);refine ⟨ih.1,ih.2.1,Int.le_trans ih.2.2 ?_⟩;simp only [ZeV,List.length_cons]
  push_cast
  rw [Int.add_mul];omega
theorem Ux {l:List Pack} (h:l.all ZJ=true) (q:List Int):0<=(Z7 l q).lo/\(Z7 l q).lo<=(Z7 l q).hi/\(Z7 l q).hi<=q.length * 1000000:=by
 have:=Zjx (Zd2 h) q ZB (by decide) (by decide);simpa [Z7,ZB] using this
end Go.Azalai
namespace Go.Proofs.YtkpkgafhfakpdaaGreatDoor
open Go Go.Sx Go.Azalai
abbrev U8 (n:Int):SV:=.v (.int .u8 n)
def Zj (p:Pack):List SV:=[U8 p.kind,I p.mass.lo,I p.mass.hi,I p.hard.lo,I p.hard.hi,I p.crumbs.lo,I p.crumbs.hi,I p.leak.lo,I p.leak.hi,I p.hurt,I p.days]
def Zn (t:Tied):List SV:=[.sl false 1 (t.left.map Zk),.sl false 1 (t.right.map Zk),.sl false 1 (t.top.map Zk)]
end Go.Proofs.YtkpkgafhfakpdaaGreatDoor
namespace Go.Sx
open Go Go.RowKit
section
variable {K V:Type} [DecidableEq K] {k k':K} {v v0:V} {c:Nat} {L:List (Nat × K × V)}
end
section
variable {P:Program} {K' V:Type} [DecidableEq K'] {key:K'->Value} {sv:K'->SV} {val:V->SV} {L:List (Nat × K' × V)} {km c:Nat} {kt et t ty:TypeId} {mx ix vx sx:Operand} {σ : St} {r:KT} {K:RK} {d:Option Nat} {k:K'}
end
section
variable {P:Program} {ty T T':TypeId} {ix jx:Operand} {σ : St} {r:KT} {K:RK} {d:Option Nat} {s:SV}
end
def NK:Nat->Prop:=λ_=>False
theorem ZgP {w:World} {E E':Env} {n n' ok:Nat->Prop}:∀ (l:List (Nat × Value × SV)) (ys:List MapEntry),(∀ e ∈ l,KF e.2.2)->RM w E n ok l ys->RM w E' n' ok l ys
 | [],ys,_,h=>by simp only [RM] at h ⊢;exact h
 | e :: l,ys,hk,h=>by
  simp only [RM] at h ⊢;obtain ⟨y,r,rfl,h1,h2⟩:=h;exact ⟨y,r,rfl,Zgi _ _ (hk e (by simp)) h1,ZgP l r (λe he=>hk e (by simp [he])) h2⟩
def mqV (es:List (Nat × Value × SV)):VP where
 f w ok y:=∃ b ys c,y = .map (some b)/\ok b/\w.heap[b]? = some (.map ys c)/\RM w E0 NK ok es ys.toList
 one:=by rintro w ok y ⟨b,ys,c,rfl,_⟩;rfl
 mono:=by
  rintro w w' ok ok' y hs ⟨b,ys,c,rfl,h1,h2,h3⟩;obtain ⟨k1,k2⟩:=hs b h1 (.inr ⟨_,_,h2⟩);exact ⟨b,ys,c,rfl,k1,k2.trans h2,VR hs (λk hk=>hk.elim) (λk hk=>hk) _ _ h3⟩
theorem Zjf {P:Program} {f:FuncId} {args:List SV} {res:SV} {Zx:Ot->Prop} (h:CtM P f [] 0 args Zx) (ka:KFL args) (kr:KF res)
 (hp:∀ o,Zx o->o.pn=false/\∀ (C:Cx) E w y,(∀ k b,¬ C.pass k b)->HSim C E o.hp (ltn o.n) w->R w E (ltn o.n) (okS C E o.hp) o.res y->R w E0 NK (λb=>C.okp b\/C.w0.heap.size<=b) res y):Ct P f args res:=by
 refine ⟨h.bd,ka,kr,λw ok vs hGS hR=>?_⟩
 let C:Cx:=⟨w,ok,λ_ _=>False,[],none,E0,0,hGS,λ_ _ _ _ h=>h⟩
 have hS:HSim C E0 [] (ltn 0) w:=⟨λ_ _=>rfl,λ_=>trivial,λ_ _ _ h=>h.elim,λ_ _ h=>h.elim,⟨rfl,rfl,rfl,Nat.le_refl _,λ_ _ _=>rfl⟩,λk hk=>absurd hk (Nat.not_lt_zero k)⟩
 have hR':RL w E0 (ltn 0) (okS C E0 []) args vs:=ZC (E:=E0) (n:=λ_=>False) (λb hb _=>⟨⟨.inl hb,λk ho=>ho⟩,rfl⟩) (λ_ _=>Ele.rfl) (λk hk=>hk.elim) _ _ hR;refine (h.run C E0 w vs rfl rfl rfl rfl rfl (λk b h=>h.elim) Zar hS hR').mono λe w' ⟨o,E',y,h1,h2,h3,h4⟩=>?_;obtain ⟨q1,q2⟩:=hp o h1;refine ⟨y,by rw [h4,q1];rfl,q2 C E' w' y (λ_ _ h=>h) h2 h3,⟨h2.kp.os,h2.kp.tape,h2.kp.output,h2.kp.size,λb hb=>h2.kp.block b hb (λk hk=>hk)⟩⟩
theorem mq_of {C:Cx} {E:Env} {hp:List (Nat × HB)} {n:Nat->Prop} {w:World} {k c:Nat} {es:List (Nat × Value × SV)} {y:Value} (hpass:∀ k b,¬ C.pass k b) (hs:HSim C E hp n w) (hk:lkh k hp = .map es c) (hkf:∀ e ∈ es,KF e.2.2)
 (hR:R w E n (okS C E hp) (.mp k) y):R w E0 NK (λb=>C.okp b\/C.w0.heap.size<=b) (.q (mqV es)) y:=by
 simp only [R] at hR ⊢;have hb:=hs.bk k;rw [hk] at hb;obtain ⟨ys,h1,h2⟩:=hb;have hlo:C.w0.heap.size<=E.β k:=by
  rcases hs.lo k (E.β k) (by rw [hk];rfl) with h | h
  . exact h
  . exact absurd h (hpass _ _)
 refine ⟨E.β k,ys,c,hR.2,.inr hlo,h1,ZgP _ _ hkf (VR (n':=n) (E':=E) (λb hb _=>⟨hb.1,rfl⟩) (λ_ _=>Ele.rfl) (λ_ h=>h) _ _ h2)⟩
section
variable {K V:Type} [DecidableEq K] {P:Program} {key:K->Value} {sv:K->SV} {val:V->SV} {L:List (Nat × K × V)} {km c:Nat} {kt et t:TypeId} {σ : St} {k:K} {i j:Nat} {ok:Bool} {zs:SV} {z:Value} {v:V}
theorem Zo1 {g:Option (Nat × Bool)} {fr:List (Nat × SV)} {s:SV} (h:∀ j b u,s≠.gd j b u):YG g fr s=s:=by
 cases s<;>first | rfl | exact absurd rfl (h _ _ _)
theorem Zfp {w:World} {E:Env} {n ok':Nat->Prop} {b:Nat} {ys:Array MapEntry} (g1:w.heap[b]? = some (.map ys c)) (g2:RM w E n ok' (mpS key val L) ys.toList) (ht:P.underlying t=some (.map kt et)) (hK:KeyT P kt key sv)
 (hz:Yl P et=some z) :
 (W4 k L=none/\(Instr.lookup t (.map (some b)) (key k) ok).run P w = .ok (if ok then .tuple #[z,.bool false] else z) w) \/
 ∃ v y,W4 k L=some v/\(Instr.lookup t (.map (some b)) (key k) ok).run P w = .ok (if ok then .tuple #[y,.bool true] else y) w/\R w E n ok' (val v) y:=by
 have hfn:=λw=>hK.fnd k _ _ w (ZaA g2);rcases Zan (w:=w) (E:=E) (n:=n) (ok:=ok') k L ys.toList 0 g2 with ⟨a1,a2,-,-⟩ | ⟨j,v,e,b1,b2,b3,b4,b5,-⟩
 . left;refine ⟨a1,?_⟩;simp only [Instr.lookup,Sem.run_bind,run_underlying ht,Result.andThen_ok,Yy g1 rfl,Sem.run_pure,hK.chk,hfn,a2,Xg hz]
 . right;refine ⟨v,e.val,b1,?_,b5⟩;simp only [Instr.lookup,Sem.run_bind,run_underlying ht,Result.andThen_ok,Yy g1 rfl,Sem.run_pure,hK.chk,hfn,b2]
def lkS (ok:Bool) (val:V->SV) (zs:SV):Option V->SV
 | some v=>bif ok then .tup [val v,.v (.bool true)] else val v
 | none=>bif ok then .tup [zs,.v (.bool false)] else zs
theorem rv_of {w:World} {E:Env} {n ok':Nat->Prop} {b:Nat} {ys:Array MapEntry} {o:Oper} {a:Act} {next:Act->World->Prop} {Q:Exit->Act->World->Prop} {rr:Option Nat} (ho:o.op = .lookup t (.tmp i) (.tmp j) ok)
 (g1:w.heap[b]? = some (.map ys c)) (g2:RM w E n ok' (mpS key val L) ys.toList) (ht:P.underlying t=some (.map kt et)) (hK:KeyT P kt key sv) (hz:Yl P et=some z) (hzR:∀ w E n ok,R w E n ok zs z)
 (hm:a.tmps.getD i undef = .map (some b)) (hi:a.tmps.getD j undef=key k) (hn:∀ y,R w E n ok' (lkS ok val zs (W4 k L)) y->next (a.put o.dst y) w):o.wpq rr P a w next Q:=by
 obtain ⟨dst',op',ty',pos,after,guard⟩:=o;simp only at ho;subst ho;rcases Zfp (ok:=ok) (k:=k) g1 g2 ht hK hz with ⟨q1,q2⟩ | ⟨v,y,q1,q2,q3⟩
 . refine ZA (x:=.value (if ok then .tuple #[z,.bool false] else z)) (w':=w) ?_ (by simp) ?_
   . show (execOp a.eval _).run P w=_;simp only [execOp,Act.eval,hm,hi,Sem.run_bind,q2,Result.andThen_ok,Sem.run_pure]
   . refine hn _ ?_;rw [q1];cases ok
     . exact hzR _ _ _ _
     . simp only [lkS,cond_true,if_true,R,RL];exact ⟨_,rfl,_,_,rfl,hzR _ _ _ _,_,_,rfl,rfl,rfl⟩
 . refine ZA (x:=.value (if ok then .tuple #[y,.bool true] else y)) (w':=w) ?_ (by simp) ?_
   . show (execOp a.eval _).run P w=_;simp only [execOp,Act.eval,hm,hi,Sem.run_bind,q2,Result.andThen_ok,Sem.run_pure]
   . refine hn _ ?_;rw [q1];cases ok
     . exact q3
     . simp only [lkS,cond_true,if_true,R,RL];exact ⟨_,rfl,_,_,rfl,q3,_,_,rfl,rfl,rfl⟩
theorem Zj4 (hm:lk i σ.fr = .q (mqV (mpS key val L))) (hkf:∀ e ∈ mpS key val L,KF e.2.2) (hi:lk j σ.fr=sv k) (ht:P.underlying t=some (.map kt et)) (hK:KeyT P kt key sv) (hz:Yl P et=some z) (hzR:∀ w E n ok,R w E n ok zs z) :
 RBE P (.lookup t (.tmp i) (.tmp j) ok) [.t i,.t j] σ (lkS ok val zs (W4 k L)):=by
 intro o ho C E hpX nX a w next Q hx hS hR hn;have h1:=hR (.t i) (by simp);have h2:=hR (.t j) (by simp);simp only [rdG,rd,hm,YG,evX] at h1;simp only [rdG,rd,hi,evX] at h2;rw [Zo1 (ZgS hK k)] at h2;have h2:=(hK.svR k _).1 h2;simp only [R] at h1;obtain ⟨b,ys,c,e1,e2,e3,e4⟩:=h1;exact rv_of (E:=E) (n:=nX) (ok':=okS C E hpX) ho e3 (ZgP _ _ hkf e4) ht hK hz hzR e1 h2 λy hy=>hn w y hS (λb hb _=>⟨hb,rfl⟩) hy
end
end Go.Sx
namespace Go.Proofs.YtkpkgafhfakpdaaGreatDoor
open Go Go.Sx Go.Azalai
theorem Zro (lo hi x:Int):Ct Tryz.prog 156 [I x,.ps [I lo] 0,.ps [I hi] 0] (B (!inR lo hi x)):=by
 refine t156.1 (by simp) (by simp) ?_;dsimp only [c156,r156,go_sem];repeat (refine gb ?_;dsimp only [go_sem])
 (simp only [inR,Option.some.injEq,SV.v.injEq,Value.bool.injEq]<;>grind)
theorem ZiQ (lo hi:Int) (l:List Int) (hl:l.length < 4611686018427387904) (c:Bool):Ct Tryz.prog 95 [I lo,I hi,.sl c 1 (l.map Zk)] (B (l.all (inR lo hi))):=by
 refine t95.1 (by simp [Za,Zk]) (by simp) ?_;dsimp only [c95,r95,go_sem];refine XK (by simp [FLT]) (res:=B (l.any λx=>!inR lo hi x)) ?_ ?_
 . dsimp only [go_sem];exact Zsv 156 [.ps [I lo] 0,.ps [I hi] 0] (by simp) (λx=>!inR lo hi x) l (λx _=>Zro lo hi x) hl
 . dsimp only [go_sem];simp [List.all_eq_not_any_not]
theorem Zy5 (lo hi a:Int) (c:Bool):Ct Tryz.prog 95 [I lo,I hi,.sl c 1 [[I a]]] (B (inR lo hi a)):=by
 have:=ZiQ lo hi [a] (by simp) c;simpa [Zk] using this
theorem inL2 (lo hi a b:Int) (c:Bool):Ct Tryz.prog 95 [I lo,I hi,.sl c 1 [[I a],[I b]]] (B (inR lo hi a && inR lo hi b)):=by
 have:=ZiQ lo hi [a,b] (by simp) c;simpa [Zk] using this
theorem V7 (lo hi:Int) (s:Span):Ct Tryz.prog 121 [.agg (Zh s),I lo,I hi] (B (Z4 lo hi s)):=by
 refine t121.1 (by simp [Zh]) (by simp) ?_;dsimp only [c121,r121,Zh,go_sem];repeat (first | (refine gb ?_;dsimp only [go_sem]) | (refine call (inL2 _ _ _ _ _) ?_;dsimp only [go_sem]))
 (simp only [Z4,inR,Option.some.injEq,SV.v.injEq,Value.bool.injEq]<;>grind)
theorem Zb0 (m n:Int) (h0:0<=m * n) (h1:m * n<=1000000000):Ct Tryz.prog 176 [I m,I n] (.tup [I ((m * n).tdiv 1000),I (upF (m * n) 1000)]):=by
 refine t176.1 (by simp) (by simp) ?_;dsimp only [c176,r176,go_sem];rw [Zf (n:=m * n) (by omega) (by omega)];refine ZsA (by decide) ?_;dsimp only [go_sem];refine ZsA (by decide) ?_;dsimp only [go_sem];have e1:(m * n).tdiv 1000=m * n / 1000:=Int.tdiv_eq_ediv_of_nonneg h0;have e2:(m * n+1000 - 1).tdiv 1000=(m * n+1000 - 1) / 1000:=Int.tdiv_eq_ediv_of_nonneg (by omega);simp (disch:=omega) only [Zf];rw [upF]
def VZ (p:Pack):SV:=.tup [.agg (Zh (YN p).1),.agg (Zh (YN p).2.1),U8 (YN p).2.2]
structure PackB (p:Pack):Prop where
 m0:0<=p.mass.lo
 m1:p.mass.lo<=p.mass.hi
 m2:p.mass.hi<=1000000
 u0:0<=p.hurt
 d0:0<=p.days
 d1:p.days<=100000
theorem ZtR {p:Pack} (h:ZJ p=true):PackB p:=by
 simp only [ZJ,Z4,inR,Bool.and_eq_true,decide_eq_true_eq] at h;exact ⟨by omega,by omega,by omega,by omega,by omega,by omega⟩
theorem ZtS (p:Pack) (hk:p.kind=2):Ct Tryz.prog 125 [.agg (Zj p)] (VZ p):=by
 refine t125.1 (by simp [Zj]) (by simp [VZ,Zh]) ?_;dsimp only [c125,r125,Zj,go_sem];have:YN p=(p.mass,ZB,0):=by unfold YN;rw [if_neg (by omega),if_pos (.inl hk)]
 rw [VZ,this];rfl
theorem Zq8 (p:Pack) (h:ZJ p=true) (hk:p.kind=1):Ct Tryz.prog 123 [.agg (Zj p)] (VZ p):=by
 have hb:=ZtR h;simp only [ZJ,Vb,if_pos hk,Z4,Bool.and_eq_true,decide_eq_true_eq] at h;obtain ⟨_,⟨g1,g2⟩,g3⟩:=h;obtain ⟨m0,m1,m2,u0,d0,d1⟩:=hb;have q1:0<=p.mass.lo * (1000 - p.crumbs.hi)/\p.mass.lo * (1000 - p.crumbs.hi)<=1000000 * 1000:=⟨Int.mul_nonneg (by omega) (by omega),Int.mul_le_mul (by omega) (by omega) (by omega) (by omega)⟩
 have q2:0<=p.mass.hi * p.crumbs.hi/\p.mass.hi * p.crumbs.hi<=1000000 * 1000:=⟨Int.mul_nonneg (by omega) (by omega),Int.mul_le_mul (by omega) (by omega) (by omega) (by omega)⟩
 have q3:0<=p.mass.hi * (1000 - p.crumbs.lo)/\p.mass.hi * (1000 - p.crumbs.lo)<=1000000 * 1000:=⟨Int.mul_nonneg (by omega) (by omega),Int.mul_le_mul (by omega) (by omega) (by omega) (by omega)⟩
 have q4:0<=p.mass.lo * p.crumbs.lo/\p.mass.lo * p.crumbs.lo<=1000000 * 1000:=⟨Int.mul_nonneg (by omega) (by omega),Int.mul_le_mul (by omega) (by omega) (by omega) (by omega)⟩
 refine t123.1 (by simp [Zj]) (by simp [VZ,Zh]) ?_;dsimp only [c123,r123,Zj,go_sem];by_cases h1:p.hurt < p.hard.lo
 . refine Zs (by simpa using h1) ?_;dsimp only [go_sem];have:YN p=(p.mass,ZB,0):=by unfold YN;rw [if_neg (by omega),if_pos (.inr h1)]
   rw [VZ,this];rfl
 refine Zp (by simpa using h1) ?_;dsimp only [go_sem];rw [Zf (n:=1000 - p.crumbs.hi) (by omega) (by omega)];refine call (Zb0 _ _ q1.1 (by omega)) ?_;dsimp only [go_sem];refine call (Zb0 _ _ q2.1 (by omega)) ?_;dsimp only [go_sem];by_cases h2:p.hurt < p.hard.hi
 . refine Zs (by simpa using h2) ?_;dsimp only [go_sem];have:YN p=(⟨(p.mass.lo * (1000 - p.crumbs.hi)).tdiv 1000,p.mass.hi⟩,⟨0,upF (p.mass.hi * p.crumbs.hi) 1000⟩,1):=by unfold YN;rw [if_neg (by omega),if_neg (by omega),if_pos h2]
   rw [VZ,this];rfl
 refine Zp (by simpa using h2) ?_;dsimp only [go_sem];rw [Zf (n:=1000 - p.crumbs.lo) (by omega) (by omega)];refine call (Zb0 _ _ q3.1 (by omega)) ?_;dsimp only [go_sem];refine call (Zb0 _ _ q4.1 (by omega)) ?_;dsimp only [go_sem];have:YN p=(⟨(p.mass.lo * (1000 - p.crumbs.hi)).tdiv 1000,upF (p.mass.hi * (1000 - p.crumbs.lo)) 1000⟩,⟨(p.mass.lo * p.crumbs.lo).tdiv 1000,upF (p.mass.hi * p.crumbs.hi) 1000⟩,2):=by unfold YN;rw [if_neg (by omega),if_neg (by omega),if_neg h2]
 rw [VZ,this];rfl
theorem ZuK (p:Pack) (h:ZJ p=true) (hk:p.kind=3):Ct Tryz.prog 127 [.agg (Zj p)] (VZ p):=by
 have hb:=ZtR h;simp only [ZJ,Vb,if_neg (show ¬ p.kind=1 by omega),if_neg (show ¬ p.kind=2 by omega),Z4,Bool.and_eq_true,decide_eq_true_eq] at h;obtain ⟨_,⟨⟨g0,g1⟩,g2⟩,g3⟩:=h;obtain ⟨m0,m1,m2,u0,d0,d1⟩:=hb;have q1:0<=p.leak.lo * p.days/\p.leak.lo * p.days<=1000000 * 100000:=⟨Int.mul_nonneg (by omega) (by omega),Int.mul_le_mul (by omega) (by omega) (by omega) (by omega)⟩
 have q2:0<=p.leak.hi * p.days/\p.leak.hi * p.days<=1000000 * 100000:=⟨Int.mul_nonneg (by omega) (by omega),Int.mul_le_mul (by omega) (by omega) (by omega) (by omega)⟩
 refine t127.1 (by simp [Zj]) (by simp [VZ,Zh]) ?_;dsimp only [c127,r127,Zj,go_sem];simp (disch:=omega) only [Zf];have:YN p=(⟨max (p.mass.lo - p.leak.hi * p.days) 0,max (p.mass.hi - p.leak.lo * p.days) 0⟩,⟨min p.mass.lo (p.leak.lo * p.days),min p.mass.hi (p.leak.hi * p.days)⟩,0):=by unfold YN;rw [if_pos hk]
 rw [VZ,this];rfl
theorem Zpc (p:Pack):Ct Tryz.prog 122 [.agg (Zj p)] (B (Z4 1 100000 p.hard && Z4 0 1000 p.crumbs && decide (p.leak=ZB))):=by
 refine t122.1 (by simp [Zj]) (by simp) ?_;dsimp only [c122,r122,Zj,go_sem];repeat (first | (refine gb ?_;dsimp only [go_sem]) | (refine call (V7 _ _ ⟨_,_⟩) ?_;dsimp only [Zh,go_sem]))
 rw [show (decide (p.leak=ZB))=(decide (p.leak.lo=0) && decide (p.leak.hi=0)) from by rw [Bool.eq_iff_iff];obtain ⟨_,_,_,_,⟨a,b⟩,_,_⟩:=p;simp [ZB]]
 (simp only [Option.some.injEq,SV.v.injEq,Value.bool.injEq]<;>grind)
theorem Zpu (p:Pack):Ct Tryz.prog 124 [.agg (Zj p)] (B (decide (p.hard=ZB) && decide (p.crumbs=ZB) && decide (p.leak=ZB))):=by
 refine t124.1 (by simp [Zj]) (by simp) ?_;dsimp only [c124,r124,Zj,go_sem];repeat (refine gb ?_;dsimp only [go_sem])
 have e:∀ s:Span,decide (s=ZB)=(decide (s.lo=0) && decide (s.hi=0)):=λs=>by rw [Bool.eq_iff_iff];obtain ⟨a,b⟩:=s;simp [ZB]
 rw [e,e,e]
 (simp only [Option.some.injEq,SV.v.injEq,Value.bool.injEq]<;>grind)
theorem Znu (p:Pack):Ct Tryz.prog 126 [.agg (Zj p)] (B (decide (p.hard=ZB) && decide (p.crumbs=ZB) && Z4 0 1000000 p.leak)):=by
 refine t126.1 (by simp [Zj]) (by simp) ?_;dsimp only [c126,r126,Zj,go_sem];repeat (first | (refine gb ?_;dsimp only [go_sem]) | (refine call (V7 _ _ ⟨_,_⟩) ?_;dsimp only [Zh,go_sem]))
 have e:∀ s:Span,decide (s=ZB)=(decide (s.lo=0) && decide (s.hi=0)):=λs=>by rw [Bool.eq_iff_iff];obtain ⟨a,b⟩:=s;simp [ZB]
 rw [e,e]
 (simp only [Option.some.injEq,SV.v.injEq,Value.bool.injEq]<;>grind)
theorem Zw2:Tryz.prog.underlying 146=some (.map 5 145):=by kernel_rfl
theorem u5:Tryz.prog.underlying 5=some (.int .u8):=by kernel_rfl
theorem Zxt:KeyT Tryz.prog 5 (λn:Int=>.int .u8 n) (λn=>.v (.int .u8 n)):=Zqp u5
theorem ZgC:Yl Tryz.prog 145=some (.agg #[.nilFunc,.nilFunc]):=by kernel_rfl
abbrev kB:Int->Value:=λn=>.int .u8 n
abbrev Sd2:=FuncId × FuncId
def Zaj (v:Sd2):SV:=.agg [.cl v.1 [],.cl v.2 []]
def Yb:List (Nat × Int × Sd2):=[(0,1,(122,123)),(1,2,(124,125)),(2,3,(126,127))]
abbrev ZwM:SV:=.q (mqV (mpS kB Zaj Yb))
theorem Vl:∀ e ∈ mpS kB Zaj Yb,KF e.2.2:=by
 intro e he;obtain ⟨x,_,rfl⟩:=List.mem_map.1 he;simp [Zaj,KF,KFL]
theorem ks0:ZaM 0 (1:Int) (122,123) (Yb.take 0)=Yb.take 1/\ZaR 0 (1:Int) (Yb.take 0)=1:=⟨rfl,rfl⟩
theorem ks1:ZaM 1 (2:Int) (124,125) (Yb.take 1)=Yb.take 2/\ZaR 1 (2:Int) (Yb.take 1)=2:=⟨rfl,rfl⟩
theorem ks2:ZaM 2 (3:Int) (126,127) (Yb.take 2)=Yb.take 3/\ZaR 2 (3:Int) (Yb.take 2)=3:=⟨rfl,rfl⟩
theorem ZhI:CtM Tryz.prog 68 [] 0 [] (λo=>o=⟨false,.mp 0,[(0,.map (mpS kB Zaj Yb) 3)],1⟩):=by
 refine m68 (by simp [hpb]) (λo ho=>by subst ho;exact ⟨by simp [KX],by simp only [KXP,KXH,and_true];exact Vl⟩) ?_;dsimp only [c68,r68,go_sem];refine UT rfl rfl rfl ?_;dsimp only [go_sem];refine W1 (key:=kB) (val:=Zaj) (sv:=λn=>.v (kB n)) (L:=Yb.take 0) (k:=1) (v:=(122,123)) (ins:=true) rfl rfl Zw2 Zxt rfl rfl (λ_ _ _ e=>by cases e) ?_;rw [ks0.1,ks0.2];dsimp only [go_sem];refine W1 (key:=kB) (val:=Zaj) (sv:=λn=>.v (kB n)) (L:=Yb.take 1) (k:=2) (v:=(124,125)) (ins:=true) rfl rfl Zw2 Zxt rfl rfl (λ_ _ _ e=>by cases e) ?_
 rw [ks1.1,ks1.2];dsimp only [go_sem];refine W1 (key:=kB) (val:=Zaj) (sv:=λn=>.v (kB n)) (L:=Yb.take 2) (k:=3) (v:=(126,127)) (ins:=true) rfl rfl Zw2 Zxt rfl rfl (λ_ _ _ e=>by cases e) ?_;rw [ks2.1,ks2.2];dsimp only [go_sem];refine ⟨_,rfl,?_⟩;rw [show Yb.take 3=Yb from rfl];refine Zq ?_ ?_ ?_ rfl
 . dsimp only [id,go_sem];exact ⟨by omega,rfl⟩
 . dsimp only [id,go_sem];exact ⟨⟨rfl,Vl⟩,trivial⟩
 . dsimp only [id,go_sem];exact ⟨by omega,trivial⟩
theorem Zen:Ct Tryz.prog 68 [] ZwM:=by
 refine Zjf ZhI trivial trivial ?_;rintro o rfl;exact ⟨rfl,λC E w y h1 h2 h3=>mq_of h1 h2 rfl Vl h3⟩
theorem ZbU {p:Pack} {v:Sd2} (h:W4 p.kind Yb=some v):Ct Tryz.prog v.1 [.agg (Zj p)] (B (Vb p))/\(ZJ p=true->Ct Tryz.prog v.2 [.agg (Zj p)] (VZ p)):=by
 simp only [W4,Yb] at h;split at h
 . rename_i q;cases h;have:=Zpc p;rw [Vb,if_pos q.symm];exact ⟨this,λg=>Zq8 p g q.symm⟩
 split at h
 . rename_i q;cases h;have:=Zpu p;rw [Vb,if_neg (by omega),if_pos q.symm];exact ⟨this,λg=>ZtS p q.symm⟩
 split at h
 . rename_i q;cases h;have:=Znu p;rw [Vb,if_neg (by omega),if_neg (by omega),decide_eq_true q.symm,Bool.true_and];exact ⟨this,λg=>ZuK p g q.symm⟩
 . cases h
theorem Zic {p:Pack} (h:W4 p.kind Yb=none):Vb p=false:=by
 rw [VD] at h;have h1:¬ p.kind=1:=λe=>h _ (by simp [Yb];exact .inl rfl) e.symm;have h2:¬ p.kind=2:=λe=>h _ (by simp [Yb];exact .inr (.inl rfl)) e.symm;have h3:¬ p.kind=3:=λe=>h _ (by simp [Yb];exact .inr (.inr rfl)) e.symm;simp [Vb,h1,h2,h3]
abbrev zk:SV:=.agg [.v .nilFunc,.v .nilFunc]
theorem zk_R:∀ w E n ok,R w E n ok zk (.agg #[.nilFunc,.nilFunc]):=λw E n ok=>by
 simp only [R,RL];exact ⟨_,rfl,_,_,rfl,rfl,_,_,rfl,rfl,rfl⟩
theorem Zcj (p:Pack):Ct Tryz.prog 67 [.agg (Zj p)] (B (ZJ p)):=by
 refine t67.1 (by simp [Zj]) (by simp) ?_;dsimp only [c67,r67,Zj,go_sem];refine call Zen ?_;dsimp only [go_sem];have hrv:=λσ h1 h2=>Zj4 (P:=Tryz.prog) (t:=146) (σ:=σ) (i:=6) (j:=8) (ok:=true) (key:=kB) (val:=Zaj) (sv:=λn=>.v (kB n)) (L:=Yb) (k:=p.kind) (zs:=zk) h1 Vl h2 Zw2 Zxt ZgC zk_R;cases hg:W4 p.kind Yb with
 | none =>
  refine ⟨_,hrv _ rfl rfl,?_⟩;rw [hg];dsimp only [lkS,go_sem];repeat (refine Zj2 (by decide) ?_;dsimp only [go_sem])
  have:=Zic hg;simp [ZJ,this]
 | some v =>
  obtain ⟨k1,-⟩:=ZbU (p:=p) hg;refine ⟨_,hrv _ rfl rfl,?_⟩;rw [hg];dsimp only [lkS,Zaj,go_sem];repeat (first | (refine gb ?_;dsimp only [go_sem]) | (refine call (V7 _ _ p.mass) ?_;dsimp only [Zh,go_sem]) | (refine call (Zy5 _ _ _ _) ?_;dsimp only [go_sem]) | (refine call k1 ?_;dsimp only [go_sem]))
  (simp only [ZJ,Option.some.injEq,SV.v.injEq,Value.bool.injEq]<;>grind)
theorem ZmP (p:Pack) (h:ZJ p=true):Ct Tryz.prog 16 [.agg (Zj p)] (.tup [.agg (Zh (YN p).1),.agg (Zh (YN p).2.1),U8 (YN p).2.2,I 0]):=by
 refine t16.1 (by simp [Zj]) (by simp [Zh]) ?_;dsimp only [c16,r16,Zj,go_sem];refine call (Zcj p) ?_;rw [h];dsimp only [go_sem];refine Zp rfl ?_;dsimp only [go_sem];refine call Zen ?_;dsimp only [go_sem];have hrv:=λσ h1 h2=>Zj4 (P:=Tryz.prog) (t:=146) (σ:=σ) (i:=12) (j:=14) (ok:=false) (key:=kB) (val:=Zaj) (sv:=λn=>.v (kB n)) (L:=Yb) (k:=p.kind) (zs:=zk) h1 Vl h2 Zw2 Zxt ZgC zk_R;cases hg:W4 p.kind Yb with
 | none =>
  have:=Zic hg;simp [ZJ,this] at h
 | some v =>
  obtain ⟨-,k1⟩:=ZbU (p:=p) hg;refine ⟨_,hrv _ rfl rfl,?_⟩;rw [hg];dsimp only [lkS,Zaj,go_sem];refine call (k1 h) ?_;dsimp only [VZ,Zh,go_sem]
end Go.Proofs.YtkpkgafhfakpdaaGreatDoor
namespace Go.Sx
open Go Go.RowKit
section
variable {P:Program} {σ : St} {r:KT} {K:RK} {T t ty:TypeId} {m:Nat}
theorem ZbK {ax:Operand} {d:Option Nat} (hx:ZaS σ ax = .v (.slice none 0 0)) (ht:P.underlying t=some (.slice T)) (h:Yh d (.v (.int .i64 0)) none σ r K) :
 RAW P d (.call ⟨.builtin .cap,#[ax],#[t]⟩) ty σ r K:=by
 intro o C E a w next Q e1 e2 e3 hS hn hq;have hxv:=W8 hS hx (λ_ _ _=>by simp);simp only [R] at hxv;have hrun:(Builtin.cap_ #[t] ty #[a.eval ax]).run P w = .ok (.int .i64 0) w:=by
  rw [hxv];simp [Builtin.cap_,Sem.run_bind,run_underlying ht,goInt]
 have hx:(execOp a.eval o).run P w = .ok (.value (.int .i64 0)) w:=by
  obtain ⟨dst',op',ty',pos,after,guard⟩:=o;simp only at e2 e3;subst e2;subst e3;simp [execOp,resolve,invoke,builtin,hrun]
 refine ZA hx (by simp) ?_;show next (a.put o.dst _) _;rw [e1];exact WY h hS (by simp only [R]) hn
theorem ZbO {ax:Operand} {d:Option Nat} (hx:ZaS σ ax = .v (.slice none 0 0)) (ht:P.underlying t=some (.slice T)) (h:Yh d (.v (.int .i64 0)) none σ r K) :
 RAW P d (.call ⟨.builtin .len,#[ax],#[t]⟩) ty σ r K:=by
 intro o C E a w next Q e1 e2 e3 hS hn hq;have hxv:=W8 hS hx (λ_ _ _=>by simp);simp only [R] at hxv;have hrun:(Builtin.len_ #[t] ty #[a.eval ax]).run P w = .ok (.int .i64 0) w:=by
  rw [hxv];simp [Builtin.len_,Sem.run_bind,run_underlying ht,goInt]
 have hx:(execOp a.eval o).run P w = .ok (.value (.int .i64 0)) w:=by
  obtain ⟨dst',op',ty',pos,after,guard⟩:=o;simp only at e2 e3;subst e2;subst e3;simp [execOp,resolve,invoke,builtin,hrun]
 refine ZA hx (by simp) ?_;show next (a.put o.dst _) _;rw [e1];exact WY h hS (by simp only [R]) hn
theorem Zep {w:World} {ad:Option Addr} {len cap:Nat} (ht:P.underlying t=some (.slice T)) (hm:Xf P T=some m) :
 (Instr.sliceAt t (.slice ad len cap) none (some (.int .i64 0)) none).run P w = .ok (.slice (if cap=0 then ad else ad.map (·.add (0 * m))) 0 cap) w:=by
 rw [YU _ _ _ _ ht];simp [Instr.slice,Instr.sliceBounds,Instr.sliceBound,Sem.run_bind,run_underlying ht,ZW hm,asInt,asIntOf]
theorem Ztq {ax ay:Operand} {d:Option Nat} (hx:ZaS σ ax = .v (.slice none 0 0)) (hy:ZaS σ ay = .v (.int .i64 0)) (ht:P.underlying t=some (.slice T)) (hm:Xf P T=some m) (h:Yh d (.v (.slice none 0 0)) none σ r K) :
 RAW P d (.slice t ax none (some ay) none) ty σ r K:=by
 intro o C E a w next Q e1 e2 e3 hS hn hq;have hxv:=W8 hS hx (λ_ _ _=>by simp);have hyv:=W8 hS hy (λ_ _ _=>by simp);simp only [R] at hxv hyv;have hx:(execOp a.eval o).run P w = .ok (.value (.slice none 0 0)) w:=by
  obtain ⟨dst',op',ty',pos,after,guard⟩:=o;simp only at e2 e3;subst e2;simp [execOp,Sem.run_bind,hxv,hyv,Zep ht hm]
 refine ZA hx (by simp) ?_;show next (a.put o.dst _) _;rw [e1];exact WY h hS (by simp only [R]) hn
theorem ZgA {w:World} {E:Env} {k ok:Nat->Prop} {z:Value}:∀ n:Nat,RL w E k ok (List.replicate n [SV.v z]).flatten (List.replicate n z)
 | 0=>by simp [RL]
 | n+1=>by simp only [List.replicate_succ,List.flatten_cons,List.singleton_append,RL];exact ⟨_,_,rfl,by simp only [R],ZgA n⟩
theorem Zmb {ax ay:Operand} {u n:Nat} {tn:TypeId} {i:TypeInfo} {z:Value} (hx:ZaS σ ax = .v (.slice none 0 0)) (hy:ZaS σ ay = .v (.int .i64 n)) (h1:YT u σ.gs=false) (h2:Nat.blt u σ.N=true)
 (ht:P.underlying t=some (.slice T)) (htn:P.underlying tn=some (.int .i64)) (hi:P.info? T=some i) (hz:i.zero=some z) (hs:i.size=1) (hz1:z.oneCell'=true) (h0:0 < n) (hb:n * i.bytes<=140737488355328) (hn6:n<=4611686018427387904)
 (h:r ⟨(u,.mr σ.n 0) :: σ.fr,(σ.n,.row 0 1 (List.replicate n [.v z]) T) :: σ.hp,σ.n+1,σ.N,σ.gs⟩ K) :
 RAW P (some u) (.call ⟨.builtin .append,#[ax,ay],#[t,tn]⟩) ty σ r K:=by
 intro o C E a w next Q e1 e2 e3 hS hn hq;have hxv:=W8 hS hx (λ_ _ _=>by simp);have hyv:=W8 hS hy (λ_ _ _=>by simp);simp only [R] at hxv hyv;have hz':z.cells = #[z]:=ZaK hz1;have hnx:Builtin.nextslicecap (0+n) 0=n:=by simp [Builtin.nextslicecap,h0]
 have hrun:=Lib.run_append_grow_zeros (P:=P) w t tn ty T i z .i64 .i64 ht htn hi hz none 0 0 [] (run_firstCells_none w.drew i.size 0 0 0) n h0 (by omega) (by omega) (by omega) (by omega) (by rw [hnx];omega);generalize hcap:grownCap w (0+n) 0 T=cap at hrun;have hcl:n<=cap:=by
  have:=grownCap_ge w (0+n) 0 T;omega
 let cs:Array Value:=(([]:List Value).toArray ++ Builtin.zeroCells z.cells n ++ Builtin.zeroCells z.cells (cap - (0+n)))
 have hzc:∀ k,Builtin.zeroCells z.cells k=Array.replicate k z:=by
  intro k;apply Array.toList_inj.1;rw [hz'];simp [Builtin.zeroCells]
  exact List.eq_replicate_iff.2 ⟨by simp,λb hb=>by
   obtain ⟨i,_,rfl⟩:=List.mem_map.1 hb
   simp [Nat.mod_one]⟩
 have hcs:cs=Array.replicate cap z:=by
  simp only [cs,hzc];apply Array.toList_inj.1;simp;omega
 have hbel:Below w.heap.size w (w.drew.alloc (.cells cs T)):=((Below.refl _ _).drew).alloc (Nat.le_refl _) _;obtain ⟨E',k1,k2,k3,k4,k5⟩:=Xo (q:=σ.n) (m:=1) (xs:=List.replicate n [.v z]) (T:=T) (v:=.slice (some ⟨w.heap.size,0,none⟩) n cap) hS.hs (by simp [ltn]) hbel
  (.inr ⟨cap,cs,by simp,heap_alloc_new _ _,by rw [hcs];simp,⟨by simp;omega,by omega⟩,by simp;omega,λq hq=>by rw [List.eq_of_mem_replicate hq];rfl,by
   rw [hcs];simp only [List.length_replicate,Nat.mul_one,Array.toList_replicate,List.take_replicate,Nat.min_eq_left hcl]
   exact ZgA n⟩)
 have hV:(λk=>ltn σ.n k\/k = σ.n)=ltn (σ.n+1):=by funext k;simp only [ltn,eq_iff_iff];omega
 rw [hV] at k4;have hx:(execOp a.eval o).run P w = .ok (.value (.slice (some ⟨w.heap.size,0,none⟩) n cap)) (w.drew.alloc (.cells cs T)):=by
  obtain ⟨dst',op',ty',pos,after,guard⟩:=o;simp only at e2 e3;subst e2;subst e3;rw [<- hxv,<- hyv] at hrun;simp [execOp,resolve,invoke,builtin,hrun,cs]
 refine ZA hx (by simp) ?_;show next (a.put o.dst _) _;rw [e1];refine hn _ E' _ _ h (YJ hS k5 k1 (by omega) k4 (λhh=>?_) (by simpa [Nat.blt_eq] using h2) (λ_ _ _ e=>by cases e) ?_)
 . rw [ZO.2 hh] at h1;cases h1
 . simp only [R];exact ⟨by simp [ltn],by omega,by rw [k2];exact ⟨rfl,rfl⟩⟩
theorem Zso {ax ay:Operand} {u k v:Nat} {xs:List (List SV)} (hx:ZaS σ ax = .mr k v) (hk:lkh k σ.hp = .row v m xs T) (hy:ZaS σ ay = .v (.int .i64 0)) (ht:P.underlying t=some (.slice T)) (hm:Xf P T=some m)
 (h1:YT u σ.gs=false) (h2:Nat.blt u σ.N=true) (h:r ⟨(u,.mr k (v+1)) :: σ.fr,(k,.row (v+1) m [] T) :: σ.hp,σ.n,σ.N,σ.gs⟩ K) :
 RAW P (some u) (.slice t ax none (some ay) none) ty σ r K:=by
 intro o C E a w next Q e1 e2 e3 hS hn hq;have hxv:=W8 hS hx (λ_ _ _=>by simp);have hyv:=W8 hS hy (λ_ _ _=>by simp);simp only [R] at hxv hyv;obtain ⟨hnk,hvi,hxv,_⟩:=hxv;have hb:=hS.hs.bk k;rw [hk] at hb;simp only [Z0] at hb;obtain ⟨his,hb⟩:=hb
 have key:∃ y,(execOp a.eval o).run P w = .ok (.value y) w/\y.oneCell'=true/\((([]:List (List SV))=[]/\∃ a,y = .slice a 0 0)\/∃ b cap cs,y = .slice (some ⟨b,0,none⟩) ([]:List (List SV)).length cap/\(occ E k (lkh k σ.hp) b\/w.heap.size<=b)/\w.heap[b]? = some (.cells cs T (0,0))/\cs.size=cap * m/\(([]:List (List SV)).length<=cap/\cap≠0)/\([]:List (List SV)).length<=9223372036854775807 /\
  (∀ r ∈ ([]:List (List SV)),r.length=m)/\RL w E (ltn σ.n) (okS C E σ.hp) ([]:List (List SV)).flatten (cs.toList.take (([]:List (List SV)).length * m))):=by
  have hex:∀ {ad len cap},a.eval ax = .slice ad len cap->(execOp a.eval o).run P w = .ok (.value (.slice (if cap=0 then ad else ad.map (·.add (0 * m))) 0 cap)) w:=by
   intro ad len cap he;obtain ⟨dst',op',ty',pos,after,guard⟩:=o;simp only at e2 e3;subst e2;simp [execOp,Sem.run_bind,he,hyv,Zep ht hm]
  rcases hb with ⟨g0,a0,g1⟩ | ⟨b,cap,cs,g1,g2,g3,g4,g5,g6,g7⟩
  . rw [hxv] at hex;exact ⟨_,hex g1,rfl,.inl ⟨rfl,_,rfl⟩⟩
  . rw [hxv] at hex;have:=hex g1;rw [if_neg g4.2] at this;refine ⟨_,this,rfl,.inr ⟨b,cap,cs,by simp [Addr.add],.inl (by rw [hk];exact ⟨_,_,g1,g4.2⟩),g2,g3,⟨Nat.zero_le _,g4.2⟩,by simp,λr hr=>by simp at hr,by simp [RL]⟩⟩
 obtain ⟨y,hrun,hone,hv⟩:=key;obtain ⟨E',g1',g2',g3',g4',g5',g6'⟩:=Zex (w':=w) (xs':=[]) (y:=y) hS.hs hk rfl rfl rfl (Nat.le_refl _) (λ_ _ _=>rfl) hv;refine ZA hrun (by simp) ?_;show next (a.put o.dst _) w;rw [e1]
 exact hn _ E' _ _ h (YJ (σ:=σ) (hp':=(k,.row (v+1) m [] T) :: σ.hp) hS g6' g1' (Nat.le_refl _) g5' (λhh=>by rw [ZO.2 hh] at h1;cases h1) (by simpa [Nat.blt_eq] using h2) (λ_ _ _ e=>by cases e)
  (by simp only [R];exact ⟨g4',by omega,g2'.symm,hone⟩))
end
end Go.Sx
namespace Go.Proofs.YtkpkgafhfakpdaaGreatDoor
open Go Go.Sx Go.Azalai
theorem Zxu (h:Nat) (caps:List SV) (hk:KFL caps) (g:Pack->Bool) (l:List Pack) (hg:∀ x ∈ l,Ct Tryz.prog h (.agg (Zj x) :: caps) (B (g x))) (hl:l.length < 4611686018427387904) {c:Bool} :
 Ct Tryz.prog 202 [.sl c 11 (l.map Zj),.cl h caps] (I (Yw g l 0)):=by
 refine t202.1 ⟨by simp [KF,Za,KFL,Zj],hk,trivial⟩ (by simp [KF]) ?_;dsimp only [c202,r202,go_sem];refine Z1 (λk:Nat=>[(8,I k)]) (λ_=>[]) (λk=>k<=l.length/\Yw g (l.drop k) k=Yw g l 0) (λk=>l.length - k) 0 ⟨Nat.zero_le _,rfl⟩ ?_ ?_
 . (refine Zi ?_ ?_ ?_ rfl rfl<;>dsimp only [Zj,hk,id,go_sem]<;>simp [Zj,hk,Za])
 . intro k ⟨hk',hi⟩;dsimp only [go_sem];refine br ?_ ?_
   . intro hlt;have hlt:k < l.length:=by simpa using hlt
     dsimp only [go_sem];refine Zu k hlt rfl ?_;dsimp only [Zj,go_sem];refine call (hg l[k] (List.getElem_mem _)) ?_;dsimp only [go_sem];refine br ?_ ?_
     . intro hgx;dsimp only [go_sem];rw [<- hi,List.drop_eq_getElem_cons hlt];simp [Yw,hgx]
     . intro hgx;dsimp only [go_sem];refine ⟨k+1,⟨by omega,?_⟩,by omega,?_⟩
       . rw [<- hi,List.drop_eq_getElem_cons hlt];simp [Yw,hgx]
       . rw [Zf (by omega) (by omega)];(refine Zi ?_ ?_ ?_ rfl rfl<;>dsimp only [Zj,hk,id,go_sem]<;>simp [Zj,hk,Za])
   . intro hlt;have hlt:k=l.length:=by simp at hlt;omega
     dsimp only [go_sem];rw [<- hi,hlt];simp [Yw]
theorem Zxn (h:Nat) (caps:List SV) (hk:KFL caps) (g:Pack->Bool) (l:List Pack) (hg:∀ x ∈ l,Ct Tryz.prog h (.agg (Zj x) :: caps) (B (g x))) (hl:l.length < 4611686018427387904) {c:Bool} :
 Ct Tryz.prog 159 [.sl c 11 (l.map Zj),.cl h caps] (B (l.any g)):=by
 refine t159.1 ⟨by simp [KF,Za,KFL,Zj],hk,trivial⟩ (by simp [KF]) ?_;dsimp only [c159,r159,go_sem];refine call (Zxu h caps hk g l hg hl) ?_;dsimp only [go_sem];rw [Y9]
theorem Zfm (p:Pack):Ct Tryz.prog 160 [.agg (Zj p),.ps [.cl 67 []] 0] (B (!ZJ p)):=by
 refine t160.1 (by simp [Zj]) (by simp) ?_;dsimp only [c160,r160,Zj,go_sem];refine call (Zcj p) ?_;dsimp only [go_sem]
theorem ZcD (l:List Pack) (hl:l.length < 4611686018427387904) (c:Bool):Ct Tryz.prog 100 [.sl c 11 (l.map Zj),.cl 67 []] (B (l.all ZJ)):=by
 refine t100.1 (by simp [Za,Zj]) (by simp) ?_;dsimp only [c100,r100,go_sem];refine XK (by simp [FLT]) (res:=B (l.any λx=>!ZJ x)) ?_ ?_
 . dsimp only [go_sem];exact Zxn 160 [.ps [.cl 67 []] 0] (by simp) (λx=>!ZJ x) l (λx _=>Zfm x) hl
 . dsimp only [go_sem];simp [List.all_eq_not_any_not]
theorem Zhf {l:List Span} {k:Nat} {acc:Span} (hb:∀ s ∈ l,0<=s.lo/\s.lo<=s.hi/\s.hi<=1000000) (hl:l.length<=1000) (hk:k < l.length) (h0:0<=acc.lo) (h1:acc.lo<=acc.hi) (h2:acc.hi<=k * 1000000) :
 -9223372036854775808<=acc.lo+l[k].lo/\acc.lo+l[k].lo<=9223372036854775807/\-9223372036854775808<=acc.hi+l[k].hi/\acc.hi+l[k].hi<=9223372036854775807/\0<=(ZeV acc l[k]).lo/\(ZeV acc l[k]).lo<=(ZeV acc l[k]).hi/\(ZeV acc l[k]).hi<=((k+1:Nat):Int) * 1000000:=by
 have:=hb l[k] (List.getElem_mem hk);simp only [ZeV];omega
theorem ZyA (l:List Span) (hb:∀ s ∈ l,0<=s.lo/\s.lo<=s.hi/\s.hi<=1000000) (hl:l.length<=1000) (c:Bool):Ct Tryz.prog 111 [.sl c 2 (l.map Zh)] (.agg (Zh (ZeL ZB l))):=by
 refine t111.1 (by simp [Za,Zh]) (by simp [Zh]) ?_;dsimp only [c111,r111,go_sem];simp only [List.length_map];refine Z1 (λq:Nat × Span=>[(7,I q.1)]) (λq=>[(0,.cells (Zh q.2) 23)]) (λq=>q.1<=l.length/\(0<=q.2.lo/\q.2.lo<=q.2.hi/\q.2.hi<=q.1 * 1000000)/\ZeL q.2 (l.drop q.1)=ZeL ZB l) (λq=>l.length - q.1) (0,ZB) ⟨Nat.zero_le _,by decide,rfl⟩ ?_ ?_
 . (refine Zi ?_ ?_ ?_ rfl rfl<;>dsimp only [Zh,ZB,id,go_sem]<;>simp [Zh,ZB,Za])
 rintro ⟨k,acc⟩ ⟨hk,ha,hi⟩;simp only at hk ha hi;dsimp only [Zh,go_sem];by_cases hlt:k < l.length
 . refine Zs (by simpa using hlt) ?_;dsimp only [go_sem];refine Zu k hlt rfl ?_;dsimp only [Zh,go_sem];obtain ⟨w1,w2,w3,w4,w5,w6,w7⟩:=Zhf hb hl hlt ha.1 ha.2.1 ha.2.2;rw [Zf (n:=acc.lo+l[k].lo) (by omega) (by omega),Zf (n:=acc.hi+l[k].hi) (by omega) (by omega),Zf (n:=(k:Int)+1) (by omega) (by omega)];rw [List.drop_eq_getElem_cons hlt,ZeL] at hi;refine ⟨(k+1,ZeV acc l[k]),⟨hlt,⟨w5,w6,w7⟩,hi⟩,by simp only;omega,?_⟩
   (refine Zi ?_ ?_ ?_ rfl rfl<;>dsimp only [Zh,ZeV,id,go_sem]<;>simp [Zh,ZeV,Za])
 refine Zp (by simp;omega) ?_;dsimp only [go_sem];have:k=l.length:=by omega
 subst this;rw [List.drop_length,ZeL] at hi;rw [<- hi]
def Zfl (l:List Pack) (t:Tied):List SV:=[.sl false 1 (t.left.map Zk),.sl false 1 (t.right.map Zk),.sl false 1 (t.top.map Zk),.sl false 2 (l.map λp=>Zh (YN p).1)]
theorem ZkE {l:List Pack} {k:Nat} (h:k < l.length):Uo l (k:Int)=(YN l[k]).1:=by
 simp [Uo,List.getD_eq_getElem?_getD,List.getElem?_eq_getElem h]
theorem Zj3 {α : Type} {f:α->List SV} (h:∀ x,KFL (f x)) (n:Nat) (l:List α):KFR (List.take n (List.map f l)):=by
 rw [<- List.map_take,Za];exact λx _=>h x
theorem Zwd (n:Nat) (l:List Pack):KFR (List.take n (List.map (λp=>[I (YN p).1.lo,I (YN p).1.hi]) l)):=Zj3 (λ_=>by simp) n l
theorem ZwV (n:Nat) (l:List Pack) (q:List Int):KFR (List.take n (List.map (λi=>[I (Uo l i).lo,I (Uo l i).hi]) q)):=Zj3 (λ_=>by simp) n q
theorem XO (l:List Pack) (t:Tied) (q:List Int) (hp:l.all ZJ=true) (hl:l.length<=1000) (hq:∀ i ∈ q,0<=i/\i < l.length) (hql:q.length<=1000) (c:Bool) :
 Ct Tryz.prog 52 [.agg (Zfl l t),.sl c 1 (q.map Zk)] (.agg (Zh (Z7 l q))):=by
 refine t52.1 (by simp [Zfl,Za,Zh,Zk]) (by simp [Zh]) ?_;dsimp only [c52,r52,Zfl,go_sem];simp only [List.length_map];refine Zmc (Xn 5 2 23 rfl rfl) (λs:Nat × Nat=>[(10,I s.1),(5,.mr 2 s.2)]) (λs=>[(2,.row s.2 2 ((q.take s.1).map λi=>Zh (Uo l i)) 23)]) (λs=>s.1<=q.length) (λs=>q.length - s.1) (0,0) (Nat.zero_le _) ?_ ?_
 . (refine Zi ?_ ?_ ?_ rfl rfl<;>dsimp only [Zh,Zk,id,go_sem]<;>simp [Zh,Zk,Za])
 rintro ⟨k,v⟩ hk;simp only at hk;dsimp only [go_sem];by_cases hlt:k < q.length
 . refine Zs (by simpa using hlt) ?_;dsimp only [go_sem];refine Zu k hlt rfl ?_;dsimp only [Zk,go_sem];obtain ⟨h1,h2⟩:=hq q[k] (List.getElem_mem hlt);obtain ⟨j,hj⟩:=Int.eq_ofNat_of_zero_le h1;have hjl:j < l.length:=by omega
   rw [hj];refine Zu j hjl rfl ?_;dsimp only [Zh,go_sem];simp only [nbr];dsimp only [go_sem];refine ⟨(by intro c hc;simp only [List.mem_singleton] at hc;subst hc;rfl),by simp;omega,?_⟩;dsimp only [go_sem];rw [Zf (n:=(k:Int)+1) (by omega) (by omega)];refine ⟨(k+1,v+1),hlt,by simp only;omega,?_⟩;simp only;rw [List.take_succ_eq_append_getElem hlt,List.map_append];simp only [List.map_cons,List.map_nil,hj,ZkE hjl]
   (refine Zi ?_ ?_ ?_ rfl rfl<;>dsimp only [Zh,Zk,ZwV,id,go_sem]<;>simp [Zh,Zk,ZwV,Za])
 refine Zp (by simp;omega) ?_;dsimp only [go_sem];have:k=q.length:=by omega
 subst this;rw [List.take_length];refine XK (by simp [FLT,Zv9,Zh]) (res:=.agg (Zh (Z7 l q))) ?_ ?_
 . dsimp only [go_sem];simp only [nbr];dsimp only [go_sem];have:=ZyA (q.map (Uo l)) (λs hs=>by obtain ⟨i,_,rfl⟩:=List.mem_map.1 hs;exact Zd2 hp i) (by simpa using hql) false;rw [List.map_map] at this;exact this
 . dsimp only [Zh,go_sem]
theorem ZbG (l:List Pack) (hp:l.all ZJ=true) (hl:l.length<=1000) (c:Bool):Ct Tryz.prog 49 [.sl c 11 (l.map Zj)] (.sl false 2 (l.map λp=>Zh (YN p).1)):=by
 refine t49.1 (by simp [Za,Zj]) (by simp [Za,Zh]) ?_;dsimp only [c49,r49,go_sem];simp only [List.length_map];refine Zmc (Xn 3 2 23 rfl rfl) (λs:Nat × Nat=>[(12,I s.1),(3,.mr 0 s.2)]) (λs=>[(0,.row s.2 2 ((l.take s.1).map λp=>Zh (YN p).1) 23)]) (λs=>s.1<=l.length) (λs=>l.length - s.1) (0,0) (Nat.zero_le _) ?_ ?_
 . (refine Zi ?_ ?_ ?_ rfl rfl<;>dsimp only [Zh,Zj,id,go_sem]<;>simp [Zh,Zj,Za])
 rintro ⟨k,v⟩ hk;simp only at hk;dsimp only [go_sem];by_cases hlt:k < l.length
 . refine Zs (by simpa using hlt) ?_;dsimp only [go_sem];refine Zu k hlt rfl ?_;dsimp only [Zj,go_sem];refine call (ZmP l[k] (List.all_eq_true.1 hp _ (List.getElem_mem hlt))) ?_;dsimp only [Zh,go_sem];simp only [nbr];dsimp only [go_sem];refine ⟨(by intro c hc;simp only [List.mem_singleton] at hc;subst hc;rfl),by simp;omega,?_⟩;dsimp only [go_sem];rw [Zf (n:=(k:Int)+1) (by omega) (by omega)];refine ⟨(k+1,v+1),hlt,by simp only;omega,?_⟩
   simp only;rw [List.take_succ_eq_append_getElem hlt,List.map_append];simp only [List.map_cons,List.map_nil];(refine Zi ?_ ?_ ?_ rfl rfl<;>dsimp only [Zh,Zj,Zwd,id,go_sem]<;>simp [Zh,Zj,Zwd,Za])
 refine Zp (by simp;omega) ?_;dsimp only [go_sem];have:k=l.length:=by omega
 subst this;rw [List.take_length];simp only [nbr];dsimp only [go_sem]
theorem Zbh (l:List Pack) (t:Tied) (bound:Int) (hp:l.all ZJ=true) (hl:l.length<=1000) (h1:∀ i ∈ t.left,0<=i/\i < l.length) (h2:∀ i ∈ t.right,0<=i/\i < l.length) (hq1:t.left.length<=1000) (hq2:t.right.length<=1000) (hb:0<=bound/\bound<=1000000000) :
 Ct Tryz.prog 50 [.agg (Zfl l t),I bound] (U8 (Zgn l t bound)):=by
 have b1:=Ux hp t.left;have b2:=Ux hp t.right;refine t50.1 (by simp [Zfl,Za,Zh,Zk]) (by simp) ?_;dsimp only [c50,r50,Zfl,go_sem];refine call (XO l t t.left hp hl h1 hq1 false) ?_;dsimp only [go_sem];refine call (XO l t t.right hp hl h2 hq2 false) ?_;dsimp only [Zh,go_sem];have hbal:Zgn l t bound=Zxc (Z7 l t.left) (Z7 l t.right) bound:=rfl;rw [hbal];generalize Z7 l t.left=a at b1 ⊢;generalize Z7 l t.right=b at b2 ⊢
 rw [Zf (n:=a.lo - b.hi) (by omega) (by omega),Zf (n:=a.hi - b.lo) (by omega) (by omega)];rw [Zf (n:=0 - bound) (by omega) (by omega),Int.zero_sub];refine call (inL2 (-bound) bound (a.lo - b.hi) (a.hi - b.lo) _) ?_;dsimp only [go_sem];by_cases e1:-bound<=a.lo - b.hi/\a.hi - b.lo<=bound
 . by_cases e2:inR (-bound) bound (a.lo - b.hi)=true/\inR (-bound) bound (a.hi - b.lo)=true
   . refine Zs (by simp [e2.1,e2.2]) ?_;dsimp only [go_sem];rw [Zxc,if_pos e1]
   . exfalso;apply e2;simp only [inR,decide_eq_true_eq];omega
 refine Zp (by
  rw [Bool.eq_false_iff];intro h;simp only [Bool.and_eq_true,inR,decide_eq_true_eq] at h
  exact e1 ⟨h.1.1,h.2.2⟩) ?_
 dsimp only [go_sem];repeat (refine gb ?_;dsimp only [go_sem])
 try rw [Zf (n:=0 - bound) (by omega) (by omega),Int.zero_sub]
 by_cases e2:a.lo - b.hi > bound\/a.hi - b.lo < -bound
 . refine Zs (by simpa using e2) ?_;dsimp only [go_sem];rw [Zxc,if_neg e1,if_pos e2]
 refine Zp (by
  rw [Bool.eq_false_iff];intro h
  exact e2 (by simpa using h)) ?_
 dsimp only [go_sem];rw [Zxc,if_neg e1,if_neg e2]
theorem u29:Tryz.prog.underlying 29=some (.slice 3):=by kernel_rfl
theorem u3:Tryz.prog.underlying 3=some (.int .i64):=by kernel_rfl
theorem sz3:Xf Tryz.prog 3=some 1:=by kernel_rfl
theorem info3:∃ i z,Tryz.prog.info? 3=some i/\i.zero=some z/\i.size=1/\z.oneCell'=true/\i.bytes=8:=by
 refine ⟨_,.int .i64 0,rfl,?_,?_,rfl,?_⟩<;>kernel_rfl
theorem ZnS:CtM Tryz.prog 172 [] 0 [.v (.slice none 0 0),I 0] (λo=>o=⟨false,.v (.slice none 0 0),[],0⟩):=by
 refine m172 (by simp [hpb]) (λo ho=>by subst ho;simp [KX,KXP]) ?_;dsimp only [ZyP,ZyV,go_sem];refine Zp rfl ?_;dsimp only [go_sem];refine ZbK rfl u29 ?_;dsimp only [go_sem];refine ZbO rfl u29 ?_;dsimp only [go_sem];refine Zp (by decide) ?_;dsimp only [go_sem];refine ⟨_,rfl,?_⟩;(refine Zq ?_ ?_ ?_ rfl<;>dsimp only [id,go_sem]<;>simp [Za])
theorem ZnQ (n:Nat) (h0:0 < n) (h1:n<=100000):CtM Tryz.prog 172 [] 0 [.v (.slice none 0 0),I n] (λo=>o=⟨false,.mr 0 1,[(0,.row 1 1 [] 3)],1⟩):=by
 obtain ⟨i,z,q1,q2,q3,q4,q5⟩:=info3;refine m172 (by simp [hpb]) (λo ho=>by subst ho;simp [KX,KXP,KXH,KFR]) ?_;dsimp only [ZyP,ZyV,go_sem];refine Zp (by simp) ?_;dsimp only [go_sem];refine ZbK rfl u29 ?_;dsimp only [go_sem];refine ZbO rfl u29 ?_;dsimp only [go_sem];rw [Zf (n:=0 - 0) (by omega) (by omega)];rw [Zf (n:=(n:Int) - (0 - 0)) (by omega) (by omega)];rw [show (n:Int) - (0 - 0)=n from by omega]
 refine Zs (by simp;omega) ?_;dsimp only [go_sem];refine ZbK rfl u29 ?_;dsimp only [go_sem];refine Ztq rfl rfl u29 sz3 ?_;dsimp only [go_sem];refine Zmb rfl rfl rfl rfl u29 u3 q1 q2 q3 q4 h0 (by rw [q5];omega) (by omega) ?_;dsimp only [go_sem];refine ZbO rfl u29 ?_;dsimp only [go_sem];refine Zso rfl rfl rfl u29 sz3 rfl rfl ?_;dsimp only [go_sem];refine ⟨_,rfl,?_⟩;(refine Zq ?_ ?_ ?_ rfl<;>dsimp only [id,go_sem]<;>simp [Za])
theorem ZhO (a b c:List Int) (ha:a.length<=1000) (hb:b.length<=1000) (hc:c.length<=1000) (k:Bool) :
 Ct Tryz.prog 112 [.sl k 1 [[.sl false 1 (a.map Zk)],[.sl false 1 (b.map Zk)],[.sl false 1 (c.map Zk)]]] (.sl false 1 ((a ++ (b ++ c)).map Zk)):=by
 refine t112.1 (by simp [Za,KFR,Zk]) (by simp [Za,Zd,Zk]) ?_;dsimp only [c112,r112,go_sem];refine Yn 4 ?_;dsimp only [Zc,go_sem];refine Zs rfl ?_;dsimp only [go_sem];refine ixs 0 _ rfl rfl ?_;dsimp only [go_sem];simp only [List.length_map];rw [Zf (n:=0+(a.length:Int)) (by omega) (by omega)];refine Zp (by simp) ?_;dsimp only [Zc,go_sem];refine Zs rfl ?_;dsimp only [go_sem];refine ixs 1 _ rfl rfl ?_
 dsimp only [go_sem];simp only [List.length_map];rw [Zf (n:=0+(a.length:Int)+(b.length:Int)) (by omega) (by omega)];refine Zp (by simp;omega) ?_;dsimp only [Zc,go_sem];refine Zs rfl ?_;dsimp only [go_sem];refine ixs 2 _ rfl rfl ?_;dsimp only [go_sem];simp only [List.length_map];rw [Zf (n:=0+(a.length:Int)+(b.length:Int)+(c.length:Int)) (by omega) (by omega)];refine Zp (by simp;omega) ?_;dsimp only [Zc,go_sem]
 refine Zp rfl ?_;dsimp only [go_sem];have hn:(0+(a.length:Int)+(b.length:Int)+(c.length:Int))=((a.length+b.length+c.length:Nat):Int):=by omega
 rw [hn];have one:∀ q:List Int,∀ r ∈ q.map Zk,Ys r=true:=λq r hr=>by obtain ⟨x,_,rfl⟩:=List.mem_map.1 hr;rfl
 by_cases h0:a.length+b.length+c.length=0
 . rw [h0];refine Zr [] ZnS rfl rfl rfl ?_ ?_ ?_
   . (repeat first | dsimp only [go_sem] | simp only [nbr])
     try simp [mtL,mtB,mtS]
   . trivial
   rintro _ rfl
   (repeat first | dsimp only [go_sem] | simp only [nbr])
   refine gh (Xn 6 1 3 rfl rfl) ?_;dsimp only [go_sem];refine Yn 4 ?_;dsimp only [Zc,go_sem];refine Zs rfl ?_;dsimp only [go_sem];refine ixs 0 _ rfl rfl ?_;dsimp only [go_sem];refine ⟨one a,by simp;omega,?_⟩;dsimp only [Zc,go_sem];refine Zs rfl ?_;dsimp only [go_sem];refine ixs 1 _ rfl rfl ?_;dsimp only [go_sem];refine ⟨one b,by simp;omega,?_⟩;dsimp only [Zc,go_sem];refine Zs rfl ?_;dsimp only [go_sem]
   refine ixs 2 _ rfl rfl ?_;dsimp only [go_sem];refine ⟨one c,by simp;omega,?_⟩;dsimp only [Zc,go_sem];refine Zp rfl ?_;dsimp only [go_sem];simp
 . refine Zr [] (ZnQ (a.length+b.length+c.length) (by omega) (by omega)) rfl rfl rfl ?_ ?_ ?_
   . (repeat first | dsimp only [go_sem] | simp only [nbr])
     try simp [mtL,mtB,mtS]
   . trivial
   rintro _ rfl
   (repeat first | dsimp only [go_sem] | simp only [nbr])
   refine gh XU ?_;dsimp only [go_sem];refine Yn 4 ?_;dsimp only [Zc,go_sem];refine Zs rfl ?_;dsimp only [go_sem];refine ixs 0 _ rfl rfl ?_;dsimp only [go_sem];refine ⟨one a,by simp;omega,?_⟩;dsimp only [Zc,go_sem];refine Zs rfl ?_;dsimp only [go_sem];refine ixs 1 _ rfl rfl ?_;dsimp only [go_sem];refine ⟨one b,by simp;omega,?_⟩;dsimp only [Zc,go_sem];refine Zs rfl ?_;dsimp only [go_sem];refine ixs 2 _ rfl rfl ?_
   dsimp only [go_sem];refine ⟨one c,by simp;omega,?_⟩;dsimp only [Zc,go_sem];refine Zp rfl ?_;dsimp only [go_sem];simp
def Zug:SC:=(sr1 [o1 3 (Jz 1 0 132),Jw 4 Jf] (sr1 [m1 5 0,o1 6 (.mkf 215 [.t 3]),o1 7 (.callm 140 [.t 5,.t 6]),o1 8 (Jh 7),m1 4 8] .ret))
def Zsx:List RV:=[.tmp 4]
theorem nw170:Tryz.f170.ntmps=9:=by kernel_rfl
theorem bw170:Z5 Tryz.prog 170=true:=by kernel_rfl
theorem Zk5:YC Tryz.prog Zug ((Tryz.f170.body).getD .skip)=true:=by kernel_rfl
theorem Zpr:Y2 Tryz.prog Zsx Tryz.f170.results.toList=true:=by kernel_rfl
theorem mw170 {n0:Nat} {hp0:List (Nat × HB)} {args:List SV} {Zx:Ot->Prop} (hh:hpb n0 hp0) (hx:∀ o,Zx o->KX o.res/\KXP o.hp) (h:sx Tryz.prog Y0 n0 Zug ⟨YF 0 args,hp0,n0,9,[]⟩ (Wa Zsx λo=>∃ o',Zx o'/\Wk n0 o o')) (hA:Nat.ble args.length 9=true:=by rfl):CtM Tryz.prog 170 hp0 n0 args Zx:=Zv Tryz.func170 rfl bw170 Zk5 Zpr nw170 (Nat.le_of_ble_eq_true hA) hh hx h
def Zs3:SC:=(sr1 [Jw 4 Jf] (sr1 [m1 5 0,m1 6 1,o1 7 (.callm 192 [.t 5,.t 6]),o1 8 (Jc .geq 7 0),m1 4 8] .ret))
def Zux:List RV:=[.tmp 4]
theorem nw140:Tryz.f140.ntmps=9:=by kernel_rfl
theorem bw140:Z5 Tryz.prog 140=true:=by kernel_rfl
theorem Zmu:YC Tryz.prog Zs3 ((Tryz.f140.body).getD .skip)=true:=by kernel_rfl
theorem ZoN:Y2 Tryz.prog Zux Tryz.f140.results.toList=true:=by kernel_rfl
theorem mw140 {n0:Nat} {hp0:List (Nat × HB)} {args:List SV} {Zx:Ot->Prop} (hh:hpb n0 hp0) (hx:∀ o,Zx o->KX o.res/\KXP o.hp) (h:sx Tryz.prog Y0 n0 Zs3 ⟨YF 0 args,hp0,n0,9,[]⟩ (Wa Zux λo=>∃ o',Zx o'/\Wk n0 o o')) (hA:Nat.ble args.length 9=true:=by rfl):CtM Tryz.prog 140 hp0 n0 args Zx:=Zv Tryz.func140 rfl bw140 Zmu ZoN nw140 (Nat.le_of_ble_eq_true hA) hh hx h
def Zs9:SC:=(sr1 [Jk 4 0] (.seq (sr1 [m1 6 0,o1 7 (Jl 6),Jk 8 0] (.block 0 (.loop (sr1 [o1 9 (Jb .lss 8 7)] (.seq (Ji 9 .skip (.exit 0)) (.seq (.block 1 (sr1 [m1 10 8,m1 5 10] (sr1 [m1 11 1,m1 12 0,m1 13 5,o1 14 (Jx 12 13 1),o1 15 (lf 14 1),o1 16
 (.calvm (.t 11) [.t 15])] (Ji 16 (sr1 [m1 17 5,m1 4 17] .ret) .skip)))) (.reg [o1 18 (Jc .add 8 1),m1 8 18]))))))) (sr1 [o1 4 (.mv (cn (-1)))] .ret)))
def Zu5:List RV:=[.tmp 4]
theorem nw192:Tryz.f192.ntmps=19:=by kernel_rfl
theorem bw192:Z5 Tryz.prog 192=true:=by kernel_rfl
theorem Znv:YC Tryz.prog Zs9 ((Tryz.f192.body).getD .skip)=true:=by kernel_rfl
theorem Zll:Y2 Tryz.prog Zu5 Tryz.f192.results.toList=true:=by kernel_rfl
theorem mw192 {n0:Nat} {hp0:List (Nat × HB)} {args:List SV} {Zx:Ot->Prop} (hh:hpb n0 hp0) (hx:∀ o,Zx o->KX o.res/\KXP o.hp) (h:sx Tryz.prog Y0 n0 Zs9 ⟨YF 0 args,hp0,n0,19,[]⟩ (Wa Zu5 λo=>∃ o',Zx o'/\Wk n0 o o')) (hA:Nat.ble args.length 19=true:=by rfl):CtM Tryz.prog 192 hp0 n0 args Zx:=Zv Tryz.func192 rfl bw192 Znv Zll nw192 (Nat.le_of_ble_eq_true hA) hh hx h
def Zrs:SC:=(sr1 [Jw 3 Jf] (sr1 [o1 4 (lf 1 1),m1 5 0,o1 6 (.calvm (.t 4) [.t 5]),o1 7 (Jh 6),m1 3 7] .ret))
def Zu0:List RV:=[.tmp 3]
theorem nw215:Tryz.f215.ntmps=8:=by kernel_rfl
theorem bw215:Z5 Tryz.prog 215=true:=by kernel_rfl
theorem ZoO:YC Tryz.prog Zrs ((Tryz.f215.body).getD .skip)=true:=by kernel_rfl
theorem ZnI:Y2 Tryz.prog Zu0 Tryz.f215.results.toList=true:=by kernel_rfl
theorem mw215 {n0:Nat} {hp0:List (Nat × HB)} {args:List SV} {Zx:Ot->Prop} (hh:hpb n0 hp0) (hx:∀ o,Zx o->KX o.res/\KXP o.hp) (h:sx Tryz.prog Y0 n0 Zrs ⟨YF 0 args,hp0,n0,8,[]⟩ (Wa Zu0 λo=>∃ o',Zx o'/\Wk n0 o o')) (hA:Nat.ble args.length 8=true:=by rfl):CtM Tryz.prog 215 hp0 n0 args Zx:=Zv Tryz.func215 rfl bw215 ZoO ZnI nw215 (Nat.le_of_ble_eq_true hA) hh hx h
def ZqU:SC:=(sr1 [Jw 4 Jf] (sr1 [o1 6 (lf 1 1),o1 7 (Jc .add 6 1),o1 8 (lf 2 1),o1 9 (Jc .sub 8 1),m1 10 0,o1 11 (.bsl 1 3 [.t 10]),o1 12 (J3 95 7 9 11),m1 5 12] (sr1 [m1 13 0,Js 1 13 1] (sr1 [m1 14 5,m1 4 14] .ret))))
def Zvu:List RV:=[.tmp 4]
theorem nw171:Tryz.f171.ntmps=15:=by kernel_rfl
theorem bw171:Z5 Tryz.prog 171=true:=by kernel_rfl
theorem ZmL:YC Tryz.prog ZqU ((Tryz.f171.body).getD .skip)=true:=by kernel_rfl
theorem Zor:Y2 Tryz.prog Zvu Tryz.f171.results.toList=true:=by kernel_rfl
theorem mw171 {n0:Nat} {hp0:List (Nat × HB)} {args:List SV} {Zx:Ot->Prop} (hh:hpb n0 hp0) (hx:∀ o,Zx o->KX o.res/\KXP o.hp) (h:sx Tryz.prog Y0 n0 ZqU ⟨YF 0 args,hp0,n0,15,[]⟩ (Wa Zvu λo=>∃ o',Zx o'/\Wk n0 o o')) (hA:Nat.ble args.length 15=true:=by rfl):CtM Tryz.prog 171 hp0 n0 args Zx:=Zv Tryz.func171 rfl bw171 ZmL Zor nw171 (Nat.le_of_ble_eq_true hA) hh hx h
def c110:SC:=(sr1 [o1 3 (Jz 1 0 3),Jw 4 Jf] (sr1 [o1 5 (.alloc [.int .i64 0] 3),⟨none,.st (.t 5) (cn (-1)) 1,none,[]⟩] (sr1 [m1 6 0,o1 7 (.mkf 171 [.t 5,.t 3]),o1 8 (.callm 170 [.t 6,.t 7]),m1 4 8] .ret)))
def r110:List RV:=[.tmp 4]
theorem t110:Qt1 Tryz.prog 110 c110 r110 9:=ZU Tryz.func110
end Go.Proofs.YtkpkgafhfakpdaaGreatDoor
namespace Go.Azalai
def Zcu:Int->List Int->Int
 | a,[]=>a
 | _,x :: l=>Zcu x l
theorem Xi {n:Int}:∀ {l:List Int} {last:Int},-1<=last->Yc n last l=true->∀ i ∈ l,0<=i/\i < n
 | [],_,_,_=>by simp
 | x :: l,last,h0,h=>by
  simp only [Yc,inR,Bool.and_eq_true,decide_eq_true_eq] at h;intro i hi;rcases List.mem_cons.1 hi with rfl | hi
  . omega
  . exact Xi (by omega) h.2 i hi
end Go.Azalai
namespace Go.Proofs.YtkpkgafhfakpdaaGreatDoor
open Go Go.Sx Go.Azalai
theorem Zhp (t:Tied) (ha:t.left.length<=1000) (hb:t.right.length<=1000) (hc:t.top.length<=1000):Ct Tryz.prog 53 [.agg (Zn t)] (.sl false 1 ((WC t).map Zk)):=by
 refine t53.1 (by simp [Zn,Za,Zk]) (by simp [Za,Zd,Zk]) ?_;dsimp only [c53,r53,Zn,go_sem];refine call (ZhO t.left t.right t.top ha hb hc _) ?_;dsimp only [go_sem];rfl
theorem ZkW (t:Tied):Ct Tryz.prog 99 [.agg (Zn t)] (.agg (Zn t)):=by
 refine t99.1 (by simp [Zn,Za,Zk]) (by simp [Zn,Za,Zk]) ?_;dsimp only [c99,r99,Zn,go_sem]
theorem Yk (k:Int):CtM Tryz.prog 61 [] 0 [B true,I k] (λo=>o=⟨false,.tup [],[],0⟩):=by
 refine m61 (by simp [hpb]) (λo ho=>by subst ho;simp [KX,KXL,KXP]) ?_;dsimp only [c61,r61,go_sem];refine Zp rfl ?_;dsimp only [go_sem];refine ⟨_,rfl,?_⟩;(refine Zq ?_ ?_ ?_ rfl<;>dsimp only [id,go_sem]<;>simp [Za])
theorem Zbr (b:Int) (h:0<=b/\b<=1000000000):CtM Tryz.prog 48 [] 0 [I b] (λo=>o=⟨false,.tup [],[],0⟩):=by
 refine m48 (by simp [hpb]) (λo ho=>by subst ho;simp [KX,KXL,KXP]) ?_;dsimp only [c48,r48,go_sem];refine call (Zy5 0 1000000000 b _) ?_;dsimp only [go_sem];rw [show inR 0 1000000000 b=true from by simp only [inR,decide_eq_true_eq];omega];refine Zr [] (Yk 2) rfl rfl rfl ?_ ?_ ?_
 . (repeat first | dsimp only [go_sem] | simp only [nbr])
   try simp [mtL,mtB,mtS]
 . trivial
 rintro _ rfl
 (repeat first | dsimp only [go_sem] | simp only [nbr])
 refine ⟨_,rfl,?_⟩;(refine Zq ?_ ?_ ?_ rfl<;>dsimp only [id,go_sem]<;>simp [Za])
def rH (last n:Int):List (Nat × HB):=[(0,.cells [I last] 3),(1,.cells [I n] 3)]
def eH (last n:Int):List (Nat × HB):=[(0,.cells [I last] 3),(1,.cells [I n] 3),(2,.cells [.cl 171 [.p 0 0,.p 1 0]] 132)]
theorem Znf (last n x:Int) (h1:-1<=last/\last<=100000) (h2:0<=n/\n<=100000):CtM Tryz.prog 171 (rH last n) 2 [I x,.p 0 0,.p 1 0] (λo=>o=⟨false,B (inR (last+1) (n - 1) x),rH x n,2⟩):=by
 refine mw171 (by simp [hpb,rH]) (λo ho=>by subst ho;simp [rH,KX,KXL,KXP,KXH,KFL,KF]) ?_;dsimp only [ZqU,Zvu,rH,go_sem];rw [Zf (n:=last+1) (by omega) (by omega),Zf (n:=n - 1) (by omega) (by omega)];refine call (Zy5 (last+1) (n - 1) x _) ?_;dsimp only [go_sem];refine ⟨_,rfl,?_⟩;(refine Zq ?_ ?_ ?_ rfl<;>dsimp only [rH,id,go_sem]<;>simp [rH,Za])
theorem ZmJ (last n x:Int) (h1:-1<=last/\last<=100000) (h2:0<=n/\n<=100000):CtM Tryz.prog 215 (eH last n) 3 [I x,.p 2 0] (λo=>o=⟨false,B (!inR (last+1) (n - 1) x),eH x n,3⟩):=by
 refine mw215 (by simp [hpb,eH]) (λo ho=>by subst ho;simp [eH,KX,KXL,KXP,KXH,KFL,KF]) ?_;dsimp only [Zrs,Zu0,eH,go_sem];refine Zr [0,1] (Znf last n x h1 h2) rfl rfl rfl ?_ ?_ ?_
 . (repeat first | dsimp only [rH,go_sem] | simp only [nbr])
   try simp [mtL,mtB,mtS]
 . (repeat first | dsimp only [rH,go_sem] | simp only [nbr])
   try simp [mtL,mtB,mtS]
 rintro _ rfl
 (repeat first | dsimp only [rH,go_sem] | simp only [nbr])
 refine ⟨_,rfl,?_⟩;(refine Zq ?_ ?_ ?_ rfl<;>dsimp only [eH,id,go_sem]<;>simp [eH,Za])
theorem ZmN (n:Int) (l:List Int) (last:Int) (h1:-1<=last/\last<=100000) (h2:0<=n/\n<=100000) (hr:Yc n last l=true) (hl:l.length<=1000) (c:Bool) :
 CtM Tryz.prog 192 (eH last n) 3 [.sl c 1 (l.map Zk),.cl 215 [.p 2 0]] (λo=>o=⟨false,I (-1),eH (Zcu last l) n,3⟩):=by
 refine mw192 (by simp [hpb,eH]) (λo ho=>by subst ho;simp [eH,KX,KXL,KXP,KXH,KFL,KF]) ?_;dsimp only [Zs9,Zu5,eH,go_sem];simp only [List.length_map];refine Z1 (λq:Nat × Int=>[(8,I q.1)]) (λq=>[(0,.cells [I q.2] 3)]) (λq=>q.1<=l.length/\(-1<=q.2/\q.2<=100000)/\Yc n q.2 (l.drop q.1)=true/\Zcu q.2 (l.drop q.1)=Zcu last l) (λq=>l.length - q.1) (0,last) ⟨Nat.zero_le _,h1,hr,rfl⟩ ?_ ?_
 . (refine Zi ?_ ?_ ?_ rfl rfl<;>dsimp only [Zk,id,go_sem]<;>simp [Zk,Za])
 rintro ⟨k,cur⟩ ⟨hk,hc,hi,hj⟩;simp only at hk hc hi hj;dsimp only [go_sem];by_cases hlt:k < l.length
 . refine Zs (by simpa using hlt) ?_;dsimp only [go_sem];refine Zu k hlt rfl ?_;dsimp only [Zk,go_sem];rw [List.drop_eq_getElem_cons hlt] at hi hj;simp only [Yc,Bool.and_eq_true] at hi;simp only [Zcu] at hj;have hx:inR (cur+1) (n - 1) l[k]=true:=hi.1;refine Zr [0,1,2] (ZmJ cur n l[k] hc h2) rfl rfl rfl ?_ ?_ ?_
   . (repeat first | dsimp only [eH,go_sem] | simp only [nbr])
     try simp [mtL,mtB,mtS]
   . (repeat first | dsimp only [eH,go_sem] | simp only [nbr])
     try simp [mtL,mtB,mtS]
   rintro _ rfl
   (repeat first | dsimp only [eH,go_sem] | simp only [nbr])
   rw [hx];refine Zp rfl ?_;dsimp only [go_sem];rw [Zf (n:=(k:Int)+1) (by omega) (by omega)];refine ⟨(k+1,l[k]),⟨hlt,by simp only [inR,decide_eq_true_eq] at hx;simp only;omega,hi.2,hj⟩,by simp only;omega,?_⟩;(refine Zi ?_ ?_ ?_ rfl rfl<;>dsimp only [Zk,id,go_sem]<;>simp [Zk,Za])
 refine Zp (by simp;omega) ?_;dsimp only [go_sem];have:k=l.length:=by omega
 subst this;rw [List.drop_length,Zcu] at hj;rw [<- hj];refine ⟨_,rfl,?_⟩;(refine Zq ?_ ?_ ?_ rfl<;>dsimp only [eH,id,go_sem]<;>simp [eH,Za])
theorem ZkR (n:Int) (l:List Int) (last:Int) (h1:-1<=last/\last<=100000) (h2:0<=n/\n<=100000) (hr:Yc n last l=true) (hl:l.length<=1000) (c:Bool) :
 CtM Tryz.prog 140 (eH last n) 3 [.sl c 1 (l.map Zk),.cl 215 [.p 2 0]] (λo=>o=⟨false,B false,eH (Zcu last l) n,3⟩):=by
 refine mw140 (by simp [hpb,eH]) (λo ho=>by subst ho;simp [eH,KX,KXL,KXP,KXH,KFL,KF]) ?_;dsimp only [Zs3,Zux,eH,go_sem];refine Zr [0,1,2] (ZmN n l last h1 h2 hr hl c) rfl rfl rfl ?_ ?_ ?_
 . (repeat first | dsimp only [eH,go_sem] | simp only [nbr])
   try simp [mtL,mtB,mtS,Zb,Za,Zk,KFL,KF]
 . (repeat first | dsimp only [eH,go_sem] | simp only [nbr])
   try simp [mtL,mtB,mtS]
 rintro _ rfl
 (repeat first | dsimp only [eH,go_sem] | simp only [nbr])
 refine ⟨_,rfl,?_⟩;(refine Zq ?_ ?_ ?_ rfl<;>dsimp only [eH,id,go_sem]<;>simp [eH,Za])
theorem ZkC (n:Int) (l:List Int) (last:Int) (h1:-1<=last/\last<=100000) (h2:0<=n/\n<=100000) (hr:Yc n last l=true) (hl:l.length<=1000) (c:Bool) :
 CtM Tryz.prog 170 (rH last n) 2 [.sl c 1 (l.map Zk),.cl 171 [.p 0 0,.p 1 0]] (λo=>o=⟨false,B true,rH (Zcu last l) n,2⟩):=by
 refine mw170 (by simp [hpb,rH]) (λo ho=>by subst ho;simp [rH,KX,KXL,KXP,KXH,KFL,KF]) ?_;dsimp only [Zug,Zsx,rH,go_sem];refine Zr [0,1,2] (ZkR n l last h1 h2 hr hl c) rfl rfl rfl ?_ ?_ ?_
 . (repeat first | dsimp only [eH,go_sem] | simp only [nbr])
   try simp [mtL,mtB,mtS,Zb,Za,Zk,KFL,KF]
 . (repeat first | dsimp only [eH,go_sem] | simp only [nbr])
   try simp [mtL,mtB,mtS]
 rintro _ rfl
 (repeat first | dsimp only [eH,go_sem] | simp only [nbr])
 refine ⟨_,rfl,?_⟩;(refine Zq ?_ ?_ ?_ rfl<;>dsimp only [rH,id,go_sem]<;>simp [rH,Za])
theorem UW (n:Int) (l:List Int) (h2:0<=n/\n<=100000) (hr:Yc n (-1) l=true) (hl:l.length<=1000) (c:Bool):Ct Tryz.prog 110 [.sl c 1 (l.map Zk),I n] (B true):=by
 refine t110.1 (by simp [Za,Zk]) (by simp) ?_;dsimp only [c110,r110,go_sem];refine Zr [1,0] (ZkC n l (-1) (by omega) h2 hr hl c) rfl rfl rfl ?_ ?_ ?_
 . (repeat first | dsimp only [rH,go_sem] | simp only [nbr])
   try simp [mtL,mtB,mtS,Zb,Za,Zk,KFL,KF]
 . (repeat first | dsimp only [rH,go_sem] | simp only [nbr])
   try simp [mtL,mtB,mtS]
 rintro _ rfl
 (repeat first | dsimp only [rH,go_sem] | simp only [nbr])
end Go.Proofs.YtkpkgafhfakpdaaGreatDoor
namespace Go.Azalai
def Um:Nat->List Int->List (Nat × Int × Bool)
 | _,[]=>[]
 | c,x :: l=>(c,x,true) :: Um (c+1) l
def WU (l:List Int):List (Nat × Int × Bool):=Um 0 l
theorem Zbm {x:Int}:∀ {l:List Int} {c:Nat},Um c (l ++ [x])=Um c l ++ [(c+l.length,x,true)]
 | [],_=>rfl
 | y :: l,c=>by simp only [List.cons_append,Um,Zbm,List.length_cons];rw [show c+1+l.length=c+(l.length+1) from by omega]
theorem Zc0:∀ {l:List Int} {c:Nat} {e:Nat × Int × Bool},e ∈ Um c l->e.2.1 ∈ l
 | [],_,_,h=>by simp [Um] at h
 | y :: l,c,e,h=>by
  simp only [Um,List.mem_cons] at h;rcases h with rfl | h
  . simp
  . exact List.mem_cons_of_mem _ (Zc0 h)
theorem Zcx:∀ {l:List Int} {c:Nat},(Um c l).length=l.length
 | [],_=>rfl
 | y :: l,c=>by simp only [Um,List.length_cons,Zcx]
end Go.Azalai
namespace Go.Proofs.YtkpkgafhfakpdaaGreatDoor
open Go Go.Sx Go.Azalai
abbrev kI:Int->Value:=λn=>.int .i64 n
abbrev bV:Bool->SV:=λb=>B b
theorem Zl8:KeyT Tryz.prog 3 kI (λn=>.v (kI n)):=Zqp u3
theorem Zza:Tryz.prog.underlying 213=some (.map 3 4):=by kernel_rfl
theorem Zb3 {x:Int} {l:List Int} (h:x ∉ l):ZaM l.length x true (WU l)=WU (l ++ [x])/\ZaR l.length x (WU l)=l.length+1:=by
 have hn:W4 x (WU l)=none:=by
  rw [VD];intro e he hx;exact h (hx ▸ Zc0 he)
 refine ⟨?_,by simp [ZaR,hn]⟩;rw [Zbx hn,WU,WU,Zbm,Nat.zero_add]
theorem UZ {done q:List Int} {k:Nat} (h:k < q.length) (hn:(done ++ q).Nodup):q[k] ∉ done ++ q.take k:=by
 have e:done ++ q=(done ++ q.take k) ++ (q[k] :: q.drop (k+1)):=by
  rw [List.append_assoc,<- List.drop_eq_getElem_cons h,List.take_append_drop]
 rw [e] at hn;intro hm;exact (List.nodup_append.1 hn).2.2 _ hm _ (List.mem_cons_self ..) rfl
theorem XI (l:List Pack) (t:Tied) (hl:l.length<=30) (hp:l.all ZJ=true) (ht:X8 l.length t=true) (c d:Bool):CtM Tryz.prog 47 [] 0 [.sl c 11 (l.map Zj),.sl d 3 [Zn t]] (λo=>o=⟨false,.tup [],[],0⟩):=by
 simp only [X8,Bool.and_eq_true,decide_eq_true_eq] at ht;obtain ⟨⟨⟨⟨hr1,hr2⟩,hr3⟩,hlen⟩,hnd⟩:=ht;have hlen':t.left.length+(t.right.length+t.top.length)<=10:=by simpa [WC] using hlen
 have hnd1:([] ++ t.left).Nodup:=(List.nodup_append.1 hnd).1;have hnd3:((t.left ++ t.right) ++ t.top).Nodup:=by rw [List.append_assoc];exact hnd
 have hnd2:(t.left ++ t.right).Nodup:=(List.nodup_append.1 hnd3).1;refine m47 (by simp [hpb]) (λo ho=>by subst ho;simp [KX,KXL,KXP]) ?_;dsimp only [c47,r47,go_sem];simp only [List.length_map];have g30:decide ((l.length:Int)<=30)=true:=by simp;omega
 rw [g30];refine YI rfl ?_;dsimp only [go_sem];refine YI rfl ?_;dsimp only [go_sem];refine call (ZcD l (by omega) c) ?_;rw [hp];dsimp only [go_sem];refine Zr [] (Yk 50) rfl rfl rfl ?_ ?_ ?_
 . (repeat first | dsimp only [go_sem] | simp only [nbr])
   try simp [mtL,mtB,mtS]
 . trivial
 rintro _ rfl
 (repeat first | dsimp only [go_sem] | simp only [nbr])
 refine UT rfl rfl rfl ?_;dsimp only [go_sem];refine Yn 2 ?_;dsimp only [Zc,go_sem];refine Zs rfl ?_;dsimp only [go_sem];refine ixs 0 _ rfl rfl ?_;dsimp only [Zn,go_sem];refine call (ZkW t) ?_;dsimp only [Zn,go_sem];refine Yn 4 ?_;dsimp only [Zc,go_sem];refine Zs rfl ?_;dsimp only [go_sem];refine ixa 0 rfl (by decide) ?_;dsimp only [go_sem];simp only [List.length_map];refine call (UW l.length t.left (by omega) hr1 (by omega) false) ?_
 dsimp only [go_sem];refine Zr [] (Yk 51) rfl rfl rfl ?_ ?_ ?_
 . (repeat first | dsimp only [go_sem] | simp only [nbr])
   try simp [mtL,mtB,mtS]
 . trivial
 rintro _ rfl
 (repeat first | dsimp only [go_sem] | simp only [nbr])
 refine Z1 (λk:Nat=>[(39,I k),(40,.any)]) (λk=>[(0,.map (mpS kI bV (WU (t.left.take k))) (k))]) (λk=>k<=t.left.length) (λk=>t.left.length - k) 0 (Nat.zero_le _) ?_ ?_
 . (refine Zi ?_ ?_ ?_ rfl rfl<;>dsimp only [Zk,Zj,mpS,WU,Um,id,go_sem]<;>simp [Zk,Zj,mpS,WU,Um,Za])
 intro k hk;dsimp only [go_sem];by_cases hlt:k < t.left.length
 . refine Zs (by simpa using hlt) ?_;dsimp only [go_sem];refine Zu k hlt rfl ?_;dsimp only [Zk,go_sem];have hs:=Zb3 (l:=t.left.take k) (x:=t.left[k]) (by have:=UZ hlt hnd1;simpa using this);refine W1 (key:=kI) (val:=bV) (sv:=λn=>.v (kI n)) (L:=WU (t.left.take k)) (k:=t.left[k]) (v:=true) (ins:=false) rfl rfl Zza Zl8 rfl rfl (λ_ _ _ e=>by cases e) ?_;have hE:(t.left.take k).length=k:=by simp;omega
   rw [hE] at hs;rw [hs.1,hs.2];dsimp only [go_sem];rw [Zf (n:=(k:Int)+1) (by omega) (by omega)];refine ⟨k+1,hlt,by omega,?_⟩;rw [List.take_succ_eq_append_getElem hlt];try rw [<- List.append_assoc]
   (refine Zi ?_ ?_ ?_ rfl rfl<;>dsimp only [Zk,Zj,ZL,Zy,Nat.add_assoc,id,go_sem]<;>simp [Zk,Zj,ZL,Zy,Nat.add_assoc,Za])
 refine Zp (by simp;omega) ?_;dsimp only [go_sem];have hke:k=t.left.length:=by omega
 subst hke;simp only [List.take_length,List.length_map];rw [Zf (n:=0+(t.left.length:Int)) (by omega) (by omega)];dsimp only [Zc,go_sem];refine Zs rfl ?_;dsimp only [go_sem];refine ixa 1 rfl (by decide) ?_;dsimp only [go_sem];simp only [List.length_map];refine call (UW l.length t.right (by omega) hr2 (by omega) false) ?_;dsimp only [go_sem];refine Zr [] (Yk 51) rfl rfl rfl ?_ ?_ ?_
 . (repeat first | dsimp only [go_sem] | simp only [nbr])
   try simp [mtL,mtB,mtS]
 . trivial
 rintro _ rfl
 (repeat first | dsimp only [go_sem] | simp only [nbr])
 refine Z1 (λk:Nat=>[(39,I k),(40,.any)]) (λk=>[(0,.map (mpS kI bV (WU (t.left ++ t.right.take k))) (t.left.length+k))]) (λk=>k<=t.right.length) (λk=>t.right.length - k) 0 (Nat.zero_le _) ?_ ?_
 . (refine Zi ?_ ?_ ?_ rfl rfl<;>dsimp only [Zk,Zj,ZL,Zy,id,go_sem]<;>simp [Zk,Zj,ZL,Zy,Za])
 intro k hk;dsimp only [go_sem];by_cases hlt:k < t.right.length
 . refine Zs (by simpa using hlt) ?_;dsimp only [go_sem];refine Zu k hlt rfl ?_;dsimp only [Zk,go_sem];have hs:=Zb3 (l:=t.left ++ t.right.take k) (x:=t.right[k]) (by have:=UZ hlt hnd2;simpa using this);refine W1 (key:=kI) (val:=bV) (sv:=λn=>.v (kI n)) (L:=WU (t.left ++ t.right.take k)) (k:=t.right[k]) (v:=true) (ins:=false) rfl rfl Zza Zl8 rfl rfl (λ_ _ _ e=>by cases e) ?_;have hE:(t.left ++ t.right.take k).length=t.left.length+k:=by simp;omega
   rw [hE] at hs;rw [hs.1,hs.2];dsimp only [go_sem];rw [Zf (n:=(k:Int)+1) (by omega) (by omega)];refine ⟨k+1,hlt,by omega,?_⟩;rw [List.take_succ_eq_append_getElem hlt];try rw [<- List.append_assoc]
   (refine Zi ?_ ?_ ?_ rfl rfl<;>dsimp only [Zk,Zj,ZL,Zy,Nat.add_assoc,id,go_sem]<;>simp [Zk,Zj,ZL,Zy,Nat.add_assoc,Za])
 refine Zp (by simp;omega) ?_;dsimp only [go_sem];have hke:k=t.right.length:=by omega
 subst hke;simp only [List.take_length,List.length_map];rw [Zf (n:=0+(t.left.length:Int)+(t.right.length:Int)) (by omega) (by omega)];dsimp only [Zc,go_sem];refine Zs rfl ?_;dsimp only [go_sem];refine ixa 2 rfl (by decide) ?_;dsimp only [go_sem];simp only [List.length_map];refine call (UW l.length t.top (by omega) hr3 (by omega) false) ?_;dsimp only [go_sem];refine Zr [] (Yk 51) rfl rfl rfl ?_ ?_ ?_
 . (repeat first | dsimp only [go_sem] | simp only [nbr])
   try simp [mtL,mtB,mtS]
 . trivial
 rintro _ rfl
 (repeat first | dsimp only [go_sem] | simp only [nbr])
 refine Z1 (λk:Nat=>[(39,I k),(40,.any)]) (λk=>[(0,.map (mpS kI bV (WU ((t.left ++ t.right) ++ t.top.take k))) (t.left.length+t.right.length+k))]) (λk=>k<=t.top.length) (λk=>t.top.length - k) 0 (Nat.zero_le _) ?_ ?_
 . (refine Zi ?_ ?_ ?_ rfl rfl<;>dsimp only [Zk,Zj,ZL,Zy,id,go_sem]<;>simp [Zk,Zj,ZL,Zy,Za])
 intro k hk;dsimp only [go_sem];by_cases hlt:k < t.top.length
 . refine Zs (by simpa using hlt) ?_;dsimp only [go_sem];refine Zu k hlt rfl ?_;dsimp only [Zk,go_sem];have hs:=Zb3 (l:=(t.left ++ t.right) ++ t.top.take k) (x:=t.top[k]) (by have:=UZ hlt hnd3;simpa using this);refine W1 (key:=kI) (val:=bV) (sv:=λn=>.v (kI n)) (L:=WU ((t.left ++ t.right) ++ t.top.take k)) (k:=t.top[k]) (v:=true) (ins:=false) rfl rfl Zza Zl8 rfl rfl (λ_ _ _ e=>by cases e) ?_;have hE:((t.left ++ t.right) ++ t.top.take k).length=t.left.length+t.right.length+k:=by simp;omega
   rw [hE] at hs;rw [hs.1,hs.2];dsimp only [go_sem];rw [Zf (n:=(k:Int)+1) (by omega) (by omega)];refine ⟨k+1,hlt,by omega,?_⟩;rw [List.take_succ_eq_append_getElem hlt];try rw [<- List.append_assoc]
   (refine Zi ?_ ?_ ?_ rfl rfl<;>dsimp only [Zk,Zj,ZL,Zy,Nat.add_assoc,id,go_sem]<;>simp [Zk,Zj,ZL,Zy,Nat.add_assoc,Za])
 refine Zp (by simp;omega) ?_;dsimp only [go_sem];have hke:k=t.top.length:=by omega
 subst hke;simp only [List.take_length,List.length_map];rw [Zf (n:=0+(t.left.length:Int)+(t.right.length:Int)+(t.top.length:Int)) (by omega) (by omega)];dsimp only [Zc,go_sem];refine Zp rfl ?_;dsimp only [go_sem];refine call (Zhp t (by omega) (by omega) (by omega)) ?_;dsimp only [go_sem];simp only [List.length_map];rw [show decide (((WC t).length:Int)<=10)=true from by simp;omega];refine Zr [] (Yk 51) rfl rfl rfl ?_ ?_ ?_
 . (repeat first | dsimp only [go_sem] | simp only [nbr])
   try simp [mtL,mtB,mtS]
 . trivial
 rintro _ rfl
 (repeat first | dsimp only [go_sem] | simp only [nbr])
 dsimp only [Zc,go_sem];refine Zp rfl ?_;dsimp only [go_sem];refine YI rfl ?_;dsimp only [go_sem];refine YI rfl ?_;dsimp only [go_sem];refine ZpH rfl rfl Zza rfl ?_;dsimp only [go_sem];refine YI rfl ?_;dsimp only [go_sem];refine YI rfl ?_;dsimp only [go_sem];have hcnt:((mpS kI bV (WU (t.left ++ t.right ++ t.top))).length:Int)=0+(t.left.length:Int)+(t.right.length:Int)+(t.top.length:Int):=by
  simp only [mpS,List.length_map,WU,Zcx,List.length_append];omega
 rw [hcnt];rw [show (decide (((1:Nat):Int)<=8) && (0+(t.left.length:Int)+(t.right.length:Int)+(t.top.length:Int) == 0+(t.left.length:Int)+(t.right.length:Int)+(t.top.length:Int)))=true from by simp];refine Zr [] (Yk 51) rfl rfl rfl ?_ ?_ ?_
 . (repeat first | dsimp only [go_sem] | simp only [nbr])
   try simp [mtL,mtB,mtS]
 . trivial
 rintro _ rfl
 (repeat first | dsimp only [go_sem] | simp only [nbr])
 refine ⟨_,rfl,?_⟩;(refine Zq ?_ ?_ ?_ rfl<;>dsimp only [id,go_sem]<;>simp [Za])
def c45:FB:=(.seq (.reg [
 o1 2 (.alloc [.int .i64 0] 35)])
 (.rcv [
 o1 3 (.mkf 109 [.t 2])] (.t 3)
 (.tail (.seq (.reg [
 m1 4 0,
 o1 5 (.calvm (.t 4) [])])
 (.seq (.reg [
 ⟨none,.st (.t 2) (.c (.int .i64 0)) 1,none,[]⟩])
 .ret)))))
def r45:List RV:=[.cell 2 1 false]
theorem n45:Tryz.f45.ntmps=6:=by kernel_rfl
theorem b45:Z5 Tryz.prog 45=true:=by kernel_rfl
theorem Zwr:UO Tryz.prog c45 ((Tryz.f45.body).getD .skip)=true:=by kernel_rfl
theorem ZwS:Y2 Tryz.prog r45 Tryz.f45.results.toList=true:=by kernel_rfl
theorem m45 {n0:Nat} {hp0:List (Nat × HB)} {args:List SV} {Zx:Ot->Prop} (hh:hpb n0 hp0) (hx:∀ o,Zx o->KX o.res/\KXP o.hp) (h:fx Tryz.prog n0 c45 ⟨YF 0 args,hp0,n0,6,[]⟩ (Wa r45 λo=>∃ o',Zx o'/\Wk n0 o o')) (hA:Nat.ble args.length 6=true:=by rfl):CtM Tryz.prog 45 hp0 n0 args Zx:=ZeS Tryz.func45 rfl b45 Zwr ZwS n45 (Nat.le_of_ble_eq_true hA) hh hx h
def Zwn:List Ins:=[
 m1 1 4]
def Zw1:SC:=(sr1 [m1 5 1,o1 6 (.raw (Go.Op.binOp Go.BinOp.neq 20 (Go.Operand.tmp 5) (Go.Operand.const Go.Value.nilIface) 20) 4)] (Ji 6 (sr1 [m1 8 1,o1 9 (.raw (Go.Op.typeAssert (Go.Operand.tmp 8) 20 35 Bool.true) 212),m1 7 9,o1 10 (Je 7 0),o1 11 (Je 7
 1),m1 2 10,m1 3 11] (.seq (sr1 [m1 12 3,o1 13 (Jh 12)] (Ji 13 (.reg [m1 14 1,⟨none,.raw (Go.Op.panic (Go.Operand.tmp 14)) 0,none,[]⟩]) .skip)) (.reg [m1 15 2,Js 0 15 1]))) .skip))
theorem ZyM:RcF Tryz.prog 109 4 Zwn Zw1 16:=⟨⟨Tryz.f109,_,_,_,_,Tryz.func109,rfl,rfl,by kernel_rfl,by kernel_rfl,by kernel_rfl,by kernel_rfl,by decide,rfl⟩,by kernel_rfl⟩
end Go.Proofs.YtkpkgafhfakpdaaGreatDoor
namespace Go.Sx
open Go Go.RowKit
section
variable {P:Program} {ty T T':TypeId} {ix jx:Operand} {σ : St} {r:KT} {K:RK} {d:Option Nat} {s:SV}
theorem Vv {pt:TypeId} (hu:P.underlying T'=some (.interface (P.methodsAt T'))) (hi:ZaS σ ix = .v .nilIface) (h:Yh d (.v (.bool false)) none σ r K):RAW P d (.binOp .neq T' ix (.const .nilIface) pt) ty σ r K:=by
 intro o C E a w next Q e1 e2 e3 hS hn hq;have hx:=W8 hS hi (λ_ _ _=>by simp);simp only [R] at hx;have hb:=run_neq_nil_nil (P:=P) w T' hu;have hy:(execOp a.eval o).run P w = .ok (.value (.bool false)) w:=by
  obtain ⟨dst',op',ty',pos,after,guard⟩:=o;simp only at e2;subst e2;have h0:a.eval (.const .nilIface) = .nilIface:=rfl;have hg:(eqGuard .neq T' ix (.const .nilIface) .nilIface .nilIface).run P w = .ok () w:=by
   simp [eqGuard,Sem.run_pure]
  simp only [execOp,Sem.run_bind,hx,h0,hg,hb,Result.andThen_ok,Sem.run_pure]
 refine ZA hy (by simp) ?_;show next (a.put o.dst _) _;rw [e1];exact WY h hS (by simp only [R]) hn
end
end Go.Sx
namespace Go.Azalai
structure CarB (l:List Pack) (t:Tied):Prop where
 hl:l.length<=30
 hp:l.all ZJ=true
 ht:X8 l.length t=true
theorem CarB.facts {l:List Pack} {t:Tied} (h:CarB l t):(∀ i ∈ WC t,0<=i/\i < (l.length:Int))/\(WC t).length<=10:=by
 have ht:=h.ht;simp only [X8,Bool.and_eq_true,decide_eq_true_eq] at ht;obtain ⟨⟨⟨⟨hr1,hr2⟩,hr3⟩,hlen⟩,hnd⟩:=ht;refine ⟨λi hi=>?_,hlen⟩;simp only [WC,List.mem_append] at hi;rcases hi with hi | hi | hi
 . exact Xi (by omega) hr1 i hi
 . exact Xi (by omega) hr2 i hi
 . exact Xi (by omega) hr3 i hi
theorem CarB.left {l:List Pack} {t:Tied} (h:CarB l t):∀ i ∈ t.left,0<=i/\i < (l.length:Int):=λi hi=>h.facts.1 i (by simp [WC,hi])
theorem CarB.right {l:List Pack} {t:Tied} (h:CarB l t):∀ i ∈ t.right,0<=i/\i < (l.length:Int):=λi hi=>h.facts.1 i (by simp [WC,hi])
theorem CarB.len {l:List Pack} {t:Tied} (h:CarB l t):t.left.length<=10/\t.right.length<=10/\t.top.length<=10:=by
 have:=h.facts.2;simp [WC] at this;omega
end Go.Azalai
namespace Go.Proofs.YtkpkgafhfakpdaaGreatDoor
open Go Go.Sx Go.Azalai
theorem u20:Tryz.prog.underlying 20=some (.interface (Tryz.prog.methodsAt 20)):=by kernel_rfl
def Zbc (l:List Pack) (t:Tied) (bound is:Int) (c:Bool):List (Nat × HB):=[(0,.cells [.sl c 11 (l.map Zj)] 28),(1,.cells (Zn t) 31),(2,.cells [I bound] 3),(3,.cells [U8 is] 5)]
theorem ZtG (l:List Pack) (t:Tied) (bound:Int) (c:Bool) (h:CarB l t) (hb:0<=bound/\bound<=1000000000):CtM Tryz.prog 46 (Zbc l t bound 0 c) 4 [.p 0 0,.p 1 0,.p 2 0,.p 3 0] (λo=>o=⟨false,.tup [],Zbc l t bound (Zgn l t bound) c,4⟩):=by
 have hlen:=h.len;have hl:=h.hl;refine m46 (by simp [hpb,Zbc]) (λo ho=>by subst ho;simp [Zbc,KX,KXL,KXP,KXH,KFL,KF,Za,Zj,Zn,Zk]) ?_;dsimp only [c46,r46,Zbc,Zn,go_sem];refine Zr [] (XI l t h.hl h.hp h.ht c true) rfl rfl rfl ?_ ?_ ?_
 . (repeat first | dsimp only [Zn,go_sem] | simp only [nbr])
   try simp [mtL,mtB,mtS,Zb,Za,Zj,Zk,KFL,KF,KFR]
 . trivial
 rintro _ rfl
 (repeat first | dsimp only [go_sem] | simp only [nbr])
 refine Zr [] (Zbr bound hb) rfl rfl rfl ?_ ?_ ?_
 . (repeat first | dsimp only [go_sem] | simp only [nbr])
   try simp [mtL,mtB,mtS]
 . trivial
 rintro _ rfl
 (repeat first | dsimp only [go_sem] | simp only [nbr])
 refine call (ZbG l h.hp (by omega) c) ?_;dsimp only [go_sem];refine call (Zbh l t bound h.hp (by omega) h.left h.right (by omega) (by omega) hb) ?_;dsimp only [go_sem];refine ⟨_,rfl,?_⟩;(refine Zq ?_ ?_ ?_ rfl<;>dsimp only [Zbc,Zj,Zn,Zk,id,go_sem]<;>simp [Zbc,Zj,Zn,Zk,Za])
theorem Zvf (l:List Pack) (t:Tied) (bound:Int) (c:Bool) (h:CarB l t) (hb:0<=bound/\bound<=1000000000):CtM Tryz.prog 45 (Zbc l t bound 0 c) 4 [.cl 46 [.p 0 0,.p 1 0,.p 2 0,.p 3 0]] (λo=>o=⟨false,I 0,Zbc l t bound (Zgn l t bound) c,4⟩):=by
 refine m45 (by simp [hpb,Zbc]) (λo ho=>by subst ho;simp [Zbc,KX,KXL,KXP,KXH,KFL,KF,Za,Zj,Zn,Zh,Zk,Cm.breedL,Cm.camelL]) ?_;dsimp only [c45,r45,Zbc,go_sem];refine Zr [0,1,2,3] (ZtG l t bound c h hb) rfl rfl rfl ?_ ?_ ?_
 . (repeat first | dsimp only [Zbc,go_sem] | simp only [nbr])
   try simp [mtL,mtB,mtS]
 . (repeat first | dsimp only [Zbc,go_sem] | simp only [nbr])
   try simp [mtL,mtB,mtS,Zb,KFL,KF,Za,Zj,Zn,Zh,Zk,Cm.breedL,Cm.camelL]
 rintro _ rfl
 (repeat first | dsimp only [Zbc,go_sem] | simp only [nbr])
 refine ⟨_,_,_,_,ZyM,?_⟩;dsimp only [Zwn,Zw1,go_sem];refine ⟨rfl,?_⟩;refine Vv u20 rfl ?_;dsimp only [go_sem];refine Zp rfl ?_;dsimp only [go_sem];refine ⟨_,rfl,?_⟩;(refine Zq ?_ ?_ ?_ rfl<;>dsimp only [Zbc,Zj,Zn,Zh,Zk,Cm.breedL,Cm.camelL,id,go_sem]<;>simp [Zbc,Zj,Zn,Zh,Zk,Cm.breedL,Cm.camelL,Za])
theorem ZdB (l:List Pack) (t:Tied) (bound:Int) (c:Bool) (h:CarB l t) (hb:0<=bound/\bound<=1000000000):Ct Tryz.prog 9 [.sl c 11 (l.map Zj),.agg (Zn t),I bound] (.tup [U8 (Zgn l t bound),I 0]):=by
 refine t9.1 (by simp [Za,Zj,Zn,Zk]) (by simp) ?_;dsimp only [c9,r9,Zn,go_sem];refine Zr [0,1,2,3] (Zvf l t bound c h hb) rfl rfl rfl ?_ ?_ ?_
 . (repeat first | dsimp only [Zbc,go_sem] | simp only [nbr])
   try simp [mtL,mtB,mtS]
 . (repeat first | dsimp only [Zbc,go_sem] | simp only [nbr])
   try simp [mtL,mtB,mtS,Zb,KFL,KF,Za,Zj,Zn,Zk]
 rintro _ rfl
 (repeat first | dsimp only [Zbc,Zn,go_sem] | simp only [nbr])
def Zbo (l:List Pack) (t:Tied) (a b w:Span) (c:Bool):List (Nat × HB):=[(0,.cells [.sl c 11 (l.map Zj)] 28),(1,.cells (Zn t) 31),(2,.cells (Zh a) 23),(3,.cells (Zh b) 23),(4,.cells (Zh w) 23)]
theorem ZvG (l:List Pack) (t:Tied) (c:Bool) (h:CarB l t):CtM Tryz.prog 51 (Zbo l t ZB ZB ZB c) 5 [.p 0 0,.p 1 0,.p 2 0,.p 3 0,.p 4 0] (λo=>o=⟨false,.tup [],Zbo l t (Z7 l t.left) (Z7 l t.right) (Z7 l (WC t)) c,5⟩):=by
 have hlen:=h.len;have hl:=h.hl;have hall:=h.facts;refine m51 (by simp [hpb,Zbo]) (λo ho=>by subst ho;simp [Zbo,KX,KXL,KXP,KXH,KFL,KF,Za,Zj,Zn,Zk,Zh]) ?_;dsimp only [c51,r51,Zbo,Zn,Zh,ZB,go_sem];refine Zr [] (XI l t h.hl h.hp h.ht c true) rfl rfl rfl ?_ ?_ ?_
 . (repeat first | dsimp only [Zn,go_sem] | simp only [nbr])
   try simp [mtL,mtB,mtS,Zb,Za,Zj,Zk,KFL,KF,KFR]
 . trivial
 rintro _ rfl
 (repeat first | dsimp only [go_sem] | simp only [nbr])
 refine call (ZbG l h.hp (by omega) c) ?_;dsimp only [go_sem];refine call (XO l t t.left h.hp (by omega) h.left (by omega) false) ?_;dsimp only [Zh,go_sem];refine call (XO l t t.right h.hp (by omega) h.right (by omega) false) ?_;dsimp only [Zh,go_sem];refine call (Zhp t (by omega) (by omega) (by omega)) ?_;dsimp only [go_sem];refine call (XO l t (WC t) h.hp (by omega) hall.1 (by omega) false) ?_;dsimp only [Zh,go_sem]
 refine ⟨_,rfl,?_⟩;(refine Zq ?_ ?_ ?_ rfl<;>dsimp only [Zbo,Zj,Zn,Zk,Zh,id,go_sem]<;>simp [Zbo,Zj,Zn,Zk,Zh,Za])
theorem ZuM (l:List Pack) (t:Tied) (c:Bool) (h:CarB l t):CtM Tryz.prog 45 (Zbo l t ZB ZB ZB c) 5 [.cl 51 [.p 0 0,.p 1 0,.p 2 0,.p 3 0,.p 4 0]] (λo=>o=⟨false,I 0,Zbo l t (Z7 l t.left) (Z7 l t.right) (Z7 l (WC t)) c,5⟩):=by
 refine m45 (by simp [hpb,Zbo]) (λo ho=>by subst ho;simp [Zbo,KX,KXL,KXP,KXH,KFL,KF,Za,Zj,Zn,Zh,Zk,Cm.breedL,Cm.camelL]) ?_;dsimp only [c45,r45,Zbo,go_sem];refine Zr [0,1,2,3,4] (ZvG l t c h) rfl rfl rfl ?_ ?_ ?_
 . (repeat first | dsimp only [Zbo,go_sem] | simp only [nbr])
   try simp [mtL,mtB,mtS]
 . (repeat first | dsimp only [Zbo,go_sem] | simp only [nbr])
   try simp [mtL,mtB,mtS,Zb,KFL,KF,Za,Zj,Zn,Zh,Zk,Cm.breedL,Cm.camelL]
 rintro _ rfl
 (repeat first | dsimp only [Zbo,go_sem] | simp only [nbr])
 refine ⟨_,_,_,_,ZyM,?_⟩;dsimp only [Zwn,Zw1,go_sem];refine ⟨rfl,?_⟩;refine Vv u20 rfl ?_;dsimp only [go_sem];refine Zp rfl ?_;dsimp only [go_sem];refine ⟨_,rfl,?_⟩;(refine Zq ?_ ?_ ?_ rfl<;>dsimp only [Zbo,Zj,Zn,Zh,Zk,Cm.breedL,Cm.camelL,id,go_sem]<;>simp [Zbo,Zj,Zn,Zh,Zk,Cm.breedL,Cm.camelL,Za])
theorem ZjL (l:List Pack) (t:Tied) (c:Bool) (h:CarB l t):Ct Tryz.prog 10 [.sl c 11 (l.map Zj),.agg (Zn t)] (.tup [.agg (Zh (Z7 l t.left)),.agg (Zh (Z7 l t.right)),.agg (Zh (Z7 l (WC t))),I 0]):=by
 refine t10.1 (by simp [Za,Zj,Zn,Zk]) (by simp [Zh]) ?_;dsimp only [c10,r10,Zn,go_sem];refine Zr [0,1,2,3,4] (ZuM l t c h) rfl rfl rfl ?_ ?_ ?_
 . (repeat first | dsimp only [Zbo,go_sem] | simp only [nbr])
   try simp [mtL,mtB,mtS]
 . (repeat first | dsimp only [Zbo,Zh,ZB,go_sem] | simp only [nbr])
   try simp [mtL,mtB,mtS,Zb,KFL,KF,Za,Zj,Zn,Zk]
 rintro _ rfl
 (repeat first | dsimp only [Zbo,Zn,Zh,go_sem] | simp only [nbr])
def UH (l:List Pack) (t:Tied) (b:Breed) (m:Camel) (bound is:Int) (c:Bool):List (Nat × HB):=[(0,.cells [.sl c 11 (l.map Zj)] 28),(1,.cells (Zn t) 31),(2,.cells (Cm.breedL b) 25),(3,.cells (Cm.camelL m) 27),(4,.cells [I bound] 3),(5,.cells [U8 is] 5)]
theorem Zst (l:List Pack) (t:Tied) (b:Breed) (m:Camel) (bound:Int) (c:Bool) (h:CarB l t) (he:Ve b m=0) (hb:0<=bound/\bound<=1000000000) :
 CtM Tryz.prog 59 (UH l t b m bound 0 c) 6 [.p 0 0,.p 1 0,.p 2 0,.p 3 0,.p 4 0,.p 5 0] (λo=>o=⟨false,.tup [],UH l t b m bound (VJ (Ul b m) l t bound) c,6⟩):=by
 have hlen:=h.len;have hl:=h.hl;have hall:=h.facts;refine m59 (by simp [hpb,UH]) (λo ho=>by subst ho;simp [UH,KX,KXL,KXP,KXH,KFL,KF,Za,Zj,Zn,Zk,Cm.breedL,Cm.camelL]) ?_;dsimp only [c59,r59,UH,Zn,Cm.breedL,Cm.camelL,go_sem];refine Zr [] (XI l t h.hl h.hp h.ht c true) rfl rfl rfl ?_ ?_ ?_
 . (repeat first | dsimp only [Zn,go_sem] | simp only [nbr])
   try simp [mtL,mtB,mtS,Zb,Za,Zj,Zk,KFL,KF,KFR]
 . trivial
 rintro _ rfl
 (repeat first | dsimp only [go_sem] | simp only [nbr])
 refine call (Cm.carries_ok b m) ?_;dsimp only [Cm.sres,Zh,go_sem];rw [if_pos he,he];refine Zr [] (Yk 0) rfl rfl rfl ?_ ?_ ?_
 . (repeat first | dsimp only [go_sem] | simp only [nbr])
   try simp [mtL,mtB,mtS]
 . trivial
 rintro _ rfl
 (repeat first | dsimp only [go_sem] | simp only [nbr])
 refine Zr [] (Zbr bound hb) rfl rfl rfl ?_ ?_ ?_
 . (repeat first | dsimp only [go_sem] | simp only [nbr])
   try simp [mtL,mtB,mtS]
 . trivial
 rintro _ rfl
 (repeat first | dsimp only [go_sem] | simp only [nbr])
 refine call (ZbG l h.hp (by omega) c) ?_;dsimp only [go_sem];refine call (Zhp t (by omega) (by omega) (by omega)) ?_;dsimp only [go_sem];refine call (XO l t (WC t) h.hp (by omega) hall.1 (by omega) false) ?_;dsimp only [Zh,go_sem];refine call (Zbh l t bound h.hp (by omega) h.left h.right (by omega) (by omega) hb) ?_;dsimp only [go_sem];have hF:VJ (Ul b m) l t bound=if (Z7 l (WC t)).lo > (Ul b m).hi then 0 else if Zgn l t bound=2/\(Z7 l (WC t)).hi > (Ul b m).lo then 1 else Zgn l t bound:=rfl
 rw [hF];generalize Z7 l (WC t)=w;generalize Ul b m=can;generalize Zgn l t bound=q;by_cases h1:w.lo > can.hi
 . refine Zs (by simpa using h1) ?_;dsimp only [go_sem];repeat (refine gb ?_;dsimp only [go_sem])
   refine Zp (by simp) ?_;dsimp only [go_sem];rw [if_pos h1];refine ⟨_,rfl,?_⟩;(refine Zq ?_ ?_ ?_ rfl<;>dsimp only [UH,Zj,Zn,Zk,Cm.breedL,Cm.camelL,id,go_sem]<;>simp [UH,Zj,Zn,Zk,Cm.breedL,Cm.camelL,Za])
 refine Zp (by simpa using h1) ?_;dsimp only [go_sem];rw [if_neg h1];repeat (refine gb ?_;dsimp only [go_sem])
 by_cases h2:q=2/\w.hi > can.lo
 . refine Zs (by simpa using h2) ?_;dsimp only [go_sem];rw [if_pos h2];refine ⟨_,rfl,?_⟩;(refine Zq ?_ ?_ ?_ rfl<;>dsimp only [UH,Zj,Zn,Zk,Cm.breedL,Cm.camelL,id,go_sem]<;>simp [UH,Zj,Zn,Zk,Cm.breedL,Cm.camelL,Za])
 refine Zp (by rw [Bool.eq_false_iff];intro h;exact h2 (by simpa using h)) ?_;dsimp only [go_sem];rw [if_neg h2];refine ⟨_,rfl,?_⟩;(refine Zq ?_ ?_ ?_ rfl<;>dsimp only [UH,Zj,Zn,Zk,Cm.breedL,Cm.camelL,id,go_sem]<;>simp [UH,Zj,Zn,Zk,Cm.breedL,Cm.camelL,Za])
theorem ZrM (l:List Pack) (t:Tied) (b:Breed) (m:Camel) (bound:Int) (c:Bool) (h:CarB l t) (he:Ve b m=0) (hb:0<=bound/\bound<=1000000000):CtM Tryz.prog 45 (UH l t b m bound 0 c) 6 [.cl 59 [.p 0 0,.p 1 0,.p 2 0,.p 3 0,.p 4 0,.p 5 0]] (λo=>o=⟨false,I 0,UH l t b m bound (VJ (Ul b m) l t bound) c,6⟩):=by
 refine m45 (by simp [hpb,UH]) (λo ho=>by subst ho;simp [UH,KX,KXL,KXP,KXH,KFL,KF,Za,Zj,Zn,Zh,Zk,Cm.breedL,Cm.camelL]) ?_;dsimp only [c45,r45,UH,go_sem];refine Zr [0,1,2,3,4,5] (Zst l t b m bound c h he hb) rfl rfl rfl ?_ ?_ ?_
 . (repeat first | dsimp only [UH,go_sem] | simp only [nbr])
   try simp [mtL,mtB,mtS]
 . (repeat first | dsimp only [UH,go_sem] | simp only [nbr])
   try simp [mtL,mtB,mtS,Zb,KFL,KF,Za,Zj,Zn,Zh,Zk,Cm.breedL,Cm.camelL]
 rintro _ rfl
 (repeat first | dsimp only [UH,go_sem] | simp only [nbr])
 refine ⟨_,_,_,_,ZyM,?_⟩;dsimp only [Zwn,Zw1,go_sem];refine ⟨rfl,?_⟩;refine Vv u20 rfl ?_;dsimp only [go_sem];refine Zp rfl ?_;dsimp only [go_sem];refine ⟨_,rfl,?_⟩;(refine Zq ?_ ?_ ?_ rfl<;>dsimp only [UH,Zj,Zn,Zh,Zk,Cm.breedL,Cm.camelL,id,go_sem]<;>simp [UH,Zj,Zn,Zh,Zk,Cm.breedL,Cm.camelL,Za])
theorem Zcp (b:Breed) (m:Camel) (l:List Pack) (t:Tied) (bound:Int) (c:Bool) (h:CarB l t) (he:Ve b m=0) (hb:0<=bound/\bound<=1000000000) :
 Ct Tryz.prog 12 [.agg (Cm.breedL b),.agg (Cm.camelL m),.sl c 11 (l.map Zj),.agg (Zn t),I bound] (.tup [U8 (VJ (Ul b m) l t bound),I 0]):=by
 refine t12.1 (by simp [Za,Zj,Zn,Zk,Cm.breedL,Cm.camelL,KFL,KF]) (by simp) ?_;dsimp only [c12,r12,Zn,Cm.breedL,Cm.camelL,go_sem];refine Zr [2,3,0,1,4,5] (ZrM l t b m bound c h he hb) rfl rfl rfl ?_ ?_ ?_
 . (repeat first | dsimp only [UH,go_sem] | simp only [nbr])
   try simp [mtL,mtB,mtS]
 . (repeat first | dsimp only [UH,Cm.breedL,Cm.camelL,go_sem] | simp only [nbr])
   try simp [mtL,mtB,mtS,Zb,KFL,KF,Za,Zj,Zn,Zk]
 rintro _ rfl
 (repeat first | dsimp only [UH,Zn,Cm.breedL,Cm.camelL,go_sem] | simp only [nbr])
def Zx1:SC:=(sr1 [o1 1 (Jz 0 0 31),o1 2 (.mv (.c (.slice none 0 0)))] (.gh (sr1 [o1 4 (.bsl 1 3 []),o1 5 (ao 1 0),o1 6 (lf 5 1),o1 7 (.cln 1 8 3 (.t 4) (.t 6)),m1 3 7] (.gh (sr1 [m1 8 3,o1 9 (ao 1 1),o1 10 (lf 9 1),o1 11 (.appm 1 8 3 (.t 8) (.t
 10)),m1 3 11] (.gh (sr1 [m1 12 3,o1 13 (ao 1 2),o1 14 (lf 13 1),o1 15 (.appm 1 8 3 (.t 12) (.t 14)),m1 2 15] (.gh .ret))))))))
def Zxj:List RV:=[.tmp 2]
theorem tk167:Qt1 Tryz.prog 167 Zx1 Zxj 16:=ZU Tryz.func167
end Go.Proofs.YtkpkgafhfakpdaaGreatDoor
