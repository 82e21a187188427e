/- Walks and plain laws that lead to the given statement, part 6 of 7. -/
import Derived.Test.YtkjldleglbbkeaaQE
import Derived.Recover
import Derived.Test.YtkjldleglbbkeaaProg
set_option maxRecDepth 100000
set_option maxHeartbeats 8000000
set_option linter.all false
open Nat renaming reduceAdd->rA,reduceMul->rM,reduceSub->rS,beq_refl->nbr
namespace Go.Sx
open Go Go.RowKit
def ZaU (s s':SV):Prop:=∀ (w:World) (E:Env) (n ok:Nat->Prop) (y:Value),R w E n ok s y->R w E n ok s' y
theorem ZaU.rfl {s:SV}:ZaU s s:=fun _ _ _ _ _ h=>h
theorem Wi {c:Bool} {m:Nat}:ZaU (.v (.slice none 0 0)) (.sl c m []):=fun w E n ok y h=>by
 simp only [R] at h ⊢
 exact ⟨none,0,0,h,by simp,⟨Nat.le_refl _,fun _=>Eq.refl _⟩,by simp,by simp⟩
theorem Zmx {l l':List SV} (h:∀ (w:World) (E:Env) (n ok:Nat->Prop) (ys:List Value),RL w E n ok l ys->RL w E n ok l' ys):ZaU (.tup l) (.tup l'):=fun w E n ok y hy=>by
 simp only [R] at hy ⊢
 obtain ⟨cs,h1,h2⟩:=hy
 exact ⟨cs,h1,h _ _ _ _ _ h2⟩
theorem UB {s s':SV} {l l':List SV} (h1:ZaU s s') (h2:∀ (w:World) (E:Env) (n ok:Nat->Prop) (ys:List Value),RL w E n ok l ys->RL w E n ok l' ys):∀ (w:World) (E:Env) (n ok:Nat->Prop) (ys:List Value),RL w E n ok (s :: l) ys->RL w E n ok (s' :: l') ys:=fun w E n ok ys h=>by
 simp only [RL] at h ⊢
 obtain ⟨y,r,q1,q2,q3⟩:=h
 exact ⟨y,r,q1,h1 _ _ _ _ _ q2,h2 _ _ _ _ _ q3⟩
def ZuF (rs:List RV) (res:SV):Ex->St->Prop
 | .ex _,_=>False
 | .n,σ=>∃ s,rvR rs σ = some s/\ZaU s res
 | .ret,σ=>∃ s,rvR rs σ = some s/\ZaU s res
 | .pan _,_=>False
theorem Zt3 (rs:List RV) (res:SV) (σ : St):ZuF rs res .n σ = ∃ s,rvR rs σ = some s/\ZaU s res:=rfl
theorem Zm4 (rs:List RV) (res:SV) (σ : St):ZuF rs res .ret σ = ∃ s,rvR rs σ = some s/\ZaU s res:=rfl
attribute [go_sem] Zt3 Zm4
section
variable {P:Program}
theorem ZbF {f:FuncId} {fn:Func} {code:Code} {ir:SC} {args:List SV} {res:SV} {rs:List RV} {N:Nat} (hf:P.funcs[f]? = some fn) (hb:fn.body=some code) (hnm:YQ P f=true) (hc:Xo P ir code=true)
 (hr:WD P rs fn.results.toList=true) (hN:fn.ntmps=N) (hA:args.length<=N) (ka:KFL args) (kr:KF res) (h:sx P Y0 0 ir (st0 args N) (ZuF rs res)):Ct P f args res:=by
 refine ⟨hnm,ka,kr,fun w ok vs hR=>?_⟩
 let C:Cx:=⟨w,ok,fun _ _=>False,[],none,E0,0⟩
 have hok:∀ b,ok b->okS C E0 [] b:=fun b hb=>⟨.inl hb,fun _ h=>h⟩
 refine Vq (C:=C) (E:=E0) (hp0:=[]) (n0:=0) hf hb hc hN hA rfl rfl ⟨Nat.le_refl _,fun _ _ h=>h.elim⟩
  ⟨fun k _=>rfl,fun k=>trivial,fun k k' b h=>h.elim,fun k b h=>h.elim,⟨rfl,rfl,rfl,Nat.le_refl _,fun _ _ _=>rfl⟩,fun k hk=>absurd hk (Nat.not_lt_zero k)⟩
  (Zu (fun b hb _=>⟨hok b hb,rfl⟩) (fun _ h=>Ele.rfl) (fun _ h=>h.elim) _ _ hR) UF h fun e σ hk C' E a w' c1 c2 c3 c4 c5 hs=>?_
 have hpass:∀ k b,¬ C'.pass k b:=fun k b=>by rw [c3];exact fun h=>h
 have hend:(∃ s,rvR rs σ = some s/\ZaU s res)->∃ v,(results fn a.tmps).run P w' = .ok v w'/\∃ y,Ending.returned v = .returned y/\R w' E0 (fun _=>False) (fun b=>ok b\/w.heap.size<=b) res y/\Below w.heap.size w w':=fun ⟨s,hrr,hw⟩=>by
  obtain ⟨v,h1,h2⟩:=Vc (P:=P) (fn:=fn) (a:=a) (w:=w') (E:=E) (n:=ltn σ.n) (ok:=okF C') hrr fun l hl=>ZhM hs hpass rs _ l hr hl
  have hkp:=hs.hs.kp
  have e1:okF C'=fun b=>ok b\/w.heap.size<=b:=by funext b;simp only [okF,c1,c2];rfl
  rw [e1] at h2
  have e0:C'.w0=w:=c1
  refine ⟨v,h1,v,rfl,ZeK res v kr (hw _ _ _ _ _ h2),?_⟩
  have q:=hkp
  exact ⟨by rw [<- e0];exact q.os,by rw [<- e0];exact q.tape,by rw [<- e0];exact q.output,by rw [<- e0];exact q.size,fun b hb=>by rw [<- e0];exact q.block b (by rw [e0];exact hb) (fun k=>hpass k b)⟩
 cases e with
 | ex i=>exact hk.elim
 | pan s=>exact hk.elim
 | n=>exact hend hk
 | ret=>exact hend hk
end
theorem Ct.args {P:Program} {f:FuncId} {args args0:List SV} {res:SV} (h:Ct P f args res) (ka:KFL args0) (hw:∀ (w:World) (E:Env) (n ok:Nat->Prop) (ys:List Value),RL w E n ok args0 ys->RL w E n ok args ys):Ct P f args0 res :=
 ⟨h.1,ka,h.3,fun w ok vs hR=>h.4 w ok vs (hw _ _ _ _ _ hR)⟩
end Go.Sx
namespace Go.Proofs.Ytkjldleglbbkeaa
open Go Go.Sx Go.Azalai
def ZH (n:Nat):List SV:=[I (n:Int)]
def ZB (a:List Nat):SV:=.sl false 1 (a.map ZH)
def Zco:List Nat->List Nat->Int
 | [],[]=>0
 | [],_ :: _=>-1
 | _ :: _,[]=>1
 | x :: a,y :: b=>if x < y then -1 else if x > y then 1 else Zco a b
theorem u78 {args:List SV} {res:SV} (ka:KFL args) (kr:KF res) (h:sx Try.prog Y0 0 c78 (st0 args 8) (ZuF r78 res)) (hA:Nat.ble args.length 8=true:=by rfl):Ct Try.prog 78 args res:=ZbF Try.func78 rfl b78 ZtR Zt6 n78 (Nat.le_of_ble_eq_true hA) ka kr h
theorem ZhE (a:List Nat) (ha:a.length<=1000000):Ct Try.prog 78 [ZB a] (ZB a):=by
 refine u78 (by simp [Za,ZB,ZH,KFL,KF]) (by simp [Za,ZB,ZH,KFL,KF]) ?_
 dsimp only [c78,r78,ZB,go_sem,rA,rM,rS]
 intro b hb
 dsimp only [go_sem,rA,rM,rS]
 refine br ?_ ?_
 . intro h
   have:=hb h
   dsimp only [go_sem,rA,rM,rS]
   rw [List.map_eq_nil_iff.1 this]
   exact ⟨_,rfl,Wi⟩
 . intro h
   dsimp only [go_sem,rA,rM,rS]
   refine ZsF (by simp;omega) ?_
   dsimp only [go_sem,rA,rM,rS]
   exact ⟨_,rfl,ZaU.rfl⟩
theorem Zqw (a:List Nat) (ha:a.length<=1000000):Ct Try.prog 98 [ZB a] (.sl true 1 (a.map ZH)):=by
 refine t98.1 (by simp [Za,ZB,ZH,KFL,KF]) (by simp [Za,ZB,ZH,KFL,KF]) ?_
 dsimp only [c98,r98,ZB,go_sem,rA,rM,rS]
 refine ⟨Zy.2 fun _=>⟨rfl,rfl⟩,?_⟩
 dsimp only [go_sem,rA,rM,rS]
theorem Zh3 (a:List Nat) (i:Nat) (ha:a.length<=1000000):Ct Try.prog 81 [ZB a,I i] (ZB (a ++ [i])):=by
 refine t81.1 (by simp [Za,ZB,ZH,KFL,KF]) (by simp [KFL,KF,ZB,Za,ZH,Zd,KFR]) ?_
 dsimp only [c81,r81,go_sem,rA,rM,rS]
 refine call (ZhE a ha) ?_
 dsimp only [go_sem,rA,rM,rS]
 refine call (Zqw a ha) ?_
 dsimp only [go_sem,rA,rM,rS]
 refine ZsF (by simp;omega) ?_
 dsimp only [ZB,go_sem,rA,rM,rS]
 simp [ZH]
theorem ZN {K V:Type} {key:K->Value} {val:V->SV}:mpS key val ([]:List (Nat × K × V))=[]:=rfl
end Go.Proofs.Ytkjldleglbbkeaa
namespace Go.Sx
open Go Go.RowKit
inductive FB where
 | tail (c:SC)
 | seq (a:SC) (b:FB)
 | dfr (ops:List Ins) (mx kx:X) (t:TypeId) (b:FB)
 | rcv (ops:List Ins) (cx:X) (b:FB)
def ZuO (mx kx:X) (t:TypeId) (o:Oper):Bool :=
 match o.op,o.dst,o.guard with
 | .defer c,none,none=>(match c.callee with | .builtin .delete=>true | _=>false) && (match c.args.toList with | [m,k]=>Yo mx m && Yo kx k | _=>false) && (match c.argTypes[0]? with | some u=>u == t | none=>false)
 | _,_,_=>false
def ZnE (cx:X) (o:Oper):Bool :=
 match o.op,o.dst,o.guard with
 | .defer c,none,none=>(match c.callee with | .value y=>Yo cx y | _=>false) && c.args.isEmpty
 | _,_,_=>false
def UM (P:Program):FB->Code->Bool
 | .tail c,code=>Xo P c code
 | .seq a b,code=>(match code with | .seq x y=>Xo P a x && UM P b y | _=>false)
 | .dfr ops mx kx t b,code=>(match code with
  | .seq (.region _ os false) y=>Zco P os ops (os.toList.take ops.length) && (match os.toList.drop ops.length with | [o]=>ZuO mx kx t o | _=>false) && UM P b y
  | _=>false)
 | .rcv ops cx b,code=>(match code with
  | .seq (.region _ os false) y=>Zco P os ops (os.toList.take ops.length) && (match os.toList.drop ops.length with | [o]=>ZnE cx o | _=>false) && UM P b y
  | _=>false)
def ZrJ (P:Program) (t:TypeId) (kv:Value) (hb hb':HB):Prop :=
 ∃ (K V:Type) (_:DecidableEq K) (key:K->Value) (val:V->SV) (sv:K->SV) (L:List (Nat × K × V)) (k:K) (kt et:TypeId) (c:Nat),
  hb = .map (mpS key val L) c/\hb' = .map (mpS key val (Zau k L)) c/\kv=key k/\P.underlying t=some (.map kt et)/\KeyT P kt key sv
theorem delR {P:Program} {K V:Type} [DecidableEq K] {t:TypeId} {key:K->Value} {val:V->SV} {sv:K->SV} {L:List (Nat × K × V)} {k:K} {c:Nat} {kt et:TypeId} (ht:P.underlying t=some (.map kt et)) (hK:KeyT P kt key sv) :
 ZrJ P t (key k) (.map (mpS key val L) c) (.map (mpS key val (Zau k L)) c):=⟨K,V,inferInstance,key,val,sv,L,k,kt,et,c,rfl,rfl,rfl,ht,hK⟩
def dK (P:Program) (t:TypeId) (km:Nat) (kv:Value) (K:Ex->St->Prop):Ex->St->Prop
 | .n,σ=>∃ hb',ZrJ P t kv (lkh km σ.hp) hb'/\K .n ⟨σ.fr,(km,hb') :: σ.hp,σ.n,σ.N,σ.gs⟩
 | .ret,σ=>∃ hb',ZrJ P t kv (lkh km σ.hp) hb'/\K .ret ⟨σ.fr,(km,hb') :: σ.hp,σ.n,σ.N,σ.gs⟩
 | _,_=>False
def fxS (f:St->(Ex->St->Prop)->Prop) (K:Ex->St->Prop):Ex->St->Prop
 | .n,σ=>f σ K
 | .ex _,_=>False
 | .ret,σ=>K .ret σ
 | .pan s,σ=>K (.pan s) σ
def mpO:SV->Option Nat
 | .mp k=>some k
 | _=>none
def vO:SV->Option Value
 | .v x=>some x
 | _=>none
def Zuk (P:Program) (t:TypeId) (f:Nat->St->(Ex->St->Prop)->Prop) (km:Option Nat) (kv:Option Value) (σ : St) (K:Ex->St->Prop):Prop :=
 match km,kv with
 | some km,some kv=>Nat.blt km σ.n=true/\f σ.n σ (dK P t km kv K)
 | _,_=>False
def Zi9 (t:Nat) (o:Oper):Bool :=
 match o.op,o.dst,o.guard with
 | .call c,some u,none=>u == t && (match c.callee with | .builtin .recover=>true | _=>false) && c.args.isEmpty
 | _,_,_=>false
structure RcF (P:Program) (g:FuncId) (t:Nat) (l:List Ins) (c:SC) (N:Nat):Prop where
 ex:∃ fn id os y0 o1,P.funcs[g]? = some fn/\fn.body=some (.seq (.region id os false) y0)/\os[0]? = some o1/\Zi9 t o1=true/\Zco P os l (os.toList.drop 1)=true/\Xo P c y0=true/\fn.ntmps=N/\t < N/\fn.results = #[]
 bd:YQ P g=true
def rcK (σ : St) (k:St->Prop):Ex->St->Prop
 | .n,σ'=>k ⟨σ.fr,σ'.hp,σ'.n,σ.N,σ.gs⟩
 | .ret,σ'=>k ⟨σ.fr,σ'.hp,σ'.n,σ.N,σ.gs⟩
 | _,_=>False
def rcR (P:Program) (t:Nat) (l:List Ins) (c:SC) (N:Nat) (caps:List SV) (s:SV) (σ : St) (k:St->Prop):Prop :=
 Nat.ble caps.length N=true/\rx P Y0 l ⟨(t,s) :: XS 0 caps,σ.hp,σ.n,N,[]⟩ (Zad (fxS (fun σ' K=>sx P Y0 σ.n c σ' K) (rcK σ k)))
def Zuw (P:Program) (f:Nat->St->(Ex->St->Prop)->Prop) (rk:FuncId->List SV->Ex->St->Prop) (s:SV) (σ : St):Prop :=
 match s with
 | .cl g caps=>f σ.n σ (rk g caps)
 | _=>False
def rK (P:Program) (K:Ex->St->Prop) (g:FuncId) (caps:List SV):Ex->St->Prop
 | .n,σ=>∃ t l c N,RcF P g t l c N/\rcR P t l c N caps (.v .nilIface) σ (K .n)
 | .ret,σ=>∃ t l c N,RcF P g t l c N/\rcR P t l c N caps (.v .nilIface) σ (K .ret)
 | .pan s,σ=>∃ t l c N,RcF P g t l c N/\rcR P t l c N caps s σ (K .ret)
 | .ex _,_=>False
def fx (P:Program):Nat->FB->St->(Ex->St->Prop)->Prop
 | m,.tail c,σ,K=>sx P Y0 m c σ K
 | m,.seq a b,σ,K=>sx P Y0 m a σ (fxS (fx P m b) K)
 | _,.dfr ops mx kx t b,σ,K=>rx P Y0 ops σ (Zad (fxS (fun σ K=>Zuk P t (fun n=>fx P n b) (mpO (rdG none σ.fr mx)) (vO (rdG none σ.fr kx)) σ K) K))
 | _,.rcv ops cx b,σ,K=>rx P Y0 ops σ (Zad (fxS (fun σ K=>Zuw P (fun n=>fx P n b) (rK P K) (rdG none σ.fr cx) σ) K))
theorem ZpC (P:Program) (m:Nat) (c:SC) (σ : St) (K:Ex->St->Prop):fx P m (.tail c) σ K=sx P Y0 m c σ K:=rfl
theorem Ztm (P:Program) (m:Nat) (a:SC) (b:FB) (σ : St) (K:Ex->St->Prop):fx P m (.seq a b) σ K=sx P Y0 m a σ (fxS (fx P m b) K):=rfl
theorem ZtE (P:Program) (m:Nat) (ops:List Ins) (mx kx:X) (t:TypeId) (b:FB) (σ : St) (K:Ex->St->Prop):fx P m (.dfr ops mx kx t b) σ K=rx P Y0 ops σ (Zad (fxS (fun σ K=>Zuk P t (fun n=>fx P n b) (mpO (rdG none σ.fr mx)) (vO (rdG none σ.fr kx)) σ K) K)):=rfl
theorem ZsV (P:Program) (m:Nat) (ops:List Ins) (cx:X) (b:FB) (σ : St) (K:Ex->St->Prop):fx P m (.rcv ops cx b) σ K=rx P Y0 ops σ (Zad (fxS (fun σ K=>Zuw P (fun n=>fx P n b) (rK P K) (rdG none σ.fr cx) σ) K)):=rfl
theorem ZrH (P:Program) (f:Nat->St->(Ex->St->Prop)->Prop) (rk:FuncId->List SV->Ex->St->Prop) (g:FuncId) (caps:List SV) (σ : St):Zuw P f rk (.cl g caps) σ = f σ.n σ (rk g caps):=rfl
theorem rK_n (P:Program) (K:Ex->St->Prop) (g:FuncId) (caps:List SV) (σ : St):rK P K g caps .n σ = ∃ t l c N,RcF P g t l c N/\rcR P t l c N caps (.v .nilIface) σ (K .n):=rfl
theorem Zs5 (P:Program) (K:Ex->St->Prop) (g:FuncId) (caps:List SV) (σ : St):rK P K g caps .ret σ = ∃ t l c N,RcF P g t l c N/\rcR P t l c N caps (.v .nilIface) σ (K .ret):=rfl
theorem Zun (P:Program) (K:Ex->St->Prop) (g:FuncId) (caps:List SV) (s:SV) (σ : St):rK P K g caps (.pan s) σ = ∃ t l c N,RcF P g t l c N/\rcR P t l c N caps s σ (K .ret):=rfl
theorem e_rcR (P:Program) (t:Nat) (l:List Ins) (c:SC) (N:Nat) (caps:List SV) (s:SV) (σ : St) (k:St->Prop):rcR P t l c N caps s σ k=(Nat.ble caps.length N=true/\rx P Y0 l ⟨(t,s) :: XS 0 caps,σ.hp,σ.n,N,[]⟩ (Zad (fxS (fun σ' K=>sx P Y0 σ.n c σ' K) (rcK σ k)))):=rfl
theorem rcK_n (σ : St) (k:St->Prop) (σ':St):rcK σ k .n σ'=k ⟨σ.fr,σ'.hp,σ'.n,σ.N,σ.gs⟩:=rfl
theorem ZoV (σ : St) (k:St->Prop) (σ':St):rcK σ k .ret σ'=k ⟨σ.fr,σ'.hp,σ'.n,σ.N,σ.gs⟩:=rfl
attribute [go_sem] ZsV ZrH rK_n Zs5 Zun e_rcR rcK_n ZoV
theorem fxS_n (f:St->(Ex->St->Prop)->Prop) (K:Ex->St->Prop) (σ : St):fxS f K .n σ = f σ K:=rfl
theorem ZpA (f:St->(Ex->St->Prop)->Prop) (K:Ex->St->Prop) (σ : St):fxS f K .ret σ = K .ret σ:=rfl
theorem Ztq (P:Program) (t:TypeId) (f:Nat->St->(Ex->St->Prop)->Prop) (km:Nat) (kv:Value) (σ : St) (K:Ex->St->Prop):Zuk P t f (some km) (some kv) σ K=(Nat.blt km σ.n=true/\f σ.n σ (dK P t km kv K)):=rfl
theorem Zt2 (k:Nat):mpO (.mp k)=some k:=rfl
theorem vO_v (x:Value):vO (.v x)=some x:=rfl
theorem dK_n (P:Program) (t:TypeId) (km:Nat) (kv:Value) (K:Ex->St->Prop) (σ : St):dK P t km kv K .n σ = ∃ hb',ZrJ P t kv (lkh km σ.hp) hb'/\K .n ⟨σ.fr,(km,hb') :: σ.hp,σ.n,σ.N,σ.gs⟩:=rfl
theorem Zts (P:Program) (t:TypeId) (km:Nat) (kv:Value) (K:Ex->St->Prop) (σ : St):dK P t km kv K .ret σ = ∃ hb',ZrJ P t kv (lkh km σ.hp) hb'/\K .ret ⟨σ.fr,(km,hb') :: σ.hp,σ.n,σ.N,σ.gs⟩:=rfl
attribute [go_sem] ZpC Ztm ZtE fxS_n ZpA Ztq Zt2 vO_v dK_n Zts
section
variable {P:Program}
theorem Zhs {C:Cx} {Y:Hd} (hY:Zbv P C Y) {ops:Array Oper} {Q:Exit->Act->World->Prop} {K:RK} {os2:List Oper} (hn:∀ σ E a w,K .n σ->Sim C E σ a w->Ve C.rd P ops Q os2 a w)
 (hp:∀ s σ' E a w y,K (.pan s) σ'->Sim C E σ' a w->R w E (ltn σ'.n) (okS C E σ'.hp) s y->Q (.panic [{ v:=y,recovered:=false }]) a w):∀ (l:List Ins) (os:List Oper),Zco P ops l os=true ->
 ∀ (σ : St) E a w,rx P Y l σ K->Sim C E σ a w->Ve C.rd P ops Q (os ++ os2) a w
 | [],[],_,σ,E,a,w,hr,h=>hn σ E a w hr h
 | io :: l,o :: os,hc,σ,E,a,w,hr,h=>by
  simp only [Zco,Bool.and_eq_true] at hc
  have ih:=Zhs hY hn hp l os hc.2
  exact Va (next:=Ve C.rd P ops Q (os ++ os2)) hc.1 hr h (fun σ' E' a' w' h1 h2=>ih σ' E' a' w' h1 h2) (fun s σ' E' w' y h1 h2 h3=>hp s σ' E' a w' y h1 h2 h3) hY
 | [],_ :: _,h,_,_,_,_,_,_=>by simp [Zco] at h
 | _ :: _,[],h,_,_,_,_,_,_=>by simp [Zco] at h
theorem ZqW {C:Cx} {E:Env} {σ : St} {a:Act} {w:World} (h:Sim C E σ a w) {t:TypeId} {km:Nat} {kv:Value} {hb':HB} {ats:Array TypeId} {ty:TypeId} {cc:Array Bool} (ha:ats[0]? = some t) (hd:ZrJ P t kv (lkh km σ.hp) hb') :
 ∃ x w',(invoke (.builtin .delete ats ty cc) #[.map (some (E.β km)),kv]).run P w = .ok (.value x) w'/\Sim C E ⟨σ.fr,(km,hb') :: σ.hp,σ.n,σ.N,σ.gs⟩ a w'/\Zr w w' (okS C E σ.hp) (okS C E ((km,hb') :: σ.hp)):=by
 obtain ⟨K,V,_,key,val,sv,L,k,kt,et,c,hh,rfl,rfl,ht,hK⟩:=hd
 obtain ⟨g0,ys,g1,g2⟩:=Zhi h hh
 have hfn:=fun w=>hK.fnd k _ _ w (ZaN g2)
 have hex:∀ w',(Builtin.delete_ ats ty #[.map (some (E.β km)),key k]).run P w = .ok (.tuple #[]) w'->(invoke (.builtin .delete ats ty cc) #[.map (some (E.β km)),key k]).run P w = .ok (.value (.tuple #[])) w':=fun w' hy=>by
  simp [invoke,builtin,hy]
 have hfin:∀ ys':Array MapEntry,(∀ {w':World} {ok':Nat->Prop},RM w' E (ltn σ.n) ok' (mpS key val L) ys.toList->RM w' E (ltn σ.n) ok' (mpS key val (Zau k L)) ys'.toList) ->
  Sim C E ⟨σ.fr,(km,.map (mpS key val (Zau k L)) c) :: σ.hp,σ.n,σ.N,σ.gs⟩ a (VL w (E.β km) (.map ys' c))/\Zr w (VL w (E.β km) (.map ys' c)) (okS C E σ.hp) (okS C E ((km,.map (mpS key val (Zau k L)) c) :: σ.hp)):=fun ys' hRM=>by
  obtain ⟨q1,q2⟩:=W4 (k:=km) (hb:=.map (mpS key val (Zau k L)) c) (o:=.map ys' c) h.hs (fun b=>by rw [hh];simp only [occ]) (fun b=>by simp only [occ]) (fun hlt hst=>by
   simp only [ZP]
   exact ⟨ys',X0 hlt,hRM (Zaq hst.c (fun _ _=>Ele.rfl) (fun _ h=>h) _ _ g2)⟩)
  exact ⟨ZZ h q2 (fun _ _=>Ele.rfl) (Nat.le_refl _) q1,q2⟩
 rcases ZaQ (w:=w) (E:=E) (n:=ltn σ.n) (ok:=okS C E σ.hp) k L ys.toList 0 g2 with ⟨a1,a2,a3,-⟩ | ⟨j,v0,e,b1,b2,b3,b4,b5,b6⟩
 . have hrun:(Builtin.delete_ ats ty #[.map (some (E.β km)),key k]).run P w = .ok (.tuple #[]) (VL w (E.β km) (.map ys c)):=by
    simp [Builtin.delete_,Sem.run_bind,ha,run_underlying ht,Result.andThen_ok,YS g1 rfl,Sem.run_pure,hK.chk,hfn,a2,YU _ g1 rfl]
   exact ⟨_,_,hex _ hrun,hfin _ fun h1=>by rw [a3];exact h1⟩
 . rw [Nat.zero_add] at b2
   have hlt:j < ys.size:=by
    have:ys[j]? = some e:=by simpa using b3
    exact (Array.getElem?_eq_some_iff.1 this).1
   have hrun:(Builtin.delete_ ats ty #[.map (some (E.β km)),key k]).run P w = .ok (.tuple #[]) (VL w (E.β km) (.map (ys.eraseIdxIfInBounds j) c)):=by
    simp [Builtin.delete_,Sem.run_bind,ha,run_underlying ht,Result.andThen_ok,YS g1 rfl,Sem.run_pure,hK.chk,hfn,b2,YU _ g1 rfl]
   exact ⟨_,_,hex _ hrun,hfin _ fun {w' ok'} h1=>by
    have:(ys.eraseIdxIfInBounds j).toList=ys.toList.eraseIdx j:=by simp [Array.eraseIdxIfInBounds,hlt]
    rw [this];exact (b6 h1).1⟩
theorem ZbU {C C':Cx} {E E':Env} {σ σ':St} {a a':Act} {w w':World} (h:Sim C E σ a w) (h':Sim C' E' σ' a' w') (c1:C'.w0=w) (c2:C'.okp=okS C E σ.hp) (c3:C'.pass=fun k b=>occ E k (lkh k σ.hp) b) (c4:C'.e0=E) (c5:C'.m0 = σ.n) (hm:C.m0<=σ.n) :
 Sim { C with ds:=a'.defers } E' σ' a' w':=by
 have hok:∀ b,okS C' E' σ'.hp b->okS C E' σ'.hp b:=fun b hb=>by
  obtain ⟨g1,g2⟩:=hb
  refine ⟨?_,g2⟩
  rw [c1,c2] at g1
  rcases g1 with g1 | g1
  . exact g1.1
  . exact .inr (Nat.le_trans h.hs.kp.size g1)
 have hst:Yh w' w' (okS C' E' σ'.hp) (okS C E' σ'.hp):=fun b hb _=>⟨hok b hb,rfl⟩
 refine ⟨fun t=>?_,h'.sz,Vy,h'.gs,⟨h'.hs.kn,fun k=>?_,h'.hs.dj,fun k b ho=>?_,⟨?_,?_,?_,?_,fun b h1 h2=>?_⟩,fun k hk=>?_⟩⟩
 . have:=h'.fr t
   cases hq:lk t σ'.fr<;>rw [hq] at this<;>try exact ZE hst (fun _ _=>Ele.rfl) (fun _ h=>h) _ _ this
   exact ⟨fun hg=>ZE hst (fun _ _=>Ele.rfl) (fun _ h=>h) _ _ (this.1 hg),this.2⟩
 . refine YY hst (fun _ _=>Ele.rfl) (fun _ h=>h) ?_ (fun b ho=>rfl) rfl (h'.hs.bk k)
   rcases Classical.em (ltn σ'.n k) with hk | hk
   . exact .inr hk
   . exact .inl (h'.hs.kn k hk)
 . rcases h'.hs.lo k b ho with g | g
   . rw [c1] at g;exact .inl (Nat.le_trans h.hs.kp.size g)
   . rw [c3] at g;exact h.hs.lo k b g
 . have:=h'.hs.kp.os;rw [c1] at this;exact this.trans h.hs.kp.os
 . have:=h'.hs.kp.tape;rw [c1] at this;exact this.trans h.hs.kp.tape
 . have:=h'.hs.kp.output;rw [c1] at this;exact this.trans h.hs.kp.output
 . have:=h'.hs.kp.size;rw [c1] at this;exact Nat.le_trans h.hs.kp.size this
 . have h1':b < C.w0.heap.size:=h1
   have h2':∀ k,¬ C.pass k b:=h2
   have hb:=h'.hs.kp.block b (by rw [c1];exact Nat.lt_of_lt_of_le h1' h.hs.kp.size) (fun k hk=>by
    rw [c3] at hk
    rcases h.hs.lo k b hk with g | g
    . exact absurd h1' (Nat.not_lt.2 g)
    . exact h2' k g)
   rw [c1] at hb
   exact hb.trans (h.hs.kp.block b h1' h2')
 . have hk':k < C.m0:=hk
   have p1:=h.hs.pin k hk'
   have p2:=h'.hs.pin k (by rw [c5];exact Nat.lt_of_lt_of_le hk' hm)
   rw [c4] at p2
   exact ⟨p2.1,p1.2.trans p2.2⟩
theorem XE {fn:Func} {R':Ending->World->Prop} {C:Cx} {K:Ex->St->Prop}
 (hK:∀ e σ',K e σ'->∀ (C':Cx) E' a' w',C'.w0=C.w0->C'.okp=C.okp->C'.pass=C.pass->C'.e0=C.e0->C'.m0=C.m0->Sim C' E' σ' a' w'->match e with
  | .n | .ret=>Lv P fn a'.tmps R' C.ds .returning w'
  | .ex _=>False
  | .pan s=>∀ y,R w' E' (ltn σ'.n) (okS C' E' σ'.hp) s y->Lv P fn a'.tmps R' C.ds (.panicking [{ v:=y,recovered:=false }]) w')
 (e:Ex) (σ':St) (hk:K e σ') (E':Env) (a':Act) (w':World) (hs:Sim C E' σ' a' w'):ExQ C (Z2 P fn R') e σ' E' a' w':=by
 obtain ⟨ms,d1,d2,d3⟩:=hs.df
 have key:=hK e σ' hk
 cases e with
 | ex i=>exact (key C E' a' w' rfl rfl rfl rfl rfl hs).elim
 | n =>
  show Lv P fn a'.tmps R' a'.defers .returning w'
  rw [d1]
  refine YT ms _ _ (by simp) d2.1 (fun m hm=>(d3 m hm).2.2) fun w'' hu=>?_
  exact key { C with ds:=a'.defers } E' a' w'' rfl rfl rfl rfl rfl (Xj hs d3 hu)
 | ret =>
  show Lv P fn a'.tmps R' a'.defers .returning w'
  rw [d1]
  refine YT ms _ _ (by simp) d2.1 (fun m hm=>(d3 m hm).2.2) fun w'' hu=>?_
  exact key { C with ds:=a'.defers } E' a' w'' rfl rfl rfl rfl rfl (Xj hs d3 hu)
 | pan s =>
  intro y hy
  show Lv P fn a'.tmps R' a'.defers (.panicking _) w'
  rw [d1]
  refine YT ms _ _ (by simp) d2.1 (fun m hm=>(d3 m hm).2.2) fun w'' hu=>?_
  have hst:Yh w' w'' (okS C E' σ'.hp) (okS C E' σ'.hp):=fun b hb q=>⟨hb,hu.other b fun hm'=>by rcases q with ⟨cs,T,fz,e⟩ | ⟨es,c,e⟩<;>(rw [(d3 b hm').2.2] at e;cases e)⟩
  exact key { C with ds:=a'.defers } E' a' w'' rfl rfl rfl rfl rfl (Xj hs d3 hu) y (ZE hst (fun _ _=>Ele.rfl) (fun _ h=>h) _ _ hy)
theorem ZhO {C:Cx} {E:Env} {σ : St} {a:Act} {w:World} (h:Sim C E σ a w) (ds:List Deferred):Sim ⟨w,okS C E σ.hp,fun k b=>occ E k (lkh k σ.hp) b,ds,none,E,σ.n⟩ E σ { a with defers:=ds } w:=by
 have hst:Yh w w (okS C E σ.hp) (okS ⟨w,okS C E σ.hp,fun k b=>occ E k (lkh k σ.hp) b,ds,none,E,σ.n⟩ E σ.hp):=fun b hb _=>⟨⟨.inl hb,hb.2⟩,rfl⟩
 refine ⟨fun t=>?_,h.sz,Vy,h.gs,⟨h.hs.kn,fun k=>?_,h.hs.dj,fun k b ho=>.inr ho,⟨rfl,rfl,rfl,Nat.le_refl _,fun _ _ _=>rfl⟩,fun k hk=>⟨hk,Ele.rfl⟩⟩⟩
 . have:=h.fr t
   show FR w E (ltn σ.n) _ σ.fr (lk t σ.fr) (a.tmps.getD t undef)
   cases hq:lk t σ.fr<;>rw [hq] at this<;>try exact ZE hst (fun _ _=>Ele.rfl) (fun _ h=>h) _ _ this
   exact ⟨fun hg=>ZE hst (fun _ _=>Ele.rfl) (fun _ h=>h) _ _ (this.1 hg),this.2⟩
 . refine YY hst (fun _ _=>Ele.rfl) (fun _ h=>h) ?_ (fun b ho=>rfl) rfl (h.hs.bk k)
   rcases Classical.em (ltn σ.n k) with hk | hk
   . exact .inr hk
   . exact .inl (h.hs.kn k hk)
def Zu6 (v:Value) (u u':FrameMode):Prop:=(u = .returning/\v = .nilIface/\u' = .returning)\/(u = .panicking [{ v:=v,recovered:=false }]/\u' = .panicking [{ v:=v,recovered:=true }])
theorem Zmz {b c₀:Frame} {a:Act} {k:List Item} {cs:List Frame} {w:World} {os:Array Oper} {o:Oper} {rest:List Nat} {t:Nat} {v:Value} {u u':FrameMode} (hb:b.kind = .deferred) (h0:os[0]? = some o) (hr:Zi9 t o=true)
 (hc:c₀.mode=u) (hu:Zu6 v u u'):step P (lone (b.at a (.inRegion os (0 :: rest) :: k)) (c₀ :: cs) w) = .next (lone (b.at (a.put (some t) v) (.inRegion os rest :: k)) ({ c₀ with mode:=u' } :: cs) w):=by
 obtain ⟨dst,op,ty,pos,after,guard⟩:=o
 unfold Zi9 at hr
 split at hr
 case h_2=>cases hr
 rename_i c x e1 e2 e3
 simp only at e1 e2 e3
 subst e1;subst e2;subst e3
 simp only [Bool.and_eq_true,beq_iff_eq] at hr
 obtain ⟨⟨rfl,hr1⟩,hr2⟩:=hr
 split at hr1
 case h_2=>cases hr1
 rename_i hcal
 have hw:Region.wanted (⟨some x,.call c,ty,pos,after,none⟩:Oper) (yielded os a.tmps)=true:=rfl
 have hg:=stepG_op (P:=P) (b:=b) (k:=k) (cs:=c₀ :: cs) (w:=w) (rest:=rest) h0 hw
 have hfin:∀ v,(b.at a (.inRegion os (0 :: rest) :: k)).finish v=b.at (a.put (some x) v) (.inRegion os rest :: k):=by
  intro v;rw [Frame.finish_at,h0];rfl
 have hrun:(execOp a.eval (⟨some x,.call c,ty,pos,after,none⟩:Oper)).run P w = .ok .recover w:=by
  simp [execOp,resolve,hcal,invoke,builtin,Sem.run_bind,Sem.run_pure]
 have hk:(b.at a (.inRegion os (0 :: rest) :: k)).kind = .deferred:=hb
 have htr:=tryRecover_deferred hk (c₀ :: cs)
 refine step_lone_go ?_
 rw [hg,<- hfin]
 rcases hu with ⟨rfl,rfl,rfl⟩ | ⟨rfl,rfl⟩
 . have hrd:recoverD (c₀ :: cs)=none:=by simp [recoverD,hc]
   have hcc:({ c₀ with mode:=.returning }:Frame)=c₀:=by rw [<- hc]
   simp only [Frame.at] at htr ⊢
   simp [stepG.apply,hrun,htr,hrd,hcc]
 . have hrd:recoverD (c₀ :: cs)=some (v,{ c₀ with mode:=.panicking [{ v:=v,recovered:=true }] } :: cs):=by simp [recoverD,hc]
   simp only [Frame.at] at htr ⊢
   simp [stepG.apply,hrun,htr,hrd]
theorem Zoc {fr:Frame} {cs:List Frame}:∀ (ms:List Nat) (w:World),fr.mode≠.run->fr.defers=ms.map ZaA->ms.Nodup->(∀ m ∈ ms,w.heap[m]? = some (.deferred (some []))) ->
 ∃ w',Unm ms w w'/\Steps P (lone fr cs w) (lone { fr with defers:=[] } cs w')
 | [],w,_,hd,_,_=>⟨w,Unm.refl w,by rw [show ({ fr with defers:=[] }:Frame)=fr by rw [<- show fr.defers=[] from hd]];exact Steps.refl P _⟩
 | m :: ms,w,hm,hd,hnd,hh=>by
  rw [List.nodup_cons] at hnd
  have hm0:=hh m (by simp)
  have hlt:=(Array.getElem?_eq_some_iff.1 hm0).1
  have h1:step P (lone fr cs w) = .next (lone { fr with defers:=ms.map ZaA } cs (VL w m (.deferred none))) :=
   Wy hm hd rfl (by simp only [Instr.takeDeferred,Sem.run_bind,YS hm0 rfl,Result.andThen_ok,YU _ hm0 rfl,Sem.run_pure])
  obtain ⟨w',g1,g2⟩:=Zoc (fr:={ fr with defers:=ms.map ZaA }) (cs:=cs) ms (VL w m (.deferred none)) hm rfl hnd.2 (fun k hk=>by
   rw [Xx (by rintro rfl;exact hnd.1 hk)];exact hh k (by simp [hk]))
  refine ⟨w',⟨g1.os,g1.tape,g1.output,by rw [g1.size,Ue],fun b hb=>?_⟩,.head h1 g2⟩
  rw [List.mem_cons,not_or] at hb
  rw [g1.other b hb.2];exact Xx hb.1
theorem ZgW {g:FuncId} {fn:Func} {id:Nat} {os:Array Oper} {y0:Code} {o1:Oper} {t:Nat} {args:Array Value} {w:World} {u u':FrameMode} {v:Value} {R:Ending->FrameMode->World->Prop} {Q:Exit->Act->World->Prop}
 (hf:P.funcs[g]? = some fn) (hb:fn.body=some (.seq (.region id os false) y0)) (h0:os[0]? = some o1) (hrec:Zi9 t o1=true) (hu:Zu6 v u u')
 (h:Ve none P os (Exit.then (wpX none P y0 Q) Q) (os.toList.drop 1) (({ tmps:=args ++ Array.replicate (fn.ntmps - args.size) undef,defers:=[] }:Act).put (some t) v) w)
 (hQ:∀ e a w,Q e a w->(e = .normal\/e = .ret)/\∃ ms:List Nat,a.defers=ms.map ZaA/\ms.Nodup/\(∀ m ∈ ms,w.heap[m]? = some (.deferred (some [])))/\∀ w',Unm ms w w'->∃ val,(results fn a.tmps).run P w' = .ok val w'/\R (.returned val) u' w') :
 CallsD P g args u w R:=by
 intro c₀ cs hc
 let b:Frame:={ (default:Frame) with fn:=g,kind:=.deferred }
 let a0:Act:={ tmps:=args ++ Array.replicate (fn.ntmps - args.size) undef,defers:=[] }
 have henter:Frame.enter P g args .deferred=b.at a0 [.code (.seq (.region id os false) y0)]:=by
  simp [Frame.enter,Frame.at,hf,hb,b,a0]
 have hsz:0 < os.size:=(Array.getElem?_eq_some_iff.1 h0).1
 have hrange:List.range os.size=0 :: List.range' 1 (os.size - 1):=by
  rw [List.range_eq_range',show os.size=(os.size - 1)+1 from by omega,List.range'_succ];simp
 have h1:=Ux (r:=none) (P:=P) (ops:=os) (os.toList.drop 1) 1 (fun j hj=>by simp [List.getElem?_drop,Nat.add_comm]) _ w h
 rw [List.length_drop,Array.length_toList] at h1
 obtain ⟨e,a1,w1,q,s⟩:=VY _ _ w h1 b [.code y0] ({ c₀ with mode:=u' } :: cs) rfl (by simp [b,hf])
 have s:=(arrivesIn_iff (b:=b) (fun _ _=>steps_iff.symm) rfl).1 s
 rw [Frame.atR_of_none (b:=b) rfl] at s
 have hpre:Steps P (lone (Frame.enter P g args .deferred) (c₀ :: cs) w) (lone (b.at (a0.put (some t) v) (.inRegion os (List.range' 1 (os.size - 1)) :: [.code y0])) ({ c₀ with mode:=u' } :: cs) w):=by
  rw [henter]
  refine .head step_seq (.head step_region ?_)
  rw [hrange]
  exact .one (Zmz rfl h0 hrec hc hu)
 have fin:∀ (e:Exit) (a:Act) (w2:World) (todo:List Item),Q e a w2->Steps P (lone (Frame.enter P g args .deferred) (c₀ :: cs) w) (lone ({ b.at a todo with mode:=.returning }:Frame) ({ c₀ with mode:=u' } :: cs) w2) ->
  ∃ e u'' w' fr,R e u'' w'/\Comes P (lone (Frame.enter P g args .deferred) (c₀ :: cs) w) (lone fr ({ c₀ with mode:=u'' } :: cs) w') e/\fr.kind = .deferred/\fr.going P w' e:=fun e a w2 todo hq hs=>by
  obtain ⟨_,ms,d1,d2,d3,d4⟩:=hQ e a w2 hq
  obtain ⟨w3,g1,g2⟩:=Zoc (P:=P) (fr:={ b.at a todo with mode:=.returning }) (cs:={ c₀ with mode:=u' } :: cs) ms w2 (by simp) d1 d2 d3
  obtain ⟨val,hr,hR⟩:=d4 w3 g1
  exact ⟨.returned val,u',w3,_,hR,Steps.trans hs g2,rfl,rfl,rfl,fn,hf,hr⟩
 have tl:∀ (a:Act) (w2:World),wpX none P y0 Q a w2->Steps P (lone (Frame.enter P g args .deferred) (c₀ :: cs) w) (lone (b.at a [.code y0]) ({ c₀ with mode:=u' } :: cs) w2) ->
  ∃ e u'' w' fr,R e u'' w'/\Comes P (lone (Frame.enter P g args .deferred) (c₀ :: cs) w) (lone fr ({ c₀ with mode:=u'' } :: cs) w') e/\fr.kind = .deferred/\fr.going P w' e:=fun a w2 hy hs=>by
  obtain ⟨e2,a2,w3,q2,s2⟩:=hy b [] ({ c₀ with mode:=u' } :: cs) rfl (by simp [b,hf])
  have s2:=(arrivesIn_iff (b:=b) (fun _ _=>steps_iff.symm) rfl).1 s2
  rw [Frame.atR_of_none (b:=b) rfl] at s2
  rcases (hQ e2 a2 w3 q2).1 with rfl | rfl
  . exact fin _ a2 w3 [] q2 (Steps.trans hs (Steps.trans s2 (.one step_end)))
  . obtain ⟨todo,s3⟩:=s2
    exact fin _ a2 w3 todo q2 (Steps.trans hs s3)
 cases e with
 | normal=>exact tl a1 w1 q (Steps.trans hpre s)
 | ret =>
  obtain ⟨todo,s3⟩:=s
  exact fin _ a1 w1 todo q (Steps.trans hpre s3)
 | panic chain=>rcases (hQ _ a1 w1 q).1 with h | h<;>cases h
 | exit id=>rcases (hQ _ a1 w1 q).1 with h | h<;>cases h
 | goto l=>rcases (hQ _ a1 w1 q).1 with h | h<;>cases h
 | outgrown=>rcases (hQ _ a1 w1 q).1 with h | h<;>cases h
theorem ZfV {C:Cx} {E:Env} {hp0:List (Nat × HB)} {n0 N:Nat} {args:List SV} {vs:List Value} {w:World} (hN:args.length<=N) (hds:C.ds=[]) (hH:HSim C E hp0 (ltn n0) w) (hR:RL w E (ltn n0) (okS C E hp0) args vs) :
 Sim C E ⟨XS 0 args,hp0,n0,N,[]⟩ { tmps:=vs.toArray ++ Array.replicate (N - vs.toArray.size) undef,defers:=[] } w:=by
 have hlen:=Zq hR
 have hng:∀ t j b s,lk t (XS 0 args)≠.gd j b s:=by
  intro t j b s ht
  simp only [WH,Nat.zero_le,if_true,Nat.sub_zero] at ht
  by_cases htl:t < args.length
  . have e1:args.getD t .any=args[t]:=by simp [htl]
    obtain ⟨y,h1,h2⟩:=X9 hR (List.getElem?_eq_getElem htl)
    rw [e1] at ht;rw [ht] at h2;simp only [R] at h2
  . have e1:args.getD t .any = .any:=by simp [List.getElem?_eq_none (Nat.le_of_not_lt htl)]
    rw [e1] at ht;cases ht
 refine ⟨fun t=>?_,by simp;omega,by rw [<- hds];exact Vy,fun t j b s ht=>absurd ht (hng t j b s),hH⟩
 have hng:=hng t
 have hFR:R w E (ltn n0) (okS C E hp0) (lk t (XS 0 args)) ((vs.toArray ++ Array.replicate (N - vs.toArray.size) undef).getD t undef):=by
  simp only [WH,Nat.zero_le,if_true,Nat.sub_zero]
  by_cases ht:t < args.length
  . have e1:args.getD t .any=args[t]:=by simp [ht]
    obtain ⟨y,h1,h2⟩:=X9 hR (List.getElem?_eq_getElem ht)
    have e2:(vs.toArray ++ Array.replicate (N - vs.toArray.size) undef).getD t undef=y:=by
     have:t < vs.length:=by omega
     have h1':=(List.getElem?_eq_some_iff.1 h1).2
     simp [Array.getElem?_append,this,h1']
    rw [e1,e2];exact h2
  . have e1:args.getD t .any = .any:=by simp [List.getElem?_eq_none (Nat.le_of_not_lt ht)]
    rw [e1];simp only [R]
 simp only
 cases hq:lk t (XS 0 args)<;>rw [hq] at hFR hng<;>first | exact hFR | exact absurd rfl (hng _ _ _)
theorem Ztn {g:FuncId} {t N:Nat} {l:List Ins} {c:SC} (hF:RcF P g t l c N) {C:Cx} {E:Env} {σ : St} {a:Act} {w:World} (hS:Sim C E σ a w) (hm:C.m0<=σ.n) {caps:List SV} {vs:List Value} (hR:RL w E (ltn σ.n) (okS C E σ.hp) caps vs)
 {s:SV} {v:Value} (hv:R w E (ltn σ.n) (okS C E σ.hp) s v) {k:St->Prop} (hrun:rcR P t l c N caps s σ k) {u u':FrameMode} (hu:Zu6 v u u') {R':Ending->FrameMode->World->Prop}
 (hk:∀ hp' n' E' w',k ⟨σ.fr,hp',n',σ.N,σ.gs⟩->Sim C E' ⟨σ.fr,hp',n',σ.N,σ.gs⟩ a w'->R' (.returned (.tuple #[])) u' w'):CallsD P g vs.toArray u w R':=by
 obtain ⟨fn,id,os,y0,o1,f1,f2,f3,f4,f5,f6,f7,f8,f9⟩:=hF.ex
 obtain ⟨hcl,hrun⟩:=hrun
 have hcl:=Nat.le_of_ble_eq_true hcl
 let C2:Cx:=⟨w,okS C E σ.hp,fun k b=>occ E k (lkh k σ.hp) b,[],none,E,σ.n⟩
 have hst:Yh w w (okS C E σ.hp) (okS C2 E σ.hp):=fun b hb _=>⟨⟨.inl hb,hb.2⟩,rfl⟩
 have hin:=ZhO hS []
 have hR2:RL w E (ltn σ.n) (okS C2 E σ.hp) caps vs:=Zu hst (fun _ _=>Ele.rfl) (fun _ h=>h) _ _ hR
 have hv2:R w E (ltn σ.n) (okS C2 E σ.hp) s v:=ZE hst (fun _ _=>Ele.rfl) (fun _ h=>h) _ _ hv
 have h0:Sim C2 E ⟨XS 0 caps,σ.hp,σ.n,N,[]⟩ { tmps:=vs.toArray ++ Array.replicate (N - vs.toArray.size) undef,defers:=[] } w:=ZfV hcl rfl hin.hs hR2
 have h1:Sim C2 E ⟨(t,s) :: XS 0 caps,σ.hp,σ.n,N,[]⟩ (Act.put { tmps:=vs.toArray ++ Array.replicate (N - vs.toArray.size) undef,defers:=[] } (some t) v) w :=
  Xe h0 (fun b hb _=>⟨hb,rfl⟩) (fun _ _=>Ele.rfl) (Nat.le_refl _) hin.hs (by simp) f8 (WP hv) hv2
 let Q:Exit->Act->World->Prop:=fun e a2 w2=>(e = .normal\/e = .ret)/\∃ σ' E',k ⟨σ.fr,σ'.hp,σ'.n,σ.N,σ.gs⟩/\Sim C2 E' σ' a2 w2
 have hKQ:LkQ C2 (rcK σ k) Q:=fun e σ' hk' E' a' w' hs=>by
  cases e with
  | n=>exact ⟨.inl rfl,σ',E',hk',hs⟩
  | ret=>exact ⟨.inr rfl,σ',E',hk',hs⟩
  | ex i=>exact hk'.elim
  | pan s=>exact hk'.elim
 have hmc:MC C2 σ.n:=⟨Nat.le_refl _,fun j b ho=>by
  rcases Classical.em (ltn σ.n j) with hj | hj
  . exact hj
  . have ho':occ E j (lkh j σ.hp) b:=ho
    rw [hS.hs.kn j hj] at ho';exact ho'.elim⟩
 have hlist:=ZaK (P:=P) (C:=C2) (Y:=Y0) UF (ops:=os) (Q:=Exit.then (wpX none P y0 Q) Q) (K:=Zad (fxS (fun σ' K=>sx P Y0 σ.n c σ' K) (rcK σ k))) (fun e σ' hk' E' a' w' hs0=>by
  have hs:=Yv hs0
  cases e with
  | n =>
   have hwp:=Z5 c C2 Y0 σ.n y0 (Wu σ') (rcK σ k) Q E' a' w' hmc UF (.inl rfl) f6 hk' hKQ hs
   exact hwp
  | ret=>exact hKQ .ret _ hk' E' a' w' hs
  | ex i=>exact hk'.elim
  | pan s=>exact hk'.elim) l _ f5 _ E _ w hrun h1
 refine ZgW (u':=u') (v:=v) f1 f2 f3 f4 hu (Q:=Q) (by rw [f7];exact hlist) (fun e a2 w2 hq=>⟨hq.1,?_⟩)
 obtain ⟨_,σ',E',hk',hs'⟩:=hq
 obtain ⟨ms,d1,d2,d3⟩:=hs'.df
 refine ⟨ms,by rw [d1];simp [C2],d2.1,fun m hm'=>(d3 m hm').2.2,fun w3 hu3=>?_⟩
 refine ⟨.tuple #[],by simp [results,f9],?_⟩
 have hs3:=Xj hs' d3 hu3
 have hout:=ZbU hS hs3 rfl rfl rfl rfl rfl hm
 obtain ⟨g1,g2⟩:=Zca (C:=C) hout.hs rfl rfl rfl rfl rfl
 have hpin:∀ j,j < σ.n->j < σ'.n/\Ele E E' j j:=fun j hj=>hs3.hs.pin j hj
 refine hk σ'.hp σ'.n E' w3 hk' (ZZ hS (fun b hb hsome=>?_) (fun j hj=>(hpin j hj).2) ?_ g1)
 . obtain ⟨b1,b2⟩:=hb
   have hlt:b < w.heap.size:=by
    rcases Nat.lt_or_ge b w.heap.size with q | q
    . exact q
    . rw [Array.getElem?_eq_none q] at hsome;cases hsome
   refine ⟨⟨b1,fun j ho=>?_⟩,?_⟩
   . rcases hs3.hs.lo j b ho with q | q
     . exact absurd hlt (Nat.not_lt.2 q)
     . exact b2 j q
   . exact hs3.hs.kp.block b hlt (fun j q=>b2 j q)
 . rcases Nat.lt_or_ge σ'.n σ.n with q | q
   . exact absurd (hpin σ'.n q).1 (Nat.lt_irrefl _)
   . exact q
theorem VS {fn:Func} {R':Ending->World->Prop}:∀ (b:FB) (C:Cx) (m:Nat) (code:Code) (σ : St) (K:Ex->St->Prop) (E:Env) (a:Act) (w:World),MC C m->C.rd=none->UM P b code=true->fx P m b σ K->Sim C E σ a w ->
 (∀ e σ',K e σ'->∀ (C':Cx) E' a' w',C'.w0=C.w0->C'.okp=C.okp->C'.pass=C.pass->C'.e0=C.e0->C'.m0=C.m0->Sim C' E' σ' a' w'->match e with
  | .n | .ret=>Lv P fn a'.tmps R' C.ds .returning w'
  | .ex _=>False
  | .pan s=>∀ y,R w' E' (ltn σ'.n) (okS C' E' σ'.hp) s y->Lv P fn a'.tmps R' C.ds (.panicking [{ v:=y,recovered:=false }]) w') ->
 wpX none P code (Z2 P fn R') a w
 | .tail c,C,m,code,σ,K,E,a,w,hm,hrd,hc,h,hS,hK=>by
  have hwp:=Z5 c C Y0 m code σ K (Z2 P fn R') E a w hm UF (.inl hrd) hc h (fun e σ' hk E' a' w' hs=>XE hK e σ' hk E' a' w' hs) hS
  rw [hrd] at hwp;exact hwp
 | .seq x b,C,m,code,σ,K,E,a,w,hm,hrd,hc,h,hS,hK=>by
  cases code<;>simp [UM] at hc
  rename_i cx cy
  refine ZaG ?_
  have hwp:=Z5 x C Y0 m cx σ (fxS (fx P m b) K) (Exit.then (wpX none P cy (Z2 P fn R')) (Z2 P fn R')) E a w hm UF (.inl hrd) hc.1 h (fun e σ' hk E' a' w' hs=>?_) hS
  . rw [hrd] at hwp;exact hwp
  cases e with
  | n=>exact VS b C m cy σ' K E' a' w' hm hrd hc.2 hk hs hK
  | ex i=>exact hk.elim
  | ret=>exact XE hK .ret σ' hk E' a' w' hs
  | pan s=>exact XE hK (.pan s) σ' hk E' a' w' hs
 | .dfr ops mx kx t b,C,m,code,σ,K,E,a,w,hm,hrd,hc,h,hS,hK=>by
  unfold UM at hc
  split at hc
  case h_2=>cases hc
  rename_i id os cy
  simp only [Bool.and_eq_true] at hc
  obtain ⟨⟨hc1,hc2⟩,hc3⟩:=hc
  split at hc2
  case h_2=>cases hc2
  rename_i o ho
  have hos:os.toList=os.toList.take ops.length ++ [o]:=by rw [<- ho,List.take_append_drop]
  refine ZaG (Y5 ?_)
  rw [hos,<- hrd]
  refine Zhs (C:=C) (Q:=Exit.then (wpX C.rd P cy (Z2 P fn R')) (Z2 P fn R')) (os2:=[o]) UF (K:=Zad (fxS (fun σ K=>Zuk P t (fun n=>fx P n b) (mpO (rdG none σ.fr mx)) (vO (rdG none σ.fr kx)) σ K) K)) (fun σ0 E1 a1 w1 hk0 hs0=>?_)
   (fun s σ' E' a' w' y hk hs hy=>XE hK (.pan s) (Wu σ') hk E' a' w' (Yv hs) y (by rw [Zcn,ZaL];exact hy)) ops _ hc1 σ E a w h hS
  have hs:=Yv hs0
  simp only [Zad,fxS] at hk0
  generalize Wu σ0 = σ1 at hs hk0
  obtain ⟨ms,d1,d2,d3⟩:=hs.df
  unfold Zuk at hk0
  split at hk0
  case h_2=>exact hk0.elim
  rename_i km kv hkm hkv
  obtain ⟨hlt,hfx⟩:=hk0
  have hlt:=Nat.le_of_ble_eq_true hlt
  have hmv:a1.tmps=a1.tmps/\evX a1 mx = .map (some (E1.β km)):=by
   have hR:=Yb hs.fr (g:=none) trivial mx
   cases hq:rdG none σ1.fr mx<;>rw [hq] at hkm<;>simp only [mpO,Option.some.injEq,reduceCtorEq] at hkm
   subst hkm
   rw [hq] at hR;simp only [R] at hR
   exact ⟨rfl,hR.2⟩
  have hkv':evX a1 kx=kv:=by
   have hR:=Yb hs.fr (g:=none) trivial kx
   cases hq:rdG none σ1.fr kx<;>rw [hq] at hkv<;>simp only [vO,Option.some.injEq,reduceCtorEq] at hkv
   subst hkv
   rw [hq] at hR;simp only [R] at hR
   exact hR
  have hmn:C.m0<=σ1.n:=by
   rcases Nat.lt_or_ge σ1.n C.m0 with q | q
   . exact absurd (hs.hs.pin σ1.n q).1 (Nat.lt_irrefl _)
   . exact q
  unfold ZuO at hc2
  split at hc2
  case h_2=>cases hc2
  rename_i c hop hdst hgd
  simp only [Bool.and_eq_true] at hc2
  obtain ⟨⟨e1,e2⟩,e3⟩:=hc2
  split at e1
  case h_2=>cases e1
  rename_i hcal
  split at e2
  case h_2=>cases e2
  rename_i om ok hargs
  simp only [Bool.and_eq_true] at e2
  split at e3
  case h_2=>cases e3
  rename_i u hu
  have hut:u=t:=by simpa using e3
  subst hut
  have hca:c.args = #[om,ok]:=by apply Array.toList_inj.1;rw [hargs]
  rw [hrd]
  simp only [Ve,Region.wanted,hgd]
  simp only [if_true]
  have hrun:(o.semAt none a1.eval).run P w1 = .ok (.defer { target:=.builtin .delete c.argTypes o.type (c.args.map fun | .const _=>true | _=>false),args:=#[.map (some (E1.β km)),kv] }) w1:=by
   rw [Oper.semAt_none]
   obtain ⟨dst',op',ty',pos,after,guard⟩:=o
   simp only at hop;subst hop
   simp only [execOp,Sem.run_bind,resolve,hcal,Sem.run_pure,Result.andThen_ok,hca]
   simp only [List.map_toArray,List.map_cons,List.map_nil,Zb e2.1 a1,Zb e2.2 a1,hmv.2,hkv']
   cases om<;>cases ok<;>rfl
  show o.wpq none P a1 w1 _ _
  unfold Oper.wpq
  rw [hrun]
  simp only [Oper.uponX,hdst]
  show Exit.then _ _ .normal _ w1
  simp only [Exit.then]
  show wpX none P cy (Z2 P fn R') { a1 with defers:=_ :: a1.defers } w1
  refine VS b _ σ1.n cy σ1 (dK P u km kv K) E1 _ w1 ⟨Nat.le_refl _,fun k b ho=>?_⟩ rfl hc3 hfx (ZhO hs _) (fun e σ' hk C2 E' a' w' c1 c2 c3 c4 c5 hs'=>?_)
  . rcases Classical.em (ltn σ1.n k) with hk | hk
    . exact hk
    . have ho':occ E1 k (lkh k σ1.hp) b:=ho
      rw [hs.hs.kn k hk] at ho';exact ho'.elim
  have main:∀ (hb':HB),ZrJ P u kv (lkh km σ'.hp) hb'->(∀ (C':Cx) E' a' w',C'.w0=C.w0->C'.okp=C.okp->C'.pass=C.pass->C'.e0=C.e0->C'.m0=C.m0->Sim C' E' ⟨σ'.fr,(km,hb') :: σ'.hp,σ'.n,σ'.N,σ'.gs⟩ a' w'->Lv P fn a'.tmps R' C.ds .returning w') ->
   Lv P fn a'.tmps R' ({ target:=.builtin .delete c.argTypes o.type (c.args.map fun | .const _=>true | _=>false),args:=#[.map (some (E1.β km)),kv] } :: a1.defers) .returning w':=fun hb' hdel hKK=>by
   obtain ⟨x,w2,hrun2,hs2,_⟩:=ZqW hs' (ty:=o.type) (cc:=c.args.map fun | .const _=>true | _=>false) hu hdel
   have hβ : E'.β km=E1.β km:=by
    have:=(hs'.hs.pin km (by rw [c5];exact hlt)).2.1
    rw [c4] at this;exact this
   rw [hβ] at hrun2
   refine ⟨by simp,.inr (.inl ⟨.delete,c.argTypes,o.type,_,w2,x,rfl,hrun2,?_⟩)⟩
   rw [d1]
   have hsim:=ZbU hs hs2 c1 c2 c3 c4 c5 hmn
   have hmark:∀ m ∈ ms,C.w0.heap.size<=m/\okS C E' ((km,hb') :: σ'.hp) m/\w2.heap[m]? = some (.deferred (some [])):=fun m hm=>by
    obtain ⟨p1,p2,p3⟩:=d3 m hm
    have hlt':m < w1.heap.size:=(Array.getElem?_eq_some_iff.1 p3).1
    have hnp:∀ k,¬ C2.pass k m:=fun k hk=>by rw [c3] at hk;exact p2.2 k hk
    refine ⟨p1,⟨p2.1,fun k ho=>?_⟩,?_⟩
    . rcases hs2.hs.lo k m ho with g | g
      . rw [c1] at g;exact absurd hlt' (Nat.not_lt.2 g)
      . exact hnp k g
    . have:=hs2.hs.kp.block m (by rw [c1];exact hlt') hnp
      rw [c1] at this;rw [this];exact p3
   refine YT ms _ _ (by simp) d2.1 (fun m hm=>(hmark m hm).2.2) fun w3 hu3=>?_
   exact hKK { C with ds:=a'.defers } E' a' w3 rfl rfl rfl rfl rfl (Xj (C:={ C with ds:=a'.defers }) hsim hmark hu3)
  cases e with
  | ex i=>exact hk.elim
  | pan s=>exact hk.elim
  | n =>
   obtain ⟨hb',h1,h2⟩:=hk
   exact main hb' h1 (fun C' E' a' w' q1 q2 q3 q4 q5 q6=>hK .n _ h2 C' E' a' w' q1 q2 q3 q4 q5 q6)
  | ret =>
   obtain ⟨hb',h1,h2⟩:=hk
   exact main hb' h1 (fun C' E' a' w' q1 q2 q3 q4 q5 q6=>hK .ret _ h2 C' E' a' w' q1 q2 q3 q4 q5 q6)
 | .rcv ops cx b,C,m,code,σ,K,E,a,w,hm,hrd,hc,h,hS,hK=>by
  unfold UM at hc
  split at hc
  case h_2=>cases hc
  rename_i id os cy
  simp only [Bool.and_eq_true] at hc
  obtain ⟨⟨hc1,hc2⟩,hc3⟩:=hc
  split at hc2
  case h_2=>cases hc2
  rename_i o ho
  have hos:os.toList=os.toList.take ops.length ++ [o]:=by rw [<- ho,List.take_append_drop]
  refine ZaG (Y5 ?_)
  rw [hos,<- hrd]
  refine Zhs (C:=C) (Q:=Exit.then (wpX C.rd P cy (Z2 P fn R')) (Z2 P fn R')) (os2:=[o]) UF (K:=Zad (fxS (fun σ K=>Zuw P (fun n=>fx P n b) (rK P K) (rdG none σ.fr cx) σ) K)) (fun σ0 E1 a1 w1 hk0 hs0=>?_)
   (fun s σ' E' a' w' y hk hs hy=>XE hK (.pan s) (Wu σ') hk E' a' w' (Yv hs) y (by rw [Zcn,ZaL];exact hy)) ops _ hc1 σ E a w h hS
  have hs:=Yv hs0
  simp only [Zad,fxS] at hk0
  generalize Wu σ0 = σ1 at hs hk0
  obtain ⟨ms,d1,d2,d3⟩:=hs.df
  unfold Zuw at hk0
  split at hk0
  case h_2=>exact hk0.elim
  rename_i g caps hcl
  have hRx:=Yb hs.fr (g:=none) trivial cx
  rw [hcl] at hRx
  simp only [R] at hRx
  obtain ⟨cs,k1,k2⟩:=hRx
  have hmn:C.m0<=σ1.n:=by
   rcases Nat.lt_or_ge σ1.n C.m0 with q | q
   . exact absurd (hs.hs.pin σ1.n q).1 (Nat.lt_irrefl _)
   . exact q
  unfold ZnE at hc2
  split at hc2
  case h_2=>cases hc2
  rename_i cc hop hdst hgd
  simp only [Bool.and_eq_true] at hc2
  obtain ⟨e1,e2⟩:=hc2
  split at e1
  case h_2=>cases e1
  rename_i y hcal
  have hca:cc.args = #[]:=by simpa using e2
  rw [hrd]
  simp only [Ve,Region.wanted,hgd]
  simp only [if_true]
  have hrun:(o.semAt none a1.eval).run P w1 = .ok (.defer { target:=.fn (.func g) cs,args:=#[] }) w1:=by
   rw [Oper.semAt_none]
   obtain ⟨dst',op',ty',pos,after,guard⟩:=o
   simp only at hop;subst hop
   simp [execOp,resolve,hcal,hca,Zb e1 a1,k1,Deferred.ofValue,Sem.run_bind,Sem.run_pure]
  show o.wpq none P a1 w1 _ _
  unfold Oper.wpq
  rw [hrun]
  simp only [Oper.uponX,hdst]
  show Exit.then _ _ .normal _ w1
  simp only [Exit.then]
  show wpX none P cy (Z2 P fn R') { a1 with defers:=_ :: a1.defers } w1
  refine VS b _ σ1.n cy σ1 (rK P K g caps) E1 _ w1 ⟨Nat.le_refl _,fun k b ho=>?_⟩ rfl hc3 hk0 (ZhO hs _) (fun e σ' hk C2 E' a' w' c1 c2 c3 c4 c5 hs'=>?_)
  . rcases Classical.em (ltn σ1.n k) with hk | hk
    . exact hk
    . have ho':occ E1 k (lkh k σ1.hp) b:=ho
      rw [hs.hs.kn k hk] at ho';exact ho'.elim
  have hpin:∀ j,j < σ1.n->j < σ'.n/\Ele E1 E' j j:=fun j hj=>by
   have:=hs'.hs.pin j (by rw [c5];exact hj)
   rw [c4] at this;exact this
  have hstC:Yh w1 w' (okS C E1 σ1.hp) (okS C2 E' σ'.hp):=fun b hb q=>by
   have hlt:b < w1.heap.size:=by rcases q with ⟨cells,T,fz,hcell⟩ | ⟨es,c,hcell⟩<;>exact (Array.getElem?_eq_some_iff.1 hcell).1
   refine ⟨⟨.inl (by rw [c2];exact hb),fun j ho=>?_⟩,?_⟩
   . rcases hs'.hs.lo j b ho with q | q
     . rw [c1] at q;exact absurd hlt (Nat.not_lt.2 q)
     . rw [c3] at q;exact hb.2 j q
   . have:=hs'.hs.kp.block b (by rw [c1];exact hlt) (fun j q=>by rw [c3] at q;exact hb.2 j q)
     rw [c1] at this;exact this
  have hcaps:RL w' E' (ltn σ'.n) (okS C2 E' σ'.hp) caps cs.toList:=Zu hstC (fun j hj=>(hpin j hj).2) (fun j hj=>(hpin j hj).1) _ _ k2
  have fin:∀ (kk:St->Prop) (eK:Ex) (heK:eK = .n\/eK = .ret),(∀ σ,kk σ->K eK σ)->∀ hp' n' E3 w3,kk ⟨σ'.fr,hp',n',σ'.N,σ'.gs⟩->Sim C2 E3 ⟨σ'.fr,hp',n',σ'.N,σ'.gs⟩ a' w3->Lv P fn a'.tmps R' a1.defers .returning w3:=fun kk eK heK hkk hp' n' E3 w3 hq hs2=>by
   rw [d1]
   have hsim:=ZbU hs hs2 c1 c2 c3 c4 c5 hmn
   have hmark:∀ m ∈ ms,C.w0.heap.size<=m/\okS C E3 hp' m/\w3.heap[m]? = some (.deferred (some [])):=fun m hm=>by
    obtain ⟨p1,p2,p3⟩:=d3 m hm
    have hlt':m < w1.heap.size:=(Array.getElem?_eq_some_iff.1 p3).1
    have hnp:∀ k,¬ C2.pass k m:=fun k hk=>by rw [c3] at hk;exact p2.2 k hk
    refine ⟨p1,⟨p2.1,fun k ho=>?_⟩,?_⟩
    . rcases hs2.hs.lo k m ho with g | g
      . rw [c1] at g;exact absurd hlt' (Nat.not_lt.2 g)
      . exact hnp k g
    . have:=hs2.hs.kp.block m (by rw [c1];exact hlt') hnp
      rw [c1] at this;rw [this];exact p3
   refine YT ms _ _ (by simp) d2.1 (fun m hm=>(hmark m hm).2.2) fun w4 hu4=>?_
   rcases heK with rfl | rfl
   . exact hK .n _ (hkk _ hq) { C with ds:=a'.defers } E3 a' w4 rfl rfl rfl rfl rfl (Xj (C:={ C with ds:=a'.defers }) hsim hmark hu4)
   . exact hK .ret _ (hkk _ hq) { C with ds:=a'.defers } E3 a' w4 rfl rfl rfl rfl rfl (Xj (C:={ C with ds:=a'.defers }) hsim hmark hu4)
  have hm2:C2.m0<=σ'.n:=by
   rw [c5]
   rcases Nat.lt_or_ge σ'.n σ1.n with q | q
   . exact absurd (hpin σ'.n q).1 (Nat.lt_irrefl _)
   . exact q
  have main:∀ (s:SV) (v:Value) (u u':FrameMode) (eK:Ex),(eK = .n\/eK = .ret)->R w' E' (ltn σ'.n) (okS C2 E' σ'.hp) s v->Zu6 v u u'->(∃ t l c N,RcF P g t l c N/\rcR P t l c N caps s σ' (K eK)) ->
   Lv P fn a'.tmps R' ({ target:=.fn (.func g) cs,args:=#[] } :: a1.defers) u w':=fun s v u u' eK heK hv hu hex=>by
   obtain ⟨t,l,c,N,hF,hrun⟩:=hex
   have hset:u≠.run/\settle u' = .returning:=by
    rcases hu with ⟨rfl,rfl,rfl⟩ | ⟨rfl,rfl⟩
    . exact ⟨by simp,rfl⟩
    . exact ⟨by simp,rfl⟩
   refine ⟨hset.1,.inr (.inr ⟨.func g,cs,g,cs,rfl,by simp [invoke,Yp hF.bd],?_⟩)⟩
   have hcalls:=Ztn hF hs' hm2 hcaps hv hrun hu (R':=fun e u'' w''=>match e with
    | .returned _=>Lv P fn a'.tmps R' a1.defers (settle u'') w''
    | .panicked chain=>Lv P fn a'.tmps R' a1.defers (raised u'' chain) w''
    | .outgrown=>R' .outgrown w'') (fun hp' n' E3 w3 hq hs3=>by
    show Lv P fn a'.tmps R' a1.defers (settle u') w3
    rw [hset.2]
    exact fin (K eK) eK heK (fun _ h=>h) hp' n' E3 w3 hq hs3)
   rw [show cs.toList.toArray=cs from rfl] at hcalls
   intro c₀ cs0 hc0
   obtain ⟨e2,u2,w2,fr2,q1,q2,q3,q4⟩:=hcalls c₀ cs0 hc0
   refine ⟨e2,u2,w2,fr2,?_,q2,q3,q4⟩
   cases e2<;>exact q1
  cases e with
  | ex i=>exact hk.elim
  | n=>exact main _ _ _ _ .n (.inl rfl) (by simp only [R]) (.inl ⟨rfl,rfl,rfl⟩) hk
  | ret=>exact main _ _ _ _ .ret (.inr rfl) (by simp only [R]) (.inl ⟨rfl,rfl,rfl⟩) hk
  | pan s=>intro y hy;exact main s y _ _ .ret (.inr rfl) hy (.inr ⟨rfl,rfl⟩) hk
theorem Zcc {f:FuncId} {fn:Func} {code:Code} {fb:FB} {args:List SV} {N n0 m:Nat} {hp0:List (Nat × HB)} {C:Cx} {E:Env} {w:World} {vs:List Value} {K:Ex->St->Prop} {R':Ending->World->Prop}
 (hf:P.funcs[f]? = some fn) (hb:fn.body=some code) (hc:UM P fb code=true) (hN:fn.ntmps=N) (hA:args.length<=N) (hds:C.ds=[]) (hrd:C.rd=none) (hm:MC C m)
 (hH:HSim C E hp0 (ltn n0) w) (hR:RL w E (ltn n0) (okS C E hp0) args vs) (h:fx P m fb ⟨XS 0 args,hp0,n0,N,[]⟩ K)
 (hK:∀ e σ,K e σ->∀ C' E a w',C'.w0=C.w0->C'.okp=C.okp->C'.pass=C.pass->C'.e0=C.e0->C'.m0=C.m0->Sim C' E σ a w'->match e with
  | .n | .ret=>∃ v,(results fn a.tmps).run P w' = .ok v w'/\R' (.returned v) w'
  | .ex _=>False
  | .pan s=>∀ y,R w' E (ltn σ.n) (okS C' E σ.hp) s y->R' (.panicked [{ v:=y,recovered:=false }]) w'):Calls P f vs.toArray w R':=by
 have hlen:=Zq hR
 have hng:∀ t j b s,lk t (XS 0 args)≠.gd j b s:=by
  intro t j b s ht
  simp only [WH,Nat.zero_le,if_true,Nat.sub_zero] at ht
  by_cases htl:t < args.length
  . have e1:args.getD t .any=args[t]:=by simp [htl]
    obtain ⟨y,h1,h2⟩:=X9 hR (List.getElem?_eq_getElem htl)
    rw [e1] at ht;rw [ht] at h2;simp only [R] at h2
  . have e1:args.getD t .any = .any:=by simp [List.getElem?_eq_none (Nat.le_of_not_lt htl)]
    rw [e1] at ht;cases ht
 have hS:Sim C E ⟨XS 0 args,hp0,n0,N,[]⟩ { tmps:=vs.toArray ++ Array.replicate (fn.ntmps - vs.toArray.size) undef,defers:=[] } w:=by
  refine ⟨fun t=>?_,by simp [hN];omega,by rw [<- hds];exact Vy,fun t j b s ht=>absurd ht (hng t j b s),hH⟩
  have hng:=hng t
  have hFR:R w E (ltn n0) (okS C E hp0) (lk t (XS 0 args)) ((vs.toArray ++ Array.replicate (fn.ntmps - vs.toArray.size) undef).getD t undef):=by
   simp only [WH,Nat.zero_le,if_true,Nat.sub_zero]
   by_cases ht:t < args.length
   . have e1:args.getD t .any=args[t]:=by simp [ht]
     obtain ⟨y,h1,h2⟩:=X9 hR (List.getElem?_eq_getElem ht)
     have e2:(vs.toArray ++ Array.replicate (fn.ntmps - vs.toArray.size) undef).getD t undef=y:=by
      have:t < vs.length:=by omega
      have h1':=(List.getElem?_eq_some_iff.1 h1).2
      simp [Array.getElem?_append,this,h1']
     rw [e1,e2];exact h2
   . have e1:args.getD t .any = .any:=by simp [List.getElem?_eq_none (Nat.le_of_not_lt ht)]
     rw [e1];simp only [R]
  simp only
  cases hq:lk t (XS 0 args)<;>rw [hq] at hFR hng<;>first | exact hFR | exact absurd rfl (hng _ _ _)
 refine WB hf hb ?_
 refine VS fb C m code _ K E _ w hm hrd hc h hS (fun e σ hk C' E a w' c1 c2 c3 c4 c5 hs=>?_)
 have key:=hK e σ hk C' E a w' c1 c2 c3 c4 c5 hs
 rw [hds]
 cases e with
 | ex i=>exact key
 | n=>exact key
 | ret=>exact key
 | pan s=>exact key
theorem ZdS {f:FuncId} {fn:Func} {code:Code} {fb:FB} {args:List SV} {rs:List RV} {N n0:Nat} {hp0:List (Nat × HB)} {Yd:Ot->Prop} (hf:P.funcs[f]? = some fn) (hb:fn.body=some code) (hc:UM P fb code=true)
 (hr:WD P rs fn.results.toList=true) (hN:fn.ntmps=N) (hA:args.length<=N) (h:fx P n0 fb ⟨XS 0 args,hp0,n0,N,[]⟩ (ZcS rs Yd)):CtY P Y0 f hp0 n0 args Yd:=by
 intro C E w vs d1 d2 d3 d4 d5 d6 hY hH hR
 refine Zcc hf hb hc hN hA d3 d2 ⟨Nat.le_of_eq d5,d6⟩ hH hR h fun e σ hk C' E' a w' c1 c2 c3 c4 c5 hs=>?_
 obtain ⟨g1,g2⟩:=Zca hs.hs c1 c2 c3 c4 c5
 have hend:ZnW Yd σ.hp σ.n (rvE (ZbM σ rs))->∃ v,(results fn a.tmps).run P w' = .ok v w'/\∃ o E' y,Yd o/\HSim C E' o.hp (ltn o.n) w'/\R w' E' (ltn o.n) (okS C E' o.hp) o.res y/\Ending.returned v=ZpQ o.pn y:=fun hrr=>by
  cases hq:rvE (ZbM σ rs) with
  | none=>rw [hq] at hrr;exact hrr.elim
  | some s =>
   rw [hq] at hrr
   obtain ⟨v,h1,h2⟩:=Vc (P:=P) (fn:=fn) (a:=a) (w:=w') (E:=E') (n:=ltn σ.n) (ok:=okS C' E' σ.hp) hq fun l hl=>Zcr hs rs _ l hr hl
   rw [g2] at h2
   exact ⟨v,h1,_,E',v,hrr,g1,h2,rfl⟩
 cases e with
 | ex i=>exact hk.elim
 | n=>exact hend hk
 | ret=>exact hend hk
 | pan s=>intro y hy;rw [g2] at hy;exact ⟨_,E',y,hk,g1,hy,rfl⟩
theorem Zdn {f:FuncId} {fn:Func} {code:Code} {fb:FB} {args:List SV} {rs:List RV} {N n0:Nat} {hp0:List (Nat × HB)} {Yd:Ot->Prop} (hf:P.funcs[f]? = some fn) (hb:fn.body=some code) (hnm:YQ P f=true) (hc:UM P fb code=true)
 (hr:WD P rs fn.results.toList=true) (hN:fn.ntmps=N) (hA:args.length<=N) (hh:hpb n0 hp0) (hx:∀ o,Yd o->KX o.res/\KXP o.hp) (h:fx P n0 fb ⟨XS 0 args,hp0,n0,N,[]⟩ (ZcS rs fun o=>∃ o',Yd o'/\Zhx n0 o o')):CtM P f hp0 n0 args Yd :=
 ⟨hnm,hh,hx,(ZdS hf hb hc hr hN hA h).mono fun _ h=>h⟩
end
theorem UL {m:Nat} {σ : St} (t:Nat) {s':SV} (hg:σ.gs=[]) (hw:ZaU (lk t σ.fr) s') (h2:∀ j b u,s'≠.gd j b u):Ent m σ ⟨(t,s') :: σ.fr,σ.hp,σ.n,σ.N,σ.gs⟩:=fun C E a w hmc h=>by
 have hR0:∀ u,R w E (ltn σ.n) (okS C E σ.hp) (lk u σ.fr) (a.tmps.getD u undef):=fun u=>Zso (h.fr u) (fun j b u' e=>by have:=h.gs u j b u' e;rw [hg] at this;simp at this)
 have g2:Zr w w (okS C E σ.hp) (okS C E σ.hp):=fun b hb _=>⟨hb,rfl⟩
 refine ⟨E,fun u=>?_,h.sz,h.df,fun u j b s hu=>?_,h.hs⟩
 . rw [Zp]
   split
   . rename_i hu;subst hu
     have:=hw _ _ _ _ _ (hR0 u)
     cases s'<;>first | exact this | exact absurd rfl (h2 _ _ _)
   . refine YP g2 (fun _ _=>Ele.rfl) (fun k hk=>hk) (fun j b s hs=>?_) (h.fr u)
     have:=h.gs u j b s hs;rw [hg] at this;simp at this
 . rw [Zp] at hu
   split at hu
   . exact absurd hu (h2 _ _ _)
   . exact h.gs u j b s hu
end Go.Sx
namespace Go.Proofs.Ytkjldleglbbkeaa
open Go Go.Sx
def c31:SC:=(sr1 [
 o1 4 (.mv (.c (.bool false)))]
 (.seq (sr1 [
 m1 6 0,
 o1 7 (.len (.t 6)),
 m1 8 1,
 o1 9 (.len (.t 8)),
 o1 10 (.bin .neq (.t 7) (.t 9))]
 (.cond (.t 10)
 (sr1 [
  o1 4 (.mv (.c (.bool false)))]
  .ret)
 .skip))
 (.seq (sr1 [
 o1 5 (.mv (cn 0))]
 (.block 0 (.loop (.seq (sr1 [
  m1 11 5,
  m1 12 0,
  o1 13 (.len (.t 12)),
  o1 14 (.bin .lss (.t 11) (.t 13))]
  (.cond (.t 14)
  .skip
  (.exit 0)))
  (.seq (.block 1 (.seq (.regd [0,1,2,3,4,5,6,7,8,9] [
   .op (m1 17 0),
   .op (m1 18 5),
   .op (p1 19 (.ixs (.t 17) (.t 18) 1) [0,1]),
   .op (p1 20 (lf 19 1) [2]),
   .op (m1 21 1),
   .op (m1 22 5),
   .op (p1 23 (.ixs (.t 21) (.t 22) 1) [4,5]),
   .op (p1 24 (lf 23 1) [6]),
   .op (p1 25 (.call 40 [.t 20,.t 24]) [3,7]),
   .op (p1 26 (.un .not (.t 25)) [8])] 0 0 [
])
 (.cond (.t 26)
 (sr1 [
  o1 4 (.mv (.c (.bool false)))]
  .ret)
 .skip)))
 (.reg [
 m1 15 5,
 o1 16 (.bin .add (.t 15) (cn 1)),
 m1 5 16]))))))
 (sr1 [
 o1 4 (.mv (.c (.bool true)))]
 .ret))))
def r31:List RV:=[.tmp 4]
theorem t31:Qt1 Try.prog 31 c31 r31 27:=Xl Try.func31 rfl (by kernel_rfl) (by kernel_rfl) (by kernel_rfl) (by kernel_rfl)
end Go.Proofs.Ytkjldleglbbkeaa
namespace Go.Azalai
open Go.Sx
theorem YV {l:Land} {p:Span} {to till:Int} {f:Nat} {been:List Int} {v t:Int} {j:Nat}:∀ (k:Nat),∃ R,ZX l p to till f been v t (j+k)=ZX l p to till f been v t j ++ R
 | 0=>⟨[],by simp⟩
 | k+1=>by
  obtain ⟨R,h⟩:=YV k
  exact ⟨R ++ Y9 l p to till f been v t (j+k),by rw [<- Nat.add_assoc,ZJ,h,List.append_assoc]⟩
theorem X1 {l:Land} {p:Span} {to till:Int} {f:Nat} {been:List Int} {v t:Int} {j:Nat} {x:Leg} (hx:l.legs[j]? = some x) (h:Zg x v < 0\/Zg x v ∈ v :: been):Y9 l p to till f been v t j=[]:=by
 simp only [Y9,hx];rw [if_pos h]
theorem Vt {l:Land} {p:Span} {to till:Int} {f:Nat} {been:List Int} {v t:Int} {j:Nat} {x:Leg} (hx:l.legs[j]? = some x) (h0:¬ Zg x v < 0) (h:Zg x v ∉ v :: been) :
 Y9 l p to till f been v t j=(YD l p to till f (v :: been) (Zg x v) (ZR true x p t)).map (j :: ·):=by
 simp only [Y9,hx];rw [if_neg (fun q=>q.elim h0 h)]
end Go.Azalai
namespace Go.Proofs.Ytkjldleglbbkeaa
open Go Go.Sx Go.Azalai
def Xn (w:List Nat):List SV:=[ZB w]
def Ztv (been:List Int) (L:List (Nat × Int × Bool)):Prop:=∀ u:Int,WR u L=if u ∈ been then some true else none
theorem Zlp {L:List (Nat × Int × Bool)} {c:Nat} {v:Int} {b:Bool} (h:WR v L=none):Zau v (VW c v b L)=L:=by
 rw [Zas h]
 have key:∀ (L:List (Nat × Int × Bool)),WR v L=none->Zau v (L ++ [(c,v,b)])=L:=by
  intro L
  induction L with
  | nil=>intro _;simp [Zau]
  | cons e L ih =>
   intro h
   have hne:e.2.1≠v:=X6.1 h e (by simp)
   have hL:WR v L=none:=X6.2 fun x hx=>X6.1 h x (by simp [hx])
   have:=ih hL
   obtain ⟨e1,e2,e3⟩:=e
   simp only at hne
   simp only [List.cons_append,Zau]
   rw [this]
   simp [hne,Ne.symm hne]
 exact key L h
end Go.Proofs.Ytkjldleglbbkeaa
namespace Go.Sx
open Go Go.RowKit
section
variable {g:Option (Nat × Bool)} {k v' m0 T o m' T':Nat} {xs:List (List SV)} {inn:List (List (List SV))} {d:Option Nat} {σ : St} {r:KT} {K:RK}
theorem Ztt {j:Int} (n:Nat) (hi:j=(n:Int)) (hn:n < xs.length) (hk:Yc d (.pr k v' m0 n 0) g σ r K) :
 ∃ i rows TT,v'=v'+i/\Z1 k v' m0 xs T o m' inn T' i=some (m0,rows,TT)/\IXR g k v' m0 rows.length j d σ r K :=
 ⟨0,_,_,rfl,rfl,ZnI n hi (by rw [Z9];exact hn) hk⟩
theorem Ztp {j:Int} {v:Nat} {rows:List (List SV)} (i n:Nat) (hv:v=v'+(i+1)) (hr:inn[i]? = some rows) (hi:j=(n:Int)) (hn:n < rows.length) (hk:Yc d (.pr k v m' n 0) g σ r K) :
 ∃ i rows TT,v=v'+i/\Z1 k v' m0 xs T o m' inn T' i=some (m',rows,TT)/\IXR g k v m' rows.length j d σ r K :=
 ⟨i+1,rows,T',hv,by simp only [Z1,hr],ZnI n hi hn hk⟩
theorem Zuy {α : Type} {l:List α} {f:α->List SV} {h:α->List (List SV)} {v j oo:Nat} {c row:List SV} (i:Nat) (y:α) (hv:v=v'+(i+1)) (hi:i < l.length) (hr:(h l[i])[j]? = some row) (hb:oo+c.length<=row.length) (he:h y=(h l[i]).set j (Zo row oo c)) (hf:f y=f l[i])
 (hk:r ⟨σ.fr,(k,.rws v' m0 ((l.set i y).map f) T o m' ((l.set i y).map h) T') :: σ.hp,σ.n,σ.N,σ.gs⟩ K):STW v' m0 (l.map f) T o m' (l.map h) T' v m' j oo k c σ r K:=by
 refine .inr ⟨i,h l[i],row,hv,rfl,by simp [hi],hr,hb,?_⟩
 rw [<- he,<- List.map_set]
 have e:(l.set i y).map f=l.map f:=by
  rw [List.map_set,hf]
  refine List.ext_getElem? fun q=>?_
  by_cases hq:q=i
  . subst hq;rw [List.getElem?_set_self (by simpa using hi),List.getElem?_map,List.getElem?_eq_getElem hi];rfl
  . rw [List.getElem?_set_ne (Ne.symm hq)]
 rw [e] at hk
 exact hk
end
theorem ZcD {α : Type} {f:α->List SV} {h:α->List (List SV)} (o m':Nat):∀ l:List α,ZaS o m' (l.map h) (l.map f)=l.map fun x=>(f x).set o (.sl false m' (h x))
 | []=>rfl
 | x :: l=>by simp only [List.map_cons,ZaS,ZcD o m' l]
section
variable {P:Program} {C:Cx} {E:Env} {w w':World}
theorem Zc9 {k o:Nat}:∀ {N u:Nat} {xs ys:List (List SV)},N<=xs.length->Xm k o u N (xs ++ ys)=Xm k o u N xs ++ ys
 | 0,_,_,_,_=>by simp only [Xm]
 | N+1,u,[],ys,h=>by simp at h
 | N+1,u,x :: xs,ys,h=>by simp only [List.cons_append,Xm];rw [Zc9 (by simpa using h)]
theorem Zc8 {p:SV->SV->Prop} (hp:∀ s,p s s) {k o:Nat}:∀ {N:Nat} {xs:List (List SV)} {u u':Nat},(∀ i,i < N->p (.mr k (u+i)) (.mr k (u'+i)))->F2 p (Xm k o u N xs).flatten (Xm k o u' N xs).flatten
 | 0,xs,u,u',_=>by simp only [Xm];exact W3 hp _
 | N+1,[],u,u',_=>by simp only [Xm];exact .nil
 | N+1,r :: xs,u,u',h=>by
  simp only [Xm,List.flatten_cons]
  exact UH (ZcJ (by simpa using h 0 (by omega)) o (W3 hp r)) (Zc8 hp fun i hi=>by
   have:=h (i+1) (by omega)
   rw [show u+(i+1)=u+1+i from by omega,show u'+(i+1)=u'+1+i from by omega] at this;exact this)
theorem ZdG {n ok:Nat->Prop} {y:Value} {m:Nat} {xs:List (List SV)} {T:TypeId} (h:Zk4 w E n ok y m xs T):∃ cs,XU w y m xs.length cs/\RL w E n ok xs.flatten cs/\((∀ r ∈ xs,r.length=m)\/xs=[]):=by
 rcases h with ⟨rfl,a0,h⟩ | ⟨b,cap,cs,h1,h2,h3,⟨h4,_⟩,h5,h6,h7⟩
 . exact ⟨[],by rw [h];exact ⟨a0,0,rfl,Nat.le_refl _,by simp,.inl rfl⟩,by simp [RL],.inr rfl⟩
 . refine ⟨_,⟨_,cap,h1,h4,?_,.inr ⟨b,0,rfl,fun j c hj=>?_⟩⟩,h7,.inl h6⟩
   . have:=Nat.mul_le_mul_right m h4
     simp only [List.length_take,Array.length_toList,h3];exact Nat.min_eq_left this
   . rw [Nat.zero_add,cell_of_row _ _ _ _ _ _ h2]
     have hj':j < xs.length * m:=by have:=(List.getElem?_eq_some_iff.1 hj).1;simp at this;omega
     rw [List.getElem?_take_of_lt hj'] at hj;simpa using hj
theorem Zb7 {hp:List (Nat × HB)} {n:Nat->Prop} {k v m o m':Nat} {xs ys:List (List SV)} {T T':TypeId} {inn:List (List (List SV))} {y:Value} {b cap:Nat} {cs:Array Value}
 (h:HSim C E hp n w) (hk:lkh k hp = .rws v m xs T o m' inn T')
 (ho:w'.os=w.os) (ht:w'.tape=w.tape) (hu:w'.output=w.output) (hsz:w.heap.size<=w'.heap.size) (hsame:∀ b,b < w.heap.size->¬ UU (E.hv k v) b->w'.heap[b]? = w.heap[b]?)
 (e1:y = .slice (some ⟨b,0,none⟩) (xs.length+ys.length) cap) (eb:UU (E.hv k v) b\/w.heap.size<=b) (e2:w'.heap[b]? = some (.cells cs T (0,0))) (e3:cs.size=cap * m) (e4:xs.length+ys.length<=cap/\cap≠0) (e5:xs.length+ys.length<=9223372036854775807)
 (e6:(∀ r ∈ xs,r.length=m)/\∀ r ∈ ys,r.length=m) (e7:RL w E n (okS C E hp) ((Xm k o (v+1) inn.length xs).flatten ++ ys.flatten) (cs.toList.take ((xs.length+ys.length) * m))) :
 ∃ E',(∀ j,n j->Ele E E' j j)/\E'.hv k (v+1+inn.length)=y/\v+1+inn.length < E'.iss k/\n k/\HSim C E' ((k,.rws (v+1+inn.length) m (xs ++ ys) T o m' inn T') :: hp) n w'/\Zr w w' (okS C E hp) (okS C E' ((k,.rws (v+1+inn.length) m (xs ++ ys) T o m' inn T') :: hp)):=by
 have hkn:n k:=by
  rcases Classical.em (n k) with h' | h'
  . exact h'
  . rw [h.kn k h'] at hk;cases hk
 have hb0:=h.bk k
 rw [hk] at hb0
 simp only [ZP] at hb0
 obtain ⟨a1,a2,a3,a4⟩:=hb0
 generalize hV:v+1+inn.length=V at *
 let E':Env:=⟨E.β,fun j u=>if j=k/\V<=u then (if u=V then y else E.hv k (u - V+v)) else E.hv j u,fun j=>if j=k then V+1+inn.length else E.iss j⟩
 have hv0:∀ j u,j≠k\/u < V->E'.hv j u=E.hv j u:=fun j u hj=>by
  simp only [E'];rw [if_neg];rintro ⟨rfl,q⟩;rcases hj with hj | hj
  . exact hj rfl
  . omega
 have hvV:E'.hv k V=y:=by simp [E']
 have hvi:∀ i,E'.hv k (V+(i+1))=E.hv k (v+(i+1)):=fun i=>by
  show (if k=k/\V<=V+(i+1) then (if V+(i+1)=V then y else E.hv k (V+(i+1) - V+v)) else E.hv k (V+(i+1)))=_
  rw [if_pos ⟨rfl,by omega⟩,if_neg (by omega),show V+(i+1) - V+v=v+(i+1) from by omega]
 have hik:E'.iss k=V+1+inn.length:=if_pos rfl
 have hE:∀ j,n j->Ele E E' j j:=fun j _=>⟨rfl,by
  by_cases hj:j=k
  . subst hj;simp [E',a1];omega
  . simp [E',hj],fun u hu'=>by
  by_cases hj:j=k
  . subst hj;rw [a1] at hu';exact hv0 _ _ (.inr hu')
  . exact hv0 _ _ (.inl hj)⟩
 have hoc:∀ j b,j≠k->(occ E' j (lkh j ((k,.rws V m (xs ++ ys) T o m' inn T') :: hp)) b↔occ E j (lkh j hp) b):=fun j b hj=>by
  rw [Zh,if_neg hj]
  have hvv:∀ u,E'.hv j u=E.hv j u:=fun u=>hv0 j u (.inl hj)
  have hbb:E'.β j=E.β j:=rfl
  cases hl:lkh j hp<;>simp only [occ,hvv,hbb]
 have hok:∀ i b,i<=inn.length->UU (E.hv k (v+i)) b->occ E k (lkh k hp) b:=fun i b hi hb=>by rw [hk];exact ⟨i,hi,hb⟩
 have hdy:∀ b',UU y b'->b'=b:=fun b' hb=>by
  obtain ⟨len,c2,q1,q2⟩:=hb
  rw [e1] at q1;simp at q1;exact q1.1.symm
 have hocn:∀ b,occ E' k (lkh k ((k,.rws V m (xs ++ ys) T o m' inn T') :: hp)) b->occ E k (lkh k hp) b\/w.heap.size<=b:=fun b'=>by
  rw [Zh,if_pos rfl]
  rintro ⟨i,hi,hb⟩
  cases i with
  | zero =>
   rw [Nat.add_zero,hvV] at hb
   have:=hdy b' hb;subst this
   rcases eb with q | q
   . exact .inl (hok 0 _ (Nat.zero_le _) q)
   . exact .inr q
  | succ i=>rw [hvi] at hb;exact .inl (hok (i+1) _ hi hb)
 have hst:Zr w w' (okS C E hp) (okS C E' ((k,.rws V m (xs ++ ys) T o m' inn T') :: hp)):=fun b' hb hs=>by
  have hlt':b' < w.heap.size:=by
   obtain ⟨o,ho⟩:=Option.isSome_iff_exists.1 hs
   exact (Array.getElem?_eq_some_iff.1 ho).1
  refine ⟨⟨hb.1,fun j hj=>?_⟩,hsame b' hlt' (fun q=>hb.2 k (hok 0 _ (Nat.zero_le _) q))⟩
  by_cases hjk:j=k
  . subst hjk
    rcases hocn b' hj with q | q
    . exact hb.2 _ q
    . omega
  . exact hb.2 j ((hoc j b' hjk).1 hj)
 have hidx:∀ i,i < inn.length->∀ b',UU (E.hv k (v+(i+1))) b'->w'.heap[b']? = w.heap[b']?:=fun i hi b' hb =>
  hsame b' (ZV h (hok (i+1) b' hi hb)) (fun q=>by have:=a4 0 (i+1) b' (Nat.zero_le _) hi q hb;omega)
 refine ⟨E',hE,hvV,by rw [hik];omega,hkn,⟨fun j hj=>?_,fun j=>?_,fun j j' b' h1 h2=>?_,fun j b' h1=>?_,⟨ho.trans h.kp.os,ht.trans h.kp.tape,hu.trans h.kp.output,Nat.le_trans h.kp.size hsz,fun b' h1 h2=>?_⟩,fun j hj=>(by obtain ⟨p1,p2⟩:=h.pin j hj;exact ⟨p1,p2.trans (hE j p1)⟩)⟩,hst⟩
 . rw [Zh,if_neg (fun e=>hj (by rw [e];exact hkn))];exact h.kn j hj
 . rw [Zh]
   by_cases hj:j=k
   . subst hj;rw [if_pos rfl]
     simp only [ZP]
     refine ⟨hik,by rw [List.length_append];omega,fun i mm rows TT hr=>?_,fun i i' b' hi hi' g1 g2=>?_⟩
     . cases i with
       | zero =>
        simp only [Z1,Option.some.injEq,Prod.mk.injEq] at hr
        obtain ⟨rfl,rfl,rfl⟩:=hr
        rw [Nat.add_zero,hvV]
        have hl:=Z9 j o (V+1) inn.length (xs ++ ys)
        refine .inr ⟨b,cap,cs,by rw [hl,List.length_append];exact e1,e2,e3,by rw [hl,List.length_append];exact e4,by rw [hl,List.length_append];exact e5,YL.2 fun r hr=>?_,?_⟩
        . rcases List.mem_append.1 hr with hr | hr
          . exact e6.1 r hr
          . exact e6.2 r hr
        . rw [hl,List.length_append,Zc9 a2,List.flatten_append]
          have e8:=Zu hst.c hE (fun _ h=>h) _ _ e7
          refine Vm ?_ e8
          refine UH (Zc8 (p:=fun s s'=>∀ y,R w' E' n (okS C E' ((j,.rws V m (xs ++ ys) T o m' inn T') :: hp)) s y->R w' E' n (okS C E' ((j,.rws V m (xs ++ ys) T o m' inn T') :: hp)) s' y) (fun s y hy=>hy) fun i hi y hy=>?_) (W3 (fun s y hy=>hy) _)
          simp only [R] at hy ⊢
          obtain ⟨q1,q2,q3,q4⟩:=hy
          refine ⟨q1,by rw [hik];omega,?_,q4⟩
          rw [q3,hv0 j (v+1+i) (.inr (by omega)),show V+1+i=V+(i+1) from by omega,hvi,show v+(i+1)=v+1+i from by omega]
       | succ i =>
        have hil:=WT hr
        rw [hvi]
        simp only [Z1] at hr
        have hr2:Z1 j v m xs T o m' inn T' (i+1)=some (mm,rows,TT):=by simp only [Z1];exact hr
        exact (a3 (i+1) mm rows TT hr2).mono hst.c hE (fun _ h=>h) (hidx i (by omega))
     . have aux:∀ i i',i<=inn.length->i'<=inn.length->UU (E'.hv j (V+i)) b'->UU (E'.hv j (V+i')) b'->i=0->i'=0:=fun i i' hi hi' g1 g2 hz=>by
        subst hz
        rw [Nat.add_zero,hvV] at g1
        have:=hdy b' g1;subst this
        cases i' with
        | zero=>rfl
        | succ i' =>
         rw [hvi] at g2
         rcases eb with q | q
         . have:=a4 0 (i'+1) _ (Nat.zero_le _) hi' q g2;omega
         . have:=ZV h (hok (i'+1) _ hi' g2);omega
       cases i with
       | zero=>exact (aux 0 i' hi hi' g1 g2 rfl).symm
       | succ i =>
        cases i' with
        | zero=>exact aux 0 (i+1) hi' hi g2 g1 rfl
        | succ i' =>
         rw [hvi] at g1 g2
         exact a4 (i+1) (i'+1) b' hi hi' g1 g2
   . rw [if_neg hj]
     refine ZU hst hE (fun _ h=>h) ?_ (fun b' hob=>hsame b' (ZV h hob) (fun q=>hj (h.dj j k b' hob (hok 0 _ (Nat.zero_le _) q)))) (by simp [E',hj]) (h.bk j)
     rcases Classical.em (n j) with h' | h'
     . exact .inr h'
     . exact .inl (h.kn j h')
 . by_cases hj:j=k<;>by_cases hj':j'=k
   . omega
   . subst hj;rw [hoc j' b' hj'] at h2
     rcases hocn b' h1 with q | q
     . exact h.dj _ _ b' q h2
     . have:=ZV h h2;omega
   . subst hj';rw [hoc j b' hj] at h1
     rcases hocn b' h2 with q | q
     . exact h.dj _ _ b' h1 q
     . have:=ZV h h1;omega
   . exact h.dj j j' b' ((hoc j b' hj).1 h1) ((hoc j' b' hj').1 h2)
 . by_cases hj:j=k
   . subst hj
     rcases hocn b' h1 with q | q
     . exact h.lo _ b' q
     . exact .inl (Nat.le_trans h.kp.size q)
   . exact h.lo j b' ((hoc j b' hj).1 h1)
 . rw [hsame b' (Nat.lt_of_lt_of_le h1 h.kp.size) (fun q=>by rcases h.lo k b' (hok 0 _ (Nat.zero_le _) q) with g | g;omega;exact h2 _ g)]
   exact h.kp.block b' h1 h2
theorem ZcY {ty:TypeId} {ax ay:Operand} {az:Array Operand} {ts:Array TypeId} {σ : St} {r:KT} {K:RK} {k v m o m':Nat} {xs ys:List (List SV)} {inn:List (List (List SV))} {T T' t:TypeId} {u bs:Nat}
 (hx:ZbI σ ax = .mr k v) (hy:Zcs m (ZbI σ ay)=some ys) (hk:lkh k σ.hp = .rws v m xs T o m' inn T')
 (has:az = #[ax,ay]) (hts:ts = #[t,t]) (ht:P.underlying t=some (.slice T)) (hsz:Y3 P T=some m) (hby:Y6 P T=some bs) (hz:(Yf P T).map (fun z=>z.cells.size)=some m) (hbs:Nat.blt 0 bs=true) (hm0:Nat.blt 0 m=true)
 (hone:∀ c ∈ ys,Ya c=true) (hys:ys≠[]) (hlim:(xs.length+ys.length) * bs<=140737488355328)
 (h1:Yz u σ.gs=false) (h2:Nat.blt u σ.N=true) (h:r ⟨(u,.mr k (v+1+inn.length)) :: σ.fr,(k,.rws (v+1+inn.length) m (xs ++ ys) T o m' inn T') :: σ.hp,σ.n,σ.N,σ.gs⟩ K) :
 RAW P (some u) (.call ⟨.builtin .append,az,ts⟩) ty σ r K:=by
 intro o' C E a w next Q q1 q2 q3 hS hn hq
 have hxv:=Zci hS hx (fun _ _ _=>by simp)
 have hng:∀ j b s,ZbI σ ay≠.gd j b s:=fun j b s e=>by rw [e] at hy;simp [Zcs] at hy
 have hyv:=Zci hS (s:=ZbI σ ay) rfl hng
 simp only [R] at hxv
 obtain ⟨hnk,hvi,hxv,_⟩:=hxv
 have hb:=hS.hs.bk k
 rw [hk] at hb
 simp only [ZP] at hb
 obtain ⟨a1,a2,a3,a4⟩:=hb
 have hR0:=a3 0 _ _ _ rfl
 rw [Nat.add_zero] at hR0
 have hl1:=Z9 k o (v+1) inn.length xs
 obtain ⟨cx,x1,x2,x3⟩:=ZdG hR0
 obtain ⟨cy,y1,y2,y3⟩:=Wl hyv hy
 have x3':∀ r ∈ xs,r.length=m:=by
  rcases x3 with x3 | x3
  . exact YL.1 x3
  . intro r hr
    have:xs=[]:=List.eq_nil_of_length_eq_zero (by rw [<- hl1,x3];rfl)
    rw [this] at hr;simp at hr
 have hone':∀ z ∈ cy,z.oneCell'=true:=by
  have:∀ l:List (List SV),(∀ c ∈ l,Ya c=true)->Ya l.flatten=true:=by
   intro l
   induction l with
   | nil=>intro _;rfl
   | cons c l ih=>intro hh;rw [List.flatten_cons];exact Wf (hh c (by simp)) (ih (fun d hd=>hh d (by simp [hd])))
  exact Ys (this _ hone) y2
 have hb0:0 < bs:=by simpa [Nat.blt_eq] using hbs
 have hlim2:xs.length+ys.length<=140737488355328:=Nat.le_trans (Nat.le_mul_of_pos_right _ hb0) hlim
 have hcy:cy.length=ys.length * m:=by rw [Zq y2];exact YN y3
 have hcx:cx.length=xs.length * m:=by rw [Zq x2];rw [YN (YL.2 x3'),hl1]
 have hyl:ys.length≠0:=fun e=>hys (List.eq_nil_of_length_eq_zero e)
 obtain ⟨i,hi⟩:∃ i,P.info? T=some i:=by
  unfold Y3 at hsz
  cases hq:P.info? T with
  | none=>simp [hq] at hsz
  | some i=>exact ⟨i,rfl⟩
 have hszi:i.size=m:=by simpa [Y3,hi] using hsz
 have hbyi:i.bytes=bs:=by simpa [Y6,hi] using hby
 obtain ⟨z,hz1,hz2⟩:∃ z,Yf P T=some z/\z.cells.size=m:=by
  cases hzz:Yf P T with
  | none=>simp [hzz] at hz
  | some z=>exact ⟨z,rfl,by simpa [hzz] using hz⟩
 have hzi:i.zero=some z:=by simpa [Yf,hi] using hz1
 have hsz':∀ w,(sizeOf T).run P w = .ok m w:=fun w=>ZK hsz
 have fin:∀ (y':Value) (w':World),(Builtin.append_ #[t,t] ty #[a.eval ax,a.eval ay]).run P w = .ok y' w'->y'.oneCell'=true->w'.os=w.os->w'.tape=w.tape->w'.output=w.output->w.heap.size<=w'.heap.size ->
  (∀ b,b < w.heap.size->¬ UU (E.hv k v) b->w'.heap[b]? = w.heap[b]?) ->
  (∃ b cap cs,y' = .slice (some ⟨b,0,none⟩) (xs.length+ys.length) cap/\(UU (E.hv k v) b\/w.heap.size<=b)/\w'.heap[b]? = some (.cells cs T (0,0))/\cs.size=cap * m/\(xs.length+ys.length<=cap/\cap≠0) /\
   RL w E (ltn σ.n) (okS C E σ.hp) ((Xm k o (v+1) inn.length xs).flatten ++ ys.flatten) (cs.toList.take ((xs.length+ys.length) * m))) ->
  o'.wpq C.rd P a w next Q:=fun y' w' hrun ho1 g1 g2 g3 g4 g5 ⟨b,cap,cs,f1,f2,f3,f4,f5,f6⟩=>by
  obtain ⟨E',k1,k2,k3,k4,k5,k6⟩:=Zb7 hS.hs hk g1 g2 g3 g4 g5 f1 f2 f3 f4 f5 (by omega) ⟨x3',y3⟩ f6
  have hx:(execOp a.eval o').run P w = .ok (.value y') w':=by
   obtain ⟨dst',op',ty',pos,after,guard⟩:=o'
   simp only at q2 q3;subst q2;subst q3
   subst has hts
   simp [execOp,resolve,invoke,builtin,hrun]
  refine ZO hx (by simp) ?_
  show next (a.put o'.dst _) w'
  rw [q1]
  exact hn _ E' _ _ h (Xe (σ:=σ) (hp':=(k,.rws (v+1+inn.length) m (xs ++ ys) T o m' inn T') :: σ.hp) hS k6 k1 (Nat.le_refl _) k5 (fun hh=>by rw [ZC.2 hh] at h1;cases h1) (by simpa [Nat.blt_eq] using h2) (fun _ _ _ e=>by cases e)
   (by simp only [R];exact ⟨k4,k3,k2.symm,ho1⟩))
 have hfx:=fun w' (hw:∀ a,w'.cell? a=w.cell? a)=>ZF (P:=P) (w':=w') (by rw [hszi];rw [hl1] at x1;exact x1:XU w (E.hv k v) i.size xs.length cx) hw
 have hfy:=fun w' (hw:∀ a,w'.cell? a=w.cell? a)=>ZF (P:=P) (w':=w') (by rw [hszi];exact y1:XU w (a.eval ay) i.size ys.length cy) hw
 obtain ⟨ay',capy,hye,hcy',_,_⟩:=y1
 obtain ⟨ax',capx,hxe,hxl,_,_⟩:=x1
 rw [hxe] at hfx
 rw [hye] at hfy
 rw [hl1] at hxe hxl hfx
 by_cases hfit:xs.length+ys.length<=capx
 ·
  rcases hR0 with ⟨g0,a0,g1⟩ | ⟨b',cap,cs,g1,g2,g3,g4,g5,g6,g7⟩
  . rw [hxe] at g1;simp at g1;omega
  . rw [hl1] at g1 g4 g7
    rw [hxe] at g1;simp at g1;obtain ⟨rfl,rfl⟩:=g1
    have hle:xs.length * m+cy.length<=cs.toList.length:=by
     have e3:cs.toList.length=capx * m:=by rw [Array.length_toList];exact g3
     rw [hcy,e3,<- Nat.add_mul];exact Nat.mul_le_mul_right m hfit
    obtain ⟨w',s1,s2⟩:=Yj (P:=P) cy (w:=w) (b:=b') (o:=xs.length * m) (i:=0) (cs:=cs.toList) (T:=T) (by simpa using g2) (by simpa using hle) hone'
    refine fin (.slice (some ⟨b',0,none⟩) (xs.length+ys.length) capx) w' ?_ rfl s2.os s2.tape s2.output (Nat.le_of_eq s2.size.symm) (fun b hb hno=>s2.same b (fun e=>by subst e;exact hno ⟨_,_,hxe,g4.2⟩)) ⟨b',capx,(Zv cs.toList (xs.length * m) cy).toArray,rfl,.inl ⟨_,_,hxe,g4.2⟩,by simpa using s2.here,by simp [Zz,g3],⟨hfit,g4.2⟩,?_⟩
    . rw [hxv,hxe,hye]
      simp [Builtin.append_,Sem.run_bind,run_underlying ht,hsz',Builtin.lenOf,hfit,<- hszi,hfy w (fun _=>rfl),Yl]
      rw [hszi,s1];rfl
    . rw [Nat.add_mul,<- hcy]
      rw [List.toList_toArray,Yt (Nat.le_refl _) hle]
      have e1:Zv (List.take (xs.length * m+cy.length) cs.toList) (xs.length * m) cy=List.take (xs.length * m) cs.toList ++ cy:=by
       rw [Wk _ _ _ (by rw [List.length_take,Nat.min_eq_left hle];exact Nat.le_refl _),List.take_take,Nat.min_eq_left (by omega),List.drop_of_length_le (by rw [List.length_take,Nat.min_eq_left hle];exact Nat.le_refl _),List.append_nil]
      rw [e1]
      exact ZQ g7 y2
 ·
  have hn':¬ (xs.length+ys.length<=capx):=hfit
  have h63':¬ (9223372036854775807 < ((xs.length:Int)+(ys.length:Int))):=by omega
  have hfit':Builtin.nextslicecap (xs.length+ys.length) capx * i.bytes<=281474976710656:=growslice_fits (by omega) (by rw [hbyi];exact hlim)
  have h48':¬ (281474976710656 < Builtin.nextslicecap (xs.length+ys.length) capx * i.bytes):=by omega
  have hcap:xs.length+ys.length<=grownCap w (xs.length+ys.length) capx T:=by unfold grownCap;simp only [Question.cut];omega
  refine fin (.slice (some ⟨w.heap.size,0,none⟩) (xs.length+ys.length) (grownCap w (xs.length+ys.length) capx T)) (w.drew.alloc (.cells (cx.toArray ++ cy.toArray ++ Builtin.zeroCells z.cells (grownCap w (xs.length+ys.length) capx T - (xs.length+ys.length))) T)) ?_ rfl rfl rfl rfl
   (by have:=(Xz.alloc (Nat.le_refl _) (.cells (cx.toArray ++ cy.toArray ++ Builtin.zeroCells z.cells (grownCap w (xs.length+ys.length) capx T - (xs.length+ys.length))) T):Below w.heap.size w _).size;exact this)
   (fun b hb _=>(Xz.alloc (Nat.le_refl _) _:Below w.heap.size w _).block b hb) ⟨w.heap.size,grownCap w (xs.length+ys.length) capx T,_,rfl,.inr (Nat.le_refl _),heap_alloc_new _ _,?_,⟨hcap,by omega⟩,?_⟩
  . rw [hxv,hxe,hye]
    simp [Builtin.append_,run_underlying ht,sizeOf,typeInfo,zeroValue,hi,hzi,Builtin.lenOf,hn',h63',h48',Question.forced,hfx w.drew (fun _=>rfl),hfy w.drew (fun _=>rfl),newRow,grownCap]
    congr 2
    apply Array.ext'
    simp [List.append_assoc]
  . simp only [Array.size_append,List.size_toArray,Builtin.zeroCells,Array.size_map,Array.size_range,hz2,hcx,hcy]
    rw [<- Nat.add_mul,<- Nat.add_mul];congr 1;omega
  . have e:∀ Z:Array Value,List.take ((xs.length+ys.length) * m) (cx.toArray ++ cy.toArray ++ Z).toList=cx ++ cy:=fun Z=>by
     have e9:(cx.toArray ++ cy.toArray ++ Z).toList=(cx ++ cy) ++ Z.toList:=by simp
     rw [e9];exact List.take_left' (by rw [List.length_append,Nat.add_mul,hcx,hcy])
    rw [e]
    exact ZQ x2 y2
end
theorem ZiX {m:Nat} {σ : St} (t k v:Nat) {mm T o m' T':Nat} {xs:List (List SV)} {inn:List (List (List SV))} (hm:Nat.ble m k=true) (hg:σ.gs=[]) (hl:lk t σ.fr = .mr k v) (hk:lkh k σ.hp = .rws v mm xs T o m' inn T') :
 Ent m σ ⟨(t,.sl false mm (ZaS o m' inn xs)) :: σ.fr,(k,.gone) :: σ.hp,σ.n,σ.N,σ.gs⟩ :=
 Zc5 t k _ hg (fun _ _ _ e=>by cases e) fun C E w y hmc hh hR=>by
  rw [hl] at hR
  obtain ⟨g1,g2⟩:=WU hh k
  have hbk:=hh.bk k
  rw [hk] at hbk
  have hok:∀ i b,i<=inn.length->UU (E.hv k (v+i)) b->okS C E ((k,.gone) :: σ.hp) b:=fun i b hi hb=>by
   have hoc:occ E k (lkh k σ.hp) b:=by rw [hk];exact ⟨i,hi,hb⟩
   refine ⟨?_,fun j ho=>?_⟩
   . rcases hh.lo k b hoc with q | q
     . exact .inr q
     . have h1:=hmc.2 k b q;have h2:=hmc.1;have h3:=Nat.le_of_ble_eq_true hm;omega
   . rw [Zh] at ho
     split at ho
     . exact ho.elim
     . exact absurd (hh.dj j k b ho hoc).symm (by omega)
  have hval:=ZnJ g2 hok hbk
  have hy:y=E.hv k v:=by simp only [R] at hR;exact hR.2.2.1
  rw [hy];exact hval
end Go.Sx
namespace Go.Proofs.Ytkjldleglbbkeaa
open Go Go.Sx
def ck78:SC:=(sr1 [
 o1 2 (.mv (.c (.slice none 0 0)))]
 (.seq (sr1 [
 m1 3 0,
 o1 4 (.isn (.t 3))]
 (.cond (.t 4)
 (sr1 [
  o1 2 (.mv (.c (.slice none 0 0)))]
  .ret)
 .skip))
 (sr1 [
 o1 5 (.bsl 1 3 []),
 m1 6 0,
 o1 7 (.cln 1 8 3 (.t 5) (.t 6)),
 m1 2 7]
 .ret)))
def rk78:List RV:=[.tmp 2]
theorem nk78:Try.f78.ntmps=8:=by kernel_rfl
theorem bk78:YQ Try.prog 78=true:=by kernel_rfl
theorem Zru:Xo Try.prog ck78 ((Try.f78.body).getD .skip)=true:=by kernel_rfl
theorem Zpm:WD Try.prog rk78 Try.f78.results.toList=true:=by kernel_rfl
theorem mk78 {n0:Nat} {hp0:List (Nat × HB)} {args:List SV} {Yd:Ot->Prop} (hh:hpb n0 hp0) (hx:∀ o,Yd o->KX o.res/\KXP o.hp) (h:sx Try.prog Y0 n0 ck78 ⟨XS 0 args,hp0,n0,8,[]⟩ (ZcS rk78 fun o=>∃ o',Yd o'/\Zhx n0 o o')) (hA:Nat.ble args.length 8=true:=by rfl):CtM Try.prog 78 hp0 n0 args Yd:=Vf Try.func78 rfl bk78 Zru Zpm nk78 (Nat.le_of_ble_eq_true hA) hh hx h
def ZdU:Ins:=o1 21 (.ld (.t 4) 1 false)
def Zlf:Ins:=o1 22 (.ld (.t 9) 1 false)
def ZjJ:Ins:=⟨some 23,.callm 78 [.t 22],none,[1]⟩
def ZkF:Ins:=⟨some 24,.bsl 1 59 [.t 23],none,[2]⟩
def Zrt:Ins:=⟨some 25,.raw (Go.Op.call { callee:=(Go.Callee.builtin Go.Builtin.append),args:=#[(Go.Operand.tmp 21),(Go.Operand.tmp 24)],argTypes:=#[53,53] }) 53,none,[0,2,3]⟩
def Zrd:Ins:=⟨none,.st (.t 4) (.t 25) 1,none,[0,1,2,3,4]⟩
attribute [go_sem] ZdU Zlf ZjJ ZkF Zrt Zrd
def ZeN:List Ins:=[ZdU,Zlf,ZjJ,ZkF,Zrt,Zrd]
def ck77:FB:=(.seq (.gh (.reg [
 o1 8 (.box (.t 0) 0 136),
 o1 9 (.box (.t 1) 0 59),
 o1 10 (.alloc [.bool false] 4)]))
 (.seq (.seq (.reg [
 o1 13 (.addo (.t 8) 1),
 o1 14 (.ld (.t 13) 1 false),
 o1 15 (.ld (.t 2) 1 false),
 o1 16 (.bin .gtr (.t 14) (.t 15))])
 (.cond (.t 16)
 (.seq (.reg [
  ⟨none,.st (.t 10) (.c (.bool true)) 1,none,[]⟩])
  .ret)
 .skip))
 (.seq (.seq (.reg [
 o1 17 (.addo (.t 8) 0),
 o1 18 (.ld (.t 17) 1 false),
 o1 19 (.ld (.t 3) 1 false),
 o1 20 (.bin .eql (.t 18) (.t 19))])
 (.cond (.t 20)
 (.seq (.gh (.regl ZeN))
  (.seq (.reg [
  o1 26 (.ld (.t 4) 1 false),
  o1 27 (.len (.t 26)),
  o1 28 (.bin .leq (.t 27) (.c (.int .i64 200))),
  ⟨none,.st (.t 10) (.t 28) 1,none,[]⟩])
  .ret))
 .skip))
 (.seq (.reg [
 o1 29 (.ld (.t 5) 1 false),
 o1 30 (.addo (.t 8) 0),
 o1 31 (.ld (.t 30) 1 false),
 ⟨none,.raw (Go.Op.mapUpdate 99 (Go.Operand.tmp 29) (Go.Operand.tmp 31) (Go.Operand.const (Go.Value.bool Bool.true))) 0,none,[]⟩])
 (.dfr [
 o1 32 (.ld (.t 5) 1 false),
 o1 33 (.addo (.t 8) 0),
 o1 34 (.ld (.t 33) 1 false)] (.t 32) (.t 34) 99
 (.tail (.seq (.seq (.reg [
 o1 35 (.ld (.t 6) 4 true),
 o1 36 (.addo (.t 8) 0),
 o1 37 (.ld (.t 36) 1 false),
 o1 38 (.callm 79 [.t 35,.t 37])])
 (.block 0 (.gh (.rfun (.t 38) [39,40] (.seq (.reg [
  m1 11 39])
  (.reg [
  m1 12 40]))
  (.block 1 (.seq (.regs [0,1,2,3,4,5,6,7,8,9,10,11,12,13,14,15,16,17,18,19,20,21,22] ⟨[
   .op (o1 41 (.ld (.t 5) 1 false)),
   .op (m1 42 12)],0,0,[
   ⟨some 43,.raw (Go.Op.lookup 99 (Go.Operand.tmp 41) (Go.Operand.tmp 42) Bool.false) 4,none,[0,1]⟩]⟩ [⟨[
   .op ⟨some 44,.un .not (.t 43),none,[2]⟩,
   .op ⟨some 45,.mv (.t 44),none,[3]⟩,
   .op ⟨some 46,.ld (.t 7) 1 false,some (45,true),[4]⟩,
   .op ⟨some 47,.mv (.t 12),some (45,true),[4]⟩,
   .op ⟨some 48,.ld (.t 6) 4 true,some (45,true),[4]⟩,
   .op ⟨some 49,.mv (.t 11),some (45,true),[4]⟩,
   .op ⟨some 50,.addo (.t 8) 1,some (45,true),[4]⟩,
   .op ⟨some 51,.ld (.t 50) 1 false,some (45,true),[4,9]⟩,
   .op ⟨some 52,.addo (.t 8) 1,some (45,true),[4]⟩,
   .op ⟨some 53,.ld (.t 52) 1 false,some (45,true),[4,11]⟩,
   .op ⟨some 54,.build [.int .i64 0,.int .i64 0] [(0,1,.t 51),(1,1,.t 53)],some (45,true),[4,10,12]⟩,
   .op ⟨some 55,.call 80 [.t 48,.t 49,.t 54],some (45,true),[4,7,8,13]⟩,
   .op ⟨some 56,.idx (.t 55) (.c (.int .i64 1)) 2 1 false,some (45,true),[4,14]⟩,
   .op ⟨some 57,.build [.int .i64 0,.int .i64 0] [(0,1,.t 47),(1,1,.t 56)],some (45,true),[4,6,15]⟩,
   .op ⟨some 58,.ld (.t 9) 1 false,some (45,true),[4]⟩,
   .op ⟨some 59,.mv (.t 11),some (45,true),[4]⟩,
   .op ⟨some 60,.call 81 [.t 58,.t 59],some (45,true),[4,14,17,18]⟩],0,0,[
   ⟨some 61,.calvm (.t 46) [.t 57,.t 60],some (45,true),[4,5,16,19]⟩,
   ⟨some 62,.un .not (.t 61),some (45,true),[4,20]⟩,
   ⟨some 63,.pick (.t 45) (.t 62) (.c (.bool false)),none,[4,21]⟩]⟩])
   (.cond (.t 63)
   (.seq (.reg [
    ⟨none,.st (.t 10) (.c (.bool false)) 1,none,[]⟩])
    .ret)
   .skip)))))))
 (.seq (.reg [
 ⟨none,.st (.t 10) (.c (.bool true)) 1,none,[]⟩])
 .ret))))))))
def rk77:List RV:=[.cell 10 1 false]
theorem nk77:Try.f77.ntmps=64:=by kernel_rfl
theorem bk77:YQ Try.prog 77=true:=by kernel_rfl
theorem Zqo:UM Try.prog ck77 ((Try.f77.body).getD .skip)=true:=by kernel_rfl
theorem Zpp:WD Try.prog rk77 Try.f77.results.toList=true:=by kernel_rfl
theorem mk77 {n0:Nat} {hp0:List (Nat × HB)} {args:List SV} {Yd:Ot->Prop} (hh:hpb n0 hp0) (hx:∀ o,Yd o->KX o.res/\KXP o.hp) (h:fx Try.prog n0 ck77 ⟨XS 0 args,hp0,n0,64,[]⟩ (ZcS rk77 fun o=>∃ o',Yd o'/\Zhx n0 o o')) (hA:Nat.ble args.length 64=true:=by rfl):CtM Try.prog 77 hp0 n0 args Yd:=Zdn Try.func77 rfl bk77 Zqo Zpp nk77 (Nat.le_of_ble_eq_true hA) hh hx h
def ck29:SC:=(sr1 [
 o1 6 (.box (.t 0) 0 25),
 o1 8 (.box (.t 2) 0 3),
 o1 10 (.box (.t 4) 0 3),
 o1 11 (.box (.t 5) 0 29),
 o1 12 (.mv (.c (.slice none 0 0))),
 o1 13 (.mv (cn 0))]
 (sr1 [
 o1 20 (lt 6 2),
 o1 21 (lt 11 2),
 o1 22 (.call 63 [.t 20,.t 21]),
 m1 19 22,
 o1 23 (.ext (.t 19) 0),
 o1 24 (.ext (.t 19) 1),
 o1 14 (.alloc [.slice none 0 0,.slice none 0 0,.int .i64 0,.int .i64 0] 119),
 ⟨none,.st (.t 14) (.t 23) 4,none,[]⟩,
 m1 15 24]
 (.seq (.block 0 (sr1 [
  m1 26 15,
  o1 27 (.bin .neq (.t 26) (cn 0)),
  m1 25 27]
  (.cond (.t 25)
  (sr1 [
   m1 28 15,
   o1 12 (.mv (.c (.slice none 0 0))),
   m1 13 28]
   .ret)
  (sr1 [
   o1 30 (ao 6 0),
   o1 31 (lf 30 1),
   o1 32 (.len (.t 31)),
   o1 33 (.bin .sub (.t 32) (cn 1)),
   m1 34 1,
   o1 35 (lf 8 1),
   o1 36 (.bsl 1 3 [.t 34,.t 35]),
   o1 37 (.call 58 [.c (.int .i64 0),.t 33,.t 36]),
   o1 38 (.un .not (.t 37)),
   m1 39 38,
   g1 40 39 false (.mv (.t 3)),
   g1 41 39 false (lf 10 1),
   g1 42 39 false (.bsl 1 3 [.t 40,.t 41]),
   g1 43 39 false (.call 58 [.c (.int .i64 0),.c (.int .i64 100000),.t 42]),
   g1 44 39 false (.un .not (.t 43)),
   o1 45 (.pick (.t 39) (.c (.bool true)) (.t 44)),
   m1 29 45]
   (.cond (.t 29)
   (sr1 [
    o1 12 (.mv (.c (.slice none 0 0))),
    o1 13 (.mv (cn 2))]
    .ret)
   .skip)))))
 (sr1 [
 o1 16 (.alloc [.slice none 0 0] 53)]
 (sr1 [
 o1 46 (.raw (Go.Op.makeMap 99 Option.none) 99),
 o1 17 (.alloc [.map none] 99),
 ⟨none,.st (.t 17) (.t 46) 1,none,[]⟩]
 (sr1 [
 o1 18 (.alloc [.nilFunc] 134)]
 (sr1 [
 o1 47 (.mkf 77 [.t 10,.t 8,.t 16,.t 17,.t 14,.t 18]),
 ⟨none,.st (.t 18) (.t 47) 1,none,[]⟩]
 (.seq (.seq (.gh (.reg [
 o1 48 (lf 18 1),
 m1 49 1,
 m1 50 3,
 o1 51 (.build [.int .i64 0,.int .i64 0] [(0,1,.t 49),(1,1,.t 50)]),
 o1 52 (.calvm (.t 48) [.t 51,.c (.slice none 0 0)]),
 o1 53 (.un .not (.t 52))]))
 (.cond (.t 53)
 (sr1 [
  o1 12 (.mv (.c (.slice none 0 0))),
  o1 13 (.mv (cn 9))]
  .ret)
 .skip))
 (sr1 [
 o1 54 (lf 16 1),
 m1 12 54,
 o1 13 (.mv (cn 0))]
 .ret)))))))))
def rk29:List RV:=[.tmp 12,.tmp 13]
theorem nk29:Try.f29.ntmps=55:=by kernel_rfl
theorem bk29:YQ Try.prog 29=true:=by kernel_rfl
theorem Zrk:Xo Try.prog ck29 ((Try.f29.body).getD .skip)=true:=by kernel_rfl
theorem ZrY:WD Try.prog rk29 Try.f29.results.toList=true:=by kernel_rfl
theorem mk29 {n0:Nat} {hp0:List (Nat × HB)} {args:List SV} {Yd:Ot->Prop} (hh:hpb n0 hp0) (hx:∀ o,Yd o->KX o.res/\KXP o.hp) (h:sx Try.prog Y0 n0 ck29 ⟨XS 0 args,hp0,n0,55,[]⟩ (ZcS rk29 fun o=>∃ o',Yd o'/\Zhx n0 o o')) (hA:Nat.ble args.length 55=true:=by rfl):CtM Try.prog 29 hp0 n0 args Yd:=Vf Try.func29 rfl bk29 Zrk ZrY nk29 (Nat.le_of_ble_eq_true hA) hh hx h
def ZgC:Ins:=o1 77 (.ld (.t 9) 2 true)
def ZfX:Ins:=m1 78 21
def ZfG:Ins:=m1 79 2
def Zh5:Ins:=m1 80 22
def ZfM:Ins:=m1 81 4
def Zg1:Ins:=o1 82 (.ld (.t 14) 2 true)
def ZgH:Ins:=m1 83 6
def Zhy:Ins:=o1 84 (.bsl 1 3 [])
def Zfl:Ins:=m1 85 7
def ZfQ:Ins:=⟨some 86,.cln 1 8 3 (.t 84) (.t 85),none,[7,8]⟩
def Zbw:Ins:=m1 87 19
def Zba:Ins:=⟨some 88,.bsl 1 3 [.t 87],none,[10]⟩
def Zbl:Ins:=⟨some 89,.appm 1 8 3 (.t 86) (.t 88),none,[9,11]⟩
def ZaZ:Ins:=m1 90 8
def Zby:Ins:=⟨some 91,.callm 82 [.t 77,.t 78,.t 79,.t 80,.t 81,.t 82,.t 83,.t 89,.t 90],none,[0,1,2,3,4,5,6,12,13]⟩
def UO:Ins:=⟨some 8,.mv (.t 91),none,[0,1,2,3,4,5,6,7,8,9,10,11,12,13,14]⟩
attribute [go_sem] ZgC ZfX ZfG Zh5 ZfM Zg1 ZgH Zhy Zfl ZfQ Zbw Zba Zbl ZaZ Zby UO
def YF:List Ins:=[ZgC,ZfX,ZfG,Zh5,ZfM,Zg1,ZgH,Zhy,Zfl,ZfQ,Zbw,Zba,Zbl,ZaZ,Zby,UO]
def Zvf:SC:=(.gh (sr1 [
 o1 9 (.box (.t 0) 0 25),
 o1 14 (.box (.t 5) 0 29),
 o1 18 (.mv (.c (.slice none 0 0)))]
 (.seq (sr1 [
 m1 23 1,
 m1 24 2,
 o1 25 (.bin .eql (.t 23) (.t 24))]
 (.cond (.t 25)
 (sr1 [
  m1 26 8,
  o1 27 (.bsl 1 3 []),
  m1 28 7,
  o1 29 (.cln 1 8 3 (.t 27) (.t 28)),
  o1 30 (.bsl 1 59 [.t 29]),
  o1 31 (.raw (Go.Op.call { callee:=(Go.Callee.builtin Go.Builtin.append),args:=#[(Go.Operand.tmp 26),(Go.Operand.tmp 30)],argTypes:=#[53,53] }) 53),
  m1 18 31]
  .ret)
 .skip))
 (sr1 [
 m1 32 6,
 m1 33 1,
 o1 34 (.ixs (.t 32) (.t 33) 1),
 ⟨none,.st (.t 34) (.c (.bool true)) 1,none,[]⟩]
 (.seq (sr1 [
 o1 19 (.mv (cn 0))]
 (.block 0 (.loop (.seq (sr1 [
  m1 35 19,
  o1 36 (ao 9 1),
  o1 37 (lf 36 1),
  o1 38 (.len (.t 37)),
  o1 39 (.bin .lss (.t 35) (.t 38)),
  m1 40 39,
  g1 41 40 true (.mv (.t 8)),
  g1 42 40 true (.len (.t 41)),
  g1 43 40 true (.bin .leq (.t 42) (cn 200)),
  o1 44 (.pick (.t 40) (.t 43) (.c (.bool false)))]
  (.cond (.t 44)
  .skip
  (.exit 0)))
  (.seq (.block 1 (sr1 [
   o1 47 (ao 9 1),
   o1 48 (lf 47 1),
   m1 49 19,
   o1 50 (.ixs (.t 48) (.t 49) 5),
   o1 51 (lt 50 5),
   o1 20 (.alloc zv0 86),
   ⟨none,.st (.t 20) (.t 51) 5,none,[]⟩]
   (sr1 [
   o1 52 (lt 20 5),
   m1 53 1,
   o1 54 (.call 86 [.t 52,.t 53]),
   m1 21 54]
   (.seq (sr1 [
   m1 55 21,
   o1 56 (.bin .lss (.t 55) (cn 0)),
   m1 57 56,
   g1 58 57 false (.mv (.t 6)),
   g1 59 57 false (.mv (.t 21)),
   g1 60 57 false (.ixs (.t 58) (.t 59) 1),
   g1 61 57 false (lf 60 1),
   o1 62 (.pick (.t 57) (.c (.bool true)) (.t 61))]
   (.cond (.t 62)
   (.exit 1)
   .skip))
   (sr1 [
   o1 63 (lt 20 5),
   m1 64 3,
   m1 65 3,
   o1 66 (.build [.int .i64 0,.int .i64 0] [(0,1,.t 64),(1,1,.t 65)]),
   o1 67 (lt 14 2),
   o1 68 (.call 84 [.t 63,.t 66,.t 67]),
   o1 69 (.fld (.t 68) 1 1 false),
   m1 22 69]
   (sr1 [
   m1 70 22,
   o1 71 (.bin .lss (.t 70) (cn 100001)),
   m1 72 71,
   g1 73 72 true (.mv (.t 22)),
   g1 74 72 true (.mv (.t 4)),
   g1 75 72 true (.bin .leq (.t 73) (.t 74)),
   o1 76 (.pick (.t 72) (.t 75) (.c (.bool false)))]
   (.cond (.t 76)
   (.gh (.regl YF))
   .skip)))))))
  (.reg [
  m1 45 19,
  o1 46 (.bin .add (.t 45) (cn 1)),
  m1 19 46]))))))
 (sr1 [
 m1 92 6,
 m1 93 1,
 o1 94 (.ixs (.t 92) (.t 93) 1),
 ⟨none,.st (.t 94) (.c (.bool false)) 1,none,[]⟩]
 (sr1 [
 m1 95 8,
 m1 18 95]
 .ret)))))))
def Zvh:List RV:=[.tmp 18]
theorem nk82:Try.f82.ntmps=96:=by kernel_rfl
theorem bk82:YQ Try.prog 82=true:=by kernel_rfl
theorem Zrs:Xo Try.prog Zvf ((Try.f82.body).getD .skip)=true:=by kernel_rfl
theorem Zqn:WD Try.prog Zvh Try.f82.results.toList=true:=by kernel_rfl
theorem mk82 {n0:Nat} {hp0:List (Nat × HB)} {args:List SV} {Yd:Ot->Prop} (hh:hpb n0 hp0) (hx:∀ o,Yd o->KX o.res/\KXP o.hp) (h:sx Try.prog Y0 n0 Zvf ⟨XS 0 args,hp0,n0,96,[]⟩ (ZcS Zvh fun o=>∃ o',Yd o'/\Zhx n0 o o')) (hA:Nat.ble args.length 96=true:=by rfl):CtM Try.prog 82 hp0 n0 args Yd:=Vf Try.func82 rfl bk82 Zrs Zqn nk82 (Nat.le_of_ble_eq_true hA) hh hx h
def ck30:SC:=(sr1 [
 o1 6 (.box (.t 0) 0 25),
 o1 11 (.box (.t 5) 0 29),
 o1 12 (.mv (.c (.slice none 0 0))),
 o1 13 (.mv (cn 0))]
 (.seq (sr1 [
 o1 16 (lt 6 2),
 o1 17 (lt 11 2),
 o1 18 (.call 66 [.t 16,.t 17]),
 m1 14 18]
 (sr1 [
 m1 19 14,
 o1 20 (.bin .neq (.t 19) (cn 0))]
 (.cond (.t 20)
 (sr1 [
  m1 21 14,
  o1 12 (.mv (.c (.slice none 0 0))),
  m1 13 21]
  .ret)
 .skip)))
 (.seq (sr1 [
 m1 22 1,
 o1 23 (ao 6 0),
 o1 24 (lf 23 1),
 o1 25 (.len (.t 24)),
 o1 26 (.bin .sub (.t 25) (cn 1)),
 o1 27 (.call 61 [.t 22,.c (.int .i64 0),.t 26]),
 o1 28 (.un .not (.t 27)),
 m1 29 28,
 g1 30 29 false (.mv (.t 2)),
 g1 31 29 false (ao 6 0),
 g1 32 29 false (lf 31 1),
 g1 33 29 false (.len (.t 32)),
 g1 34 29 false (.bin .sub (.t 33) (cn 1)),
 g1 35 29 false (.call 61 [.t 30,.c (.int .i64 0),.t 34]),
 g1 36 29 false (.un .not (.t 35)),
 o1 37 (.pick (.t 29) (.c (.bool true)) (.t 36)),
 m1 38 37,
 g1 39 38 false (.mv (.t 3)),
 g1 40 38 false (.call 61 [.t 39,.c (.int .i64 0),.c (.int .i64 100000)]),
 g1 41 38 false (.un .not (.t 40)),
 o1 42 (.pick (.t 38) (.c (.bool true)) (.t 41)),
 m1 43 42,
 g1 44 43 false (.mv (.t 4)),
 g1 45 43 false (.call 61 [.t 44,.c (.int .i64 0),.c (.int .i64 100000)]),
 g1 46 43 false (.un .not (.t 45)),
 o1 47 (.pick (.t 43) (.c (.bool true)) (.t 46))]
 (.cond (.t 47)
 (sr1 [
  o1 12 (.mv (.c (.slice none 0 0))),
  o1 13 (.mv (cn 2))]
  .ret)
 .skip))
 (.seq (sr1 [
 m1 48 3,
 m1 49 4,
 o1 50 (.bin .gtr (.t 48) (.t 49))]
 (.cond (.t 50)
 (sr1 [
  o1 12 (.mv (.c (.slice none 0 0))),
  o1 13 (.mv (cn 0))]
  .ret)
 .skip))
 (.seq (.regd [0,1,2,3,4,5,6,7,8,9,10,11] [
 .op (o1 51 (lt 6 2)),
 .op (m1 52 1),
 .op (m1 53 2),
 .op (m1 54 3),
 .op (m1 55 4),
 .op (o1 56 (lt 11 2)),
 .op (o1 57 (ao 6 0)),
 .op (p1 58 (lf 57 1) [6]),
 .op (p1 59 (.len (.t 58)) [7])] 1 0 [
 ⟨some 60,.mks 1 1 [.bool false] 4 (.t 59),none,[8]⟩,
 ⟨some 61,.callm 82 [.t 51,.t 52,.t 53,.t 54,.t 55,.t 56,.t 60,.c (.slice none 0 0),.c (.slice none 0 0)],none,[0,1,2,3,4,5,9]⟩,
 ⟨some 15,.mv (.t 61),none,[0,1,2,3,4,5,6,7,8,9,10]⟩])
 (.gh (.seq (sr1 [
 m1 62 15,
 o1 63 (.len (.t 62)),
 o1 64 (.bin .gtr (.t 63) (cn 200))]
 (.cond (.t 64)
 (sr1 [
  o1 12 (.mv (.c (.slice none 0 0))),
  o1 13 (.mv (cn 9))]
  .ret)
 .skip))
 (sr1 [
 m1 65 15,
 m1 12 65,
 o1 13 (.mv (cn 0))]
 .ret))))))))
def rk30:List RV:=[.tmp 12,.tmp 13]
theorem nk30:Try.f30.ntmps=66:=by kernel_rfl
theorem bk30:YQ Try.prog 30=true:=by kernel_rfl
theorem Zpq:Xo Try.prog ck30 ((Try.f30.body).getD .skip)=true:=by kernel_rfl
theorem Zon:WD Try.prog rk30 Try.f30.results.toList=true:=by kernel_rfl
def ck5:SC:=(sr1 [
 o1 6 (.box (.t 0) 0 25),
 o1 11 (.box (.t 5) 0 29),
 o1 12 (.mv (.c (.bool false)))]
 (.seq (sr1 [
 o1 22 (lt 6 2),
 o1 23 (.call 16 [.t 22])]
 (.cond (.t 23)
 (sr1 [
  o1 12 (.mv (.c (.bool true)))]
  .ret)
 .skip))
 (sr1 [
 o1 24 (lt 6 2),
 o1 25 (.call 21 [.t 24]),
 o1 13 (.alloc [.slice none 0 0,.slice none 0 0] 25),
 ⟨none,.st (.t 13) (.t 25) 2,none,[]⟩]
 (sr1 [
 o1 27 (lt 13 2),
 m1 28 1,
 m1 29 2,
 m1 30 3,
 m1 31 4,
 o1 32 (lt 11 2),
 o1 33 (.callm 29 [.t 27,.t 28,.t 29,.t 30,.t 31,.t 32]),
 m1 26 33,
 o1 34 (.ext (.t 26) 0),
 o1 35 (.ext (.t 26) 1),
 m1 14 34,
 m1 15 35]
 (.gh (sr1 [
 o1 37 (lt 6 2),
 m1 38 1,
 m1 39 2,
 m1 40 3,
 m1 41 4,
 o1 42 (lt 11 2),
 o1 43 (.call 30 [.t 37,.t 38,.t 39,.t 40,.t 41,.t 42]),
 m1 36 43,
 o1 44 (.ext (.t 36) 0),
 o1 45 (.ext (.t 36) 1),
 m1 16 44,
 m1 17 45]
 (sr1 [
 m1 46 14,
 m1 47 16,
 o1 48 (.call 31 [.t 46,.t 47]),
 m1 49 48,
 g1 50 49 true (.mv (.t 15)),
 g1 51 49 true (.mv (.t 17)),
 g1 52 49 true (.bin .eql (.t 50) (.t 51)),
 o1 53 (.pick (.t 49) (.t 52) (.c (.bool false))),
 m1 18 53]
 (.seq (sr1 [
 m1 54 14,
 o1 55 (.len (.t 54)),
 o1 56 (.mv (cn 0))]
 (.block 0 (.loop (sr1 [
  o1 57 (.bin .lss (.t 56) (.t 55))]
  (.seq (.cond (.t 57)
  .skip
  (.exit 0))
  (.seq (.block 1 (sr1 [
   o1 58 (.ixs (.t 54) (.t 56) 1),
   o1 59 (lf 58 1),
   m1 20 59]
   (sr1 [
   m1 60 20,
   o1 61 (.len (.t 60)),
   o1 62 (.mv (cn 0))]
   (.block 2 (.loop (sr1 [
    o1 63 (.bin .lss (.t 62) (.t 61))]
    (.seq (.cond (.t 63)
    .skip
    (.exit 2))
    (.seq (.block 3 (sr1 [
     m1 64 62,
     m1 21 64]
     (.reg [
     m1 65 20,
     m1 66 21,
     o1 67 (.ixs (.t 65) (.t 66) 1),
     ⟨none,.st (.t 67) (.c (.int .i64 (-7))) 1,none,[]⟩])))
    (.reg [
    o1 68 (.bin .add (.t 62) (cn 1)),
    m1 62 68])))))))))
  (.gh (.reg [
  o1 69 (.bin .add (.t 56) (cn 1)),
  m1 56 69]))))))))
 (.gh (sr1 [
 m1 70 18,
 m1 71 70,
 g1 72 71 true (lt 13 2),
 g1 73 71 true (lt 6 2),
 g1 74 71 true (.call 28 [.t 72,.t 73]),
 o1 75 (.pick (.t 71) (.t 74) (.c (.bool false))),
 m1 12 75]
 .ret))))))))))
def rk5:List RV:=[.tmp 12]
theorem tk5:Qt1 Try.prog 5 ck5 rk5 76:=Xl Try.func5 rfl (by kernel_rfl) (by kernel_rfl) (by kernel_rfl) (by kernel_rfl)
open Go.Azalai
def wX (a:List (List Nat)):List (List SV):=a.map fun _=>[.any]
def wI (a:List (List Nat)):List (List (List SV)):=a.map fun w=>w.map ZH
theorem Zpu (w:List Nat):KFR (w.map ZH):=by simp [Za,ZH,KFL,KF]
theorem Zs (a:List (List Nat)):KFR (wX a):=by simp [wX,Za,KFL,KF]
theorem ZhK (a:List (List Nat)):∀ r ∈ wI a,KFR r:=fun r hr=>by
 obtain ⟨w,_,rfl⟩:=List.mem_map.1 hr
 exact Zpu w
theorem Zl (a:List (List Nat)):(∀ r,r ∈ wI a->KFR r)=True:=eq_true (ZhK a)
theorem XW (a:List (List Nat)):(wX a).length=a.length:=by simp [wX]
theorem ZhY (a:List (List Nat)):(wI a).length=a.length:=by simp [wI]
theorem Zf9 (a:List (List Nat)) (w:List Nat) (x:SV):(wX a ++ [[x]]).set (wI a).length ([x].set 0 .any)=wX (a ++ [w]):=by
 rw [ZhY,List.set_append_right _ _ (by rw [XW];exact Nat.le_refl _),XW,Nat.sub_self]
 simp [wX]
theorem Zgo (a:List (List Nat)) (w:List Nat):wI a ++ [w.map ZH]=wI (a ++ [w]):=by simp [wI]
theorem ZuP (a:List (List Nat)):ZaS 0 1 (wI a) (wX a)=a.map Xn:=by
 rw [wI,wX,ZcD];rfl
theorem Zbx (a:List Nat) (ha:a.length<=1000000):CtM Try.prog 78 [] 0 [ZB a] (fun o=>o=⟨false,.mr 0 0,[(0,.row 0 1 (a.map ZH) 3)],1⟩):=by
 refine mk78 (by simp [hpb]) (fun o ho=>by subst ho;simp [KX,KXL,KXP,KXH,Za,KFL,KF,ZH]) ?_
 dsimp only [ck78,rk78,ZB,go_sem,rA,rM,rS]
 intro b hb
 dsimp only [go_sem,rA,rM,rS]
 cases b with
 | true =>
  have hl:a=[]:=by simpa using hb rfl
  subst hl
  refine YH rfl ?_
  dsimp only [go_sem,rA,rM,rS]
  refine ⟨_,rfl,?_⟩
  refine ZbX (Yk (UN 0 1 3 rfl rfl) ?_) (fun _ _ _ e=>by cases e)
  (refine Zk ?_ ?_ ?_ rfl rfl<;>dsimp only [ZH,id,go_sem,rA,rM,rS]<;>simp [ZH,Za,Zd,KFR,KFL,KF,Zc,mtO,nbr])
 | false =>
  refine Yi rfl ?_
  dsimp only [go_sem,rA,rM,rS]
  refine ⟨by simp;omega,?_⟩
  dsimp only [go_sem,rA,rM,rS]
  refine ⟨_,rfl,?_⟩
  (refine YR ?_ ?_ ?_ rfl<;>dsimp only [ZH,id,go_sem,rA,rM,rS]<;>simp [ZH,Za,Zd,KFR,KFL,KF,Zc,mtO,nbr])
end Go.Proofs.Ytkjldleglbbkeaa
namespace Go.Sx
open Go
def ZsD:Nat->List Ins->Nat->List (Nat × Ins)
 | _,[],_=>[]
 | i,x :: l,D=>bif !Nat.testBit D i && x.af.all (Nat.testBit D) then (i,x) :: ZsD (i+1) l D else ZsD (i+1) l D
theorem ZcH:∀ {l:List Ins} {i0 D i:Nat} {x:Ins},l[i]? = some x->Nat.testBit D (i0+i)=false->x.af.all (Nat.testBit D)=true->(i0+i,x) ∈ ZsD i0 l D
 | [],_,_,_,_,h,_,_=>by simp at h
 | y :: l,i0,D,0,x,h,hb,ha=>by
  simp only [List.getElem?_cons_zero,Option.some.injEq] at h
  subst h
  have hc:(!Nat.testBit D i0 && y.af.all (Nat.testBit D))=true:=by rw [ha,show Nat.testBit D i0=false from hb];rfl
  simp only [ZsD,hc,cond_true]
  exact List.mem_cons_self ..
 | y :: l,i0,D,i+1,x,h,hb,ha=>by
  have ih:=ZcH (l:=l) (i0:=i0+1) (D:=D) (i:=i) (x:=x) (by simpa using h) (by rw [show i0+1+i=i0+(i+1) from by omega];exact hb) ha
  rw [show i0+1+i=i0+(i+1) from by omega] at ih
  simp only [ZsD]
  cases (!Nat.testBit D i0 && y.af.all (Nat.testBit D))
  . exact ih
  . exact List.mem_cons_of_mem _ ih
def Zpx (f:Nat->Ins->Prop):List (Nat × Ins)->Prop
 | []=>True
 | (i,x) :: r=>f i x/\Zpx f r
theorem ZlA {f:Nat->Ins->Prop} {rs:List (Nat × Ins)}:∀ {i:Nat} {x:Ins},Zpx f rs->(i,x) ∈ rs->f i x:=by
 induction rs with
 | nil=>intro i x _ hm;cases hm
 | cons y r ih =>
  intro i x h hm
  obtain ⟨j,z⟩:=y
  have h':f j z/\Zpx f r:=h
  rcases List.mem_cons.1 hm with e | e
  . injection e with e1 e2;subst e1 e2;exact h'.1
  . exact ih h'.2 e
theorem XR {f:Nat->Ins->Prop} {i:Nat} {x:Ins} {r:List (Nat × Ins)} (h:f i x) (h':Zpx f r):Zpx f ((i,x) :: r):=⟨h,h'⟩
theorem W9 {f:Nat->Ins->Prop}:Zpx f []:=trivial
theorem YW {P:Program} {Y:Hd} {m:Nat} {l:List Ins} {n D:Nat} {σ : St} {K:Ex->St->Prop} (rs:List (Nat × Ins)) (h:ZsD 0 l D=rs) (ha:Zpx (fun i x=>st1 P Y x σ (fun σ' K'=>∃ σc,Ent m σ' σc/\LAT P Y m l n (D ||| 2 ^ i) σc K') K) rs):LAT P Y m l (n+1) D σ K:=by
 intro i x hx hb haf
 have hm:=ZcH (i0:=0) hx (by rw [Nat.zero_add];exact hb) haf
 rw [Nat.zero_add,h] at hm
 exact ZlA ha hm
theorem Zqq {l:List Nat} {n:Nat} (hn:Nat.beq l.length n=true) (hi:VC l=true):∀ i,i < n->∀ j,j < n->rho l i=rho l j->i=j:=fun i hi' j hj e=>by
 have hn:=Nat.eq_of_beq_eq_true hn
 rw [XL l i (by omega),XL l j (by omega)] at e
 have hp:=List.pairwise_iff_getElem.1 (YJ hi)
 rcases Nat.lt_trichotomy i j with h | h | h
 . exact absurd e (hp i j (by omega) (by omega) h)
 . exact h
 . exact absurd e.symm (hp j i (by omega) (by omega) h)
theorem ZpR {P:Program} {Y:Hd} {r:KT} {σ : St} {K:RK}:rxT P Y [] r σ K=r σ K:=rfl
theorem Zmk {P:Program} {Y:Hd} {x:Ins} {l:List Ins} {r:KT} {σ : St} {K:RK}:rxT P Y (x :: l) r σ K=st1 P Y x σ (rxT P Y l r) K:=rfl
attribute [go_sem] ZpR Zmk
def sbF:List Nat->List (Nat × SV)->List (Nat × SV)->Prop
 | _,[],_=>True
 | seen,(t,s) :: r,fr=>(Yz t seen=true\/s = .any\/lk t fr=s)/\sbF (t :: seen) r fr
theorem Zn1 {fr:List (Nat × SV)}:∀ {fr':List (Nat × SV)} {seen:List Nat},sbF seen fr' fr->∀ t,Yz t seen=false->lk t fr' = .any\/lk t fr'=lk t fr
 | [],_,_,_,_=>.inl rfl
 | (u,s) :: r,seen,h,t,ht=>by
  obtain ⟨h1,h2⟩:=h
  rw [Zp]
  split
  . rename_i e
    subst e
    rcases h1 with h1 | h1 | h1
    . rw [ht] at h1;cases h1
    . exact .inl h1
    . exact .inr h1.symm
  . rename_i e
    refine Zn1 h2 t ?_
    rcases Bool.eq_false_or_eq_true (Yz t (u :: seen)) with q | q
    . rw [ZC] at q
      rcases List.mem_cons.1 q with q | q
      . exact absurd q (by first | exact e | exact fun x=>e x.symm)
      . rw [ZC.2 q] at ht;cases ht
    . exact q
theorem XX {m n N:Nat} {fr fr':List (Nat × SV)} {hp:List (Nat × HB)} (h:sbF [] fr' fr) (hg:∀ t j b s,lk t fr'≠.gd j b s):Ent m ⟨fr,hp,n,N,[]⟩ ⟨fr',hp,n,N,[]⟩:=fun C E a w _ hs=>by
 refine ⟨E,fun t=>?_,hs.sz,hs.df,fun t j b s e=>absurd e (hg t j b s),hs.hs⟩
 have h0:=hs.fr t
 rcases Zn1 h t rfl with q | q
 . rw [q];exact trivial
 . have hng:=hg t
   rw [q] at hng ⊢
   simp only at h0
   cases hc:lk t fr<;>rw [hc] at h0 hng<;>first | exact h0 | exact absurd rfl (hng _ _ _)
def ngF:List (Nat × SV)->Prop
 | []=>True
 | (_,s) :: r=>(∀ j b u,s≠.gd j b u)/\ngF r
theorem Vb:∀ {fr:List (Nat × SV)},ngF fr->∀ t j b s,lk t fr≠.gd j b s
 | [],_,_,_,_,_=>by simp [lk]
 | (u,s) :: r,h,t,j,b,s'=>by
  rw [Zp]
  split
  . exact h.1 j b s'
  . exact Vb h.2 t j b s'
end Go.Sx
namespace Go.Proofs.Ytkjldleglbbkeaa
open Go Go.Sx Go.Azalai
def lk0 (l:Land) (p:Span) (till to:Int) (all:List (List Nat)) (ver clk:Nat) (L:List (Nat × Int × Bool)) (way:List Nat) (v t:Int):St:=⟨[(10,.p 10 0),(9,.p 9 0),(4,.p 2 0)],[(2,.cells [.mr 6 ver] 53),(6,.rws ver 1 (wX all) 59 0 1 (wI all) 3),(10,.cells [B false] 4),(9,.cells [ZB way] 59),(8,.cells [I v,I t] 136),(0,.cells [I till] 3),(1,.cells [I to] 3),(3,.cells [.mp 7] 99),(4,.cells (Z7 l p) 119),(5,.cells [.cl 77 [.p 0 0,.p 1 0,.p 2 0,.p 3 0,.p 4 0,.p 5 0]] 134),(7,.map (mpS kI B L) clk)],11,64,[]⟩
def lk1 (l:Land) (p:Span) (till to:Int) (all:List (List Nat)) (ver clk:Nat) (L:List (Nat × Int × Bool)) (way:List Nat) (v t:Int):St:=⟨[(21,.mr 6 ver),(10,.p 10 0),(9,.p 9 0),(4,.p 2 0)],[(2,.cells [.mr 6 ver] 53),(6,.rws ver 1 (wX all) 59 0 1 (wI all) 3),(10,.cells [B false] 4),(9,.cells [ZB way] 59),(8,.cells [I v,I t] 136),(0,.cells [I till] 3),(1,.cells [I to] 3),(3,.cells [.mp 7] 99),(4,.cells (Z7 l p) 119),(5,.cells [.cl 77 [.p 0 0,.p 1 0,.p 2 0,.p 3 0,.p 4 0,.p 5 0]] 134),(7,.map (mpS kI B L) clk)],11,64,[]⟩
def lk2 (l:Land) (p:Span) (till to:Int) (all:List (List Nat)) (ver clk:Nat) (L:List (Nat × Int × Bool)) (way:List Nat) (v t:Int):St:=⟨[(22,ZB way),(10,.p 10 0),(9,.p 9 0),(4,.p 2 0)],[(2,.cells [.mr 6 ver] 53),(6,.rws ver 1 (wX all) 59 0 1 (wI all) 3),(10,.cells [B false] 4),(9,.cells [ZB way] 59),(8,.cells [I v,I t] 136),(0,.cells [I till] 3),(1,.cells [I to] 3),(3,.cells [.mp 7] 99),(4,.cells (Z7 l p) 119),(5,.cells [.cl 77 [.p 0 0,.p 1 0,.p 2 0,.p 3 0,.p 4 0,.p 5 0]] 134),(7,.map (mpS kI B L) clk)],11,64,[]⟩
def lk3 (l:Land) (p:Span) (till to:Int) (all:List (List Nat)) (ver clk:Nat) (L:List (Nat × Int × Bool)) (way:List Nat) (v t:Int):St:=⟨[(21,.mr 6 ver),(22,ZB way),(10,.p 10 0),(9,.p 9 0),(4,.p 2 0)],[(2,.cells [.mr 6 ver] 53),(6,.rws ver 1 (wX all) 59 0 1 (wI all) 3),(10,.cells [B false] 4),(9,.cells [ZB way] 59),(8,.cells [I v,I t] 136),(0,.cells [I till] 3),(1,.cells [I to] 3),(3,.cells [.mp 7] 99),(4,.cells (Z7 l p) 119),(5,.cells [.cl 77 [.p 0 0,.p 1 0,.p 2 0,.p 3 0,.p 4 0,.p 5 0]] 134),(7,.map (mpS kI B L) clk)],11,64,[]⟩
def lk6 (l:Land) (p:Span) (till to:Int) (all:List (List Nat)) (ver clk:Nat) (L:List (Nat × Int × Bool)) (way:List Nat) (v t:Int):St:=⟨[(23,.mr 11 0),(10,.p 10 0),(9,.p 9 0),(4,.p 2 0)],[(11,.row 0 1 (way.map ZH) 3),(2,.cells [.mr 6 ver] 53),(6,.rws ver 1 (wX all) 59 0 1 (wI all) 3),(10,.cells [B false] 4),(9,.cells [ZB way] 59),(8,.cells [I v,I t] 136),(0,.cells [I till] 3),(1,.cells [I to] 3),(3,.cells [.mp 7] 99),(4,.cells (Z7 l p) 119),(5,.cells [.cl 77 [.p 0 0,.p 1 0,.p 2 0,.p 3 0,.p 4 0,.p 5 0]] 134),(7,.map (mpS kI B L) clk)],12,64,[]⟩
def lk7 (l:Land) (p:Span) (till to:Int) (all:List (List Nat)) (ver clk:Nat) (L:List (Nat × Int × Bool)) (way:List Nat) (v t:Int):St:=⟨[(21,.mr 6 ver),(23,.mr 11 0),(10,.p 10 0),(9,.p 9 0),(4,.p 2 0)],[(11,.row 0 1 (way.map ZH) 3),(2,.cells [.mr 6 ver] 53),(6,.rws ver 1 (wX all) 59 0 1 (wI all) 3),(10,.cells [B false] 4),(9,.cells [ZB way] 59),(8,.cells [I v,I t] 136),(0,.cells [I till] 3),(1,.cells [I to] 3),(3,.cells [.mp 7] 99),(4,.cells (Z7 l p) 119),(5,.cells [.cl 77 [.p 0 0,.p 1 0,.p 2 0,.p 3 0,.p 4 0,.p 5 0]] 134),(7,.map (mpS kI B L) clk)],12,64,[]⟩
def lk14 (l:Land) (p:Span) (till to:Int) (all:List (List Nat)) (ver clk:Nat) (L:List (Nat × Int × Bool)) (way:List Nat) (v t:Int):St:=⟨[(24,.sl true 1 [[.mr 11 0]]),(10,.p 10 0),(9,.p 9 0),(4,.p 2 0)],[(11,.row 0 1 (way.map ZH) 3),(2,.cells [.mr 6 ver] 53),(6,.rws ver 1 (wX all) 59 0 1 (wI all) 3),(10,.cells [B false] 4),(9,.cells [ZB way] 59),(8,.cells [I v,I t] 136),(0,.cells [I till] 3),(1,.cells [I to] 3),(3,.cells [.mp 7] 99),(4,.cells (Z7 l p) 119),(5,.cells [.cl 77 [.p 0 0,.p 1 0,.p 2 0,.p 3 0,.p 4 0,.p 5 0]] 134),(7,.map (mpS kI B L) clk)],12,64,[]⟩
def ZuW (l:Land) (p:Span) (till to:Int) (all:List (List Nat)) (ver clk:Nat) (L:List (Nat × Int × Bool)) (way:List Nat) (v t:Int):St:=⟨[(21,.mr 6 ver),(24,.sl true 1 [[.mr 11 0]]),(10,.p 10 0),(9,.p 9 0),(4,.p 2 0)],[(11,.row 0 1 (way.map ZH) 3),(2,.cells [.mr 6 ver] 53),(6,.rws ver 1 (wX all) 59 0 1 (wI all) 3),(10,.cells [B false] 4),(9,.cells [ZB way] 59),(8,.cells [I v,I t] 136),(0,.cells [I till] 3),(1,.cells [I to] 3),(3,.cells [.mp 7] 99),(4,.cells (Z7 l p) 119),(5,.cells [.cl 77 [.p 0 0,.p 1 0,.p 2 0,.p 3 0,.p 4 0,.p 5 0]] 134),(7,.map (mpS kI B L) clk)],12,64,[]⟩
def lk31 (l:Land) (p:Span) (till to:Int) (all:List (List Nat)) (ver clk:Nat) (L:List (Nat × Int × Bool)) (way:List Nat) (v t:Int):St:=⟨[(25,.mr 6 (ver+1+(wI all).length)),(10,.p 10 0),(9,.p 9 0),(4,.p 2 0)],[(2,.cells [.mr 6 ver] 53),(6,.rws (ver+1+(wI all).length) 1 (wX (all ++ [way])) 59 0 1 (wI (all ++ [way])) 3),(10,.cells [B false] 4),(9,.cells [ZB way] 59),(8,.cells [I v,I t] 136),(0,.cells [I till] 3),(1,.cells [I to] 3),(3,.cells [.mp 7] 99),(4,.cells (Z7 l p) 119),(5,.cells [.cl 77 [.p 0 0,.p 1 0,.p 2 0,.p 3 0,.p 4 0,.p 5 0]] 134),(7,.map (mpS kI B L) clk)],12,64,[]⟩
def Zu4 (l:Land) (p:Span) (till to:Int) (all:List (List Nat)) (ver clk:Nat) (L:List (Nat × Int × Bool)) (way:List Nat) (v t:Int):St:=⟨[(10,.p 10 0),(9,.p 9 0),(4,.p 2 0)],[(2,.cells [.mr 6 (ver+1+(wI all).length)] 53),(6,.rws (ver+1+(wI all).length) 1 (wX (all ++ [way])) 59 0 1 (wI (all ++ [way])) 3),(10,.cells [B false] 4),(9,.cells [ZB way] 59),(8,.cells [I v,I t] 136),(0,.cells [I till] 3),(1,.cells [I to] 3),(3,.cells [.mp 7] 99),(4,.cells (Z7 l p) 119),(5,.cells [.cl 77 [.p 0 0,.p 1 0,.p 2 0,.p 3 0,.p 4 0,.p 5 0]] 134),(7,.map (mpS kI B L) clk)],12,64,[]⟩
theorem lkReg (l:Land) (p:Span) (till to:Int) (all:List (List Nat)) (ver clk:Nat) (L:List (Nat × Int × Bool)) (way:List Nat) (v t:Int) (Y:Hd) (K:Ex->St->Prop) (hw:way.length<=1000) (ha:all.length<=200) (hK:∀ σF,σF=Zu4 l p till to all ver clk L way v t->K .n σF):LAT Try.prog Y 8 ZeN 6 0 (lk0 l p till to all ver clk L way v t) K:=by
 have h63:LAT Try.prog Y 8 ZeN 0 63 (Zu4 l p till to all ver clk L way v t) K:=hK _ rfl
 have h31:LAT Try.prog Y 8 ZeN 1 31 (lk31 l p till to all ver clk L way v t) K:=by
  refine YW [(5,Zrd)] (by kernel_rfl) ?_
  refine XR ?_ ?_
  . dsimp only [lk31,go_sem,rA,rM,rS]
    refine ⟨_,?_,h63⟩
    refine Zk ?_ ?_ ?_ rfl rfl<;>dsimp only [Zu4,id,go_sem,rA,rM,rS]<;>simp +contextual [ZB,ZH,ZM,Zx,Z7,Zf,Zm,Ze,Zs,ZhK,rho,Za,Zd,KFR,KFL,KF,Zc,mtL,mtB,mtS,mtO,Zl,Zi,nbr]
  exact W9
 have h15:LAT Try.prog Y 8 ZeN 2 15 (ZuW l p till to all ver clk L way v t) K:=by
  refine YW [(4,Zrt)] (by kernel_rfl) ?_
  refine XR ?_ ?_
  . dsimp only [ZuW,go_sem,rA,rM,rS]
    refine ZcY (k:=6) (v:=ver) (m:=1) (o:=0) (m':=1) (xs:=wX all) (ys:=[[.mr 11 0]]) (inn:=wI all) (T:=59) (T':=3) (t:=53) (bs:=24) rfl rfl rfl rfl rfl (by kernel_rfl) (by kernel_rfl) (by kernel_rfl) (by kernel_rfl) rfl rfl (by intro c hc;simp only [List.mem_singleton] at hc;subst hc;rfl) (by simp) (by rw [XW];simp;omega) rfl rfl ?_
    dsimp only [go_sem,rA,rM,rS]
    refine ⟨_,Yk (Zbs 6 11 [.mr 11 0] rfl rfl rfl (by rw [ZhY,List.getElem?_append_right (by rw [XW];exact Nat.le_refl _),XW,Nat.sub_self];rfl) rfl) ?_,h31⟩
    rw [Zf9 all way,Zgo all way]
    refine Zk ?_ ?_ ?_ rfl rfl<;>dsimp only [lk31,id,go_sem,rA,rM,rS]<;>simp +contextual [ZB,ZH,ZM,Zx,Z7,Zf,Zm,Ze,Zs,ZhK,rho,Za,Zd,KFR,KFL,KF,Zc,mtL,mtB,mtS,mtO,Zl,Zi,nbr]
  exact W9
 have h7:LAT Try.prog Y 8 ZeN 3 7 (lk7 l p till to all ver clk L way v t) K:=by
  refine YW [(3,ZkF)] (by kernel_rfl) ?_
  refine XR ?_ ?_
  . dsimp only [lk7,go_sem,rA,rM,rS]
    refine ⟨_,XX ?_ (Vb ?_),h15⟩
    . exact ⟨.inr (.inr rfl),.inr (.inr rfl),.inr (.inr rfl),.inr (.inr rfl),.inr (.inr rfl),trivial⟩
    . simp [ZuW,ngF,ZB]
  exact W9
 have h14:LAT Try.prog Y 8 ZeN 3 14 (lk14 l p till to all ver clk L way v t) K:=by
  refine YW [(0,ZdU)] (by kernel_rfl) ?_
  refine XR ?_ ?_
  . dsimp only [lk14,go_sem,rA,rM,rS]
    refine ⟨_,XX ?_ (Vb ?_),h15⟩
    . exact ⟨.inr (.inr rfl),.inr (.inr rfl),.inr (.inr rfl),.inr (.inr rfl),.inr (.inr rfl),trivial⟩
    . simp [ZuW,ngF,ZB]
  exact W9
 have h3:LAT Try.prog Y 8 ZeN 4 3 (lk3 l p till to all ver clk L way v t) K:=by
  refine YW [(2,ZjJ)] (by kernel_rfl) ?_
  refine XR ?_ ?_
  . dsimp only [lk3,ZB,go_sem,rA,rM,rS]
    refine ZhQ [] (Zbx way (by omega)) rfl rfl rfl ?_ ?_ ?_
    . dsimp only [ZB,go_sem,rA,rM,rS];simp [Za,Zd,KFR,KFL,KF,Zc,mtO,mtL,mtB,mtS,ZH]
    . trivial
    dsimp only [go_sem,rA,rM,rS]
    refine ⟨_,?_,h7⟩
    refine Zk ?_ ?_ ?_ rfl rfl<;>dsimp only [lk7,id,go_sem,rA,rM,rS]<;>simp +contextual [ZB,ZH,ZM,Zx,Z7,Zf,Zm,Ze,Zs,ZhK,rho,Za,Zd,KFR,KFL,KF,Zc,mtL,mtB,mtS,mtO,Zl,Zi,nbr]
  exact W9
 have h6:LAT Try.prog Y 8 ZeN 4 6 (lk6 l p till to all ver clk L way v t) K:=by
  refine YW [(0,ZdU),(3,ZkF)] (by kernel_rfl) ?_
  refine XR ?_ ?_
  . dsimp only [lk6,go_sem,rA,rM,rS]
    refine ⟨_,XX ?_ (Vb ?_),h7⟩
    . exact ⟨.inr (.inr rfl),.inr (.inr rfl),.inr (.inr rfl),.inr (.inr rfl),.inr (.inr rfl),trivial⟩
    . simp [lk7,ngF,ZB]
  refine XR ?_ ?_
  . dsimp only [lk6,go_sem,rA,rM,rS]
    refine ⟨_,XX ?_ (Vb ?_),h14⟩
    . exact ⟨.inr (.inr rfl),.inr (.inr rfl),.inr (.inr rfl),.inr (.inr rfl),trivial⟩
    . simp [lk14,ngF,ZB]
  exact W9
 have h1:LAT Try.prog Y 8 ZeN 5 1 (lk1 l p till to all ver clk L way v t) K:=by
  refine YW [(1,Zlf)] (by kernel_rfl) ?_
  refine XR ?_ ?_
  . dsimp only [lk1,go_sem,rA,rM,rS]
    refine ⟨_,XX ?_ (Vb ?_),h3⟩
    . exact ⟨.inr (.inr rfl),.inr (.inr rfl),.inr (.inr rfl),.inr (.inr rfl),.inr (.inr rfl),trivial⟩
    . simp [lk3,ngF,ZB]
  exact W9
 have h2:LAT Try.prog Y 8 ZeN 5 2 (lk2 l p till to all ver clk L way v t) K:=by
  refine YW [(0,ZdU),(2,ZjJ)] (by kernel_rfl) ?_
  refine XR ?_ ?_
  . dsimp only [lk2,go_sem,rA,rM,rS]
    refine ⟨_,XX ?_ (Vb ?_),h3⟩
    . exact ⟨.inr (.inr rfl),.inr (.inr rfl),.inr (.inr rfl),.inr (.inr rfl),.inr (.inr rfl),trivial⟩
    . simp [lk3,ngF,ZB]
  refine XR ?_ ?_
  . dsimp only [lk2,ZB,go_sem,rA,rM,rS]
    refine ZhQ [] (Zbx way (by omega)) rfl rfl rfl ?_ ?_ ?_
    . dsimp only [ZB,go_sem,rA,rM,rS];simp [Za,Zd,KFR,KFL,KF,Zc,mtO,mtL,mtB,mtS,ZH]
    . trivial
    dsimp only [go_sem,rA,rM,rS]
    refine ⟨_,?_,h6⟩
    refine Zk ?_ ?_ ?_ rfl rfl<;>dsimp only [lk6,id,go_sem,rA,rM,rS]<;>simp +contextual [ZB,ZH,ZM,Zx,Z7,Zf,Zm,Ze,Zs,ZhK,rho,Za,Zd,KFR,KFL,KF,Zc,mtL,mtB,mtS,mtO,Zl,Zi,nbr]
  exact W9
 have h0:LAT Try.prog Y 8 ZeN 6 0 (lk0 l p till to all ver clk L way v t) K:=by
  refine YW [(0,ZdU),(1,Zlf)] (by kernel_rfl) ?_
  refine XR ?_ ?_
  . dsimp only [lk0,go_sem,rA,rM,rS]
    refine ⟨_,XX ?_ (Vb ?_),h1⟩
    . exact ⟨.inr (.inr rfl),.inr (.inr rfl),.inr (.inr rfl),.inr (.inr rfl),trivial⟩
    . simp [lk1,ngF,ZB]
  refine XR ?_ ?_
  . dsimp only [lk0,go_sem,rA,rM,rS]
    refine ⟨_,XX ?_ (Vb ?_),h2⟩
    . exact ⟨.inr (.inr rfl),.inr (.inr rfl),.inr (.inr rfl),.inr (.inr rfl),trivial⟩
    . simp [lk2,ngF,ZB]
  exact W9
 exact h0
def Xc (l:Land) (p:Span) (till to:Int) (all:List (List Nat)) (ver:Nat) (L:List (Nat × Int × Bool)) (clk:Nat):List (Nat × HB) :=
 [(0,.cells [I till] 3),(1,.cells [I to] 3),(2,.cells [.mr 6 ver] 53),(3,.cells [.mp 7] 99),(4,.cells (Z7 l p) 119),(5,.cells [.cl 77 [.p 0 0,.p 1 0,.p 2 0,.p 3 0,.p 4 0,.p 5 0]] 134),(6,.rws ver 1 (wX all) 59 0 1 (wI all) 3),(7,.map (mpS kI B L) clk)]
def lookQ (l:Land) (p:Span) (till to:Int) (all:List (List Nat)) (L:List (Nat × Int × Bool)) (W:List (List Nat)):Ot->Prop:=fun o =>
 ∃ ver clk,MW L clk/\o=⟨false,B (decide ((all ++ W).length<=200)),Xc l p till to (cap (all ++ W)) ver L clk,8⟩
theorem Zkm (l:Land) (p:Span) (hs:Vw l) (hok:OkLP l p) (till to:Int):∀ (f:Nat) (been:List Int) (v t:Int) (way:List Nat) (all:List (List Nat)) (ver clk:Nat) (L:List (Nat × Int × Bool)) (s1:SV),Zk3 l f been->v ∉ been->(0<=v/\v < l.wells.length)->(0<=t/\t<=100001) ->
 way.length+f<=1000->all.length<=200->MW L clk->Ztv been L->(s1=ZB way\/s1 = .v (.slice none 0 0)/\way=[]) ->
 CtM Try.prog 77 (Xc l p till to all ver L clk) 8 [.agg [I v,I t],s1,.p 0 0,.p 1 0,.p 2 0,.p 3 0,.p 4 0,.p 5 0] (lookQ l p till to all L ((YD l p to till f been v t).map (way ++ ·))):=by
 intro f
 induction f with
 | zero =>
  intro been v t way all ver clk L s1 hR hv hvi
  obtain ⟨g,h,_⟩:=hR.pos hv hvi
  omega
 | succ f ih =>
 intro been v t way all ver clk L s1 hR hv hvi ht hlen hall hM hbL hs1
 obtain ⟨g,hg,hR'⟩:=hR.pos hv hvi
 have hgf:g=f:=by omega
 subst hgf
 have hleg:=hs.2.1
 refine mk77 (by simp [hpb,Xc]) (fun o ho=>?_) ?_
 . obtain ⟨ver',clk',_,rfl⟩:=ho
   simp [Xc,KX,KXL,KXP,KXH,Za,KFL,KF,Z7,Zf,Zm,Ze,Xn,ZB,ZH,ZM,Zx,Zs,Zl]
 dsimp only [ck77,rk77,Xc,go_sem,rA,rM,rS]
 rcases hs1 with rfl | ⟨rfl,hw0⟩
 refine gh XG ?_
 rotate_left
 refine gh (UL (s':=.sl false 1 (way.map ZH)) 1 rfl (by subst hw0;exact Wi) (fun _ _ _ h=>by cases h)) ?_
 all_goals
  dsimp only [ZB,go_sem,rA,rM,rS]
  refine br ?_ ?_
  . intro hlate
    have hlate:t > till:=of_decide_eq_true hlate
    dsimp only [go_sem,rA,rM,rS]
    refine ⟨_,⟨ver,clk,hM,rfl⟩,?_⟩
    rw [We hlate,List.map_nil,List.append_nil,W8 (by omega),decide_eq_true hall]
    (refine YR ?_ ?_ ?_ rfl<;>dsimp only [Z7,Zf,Zm,Ze,Xn,ZB,ZH,ZN,ZM,Zx,Za,Zs,Zl,Xc,id,go_sem,rA,rM,rS]<;>simp [Z7,Zf,Zm,Ze,Xn,ZB,ZH,ZN,ZM,Zx,Za,Zs,Zl,Xc,Za,Zd,KFR,KFL,KF,Zc,mtO,nbr])
  intro hlate
  have hlate:¬ t > till:=of_decide_eq_false hlate
  dsimp only [go_sem,rA,rM,rS]
  refine br ?_ ?_
  . intro hto
    have hto:v=to:=by simpa using hto
    dsimp only [go_sem,rA,rM,rS]
    refine gh (σ1:=lk0 l p till to all ver clk L way v t) ?_ ?_
    . dsimp only [lk0,Z7,ZB,go_sem,rA,rM,rS]
      (refine Zk ?_ ?_ ?_ rfl rfl<;>dsimp only [Z7,Zf,Zm,Ze,Xn,ZB,ZH,ZN,ZM,Zx,Za,Zs,Zl,id,go_sem,rA,rM,rS]<;>simp [Z7,Zf,Zm,Ze,Xn,ZB,ZH,ZN,ZM,Zx,Za,Zs,Zl,Za,Zd,KFR,KFL,KF,Zc,mtO,nbr])
    show LAT _ _ _ _ 6 0 _ _
    refine lkReg l p till to all ver clk L way v t _ _ (by omega) hall ?_
    intro σF eF
    subst eF
    dsimp only [Zu4,Z7,go_sem,rA,rM,rS]
    refine ⟨0,1,_,_,rfl,rfl,?_⟩
    simp only [Z9,XW]
    refine ⟨_,⟨ver+1+(wI all).length,clk,hM,rfl⟩,?_⟩
    rw [YB,if_neg hlate,if_pos hto]
    simp only [List.map_cons,List.map_nil,List.append_nil,List.length_map]
    rw [W8 (by simp;omega)]
    have hd:decide (((all ++ [way]).length:Int)<=200)=decide ((all ++ [way]).length<=200):=by simp;omega
    rw [hd]
    (refine YR ?_ ?_ ?_ rfl<;>dsimp only [Z7,Zf,Zm,Ze,Xn,ZB,ZH,ZN,ZM,Zx,Za,Zs,Zl,Xc,id,go_sem,rA,rM,rS]<;>simp [Z7,Zf,Zm,Ze,Xn,ZB,ZH,ZN,ZM,Zx,Za,Zs,Zl,Xc,Za,Zd,KFR,KFL,KF,Zc,mtO,nbr])
  intro hto
  have hto:¬ v=to:=by simpa using hto
  dsimp only [go_sem,rA,rM,rS]
  refine ZqQ (ins:=false) (key:=kI) (val:=B) (L:=L) (k:=v) (v:=true) rfl rfl u99 Zsu rfl rfl (by simp) ?_
  dsimp only [go_sem,rA,rM,rS]
  refine ⟨rfl,?_⟩
  have hvL:WR v L=none:=by rw [hbL,if_neg hv]
  have hM1:=hM.set (k:=v) true
  have hL1:Ztv (v :: been) (VW clk v true L):=fun u=>by
   rw [ZcO]
   by_cases hu:u=v
   . simp [hu]
   . rw [if_neg hu,hbL]
     simp [hu]
  have hdel:=Zlp (L:=L) (c:=clk) (b:=true) hvL
  generalize VW clk v true L=L1 at hM1 hL1 hdel ⊢
  generalize Zbo clk v L=clk1 at hM1 ⊢
  refine ZhQ [] (ZkT l p v) rfl rfl rfl ?_ ?_ ?_
  . exact Zc (by simp [Z7,Zf,Zm,Ze,Za,KFL,KF])
  . trivial
  dsimp only [ZcV,Z7,go_sem,rA,rM,rS]
  refine gh XG ?_
  dsimp only [go_sem,rA,rM,rS]
  refine ⟨b97,fun rec=>?_⟩
  refine y97 ?_
  dsimp only [c97,r97,go_sem,rA,rM,rS]
  refine Xw (fun q:Nat × List (List Nat) × Nat × Nat=>[(10,I q.1)]) (fun q=>[(2,.cells [.mr 6 q.2.2.1] 53),(6,.rws q.2.2.1 1 (wX q.2.1) 59 0 1 (wI q.2.1) 3),(7,.map (mpS kI B L1) q.2.2.2)])
   (fun q=>q.1<=l.legs.length/\MW L1 q.2.2.2/\q.2.1=all ++ (ZX l p to till g been v t q.1).map (way ++ ·)/\q.2.1.length<=200) (fun q=>l.legs.length - q.1) (0,all,ver,clk1) ⟨Nat.zero_le _,hM1,by simp [Za6],hall⟩ ?_ ?_
  . (refine Zk ?_ ?_ ?_ rfl rfl<;>dsimp only [Z7,Zf,Zm,Ze,Xn,ZB,ZH,ZN,ZM,Zx,Za,Zs,Zl,id,go_sem,rA,rM,rS]<;>simp [Z7,Zf,Zm,Ze,Xn,ZB,ZH,ZN,ZM,Zx,Za,Zs,Zl,Za,Zd,KFR,KFL,KF,Zc,mtO,nbr])
  rintro ⟨j,allj,ver,clk⟩ ⟨hj,hMj,hallj,hlenj⟩
  simp only at hj hMj hallj hlenj
  dsimp only [go_sem,rA,rM,rS]
  simp only [List.length_map]
  by_cases hlt:j < l.legs.length
  . refine YH (by simpa using hlt) ?_
    dsimp only [go_sem,rA,rM,rS]
    refine ZG j hlt rfl ?_
    dsimp only [Zm,go_sem,rA,rM,rS]
    have hgl:GoodLeg l.legs[j]:=Vs hok.land _ (List.getElem_mem _)
    have hends:=hok.ends (List.getElem_mem hlt)
    have hxj:l.legs[j]? = some l.legs[j]:=List.getElem?_eq_getElem hlt
    have hin:inR 0 100001 t=true:=by simp only [inR,decide_eq_true_eq];omega
    have hab:=YC (k:=true) (t:=t) hgl hok.pace (by omega)
    by_cases hca:v=l.legs[j].a
    . refine YH (by simpa using hca) ?_
      have hoth:Zg l.legs[j] v=l.legs[j].b:=by rw [Zg,if_pos hca.symm]
      dsimp only [go_sem,rA,rM,rS]
      refine ⟨rfl,rfl,?_⟩
      refine ZfP (key:=kI) (sv:=sI) (val:=B) (L:=L1) (k:=l.legs[j].b) (z:=.bool false) (zs:=B false) rfl rfl u99 Zsu rfl (by kernel_rfl) (fun w E n ok=>by simp only [R]) ?_ ?_
      . intro b hget
        have hb:b=true/\Zg l.legs[j] v ∈ v :: been:=by
         have h:=hL1 l.legs[j].b
         rw [hget] at h
         rw [hoth]
         split at h
         . rename_i hm;exact ⟨Option.some.inj h,hm⟩
         . cases h
        obtain ⟨rfl,hmem⟩:=hb
        dsimp only [Bool.not_true,go_sem,rA,rM,rS]
        repeat (refine UE (by decide) ?_;dsimp only [go_sem,rA,rM,rS])
        refine Yi (by decide) ?_
        dsimp only [go_sem,rA,rM,rS]
        refine ⟨rfl,?_⟩
        refine Yi (by decide) ?_
        dsimp only [go_sem,rA,rM,rS]
        rw [Zn (n:=(j:Int)+1) (by omega) (by omega)]
        refine ⟨(j+1,allj,ver,clk),⟨hlt,hMj,by rw [ZJ,X1 hxj (.inr hmem),List.append_nil];exact hallj,hlenj⟩,by simp only;omega,?_⟩
        (refine Zk ?_ ?_ ?_ rfl rfl<;>dsimp only [Z7,Zf,Zm,Ze,Xn,ZB,ZH,ZN,ZM,Zx,Za,Zs,Zl,id,go_sem,rA,rM,rS]<;>simp [Z7,Zf,Zm,Ze,Xn,ZB,ZH,ZN,ZM,Zx,Za,Zs,Zl,Za,Zd,KFR,KFL,KF,Zc,mtO,nbr])
      intro hget
      have hnb:Zg l.legs[j] v ∉ v :: been:=fun hm=>by
       have h:=hL1 l.legs[j].b
       rw [hoth] at hm
       rw [hget,if_pos hm] at h;cases h
      have hn0:¬ Zg l.legs[j] v < 0:=by rw [hoth];omega
      dsimp only [Bool.not_false,go_sem,rA,rM,rS]
      iterate 10 (refine YA rfl ?_;dsimp only [go_sem,rA,rM,rS])
      refine call (Za4 l p j hlt t t hgl hok.pace hin hin) ?_
      dsimp only [go_sem,rA,rM,rS]
      refine YA rfl ?_
      dsimp only [go_sem,rA,rM,rS]
      refine ixa 1 rfl (by decide) ?_
      dsimp only [go_sem,rA,rM,rS]
      iterate 4 (refine YA rfl ?_;dsimp only [go_sem,rA,rM,rS])
      refine call (Zh3 way j (by omega)) ?_
      dsimp only [ZB,go_sem,rA,rM,rS]
      refine YA rfl ?_
      dsimp only [go_sem,rA,rM,rS]
      have hot:=Z6 hok hxj hn0
      have hih:=ih (v :: been) (Zg l.legs[j] v) (ZR true l.legs[j] p t) (way ++ [j]) allj ver clk L1 (ZB (way ++ [j])) hR' hnb hot.1 (by omega) (by simp;omega) hlenj hMj hL1 (.inl rfl)
      have hWj:(YD l p to till g (v :: been) (Zg l.legs[j] v) (ZR true l.legs[j] p t)).map (way ++ [j] ++ ·)=(Y9 l p to till g been v t j).map (way ++ ·):=by
       rw [Vt hxj hn0 hnb,List.map_map]
       simp [Function.comp_def]
      rw [hWj,hoth] at hih
      refine U9 [0,1,2,3,4,5,6,7] hih rfl rfl ?_ ?_ ?_ ?_
      . rfl
      . dsimp only [rho,ZB,go_sem,rA,rM,rS]
        simp [Za,Zd,KFR,KFL,KF,Zc,mtO,nbr,Z7,Zf,Zm,Ze,Xn,ZB,ZH,ZM,Zx,Zs,Zl]
      . dsimp only [rho,Xc,Z7,go_sem,rA,rM,rS]
        simp [Za,Zd,KFR,KFL,KF,Zc,mtO,nbr,Z7,Zf,Zm,Ze,Xn,ZB,ZH,ZM,Zx,Zs,Zl]
      rintro o ⟨ver',clk',hM',rfl⟩
      dsimp only [Xc,Z7,go_sem,rA,rM,rS]
      refine YA rfl ?_
      dsimp only [Bool.not_false,go_sem,rA,rM,rS]
      have hnext:all ++ (ZX l p to till g been v t (j+1)).map (way ++ ·)=allj ++ (Y9 l p to till g been v t j).map (way ++ ·):=by
       rw [ZJ,List.map_append,<- List.append_assoc,<- hallj]
      generalize hWW:(Y9 l p to till g been v t j).map (way ++ ·)=Wj at hnext ⊢
      by_cases hsm:(allj ++ Wj).length<=200
      . refine Yi (by simp only [hsm,decide_true];rfl) ?_
        dsimp only [go_sem,rA,rM,rS]
        refine ⟨rfl,?_⟩
        refine Yi (by decide) ?_
        dsimp only [go_sem,rA,rM,rS]
        rw [Zn (n:=(j:Int)+1) (by omega) (by omega),W8 (by omega)]
        rw [<- hnext] at hsm ⊢
        refine ⟨(j+1,_,ver',clk'),⟨hlt,hM',rfl,hsm⟩,by simp only;omega,?_⟩
        generalize all ++ (ZX l p to till g been v t (j+1)).map (way ++ ·)=alln
        (refine Zk ?_ ?_ ?_ rfl rfl<;>dsimp only [Z7,Zf,Zm,Ze,Xn,ZB,ZH,ZN,ZM,Zx,Za,Zs,Zl,id,go_sem,rA,rM,rS]<;>simp [Z7,Zf,Zm,Ze,Xn,ZB,ZH,ZN,ZM,Zx,Za,Zs,Zl,Za,Zd,KFR,KFL,KF,Zc,mtO,nbr])
      . refine YH (by simp only [hsm,decide_false];rfl) ?_
        dsimp only [go_sem,rA,rM,rS]
        refine ⟨rfl,?_⟩
        refine YH rfl ?_
        dsimp only [go_sem,rA,rM,rS]
        have hWs:YD l p to till (g+1) been v t=ZX l p to till g been v t l.legs.length:=by rw [YB,if_neg hlate,if_neg hto]
        obtain ⟨R,hRs⟩:=YV (l:=l) (p:=p) (to:=to) (till:=till) (f:=g) (been:=been) (v:=v) (t:=t) (j:=j+1) (l.legs.length - (j+1))
        rw [show j+1+(l.legs.length - (j+1))=l.legs.length by omega] at hRs
        have hall2:all ++ (YD l p to till (g+1) been v t).map (way ++ ·)=allj ++ Wj ++ R.map (way ++ ·):=by
         rw [hWs,hRs,List.map_append,<- List.append_assoc,hnext]
        have hlong:¬ (allj ++ Wj ++ R.map (way ++ ·)).length<=200:=by rw [List.length_append];omega
        refine ⟨_,delR (key:=kI) (val:=B) (sv:=sI) (L:=L1) (k:=v) u99 Zsu,?_⟩
        rw [hdel]
        have hMf:MW L clk':=by have:=hM'.del (k:=v);rw [hdel] at this;exact this
        refine ⟨_,⟨ver',clk',hMf,rfl⟩,?_⟩
        have hc2:cap (allj ++ Wj ++ R.map (way ++ ·))=cap (allj ++ Wj):=ZbR (by omega)
        rw [hall2,hc2,decide_eq_false hlong]
        generalize cap (allj ++ Wj)=alln
        (refine YR ?_ ?_ ?_ rfl<;>dsimp only [Z7,Zf,Zm,Ze,Xn,ZB,ZH,ZN,ZM,Zx,Za,Zs,Zl,Xc,id,go_sem,rA,rM,rS]<;>simp [Z7,Zf,Zm,Ze,Xn,ZB,ZH,ZN,ZM,Zx,Za,Zs,Zl,Xc,Za,Zd,KFR,KFL,KF,Zc,mtO,nbr])
    refine Yi (by simpa using hca) ?_
    dsimp only [go_sem,rA,rM,rS]
    by_cases hcb:v=l.legs[j].b
    . refine YH (by simpa using hcb) ?_
      have hoth:Zg l.legs[j] v=l.legs[j].a:=by rw [Zg,if_neg (fun h=>hca h.symm),if_pos hcb.symm]
      dsimp only [go_sem,rA,rM,rS]
      refine ⟨rfl,rfl,?_⟩
      refine ZfP (key:=kI) (sv:=sI) (val:=B) (L:=L1) (k:=l.legs[j].a) (z:=.bool false) (zs:=B false) rfl rfl u99 Zsu rfl (by kernel_rfl) (fun w E n ok=>by simp only [R]) ?_ ?_
      . intro b hget
        have hb:b=true/\Zg l.legs[j] v ∈ v :: been:=by
         have h:=hL1 l.legs[j].a
         rw [hget] at h
         rw [hoth]
         split at h
         . rename_i hm;exact ⟨Option.some.inj h,hm⟩
         . cases h
        obtain ⟨rfl,hmem⟩:=hb
        dsimp only [Bool.not_true,go_sem,rA,rM,rS]
        repeat (refine UE (by decide) ?_;dsimp only [go_sem,rA,rM,rS])
        refine Yi (by decide) ?_
        dsimp only [go_sem,rA,rM,rS]
        refine ⟨rfl,?_⟩
        refine Yi (by decide) ?_
        dsimp only [go_sem,rA,rM,rS]
        rw [Zn (n:=(j:Int)+1) (by omega) (by omega)]
        refine ⟨(j+1,allj,ver,clk),⟨hlt,hMj,by rw [ZJ,X1 hxj (.inr hmem),List.append_nil];exact hallj,hlenj⟩,by simp only;omega,?_⟩
        (refine Zk ?_ ?_ ?_ rfl rfl<;>dsimp only [Z7,Zf,Zm,Ze,Xn,ZB,ZH,ZN,ZM,Zx,Za,Zs,Zl,id,go_sem,rA,rM,rS]<;>simp [Z7,Zf,Zm,Ze,Xn,ZB,ZH,ZN,ZM,Zx,Za,Zs,Zl,Za,Zd,KFR,KFL,KF,Zc,mtO,nbr])
      intro hget
      have hnb:Zg l.legs[j] v ∉ v :: been:=fun hm=>by
       have h:=hL1 l.legs[j].a
       rw [hoth] at hm
       rw [hget,if_pos hm] at h;cases h
      have hn0:¬ Zg l.legs[j] v < 0:=by rw [hoth];omega
      dsimp only [Bool.not_false,go_sem,rA,rM,rS]
      iterate 10 (refine YA rfl ?_;dsimp only [go_sem,rA,rM,rS])
      refine call (Za4 l p j hlt t t hgl hok.pace hin hin) ?_
      dsimp only [go_sem,rA,rM,rS]
      refine YA rfl ?_
      dsimp only [go_sem,rA,rM,rS]
      refine ixa 1 rfl (by decide) ?_
      dsimp only [go_sem,rA,rM,rS]
      iterate 4 (refine YA rfl ?_;dsimp only [go_sem,rA,rM,rS])
      refine call (Zh3 way j (by omega)) ?_
      dsimp only [ZB,go_sem,rA,rM,rS]
      refine YA rfl ?_
      dsimp only [go_sem,rA,rM,rS]
      have hot:=Z6 hok hxj hn0
      have hih:=ih (v :: been) (Zg l.legs[j] v) (ZR true l.legs[j] p t) (way ++ [j]) allj ver clk L1 (ZB (way ++ [j])) hR' hnb hot.1 (by omega) (by simp;omega) hlenj hMj hL1 (.inl rfl)
      have hWj:(YD l p to till g (v :: been) (Zg l.legs[j] v) (ZR true l.legs[j] p t)).map (way ++ [j] ++ ·)=(Y9 l p to till g been v t j).map (way ++ ·):=by
       rw [Vt hxj hn0 hnb,List.map_map]
       simp [Function.comp_def]
      rw [hWj,hoth] at hih
      refine U9 [0,1,2,3,4,5,6,7] hih rfl rfl ?_ ?_ ?_ ?_
      . rfl
      . dsimp only [rho,ZB,go_sem,rA,rM,rS]
        simp [Za,Zd,KFR,KFL,KF,Zc,mtO,nbr,Z7,Zf,Zm,Ze,Xn,ZB,ZH,ZM,Zx,Zs,Zl]
      . dsimp only [rho,Xc,Z7,go_sem,rA,rM,rS]
        simp [Za,Zd,KFR,KFL,KF,Zc,mtO,nbr,Z7,Zf,Zm,Ze,Xn,ZB,ZH,ZM,Zx,Zs,Zl]
      rintro o ⟨ver',clk',hM',rfl⟩
      dsimp only [Xc,Z7,go_sem,rA,rM,rS]
      refine YA rfl ?_
      dsimp only [Bool.not_false,go_sem,rA,rM,rS]
      have hnext:all ++ (ZX l p to till g been v t (j+1)).map (way ++ ·)=allj ++ (Y9 l p to till g been v t j).map (way ++ ·):=by
       rw [ZJ,List.map_append,<- List.append_assoc,<- hallj]
      generalize hWW:(Y9 l p to till g been v t j).map (way ++ ·)=Wj at hnext ⊢
      by_cases hsm:(allj ++ Wj).length<=200
      . refine Yi (by simp only [hsm,decide_true];rfl) ?_
        dsimp only [go_sem,rA,rM,rS]
        refine ⟨rfl,?_⟩
        refine Yi (by decide) ?_
        dsimp only [go_sem,rA,rM,rS]
        rw [Zn (n:=(j:Int)+1) (by omega) (by omega),W8 (by omega)]
        rw [<- hnext] at hsm ⊢
        refine ⟨(j+1,_,ver',clk'),⟨hlt,hM',rfl,hsm⟩,by simp only;omega,?_⟩
        generalize all ++ (ZX l p to till g been v t (j+1)).map (way ++ ·)=alln
        (refine Zk ?_ ?_ ?_ rfl rfl<;>dsimp only [Z7,Zf,Zm,Ze,Xn,ZB,ZH,ZN,ZM,Zx,Za,Zs,Zl,id,go_sem,rA,rM,rS]<;>simp [Z7,Zf,Zm,Ze,Xn,ZB,ZH,ZN,ZM,Zx,Za,Zs,Zl,Za,Zd,KFR,KFL,KF,Zc,mtO,nbr])
      . refine YH (by simp only [hsm,decide_false];rfl) ?_
        dsimp only [go_sem,rA,rM,rS]
        refine ⟨rfl,?_⟩
        refine YH rfl ?_
        dsimp only [go_sem,rA,rM,rS]
        have hWs:YD l p to till (g+1) been v t=ZX l p to till g been v t l.legs.length:=by rw [YB,if_neg hlate,if_neg hto]
        obtain ⟨R,hRs⟩:=YV (l:=l) (p:=p) (to:=to) (till:=till) (f:=g) (been:=been) (v:=v) (t:=t) (j:=j+1) (l.legs.length - (j+1))
        rw [show j+1+(l.legs.length - (j+1))=l.legs.length by omega] at hRs
        have hall2:all ++ (YD l p to till (g+1) been v t).map (way ++ ·)=allj ++ Wj ++ R.map (way ++ ·):=by
         rw [hWs,hRs,List.map_append,<- List.append_assoc,hnext]
        have hlong:¬ (allj ++ Wj ++ R.map (way ++ ·)).length<=200:=by rw [List.length_append];omega
        refine ⟨_,delR (key:=kI) (val:=B) (sv:=sI) (L:=L1) (k:=v) u99 Zsu,?_⟩
        rw [hdel]
        have hMf:MW L clk':=by have:=hM'.del (k:=v);rw [hdel] at this;exact this
        refine ⟨_,⟨ver',clk',hMf,rfl⟩,?_⟩
        have hc2:cap (allj ++ Wj ++ R.map (way ++ ·))=cap (allj ++ Wj):=ZbR (by omega)
        rw [hall2,hc2,decide_eq_false hlong]
        generalize cap (allj ++ Wj)=alln
        (refine YR ?_ ?_ ?_ rfl<;>dsimp only [Z7,Zf,Zm,Ze,Xn,ZB,ZH,ZN,ZM,Zx,Za,Zs,Zl,Xc,id,go_sem,rA,rM,rS]<;>simp [Z7,Zf,Zm,Ze,Xn,ZB,ZH,ZN,ZM,Zx,Za,Zs,Zl,Xc,Za,Zd,KFR,KFL,KF,Zc,mtO,nbr])
    refine Yi (by simpa using hcb) ?_
    dsimp only [go_sem,rA,rM,rS]
    rw [Zn (n:=(j:Int)+1) (by omega) (by omega)]
    have hoth:Zg l.legs[j] v = -1:=by rw [Zg,if_neg (fun h=>hca h.symm),if_neg (fun h=>hcb h.symm)]
    refine ⟨(j+1,allj,ver,clk),⟨hlt,hMj,by rw [ZJ,X1 hxj (.inl (by omega)),List.append_nil];exact hallj,hlenj⟩,by simp only;omega,?_⟩
    (refine Zk ?_ ?_ ?_ rfl rfl<;>dsimp only [Z7,Zf,Zm,Ze,Xn,ZB,ZH,ZN,ZM,Zx,Za,Zs,Zl,id,go_sem,rA,rM,rS]<;>simp [Z7,Zf,Zm,Ze,Xn,ZB,ZH,ZN,ZM,Zx,Za,Zs,Zl,Za,Zd,KFR,KFL,KF,Zc,mtO,nbr])
  refine Yi (by simp;omega) ?_
  dsimp only [go_sem,rA,rM,rS]
  have hje:j=l.legs.length:=by omega
  subst hje
  have hWs:YD l p to till (g+1) been v t=ZX l p to till g been v t l.legs.length:=by rw [YB,if_neg hlate,if_neg hto]
  refine ⟨_,delR (key:=kI) (val:=B) (sv:=sI) (L:=L1) (k:=v) u99 Zsu,?_⟩
  rw [hdel]
  have hMf:MW L clk:=by have:=hMj.del (k:=v);rw [hdel] at this;exact this
  refine ⟨_,⟨ver,clk,hMf,rfl⟩,?_⟩
  rw [hWs,<- hallj,W8 (by omega),decide_eq_true hlenj]
  (refine YR ?_ ?_ ?_ rfl<;>dsimp only [Z7,Zf,Zm,Ze,Xn,ZB,ZH,ZN,ZM,Zx,Za,Zs,Zl,Xc,id,go_sem,rA,rM,rS]<;>simp [Z7,Zf,Zm,Ze,Xn,ZB,ZH,ZN,ZM,Zx,Za,Zs,Zl,Xc,Za,Zd,KFR,KFL,KF,Zc,mtO,nbr])
def U3 (l:Land) (p:Span) (s to day till:Int):SV:=.tup [ZaJ (Xv l p s to day till) 1 ((Xh l p s to day till).map Xn),I (Xv l p s to day till)]
theorem Zkg (l:Land) (p:Span) (s to day till:Int):KF (U3 l p s to day till):=by
 unfold U3 ZaJ;split<;>simp [KFL,KF,Za,Xn,ZB,ZH]
def Zcf (l:Land) (p:Span) (s to day till:Int) (o:Ot):Prop :=
 if Xv l p s to day till=0 then ∃ ver,o=⟨false,.tup [.mr 0 ver,I 0],[(0,.rws ver 1 (wX (Xh l p s to day till)) 59 0 1 (wI (Xh l p s to day till)) 3)],1⟩
 else o=⟨false,.tup [.v (.slice none 0 0),I (Xv l p s to day till)],[],0⟩
theorem ZjV (l:Land) (hs:Vw l) (s to day till:Int) (p:Span):CtM Try.prog 29 [] 0 [.agg (Zt l),I s,I to,I day,I till,.agg (Zi p)] (Zcf l p s to day till):=by
 have hw:=hs.1
 have hleg:=hs.2.1
 refine mk29 (by simp [hpb]) (fun o ho=>?_) ?_
 . unfold Zcf at ho
   split at ho
   . obtain ⟨ver,rfl⟩:=ho
     simp [KX,KXL,KXP,KXH,KFL,KF,Zs,Zl]
   . subst ho
     simp [KX,KXL,KXP]
 dsimp only [ck29,rk29,Zt,Zi,go_sem,rA,rM,rS]
 by_cases ha:ZaV l p=0
 case neg =>
  refine call (Zjv l hs p ha) ?_
  dsimp only [go_sem,rA,rM,rS]
  refine YH (by simpa using ha) ?_
  dsimp only [go_sem,rA,rM,rS]
  refine ⟨_,by rw [Zcf,if_neg (by simp [Xv,ha])],?_⟩
  simp only [Xv,ha,ne_eq,not_false_eq_true,if_true]
  (refine YR ?_ ?_ ?_ rfl<;>dsimp only [Zf,Zm,Ze,id,go_sem,rA,rM,rS]<;>simp [Zf,Zm,Ze,Za,Zd,KFR,KFL,KF,Zc,mtO,nbr])
 have hok:=ZnV ha
 refine call (ZqR l hs p ha) ?_
 dsimp only [Z7,go_sem,rA,rM,rS]
 refine Yi (by decide) ?_
 dsimp only [go_sem,rA,rM,rS]
 simp only [List.length_map]
 have h1:=Zai hok.land
 rw [Zn (n:=(l.wells.length:Int) - 1) (by omega) (by omega)]
 refine call (Zf5 0 (l.wells.length - 1) s to true) ?_
 dsimp only [go_sem,rA,rM,rS]
 repeat (first | (refine gb ?_;dsimp only [go_sem,rA,rM,rS]) | (refine call (Zf5 0 100000 day till true) ?_;dsimp only [go_sem,rA,rM,rS]))
 by_cases hr:(inR 0 (l.wells.length - 1) s && inR 0 (l.wells.length - 1) to && inR 0 100000 day && inR 0 100000 till)=true
 case neg =>
  have hb:∀ a b c d:Bool,¬ (a && b && c && d)=true->(!(a && b) || !(c && d))=true:=by decide
  refine YH (hb _ _ _ _ hr) ?_
  dsimp only [go_sem,rA,rM,rS]
  have he:Xv l p s to day till=2:=by simp [Xv,ha,hr]
  refine ⟨_,by rw [Zcf,if_neg (by rw [he];decide)],?_⟩
  rw [he]
  (refine YR ?_ ?_ ?_ rfl<;>dsimp only [Zf,Zm,Ze,id,go_sem,rA,rM,rS]<;>simp [Zf,Zm,Ze,Za,Zd,KFR,KFL,KF,Zc,mtO,nbr])
 have hb:∀ a b c d:Bool,(a && b && c && d)=true->(!(a && b) || !(c && d))=false:=by decide
 refine Yi (hb _ _ _ _ hr) ?_
 dsimp only [go_sem,rA,rM,rS]
 have he:Xv l p s to day till=if (Xh l p s to day till).length > 200 then 9 else 0:=by simp only [Xv,Xh,ha,hr];simp
 simp only [Bool.and_eq_true,inR,decide_eq_true_eq] at hr
 obtain ⟨⟨⟨hr1,hr3⟩,hd⟩,hu⟩:=hr
 refine ZfO rfl rfl rfl ?_
 dsimp only [go_sem,rA,rM,rS]
 refine gh (Yk (Zcq 5 0 1 59 rfl rfl) (Zff 9 0 0 1 3 rfl rfl)) ?_
 dsimp only [go_sem,rA,rM,rS]
 have hlk:=Zkm l p hs hok till to (l.wells.length+1) [] s day [] [] 0 0 [] (.v (.slice none 0 0)) Zk3.start (by simp) (by omega) (by omega) (by simp;omega) (by simp) MW.nil (fun u=>by simp [WR]) (.inr ⟨rfl,rfl⟩)
 have hW:(YD l p to till (l.wells.length+1) [] s day).map (([]:List Nat) ++ ·)=Xh l p s to day till:=by simp [Xh]
 rw [hW] at hlk
 refine U9 [2,1,5,7,4,8,9,6] hlk rfl rfl ?_ ?_ ?_ ?_
 . rfl
 . dsimp only [rho,go_sem,rA,rM,rS]
   simp [Za,Zd,KFR,KFL,KF,Zc,mtO,nbr]
 . dsimp only [rho,Xc,Z7,go_sem,rA,rM,rS]
   simp [Za,Zd,KFR,KFL,KF,Zc,mtO,nbr,ZN,Z7,Zf,Zm,Ze,Xn,ZB,ZH,wX,wI]
 rintro o ⟨ver',clk',hM',rfl⟩
 dsimp only [Xc,Z7,go_sem,rA,rM,rS]
 try simp only [List.nil_append]
 by_cases hl:(Xh l p s to day till).length<=200
 . refine Yi (by simp only [hl,decide_true];rfl) ?_
   dsimp only [go_sem,rA,rM,rS]
   have he0:Xv l p s to day till=0:=by rw [he,if_neg (by omega)]
   refine ⟨_,by rw [Zcf,if_pos he0];exact ⟨ver',rfl⟩,?_⟩
   rw [W8 (by omega)]
   generalize Xh l p s to day till=W
   refine entO (fun _=>9) ?_ ?_ ?_ (fun i hi j hj _=>by omega) rfl (fun i hi=>absurd hi (Nat.not_lt_zero i))<;>dsimp only [go_sem,rA,rM,rS]<;>simp [Za,Zd,KFR,KFL,KF,Zc,mtO,nbr,Zs,Zl]
 . refine YH (by simp only [hl,decide_false];rfl) ?_
   dsimp only [go_sem,rA,rM,rS]
   have he9:Xv l p s to day till=9:=by rw [he,if_pos (by omega)]
   refine ⟨_,by rw [Zcf,if_neg (by rw [he9];decide)],?_⟩
   rw [he9]
   (refine YR ?_ ?_ ?_ rfl<;>dsimp only [Zf,Zm,Ze,id,go_sem,rA,rM,rS]<;>simp [Zf,Zm,Ze,Za,Zd,KFR,KFL,KF,Zc,mtO,nbr])
end Go.Proofs.Ytkjldleglbbkeaa
namespace Go.Sx
open Go
def sB:Bool->SV->SV
 | true,s=>s
 | false,_=>.any
def hB:Bool->HB->HB
 | true,h=>h
 | false,_=>.gone
theorem Ww {ρ : Nat->Nat} {n:Nat} {o:Bool} {v v':SV}:mtS ρ n (sB o v) v'=(o=true->mtS ρ n v v'):=by
 cases o<;>simp [sB,mtS]
theorem Wv {ρ : Nat->Nat} {n:Nat} {o:Bool} {v v':HB}:mtH ρ n (hB o v) v'=(o=true->mtH ρ n v v'):=by
 cases o<;>simp [hB,mtH]
theorem sBt {v:SV}:sB true v=v:=rfl
theorem sBf {v:SV}:sB false v = .any:=rfl
theorem hBt {v:HB}:hB true v=v:=rfl
theorem hBf {v:HB}:hB false v = .gone:=rfl
theorem ZbK {ρ : Nat->Nat} {n:Nat} {h:HB}:mtH ρ n .gone h=True:=rfl
theorem ZbN {ρ : Nat->Nat} {n:Nat} {l l2:List SV} {T T2:TypeId}:mtH ρ n (.cells l T) (.cells l2 T2)=(T2=T/\mtL ρ n l l2):=rfl
theorem ZbL {ρ : Nat->Nat} {n v m:Nat} {xs:List (List SV)} {T:TypeId} {h:HB}:mtH ρ n (.row v m xs T) h=(h = .row v m xs T/\KFR xs):=rfl
theorem entM {m:Nat} {σ σ':St} (l:List Nat) (hf:mtF (rho l) σ'.n [] σ'.fr σ.fr) (hp:mtP (rho l) σ'.hp σ.hp σ'.n σ'.n) (hb:hpb σ'.n σ'.hp) (hn:Nat.beq l.length σ'.n=true) (hi:VC l=true) (hN:Nat.beq σ'.N σ.N=true) (hm:Nat.ble m σ'.n=true) (hx:∀ i,i < m->rho l i=i):Ent m σ σ' :=
 ent (rho l) hf hp hb (Zqq hn hi) hN hm hx
theorem tn {b:Bool} (h:(!b).toNat=0):b=true:=by cases b<;>simp_all
end Go.Sx
namespace Go.Azalai
def Xd (n:Nat) (been:List Int):List Bool:=(List.range n).map fun i:Nat=>decide ((i:Int) ∈ been)
theorem YO {n:Nat} {been:List Int}:(Xd n been).length=n:=by simp [Xd]
theorem Zgu {n i:Nat} {been:List Int} (h:i < n) (h':i < (Xd n been).length):(Xd n been)[i]=decide ((i:Int) ∈ been):=by simp [Xd]
theorem Zjy {n v:Nat} {been:List Int} (h:v < n):(Xd n been).set v true=Xd n ((v:Int) :: been):=by
 apply List.ext_getElem
 . simp [Xd]
 . intro k h1 h2
   rw [List.getElem_set]
   simp only [Xd,List.getElem_map,List.getElem_range,List.mem_cons]
   by_cases e:v=k
   . subst e;simp
   . rw [if_neg e]
     have:¬ (k:Int)=(v:Int):=by omega
     simp [this]
theorem Zbn {n v:Nat} {been:List Int} (h:v < n) (hv:(v:Int) ∉ been):(Xd n ((v:Int) :: been)).set v false=Xd n been:=by
 apply List.ext_getElem
 . simp [Xd]
 . intro k h1 h2
   rw [List.getElem_set]
   simp only [Xd,List.getElem_map,List.getElem_range,List.mem_cons]
   by_cases e:v=k
   . subst e;simp [hv]
   . rw [if_neg e]
     have:¬ (k:Int)=(v:Int):=by omega
     simp [this]
theorem ZtK {A:List (List Nat)} (h:(cap A).length<=200):cap A=A:=by
 unfold cap at h ⊢
 rw [List.length_take] at h
 exact List.take_of_length_le (by omega)
end Go.Azalai
namespace Go.Proofs.Ytkjldleglbbkeaa
open Go Go.Sx Go.Azalai
def boL (b:Bool):List SV:=[B b]
theorem bo_kf (a:List Bool):KFR (a.map boL):=by simp [boL,Za,KFL,KF]
def moE (l:Land) (p:Span) (been:List Int) (v to t till w on:Int) (j:Nat) (way:List Nat) (all:List (List Nat)) (ver:Nat) (x:Leg) (o0 o1 o2 o3 o4 o5 o6 o7 o8 o9 o10 o11 o12 o13:Bool):St:=⟨[(77,sB o0 (.agg (Zt l))),(78,sB o1 (I w)),(79,sB o2 (I to)),(80,sB o3 (I on)),(81,sB o4 (I till)),(82,sB o5 (.agg (Zi p))),(83,sB o6 (.mr 0 0)),(84,sB o7 (.sl true 1 [])),(85,sB o8 (ZB way)),(86,sB (o9 && !o12) (.mr 5 0)),(87,sB o10 (I (j:Int))),(88,sB o11 (.sl true 1 [[I (j:Int)]])),(89,sB o12 (ZB (way ++ [j]))),(90,sB o13 (.mr 1 ver)),(8,.mr 1 ver),(22,I on),(21,I w),(19,I (j:Int)),(14,.p 3 0),(9,.p 2 0),(7,ZB way),(6,.mr 0 0),(4,I till),(3,I t),(2,I to),(1,I v)],[(5,hB (o9 && !o12) (.row 0 1 (way.map ZH) 3)),(1,.rws ver 1 (wX all) 59 0 1 (wI all) 3),(0,.row 0 1 ((Xd l.wells.length been).map boL) 4),(2,.cells (Zt l) 25),(3,.cells (Zi p) 29),(4,.cells (Zm x) 86)],6,96,[]⟩
def mo0 (l:Land) (p:Span) (been:List Int) (v to t till w on:Int) (j:Nat) (way:List Nat) (all:List (List Nat)) (ver:Nat) (x:Leg):St:=⟨[(8,.mr 1 ver),(22,I on),(21,I w),(19,I (j:Int)),(14,.p 3 0),(9,.p 2 0),(7,ZB way),(6,.mr 0 0),(4,I till),(3,I t),(2,I to),(1,I v)],[(1,.rws ver 1 (wX all) 59 0 1 (wI all) 3),(0,.row 0 1 ((Xd l.wells.length been).map boL) 4),(2,.cells (Zt l) 25),(3,.cells (Zi p) 29),(4,.cells (Zm x) 86)],5,96,[]⟩
def mo1 (l:Land) (p:Span) (been:List Int) (v to t till:Int) (j:Nat) (way:List Nat) (all:List (List Nat)) (ver:Nat):St:=⟨[(8,.mr 1 ver),(19,I (j:Int)),(14,.p 3 0),(9,.p 2 0),(7,ZB way),(6,.mr 0 0),(4,I till),(3,I t),(2,I to),(1,I v)],[(1,.rws ver 1 (wX all) 59 0 1 (wI all) 3),(0,.row 0 1 ((Xd l.wells.length been).map boL) 4),(2,.cells (Zt l) 25),(3,.cells (Zi p) 29)],4,96,[]⟩
theorem ZkD {l:Land} {p:Span} {been:List Int} {v to t till w on:Int} {j:Nat} {way:List Nat} {all:List (List Nat)} {ver:Nat} {x:Leg} {m:Nat} (hm:m<=2):Ent m (mo0 l p been v to t till w on j way all ver x) (moE l p been v to t till w on j way all ver x false false false false false false false false false false false false false false):=by
 refine Zk ?_ ?_ ?_ rfl (Nat.ble_eq_true_of_le (show m<=6 by omega))<;>dsimp only [moE,mo0,mo1,sBt,sBf,hBt,hBf,Bool.true_and,Bool.and_true,Bool.false_and,Bool.and_false,Bool.not_true,Bool.not_false,id,go_sem,rA,rM,rS]<;>simp +contextual [Ww,Wv,sBt,sBf,hBt,hBf,Zt,Zi,Zf,Zm,Ze,ZB,ZH,boL,Zs,Zl,ZbN,ZbL,ZbK,rho,Za,Zd,KFR,KFL,KF,Zc,mtL,mtB,mtS,mtO,VN,nbr]
theorem mT0 {l:Land} {p:Span} {been:List Int} {v to t till w on:Int} {j:Nat} {way:List Nat} {all:List (List Nat)} {ver:Nat} {x:Leg} {Y:Hd} {K:Ex->St->Prop} {m n E:Nat} {o1 o2 o3 o4 o5 o6 o7 o8 o9 o10 o11 o12 o13:Bool} (hm:m<=2) (hlen:way.length<=1000) (h:LAT Try.prog Y m YF n E (moE l p been v to t till w on j way all ver x true o1 o2 o3 o4 o5 o6 o7 o8 o9 o10 o11 o12 o13) K):st1 Try.prog Y ZgC (moE l p been v to t till w on j way all ver x false o1 o2 o3 o4 o5 o6 o7 o8 o9 o10 o11 o12 o13) (fun σ' K'=>∃ σc,Ent m σ' σc/\LAT Try.prog Y m YF n E σc K') K:=by
 dsimp only [moE,mo0,mo1,sBt,sBf,hBt,hBf,Bool.true_and,Bool.and_true,Bool.false_and,Bool.and_false,Bool.not_true,Bool.not_false,go_sem,rA,rM,rS]
 refine ⟨_,?_,h⟩
 refine Zk ?_ ?_ ?_ rfl (Nat.ble_eq_true_of_le (show m<=6 by omega))<;>dsimp only [moE,mo0,mo1,sBt,sBf,hBt,hBf,Bool.true_and,Bool.and_true,Bool.false_and,Bool.and_false,Bool.not_true,Bool.not_false,id,go_sem,rA,rM,rS]<;>simp +contextual [Ww,Wv,sBt,sBf,hBt,hBf,Zt,Zi,Zf,Zm,Ze,ZB,ZH,boL,Zs,Zl,ZbN,ZbL,ZbK,rho,Za,Zd,KFR,KFL,KF,Zc,mtL,mtB,mtS,mtO,VN,nbr]
theorem mT1 {l:Land} {p:Span} {been:List Int} {v to t till w on:Int} {j:Nat} {way:List Nat} {all:List (List Nat)} {ver:Nat} {x:Leg} {Y:Hd} {K:Ex->St->Prop} {m n E:Nat} {o0 o2 o3 o4 o5 o6 o7 o8 o9 o10 o11 o12 o13:Bool} (hm:m<=2) (hlen:way.length<=1000) (h:LAT Try.prog Y m YF n E (moE l p been v to t till w on j way all ver x o0 true o2 o3 o4 o5 o6 o7 o8 o9 o10 o11 o12 o13) K):st1 Try.prog Y ZfX (moE l p been v to t till w on j way all ver x o0 false o2 o3 o4 o5 o6 o7 o8 o9 o10 o11 o12 o13) (fun σ' K'=>∃ σc,Ent m σ' σc/\LAT Try.prog Y m YF n E σc K') K:=by
 dsimp only [moE,mo0,mo1,sBt,sBf,hBt,hBf,Bool.true_and,Bool.and_true,Bool.false_and,Bool.and_false,Bool.not_true,Bool.not_false,go_sem,rA,rM,rS]
 refine ⟨_,?_,h⟩
 refine Zk ?_ ?_ ?_ rfl (Nat.ble_eq_true_of_le (show m<=6 by omega))<;>dsimp only [moE,mo0,mo1,sBt,sBf,hBt,hBf,Bool.true_and,Bool.and_true,Bool.false_and,Bool.and_false,Bool.not_true,Bool.not_false,id,go_sem,rA,rM,rS]<;>simp +contextual [Ww,Wv,sBt,sBf,hBt,hBf,Zt,Zi,Zf,Zm,Ze,ZB,ZH,boL,Zs,Zl,ZbN,ZbL,ZbK,rho,Za,Zd,KFR,KFL,KF,Zc,mtL,mtB,mtS,mtO,VN,nbr]
theorem mT2 {l:Land} {p:Span} {been:List Int} {v to t till w on:Int} {j:Nat} {way:List Nat} {all:List (List Nat)} {ver:Nat} {x:Leg} {Y:Hd} {K:Ex->St->Prop} {m n E:Nat} {o0 o1 o3 o4 o5 o6 o7 o8 o9 o10 o11 o12 o13:Bool} (hm:m<=2) (hlen:way.length<=1000) (h:LAT Try.prog Y m YF n E (moE l p been v to t till w on j way all ver x o0 o1 true o3 o4 o5 o6 o7 o8 o9 o10 o11 o12 o13) K):st1 Try.prog Y ZfG (moE l p been v to t till w on j way all ver x o0 o1 false o3 o4 o5 o6 o7 o8 o9 o10 o11 o12 o13) (fun σ' K'=>∃ σc,Ent m σ' σc/\LAT Try.prog Y m YF n E σc K') K:=by
 dsimp only [moE,mo0,mo1,sBt,sBf,hBt,hBf,Bool.true_and,Bool.and_true,Bool.false_and,Bool.and_false,Bool.not_true,Bool.not_false,go_sem,rA,rM,rS]
 refine ⟨_,?_,h⟩
 refine Zk ?_ ?_ ?_ rfl (Nat.ble_eq_true_of_le (show m<=6 by omega))<;>dsimp only [moE,mo0,mo1,sBt,sBf,hBt,hBf,Bool.true_and,Bool.and_true,Bool.false_and,Bool.and_false,Bool.not_true,Bool.not_false,id,go_sem,rA,rM,rS]<;>simp +contextual [Ww,Wv,sBt,sBf,hBt,hBf,Zt,Zi,Zf,Zm,Ze,ZB,ZH,boL,Zs,Zl,ZbN,ZbL,ZbK,rho,Za,Zd,KFR,KFL,KF,Zc,mtL,mtB,mtS,mtO,VN,nbr]
theorem mT3 {l:Land} {p:Span} {been:List Int} {v to t till w on:Int} {j:Nat} {way:List Nat} {all:List (List Nat)} {ver:Nat} {x:Leg} {Y:Hd} {K:Ex->St->Prop} {m n E:Nat} {o0 o1 o2 o4 o5 o6 o7 o8 o9 o10 o11 o12 o13:Bool} (hm:m<=2) (hlen:way.length<=1000) (h:LAT Try.prog Y m YF n E (moE l p been v to t till w on j way all ver x o0 o1 o2 true o4 o5 o6 o7 o8 o9 o10 o11 o12 o13) K):st1 Try.prog Y Zh5 (moE l p been v to t till w on j way all ver x o0 o1 o2 false o4 o5 o6 o7 o8 o9 o10 o11 o12 o13) (fun σ' K'=>∃ σc,Ent m σ' σc/\LAT Try.prog Y m YF n E σc K') K:=by
 dsimp only [moE,mo0,mo1,sBt,sBf,hBt,hBf,Bool.true_and,Bool.and_true,Bool.false_and,Bool.and_false,Bool.not_true,Bool.not_false,go_sem,rA,rM,rS]
 refine ⟨_,?_,h⟩
 refine Zk ?_ ?_ ?_ rfl (Nat.ble_eq_true_of_le (show m<=6 by omega))<;>dsimp only [moE,mo0,mo1,sBt,sBf,hBt,hBf,Bool.true_and,Bool.and_true,Bool.false_and,Bool.and_false,Bool.not_true,Bool.not_false,id,go_sem,rA,rM,rS]<;>simp +contextual [Ww,Wv,sBt,sBf,hBt,hBf,Zt,Zi,Zf,Zm,Ze,ZB,ZH,boL,Zs,Zl,ZbN,ZbL,ZbK,rho,Za,Zd,KFR,KFL,KF,Zc,mtL,mtB,mtS,mtO,VN,nbr]
theorem mT4 {l:Land} {p:Span} {been:List Int} {v to t till w on:Int} {j:Nat} {way:List Nat} {all:List (List Nat)} {ver:Nat} {x:Leg} {Y:Hd} {K:Ex->St->Prop} {m n E:Nat} {o0 o1 o2 o3 o5 o6 o7 o8 o9 o10 o11 o12 o13:Bool} (hm:m<=2) (hlen:way.length<=1000) (h:LAT Try.prog Y m YF n E (moE l p been v to t till w on j way all ver x o0 o1 o2 o3 true o5 o6 o7 o8 o9 o10 o11 o12 o13) K):st1 Try.prog Y ZfM (moE l p been v to t till w on j way all ver x o0 o1 o2 o3 false o5 o6 o7 o8 o9 o10 o11 o12 o13) (fun σ' K'=>∃ σc,Ent m σ' σc/\LAT Try.prog Y m YF n E σc K') K:=by
 dsimp only [moE,mo0,mo1,sBt,sBf,hBt,hBf,Bool.true_and,Bool.and_true,Bool.false_and,Bool.and_false,Bool.not_true,Bool.not_false,go_sem,rA,rM,rS]
 refine ⟨_,?_,h⟩
 refine Zk ?_ ?_ ?_ rfl (Nat.ble_eq_true_of_le (show m<=6 by omega))<;>dsimp only [moE,mo0,mo1,sBt,sBf,hBt,hBf,Bool.true_and,Bool.and_true,Bool.false_and,Bool.and_false,Bool.not_true,Bool.not_false,id,go_sem,rA,rM,rS]<;>simp +contextual [Ww,Wv,sBt,sBf,hBt,hBf,Zt,Zi,Zf,Zm,Ze,ZB,ZH,boL,Zs,Zl,ZbN,ZbL,ZbK,rho,Za,Zd,KFR,KFL,KF,Zc,mtL,mtB,mtS,mtO,VN,nbr]
theorem mT5 {l:Land} {p:Span} {been:List Int} {v to t till w on:Int} {j:Nat} {way:List Nat} {all:List (List Nat)} {ver:Nat} {x:Leg} {Y:Hd} {K:Ex->St->Prop} {m n E:Nat} {o0 o1 o2 o3 o4 o6 o7 o8 o9 o10 o11 o12 o13:Bool} (hm:m<=2) (hlen:way.length<=1000) (h:LAT Try.prog Y m YF n E (moE l p been v to t till w on j way all ver x o0 o1 o2 o3 o4 true o6 o7 o8 o9 o10 o11 o12 o13) K):st1 Try.prog Y Zg1 (moE l p been v to t till w on j way all ver x o0 o1 o2 o3 o4 false o6 o7 o8 o9 o10 o11 o12 o13) (fun σ' K'=>∃ σc,Ent m σ' σc/\LAT Try.prog Y m YF n E σc K') K:=by
 dsimp only [moE,mo0,mo1,sBt,sBf,hBt,hBf,Bool.true_and,Bool.and_true,Bool.false_and,Bool.and_false,Bool.not_true,Bool.not_false,go_sem,rA,rM,rS]
 refine ⟨_,?_,h⟩
 refine Zk ?_ ?_ ?_ rfl (Nat.ble_eq_true_of_le (show m<=6 by omega))<;>dsimp only [moE,mo0,mo1,sBt,sBf,hBt,hBf,Bool.true_and,Bool.and_true,Bool.false_and,Bool.and_false,Bool.not_true,Bool.not_false,id,go_sem,rA,rM,rS]<;>simp +contextual [Ww,Wv,sBt,sBf,hBt,hBf,Zt,Zi,Zf,Zm,Ze,ZB,ZH,boL,Zs,Zl,ZbN,ZbL,ZbK,rho,Za,Zd,KFR,KFL,KF,Zc,mtL,mtB,mtS,mtO,VN,nbr]
theorem mT6 {l:Land} {p:Span} {been:List Int} {v to t till w on:Int} {j:Nat} {way:List Nat} {all:List (List Nat)} {ver:Nat} {x:Leg} {Y:Hd} {K:Ex->St->Prop} {m n E:Nat} {o0 o1 o2 o3 o4 o5 o7 o8 o9 o10 o11 o12 o13:Bool} (hm:m<=2) (hlen:way.length<=1000) (h:LAT Try.prog Y m YF n E (moE l p been v to t till w on j way all ver x o0 o1 o2 o3 o4 o5 true o7 o8 o9 o10 o11 o12 o13) K):st1 Try.prog Y ZgH (moE l p been v to t till w on j way all ver x o0 o1 o2 o3 o4 o5 false o7 o8 o9 o10 o11 o12 o13) (fun σ' K'=>∃ σc,Ent m σ' σc/\LAT Try.prog Y m YF n E σc K') K:=by
 dsimp only [moE,mo0,mo1,sBt,sBf,hBt,hBf,Bool.true_and,Bool.and_true,Bool.false_and,Bool.and_false,Bool.not_true,Bool.not_false,go_sem,rA,rM,rS]
 refine ⟨_,?_,h⟩
 refine Zk ?_ ?_ ?_ rfl (Nat.ble_eq_true_of_le (show m<=6 by omega))<;>dsimp only [moE,mo0,mo1,sBt,sBf,hBt,hBf,Bool.true_and,Bool.and_true,Bool.false_and,Bool.and_false,Bool.not_true,Bool.not_false,id,go_sem,rA,rM,rS]<;>simp +contextual [Ww,Wv,sBt,sBf,hBt,hBf,Zt,Zi,Zf,Zm,Ze,ZB,ZH,boL,Zs,Zl,ZbN,ZbL,ZbK,rho,Za,Zd,KFR,KFL,KF,Zc,mtL,mtB,mtS,mtO,VN,nbr]
theorem mT7 {l:Land} {p:Span} {been:List Int} {v to t till w on:Int} {j:Nat} {way:List Nat} {all:List (List Nat)} {ver:Nat} {x:Leg} {Y:Hd} {K:Ex->St->Prop} {m n E:Nat} {o0 o1 o2 o3 o4 o5 o6 o8 o9 o10 o11 o12 o13:Bool} (hm:m<=2) (hlen:way.length<=1000) (h:LAT Try.prog Y m YF n E (moE l p been v to t till w on j way all ver x o0 o1 o2 o3 o4 o5 o6 true o8 o9 o10 o11 o12 o13) K):st1 Try.prog Y Zhy (moE l p been v to t till w on j way all ver x o0 o1 o2 o3 o4 o5 o6 false o8 o9 o10 o11 o12 o13) (fun σ' K'=>∃ σc,Ent m σ' σc/\LAT Try.prog Y m YF n E σc K') K:=by
 dsimp only [moE,mo0,mo1,sBt,sBf,hBt,hBf,Bool.true_and,Bool.and_true,Bool.false_and,Bool.and_false,Bool.not_true,Bool.not_false,go_sem,rA,rM,rS]
 refine ⟨_,?_,h⟩
 refine Zk ?_ ?_ ?_ rfl (Nat.ble_eq_true_of_le (show m<=6 by omega))<;>dsimp only [moE,mo0,mo1,sBt,sBf,hBt,hBf,Bool.true_and,Bool.and_true,Bool.false_and,Bool.and_false,Bool.not_true,Bool.not_false,id,go_sem,rA,rM,rS]<;>simp +contextual [Ww,Wv,sBt,sBf,hBt,hBf,Zt,Zi,Zf,Zm,Ze,ZB,ZH,boL,Zs,Zl,ZbN,ZbL,ZbK,rho,Za,Zd,KFR,KFL,KF,Zc,mtL,mtB,mtS,mtO,VN,nbr]
theorem mT8 {l:Land} {p:Span} {been:List Int} {v to t till w on:Int} {j:Nat} {way:List Nat} {all:List (List Nat)} {ver:Nat} {x:Leg} {Y:Hd} {K:Ex->St->Prop} {m n E:Nat} {o0 o1 o2 o3 o4 o5 o6 o7 o9 o10 o11 o12 o13:Bool} (hm:m<=2) (hlen:way.length<=1000) (h:LAT Try.prog Y m YF n E (moE l p been v to t till w on j way all ver x o0 o1 o2 o3 o4 o5 o6 o7 true o9 o10 o11 o12 o13) K):st1 Try.prog Y Zfl (moE l p been v to t till w on j way all ver x o0 o1 o2 o3 o4 o5 o6 o7 false o9 o10 o11 o12 o13) (fun σ' K'=>∃ σc,Ent m σ' σc/\LAT Try.prog Y m YF n E σc K') K:=by
 dsimp only [moE,mo0,mo1,sBt,sBf,hBt,hBf,Bool.true_and,Bool.and_true,Bool.false_and,Bool.and_false,Bool.not_true,Bool.not_false,go_sem,rA,rM,rS]
 dsimp only [ZB,go_sem,rA,rM,rS]
 refine ⟨_,?_,h⟩
 refine Zk ?_ ?_ ?_ rfl (Nat.ble_eq_true_of_le (show m<=6 by omega))<;>dsimp only [moE,mo0,mo1,sBt,sBf,hBt,hBf,Bool.true_and,Bool.and_true,Bool.false_and,Bool.and_false,Bool.not_true,Bool.not_false,id,go_sem,rA,rM,rS]<;>simp +contextual [Ww,Wv,sBt,sBf,hBt,hBf,Zt,Zi,Zf,Zm,Ze,ZB,ZH,boL,Zs,Zl,ZbN,ZbL,ZbK,rho,Za,Zd,KFR,KFL,KF,Zc,mtL,mtB,mtS,mtO,VN,nbr]
theorem mT9 {l:Land} {p:Span} {been:List Int} {v to t till w on:Int} {j:Nat} {way:List Nat} {all:List (List Nat)} {ver:Nat} {x:Leg} {Y:Hd} {K:Ex->St->Prop} {m n E:Nat} {o0 o1 o2 o3 o4 o5 o6 o10 o11 o13:Bool} (hm:m<=2) (hlen:way.length<=1000) (h:LAT Try.prog Y m YF n E (moE l p been v to t till w on j way all ver x o0 o1 o2 o3 o4 o5 o6 true true true o10 o11 false o13) K):st1 Try.prog Y ZfQ (moE l p been v to t till w on j way all ver x o0 o1 o2 o3 o4 o5 o6 true true false o10 o11 false o13) (fun σ' K'=>∃ σc,Ent m σ' σc/\LAT Try.prog Y m YF n E σc K') K:=by
 dsimp only [moE,mo0,mo1,sBt,sBf,hBt,hBf,Bool.true_and,Bool.and_true,Bool.false_and,Bool.and_false,Bool.not_true,Bool.not_false,go_sem,rA,rM,rS]
 dsimp only [ZB,go_sem,rA,rM,rS]
 refine ⟨by simp;omega,?_⟩
 dsimp only [go_sem,rA,rM,rS]
 refine ⟨_,?_,h⟩
 refine entM [0,1,2,3,4,6] ?_ ?_ ?_ rfl rfl rfl (Nat.ble_eq_true_of_le (show m<=6 by omega)) (fun i hi=>by match i,hi with | 0,_=>rfl | 1,_=>rfl | i+2,hi=>omega)<;>dsimp only [moE,mo0,mo1,sBt,sBf,hBt,hBf,Bool.true_and,Bool.and_true,Bool.false_and,Bool.and_false,Bool.not_true,Bool.not_false,go_sem,rA,rM,rS]<;>simp +contextual [Ww,Wv,sBt,sBf,hBt,hBf,Zt,Zi,Zf,Zm,Ze,ZB,ZH,boL,Zs,Zl,ZbN,ZbL,ZbK,rho,Za,Zd,KFR,KFL,KF,Zc,mtL,mtB,mtS,mtO,VN,nbr]
theorem mT10 {l:Land} {p:Span} {been:List Int} {v to t till w on:Int} {j:Nat} {way:List Nat} {all:List (List Nat)} {ver:Nat} {x:Leg} {Y:Hd} {K:Ex->St->Prop} {m n E:Nat} {o0 o1 o2 o3 o4 o5 o6 o7 o8 o9 o11 o12 o13:Bool} (hm:m<=2) (hlen:way.length<=1000) (h:LAT Try.prog Y m YF n E (moE l p been v to t till w on j way all ver x o0 o1 o2 o3 o4 o5 o6 o7 o8 o9 true o11 o12 o13) K):st1 Try.prog Y Zbw (moE l p been v to t till w on j way all ver x o0 o1 o2 o3 o4 o5 o6 o7 o8 o9 false o11 o12 o13) (fun σ' K'=>∃ σc,Ent m σ' σc/\LAT Try.prog Y m YF n E σc K') K:=by
 dsimp only [moE,mo0,mo1,sBt,sBf,hBt,hBf,Bool.true_and,Bool.and_true,Bool.false_and,Bool.and_false,Bool.not_true,Bool.not_false,go_sem,rA,rM,rS]
 refine ⟨_,?_,h⟩
 refine Zk ?_ ?_ ?_ rfl (Nat.ble_eq_true_of_le (show m<=6 by omega))<;>dsimp only [moE,mo0,mo1,sBt,sBf,hBt,hBf,Bool.true_and,Bool.and_true,Bool.false_and,Bool.and_false,Bool.not_true,Bool.not_false,id,go_sem,rA,rM,rS]<;>simp +contextual [Ww,Wv,sBt,sBf,hBt,hBf,Zt,Zi,Zf,Zm,Ze,ZB,ZH,boL,Zs,Zl,ZbN,ZbL,ZbK,rho,Za,Zd,KFR,KFL,KF,Zc,mtL,mtB,mtS,mtO,VN,nbr]
theorem mT11 {l:Land} {p:Span} {been:List Int} {v to t till w on:Int} {j:Nat} {way:List Nat} {all:List (List Nat)} {ver:Nat} {x:Leg} {Y:Hd} {K:Ex->St->Prop} {m n E:Nat} {o0 o1 o2 o3 o4 o5 o6 o7 o8 o9 o12 o13:Bool} (hm:m<=2) (hlen:way.length<=1000) (h:LAT Try.prog Y m YF n E (moE l p been v to t till w on j way all ver x o0 o1 o2 o3 o4 o5 o6 o7 o8 o9 true true o12 o13) K):st1 Try.prog Y Zba (moE l p been v to t till w on j way all ver x o0 o1 o2 o3 o4 o5 o6 o7 o8 o9 true false o12 o13) (fun σ' K'=>∃ σc,Ent m σ' σc/\LAT Try.prog Y m YF n E σc K') K:=by
 dsimp only [moE,mo0,mo1,sBt,sBf,hBt,hBf,Bool.true_and,Bool.and_true,Bool.false_and,Bool.and_false,Bool.not_true,Bool.not_false,go_sem,rA,rM,rS]
 refine ⟨_,?_,h⟩
 refine Zk ?_ ?_ ?_ rfl (Nat.ble_eq_true_of_le (show m<=6 by omega))<;>dsimp only [moE,mo0,mo1,sBt,sBf,hBt,hBf,Bool.true_and,Bool.and_true,Bool.false_and,Bool.and_false,Bool.not_true,Bool.not_false,id,go_sem,rA,rM,rS]<;>simp +contextual [Ww,Wv,sBt,sBf,hBt,hBf,Zt,Zi,Zf,Zm,Ze,ZB,ZH,boL,Zs,Zl,ZbN,ZbL,ZbK,rho,Za,Zd,KFR,KFL,KF,Zc,mtL,mtB,mtS,mtO,VN,nbr]
theorem mT12 {l:Land} {p:Span} {been:List Int} {v to t till w on:Int} {j:Nat} {way:List Nat} {all:List (List Nat)} {ver:Nat} {x:Leg} {Y:Hd} {K:Ex->St->Prop} {m n E:Nat} {o0 o1 o2 o3 o4 o5 o6 o7 o8 o10 o13:Bool} (hm:m<=2) (hlen:way.length<=1000) (h:LAT Try.prog Y m YF n E (moE l p been v to t till w on j way all ver x o0 o1 o2 o3 o4 o5 o6 o7 o8 true o10 true true o13) K):st1 Try.prog Y Zbl (moE l p been v to t till w on j way all ver x o0 o1 o2 o3 o4 o5 o6 o7 o8 true o10 true false o13) (fun σ' K'=>∃ σc,Ent m σ' σc/\LAT Try.prog Y m YF n E σc K') K:=by
 dsimp only [moE,mo0,mo1,sBt,sBf,hBt,hBf,Bool.true_and,Bool.and_true,Bool.false_and,Bool.and_false,Bool.not_true,Bool.not_false,go_sem,rA,rM,rS]
 refine ⟨by intro c hc;simp only [List.mem_singleton] at hc;subst hc;rfl,by simp;omega,?_⟩
 dsimp only [go_sem,rA,rM,rS]
 refine ⟨_,Yk (ZqF 89 5 1 (Nat.ble_eq_true_of_le (show m<=5 by omega)) rfl rfl rfl) ?_,h⟩
 have e:way.map ZH ++ [[I (j:Int)]]=(way ++ [j]).map ZH:=by simp [ZH]
 try rw [e]
 refine Zk ?_ ?_ ?_ rfl (Nat.ble_eq_true_of_le (show m<=6 by omega))<;>dsimp only [moE,mo0,mo1,sBt,sBf,hBt,hBf,Bool.true_and,Bool.and_true,Bool.false_and,Bool.and_false,Bool.not_true,Bool.not_false,id,go_sem,rA,rM,rS]<;>simp +contextual [Ww,Wv,sBt,sBf,hBt,hBf,Zt,Zi,Zf,Zm,Ze,ZB,ZH,boL,Zs,Zl,ZbN,ZbL,ZbK,rho,Za,Zd,KFR,KFL,KF,Zc,mtL,mtB,mtS,mtO,VN,nbr]
theorem mT13 {l:Land} {p:Span} {been:List Int} {v to t till w on:Int} {j:Nat} {way:List Nat} {all:List (List Nat)} {ver:Nat} {x:Leg} {Y:Hd} {K:Ex->St->Prop} {m n E:Nat} {o0 o1 o2 o3 o4 o5 o6 o7 o8 o9 o10 o11 o12:Bool} (hm:m<=2) (hlen:way.length<=1000) (h:LAT Try.prog Y m YF n E (moE l p been v to t till w on j way all ver x o0 o1 o2 o3 o4 o5 o6 o7 o8 o9 o10 o11 o12 true) K):st1 Try.prog Y ZaZ (moE l p been v to t till w on j way all ver x o0 o1 o2 o3 o4 o5 o6 o7 o8 o9 o10 o11 o12 false) (fun σ' K'=>∃ σc,Ent m σ' σc/\LAT Try.prog Y m YF n E σc K') K:=by
 dsimp only [moE,mo0,mo1,sBt,sBf,hBt,hBf,Bool.true_and,Bool.and_true,Bool.false_and,Bool.and_false,Bool.not_true,Bool.not_false,go_sem,rA,rM,rS]
 refine ⟨_,?_,h⟩
 refine Zk ?_ ?_ ?_ rfl (Nat.ble_eq_true_of_le (show m<=6 by omega))<;>dsimp only [moE,mo0,mo1,sBt,sBf,hBt,hBf,Bool.true_and,Bool.and_true,Bool.false_and,Bool.and_false,Bool.not_true,Bool.not_false,id,go_sem,rA,rM,rS]<;>simp +contextual [Ww,Wv,sBt,sBf,hBt,hBf,Zt,Zi,Zf,Zm,Ze,ZB,ZH,boL,Zs,Zl,ZbN,ZbL,ZbK,rho,Za,Zd,KFR,KFL,KF,Zc,mtL,mtB,mtS,mtO,VN,nbr]
def X3 (l:Land) (been:List Int) (all:List (List Nat)) (ver:Nat):List (Nat × HB):=[(0,.row 0 1 ((Xd l.wells.length been).map boL) 4),(1,.rws ver 1 (wX all) 59 0 1 (wI all) 3)]
def ZfB (l:Land) (been:List Int) (all:List (List Nat)) (o:Ot):Prop:=∃ ver,o=⟨false,.mr 1 ver,X3 l been all ver,2⟩
theorem moEnd {l:Land} {p:Span} {been:List Int} {v to t till w on:Int} {j:Nat} {way:List Nat} {all:List (List Nat)} {ver:Nat} {x:Leg} {Y:Hd} {K:Ex->St->Prop} {m n E:Nat} (hm:m<=2) {all2:List (List Nat)} (hc:CtM Try.prog 82 (X3 l been all ver) 2 [.agg (Zt l),I w,I to,I on,I till,.agg (Zi p),.mr 0 0,ZB (way ++ [j]),.mr 1 ver] (ZfB l been all2))
 (hK:∀ ver2 σF,σF=mo1 l p been v to t till j way all2 ver2->K .n σF) (hD:∀ i,i < 14->Nat.testBit E i=true) (h14:Nat.testBit E 14=false):LAT Try.prog Y m YF 2 E (moE l p been v to t till w on j way all ver x true true true true true true true true true true true true true true) K:=by
 intro i x hx hb ha
 by_cases hi:i < 14
 . rw [hD i hi] at hb;cases hb
 by_cases h15:i=15
 . subst h15
   obtain rfl:UO=x:=by simpa [YF] using hx
   simp only [UO,List.all_cons,Bool.and_eq_true] at ha
   have:=ha.2.2.2.2.2.2.2.2.2.2.2.2.2.2.1
   rw [h14] at this;cases this
 by_cases h16:i=14
 case neg=>rw [List.getElem?_eq_none (by simp [YF];omega)] at hx;cases hx
 subst h16
 obtain rfl:Zby=x:=by simpa [YF] using hx
 dsimp only [moE,mo0,mo1,sBt,sBf,hBt,hBf,Bool.true_and,Bool.and_true,Bool.false_and,Bool.and_false,Bool.not_true,Bool.not_false,go_sem,rA,rM,rS]
 refine U9 [0,1] hc rfl rfl ?_ ?_ ?_ ?_
 . rfl
 . dsimp only [rho,ZB,go_sem,rA,rM,rS]
   simp [Za,Zd,KFR,KFL,KF,Zc,mtL,mtB,mtS,mtO,VN,nbr,Zt,Zi,Zf,Zm,Ze,ZH]
 . dsimp only [rho,X3,go_sem,rA,rM,rS]
   simp [Za,Zd,KFR,KFL,KF,Zc,mtO,nbr,boL,Zs,Zl]
 rintro o ⟨ver2,rfl⟩
 dsimp only [X3,go_sem,rA,rM,rS]
 refine ⟨_,XG,?_⟩
 intro i x hx hb ha
 have hbit:∀ i,i < 15->Nat.testBit (E ||| 2 ^ 14) i=true:=fun i hi=>by
  rw [Nat.testBit_or,Nat.testBit_two_pow]
  by_cases q:i=14
  . subst q;simp
  . rw [hD i (by omega)];rfl
 by_cases hi:i < 15
 . rw [hbit i hi] at hb;cases hb
 by_cases h15:i=15
 case neg=>rw [List.getElem?_eq_none (by simp [YF];omega)] at hx;cases hx
 subst h15
 obtain rfl:UO=x:=by simpa [YF] using hx
 dsimp only [go_sem,rA,rM,rS]
 refine ⟨_,?_,hK ver2 _ rfl⟩
 refine Zk ?_ ?_ ?_ rfl (Nat.ble_eq_true_of_le (show m<=4 by omega))<;>dsimp only [moE,mo0,mo1,sBt,sBf,hBt,hBf,Bool.true_and,Bool.and_true,Bool.false_and,Bool.and_false,Bool.not_true,Bool.not_false,id,go_sem,rA,rM,rS]<;>simp +contextual [Ww,Wv,sBt,sBf,hBt,hBf,Zt,Zi,Zf,Zm,Ze,ZB,ZH,boL,Zs,Zl,ZbN,ZbL,ZbK,rho,Za,Zd,KFR,KFL,KF,Zc,mtL,mtB,mtS,mtO,VN,nbr]
theorem Zus {l:Land} {p:Span} {been:List Int} {v to t till w on:Int} {j:Nat} {way:List Nat} {all:List (List Nat)} {ver:Nat} {x:Leg} {Y:Hd} {K:Ex->St->Prop} {m:Nat} (hm:m<=2) (hlen:way.length<=1000) {all2:List (List Nat)} (hc:CtM Try.prog 82 (X3 l been all ver) 2 [.agg (Zt l),I w,I to,I on,I till,.agg (Zi p),.mr 0 0,ZB (way ++ [j]),.mr 1 ver] (ZfB l been all2))
 (hK:∀ ver2 σF,σF=mo1 l p been v to t till j way all2 ver2->K .n σF):∀ n D,(!Nat.testBit D 0).toNat+(!Nat.testBit D 1).toNat+(!Nat.testBit D 2).toNat+(!Nat.testBit D 3).toNat+(!Nat.testBit D 4).toNat+(!Nat.testBit D 5).toNat+(!Nat.testBit D 6).toNat+(!Nat.testBit D 7).toNat+(!Nat.testBit D 8).toNat+(!Nat.testBit D 9).toNat+(!Nat.testBit D 10).toNat+(!Nat.testBit D 11).toNat+(!Nat.testBit D 12).toNat+(!Nat.testBit D 13).toNat=n->Nat.testBit D 14=false->(Nat.testBit D 9=true->Nat.testBit D 7=true/\Nat.testBit D 8=true)->(Nat.testBit D 11=true->Nat.testBit D 10=true)->(Nat.testBit D 12=true->Nat.testBit D 9=true/\Nat.testBit D 11=true)->LAT Try.prog Y m YF (n+2) D (moE l p been v to t till w on j way all ver x (Nat.testBit D 0) (Nat.testBit D 1) (Nat.testBit D 2) (Nat.testBit D 3) (Nat.testBit D 4) (Nat.testBit D 5) (Nat.testBit D 6) (Nat.testBit D 7) (Nat.testBit D 8) (Nat.testBit D 9) (Nat.testBit D 10) (Nat.testBit D 11) (Nat.testBit D 12) (Nat.testBit D 13)) K
 | 0,D,hn,j14,i9,i11,i12=>by
  have hD:∀ i,i < 14->Nat.testBit D i=true:=fun i hi=>by
   match i,hi with
   | 0,_=>exact tn (by omega)
   | 1,_=>exact tn (by omega)
   | 2,_=>exact tn (by omega)
   | 3,_=>exact tn (by omega)
   | 4,_=>exact tn (by omega)
   | 5,_=>exact tn (by omega)
   | 6,_=>exact tn (by omega)
   | 7,_=>exact tn (by omega)
   | 8,_=>exact tn (by omega)
   | 9,_=>exact tn (by omega)
   | 10,_=>exact tn (by omega)
   | 11,_=>exact tn (by omega)
   | 12,_=>exact tn (by omega)
   | 13,_=>exact tn (by omega)
  rw [hD 0 (by decide),hD 1 (by decide),hD 2 (by decide),hD 3 (by decide),hD 4 (by decide),hD 5 (by decide),hD 6 (by decide),hD 7 (by decide),hD 8 (by decide),hD 9 (by decide),hD 10 (by decide),hD 11 (by decide),hD 12 (by decide),hD 13 (by decide)]
  exact moEnd (n:=0) hm hc hK hD j14
 | n+1,D,hn,j14,i9,i11,i12=>by
  intro i y hx hb ha
  have ih:=Zus (l:=l) (p:=p) (been:=been) (v:=v) (to:=to) (t:=t) (till:=till) (x:=x) (Y:=Y) hm hlen hc hK n (D ||| 2 ^ i)
  rcases i with _ | _ | _ | _ | _ | _ | _ | _ | _ | _ | _ | _ | _ | _ | _ | _ | i
  . obtain rfl:ZgC=y:=by simpa [YF] using hx
    simp only [ZgC,Nat.zero_add,Nat.reduceAdd,List.all_cons,List.all_nil,Bool.and_true,Bool.and_eq_true] at hb ha
    simp only [Nat.testBit_or,Nat.testBit_two_pow] at ih
    simp [-Nat.testBit_zero] at ih
    simp only [hb] at hn ⊢
    apply mT0 hm hlen;apply ih<;>first | (simp [-Nat.testBit_zero] at hn ⊢;omega) | simp_all [-Nat.testBit_zero]
  . obtain rfl:ZfX=y:=by simpa [YF] using hx
    simp only [ZfX,Nat.zero_add,Nat.reduceAdd,List.all_cons,List.all_nil,Bool.and_true,Bool.and_eq_true] at hb ha
    simp only [Nat.testBit_or,Nat.testBit_two_pow] at ih
    simp [-Nat.testBit_zero] at ih
    simp only [hb] at hn ⊢
    apply mT1 hm hlen;apply ih<;>first | (simp [-Nat.testBit_zero] at hn ⊢;omega) | simp_all [-Nat.testBit_zero]
  . obtain rfl:ZfG=y:=by simpa [YF] using hx
    simp only [ZfG,Nat.zero_add,Nat.reduceAdd,List.all_cons,List.all_nil,Bool.and_true,Bool.and_eq_true] at hb ha
    simp only [Nat.testBit_or,Nat.testBit_two_pow] at ih
    simp [-Nat.testBit_zero] at ih
    simp only [hb] at hn ⊢
    apply mT2 hm hlen;apply ih<;>first | (simp [-Nat.testBit_zero] at hn ⊢;omega) | simp_all [-Nat.testBit_zero]
  . obtain rfl:Zh5=y:=by simpa [YF] using hx
    simp only [Zh5,Nat.zero_add,Nat.reduceAdd,List.all_cons,List.all_nil,Bool.and_true,Bool.and_eq_true] at hb ha
    simp only [Nat.testBit_or,Nat.testBit_two_pow] at ih
    simp [-Nat.testBit_zero] at ih
    simp only [hb] at hn ⊢
    apply mT3 hm hlen;apply ih<;>first | (simp [-Nat.testBit_zero] at hn ⊢;omega) | simp_all [-Nat.testBit_zero]
  . obtain rfl:ZfM=y:=by simpa [YF] using hx
    simp only [ZfM,Nat.zero_add,Nat.reduceAdd,List.all_cons,List.all_nil,Bool.and_true,Bool.and_eq_true] at hb ha
    simp only [Nat.testBit_or,Nat.testBit_two_pow] at ih
    simp [-Nat.testBit_zero] at ih
    simp only [hb] at hn ⊢
    apply mT4 hm hlen;apply ih<;>first | (simp [-Nat.testBit_zero] at hn ⊢;omega) | simp_all [-Nat.testBit_zero]
  . obtain rfl:Zg1=y:=by simpa [YF] using hx
    simp only [Zg1,Nat.zero_add,Nat.reduceAdd,List.all_cons,List.all_nil,Bool.and_true,Bool.and_eq_true] at hb ha
    simp only [Nat.testBit_or,Nat.testBit_two_pow] at ih
    simp [-Nat.testBit_zero] at ih
    simp only [hb] at hn ⊢
    apply mT5 hm hlen;apply ih<;>first | (simp [-Nat.testBit_zero] at hn ⊢;omega) | simp_all [-Nat.testBit_zero]
  . obtain rfl:ZgH=y:=by simpa [YF] using hx
    simp only [ZgH,Nat.zero_add,Nat.reduceAdd,List.all_cons,List.all_nil,Bool.and_true,Bool.and_eq_true] at hb ha
    simp only [Nat.testBit_or,Nat.testBit_two_pow] at ih
    simp [-Nat.testBit_zero] at ih
    simp only [hb] at hn ⊢
    apply mT6 hm hlen;apply ih<;>first | (simp [-Nat.testBit_zero] at hn ⊢;omega) | simp_all [-Nat.testBit_zero]
  . obtain rfl:Zhy=y:=by simpa [YF] using hx
    simp only [Zhy,Nat.zero_add,Nat.reduceAdd,List.all_cons,List.all_nil,Bool.and_true,Bool.and_eq_true] at hb ha
    simp only [Nat.testBit_or,Nat.testBit_two_pow] at ih
    simp [-Nat.testBit_zero] at ih
    simp only [hb] at hn ⊢
    apply mT7 hm hlen;apply ih<;>first | (simp [-Nat.testBit_zero] at hn ⊢;omega) | simp_all [-Nat.testBit_zero]
  . obtain rfl:Zfl=y:=by simpa [YF] using hx
    simp only [Zfl,Nat.zero_add,Nat.reduceAdd,List.all_cons,List.all_nil,Bool.and_true,Bool.and_eq_true] at hb ha
    simp only [Nat.testBit_or,Nat.testBit_two_pow] at ih
    simp [-Nat.testBit_zero] at ih
    simp only [hb] at hn ⊢
    apply mT8 hm hlen;apply ih<;>first | (simp [-Nat.testBit_zero] at hn ⊢;omega) | simp_all [-Nat.testBit_zero]
  . obtain rfl:ZfQ=y:=by simpa [YF] using hx
    simp only [ZfQ,Nat.zero_add,Nat.reduceAdd,List.all_cons,List.all_nil,Bool.and_true,Bool.and_eq_true] at hb ha
    simp only [Nat.testBit_or,Nat.testBit_two_pow] at ih
    simp [-Nat.testBit_zero] at ih
    obtain ⟨a7,a8⟩:=ha
    have b12:Nat.testBit D 12=false:=by cases h:Nat.testBit D 12<;>simp_all [-Nat.testBit_zero]
    simp only [hb,a7,a8,b12] at hn ⊢
    simp only [a7,a8,b12] at ih
    apply mT9 hm hlen;apply ih<;>first | (simp [-Nat.testBit_zero] at hn ⊢;omega) | simp_all [-Nat.testBit_zero]
  . obtain rfl:Zbw=y:=by simpa [YF] using hx
    simp only [Zbw,Nat.zero_add,Nat.reduceAdd,List.all_cons,List.all_nil,Bool.and_true,Bool.and_eq_true] at hb ha
    simp only [Nat.testBit_or,Nat.testBit_two_pow] at ih
    simp [-Nat.testBit_zero] at ih
    simp only [hb] at hn ⊢
    apply mT10 hm hlen;apply ih<;>first | (simp [-Nat.testBit_zero] at hn ⊢;omega) | simp_all [-Nat.testBit_zero]
  . obtain rfl:Zba=y:=by simpa [YF] using hx
    simp only [Zba,Nat.zero_add,Nat.reduceAdd,List.all_cons,List.all_nil,Bool.and_true,Bool.and_eq_true] at hb ha
    simp only [Nat.testBit_or,Nat.testBit_two_pow] at ih
    simp [-Nat.testBit_zero] at ih
    have a10:=ha
    simp only [hb,a10] at hn ⊢
    simp only [a10] at ih
    apply mT11 hm hlen;apply ih<;>first | (simp [-Nat.testBit_zero] at hn ⊢;omega) | simp_all [-Nat.testBit_zero]
  . obtain rfl:Zbl=y:=by simpa [YF] using hx
    simp only [Zbl,Nat.zero_add,Nat.reduceAdd,List.all_cons,List.all_nil,Bool.and_true,Bool.and_eq_true] at hb ha
    simp only [Nat.testBit_or,Nat.testBit_two_pow] at ih
    simp [-Nat.testBit_zero] at ih
    obtain ⟨a9,a11⟩:=ha
    simp only [hb,a9,a11] at hn ⊢
    simp only [a9,a11] at ih
    apply mT12 hm hlen;apply ih<;>first | (simp [-Nat.testBit_zero] at hn ⊢;omega) | simp_all [-Nat.testBit_zero]
  . obtain rfl:ZaZ=y:=by simpa [YF] using hx
    simp only [ZaZ,Nat.zero_add,Nat.reduceAdd,List.all_cons,List.all_nil,Bool.and_true,Bool.and_eq_true] at hb ha
    simp only [Nat.testBit_or,Nat.testBit_two_pow] at ih
    simp [-Nat.testBit_zero] at ih
    simp only [hb] at hn ⊢
    apply mT13 hm hlen;apply ih<;>first | (simp [-Nat.testBit_zero] at hn ⊢;omega) | simp_all [-Nat.testBit_zero]
  . obtain rfl:Zby=y:=by simpa [YF] using hx
    simp only [Zby,List.all_cons,List.all_nil,Bool.and_true,Bool.and_eq_true] at ha
    obtain ⟨a0,a1,a2,a3,a4,a5,a6,a12,a13⟩:=ha
    obtain ⟨a9,a11⟩:=i12 a12
    obtain ⟨a7,a8⟩:=i9 a9
    have a10:=i11 a11
    simp only [a0,a1,a2,a3,a4,a5,a6,a7,a8,a9,a10,a11,a12,a13] at hn
    simp at hn
  . obtain rfl:UO=y:=by simpa [YF] using hx
    simp only [UO,List.all_cons,List.all_nil,Bool.and_true,Bool.and_eq_true] at ha
    have:=ha.2.2.2.2.2.2.2.2.2.2.2.2.2.2
    simp [j14] at this
  . simp [YF] at hx
theorem moReg {l:Land} {p:Span} {been:List Int} {v to t till w on:Int} {j:Nat} {way:List Nat} {all:List (List Nat)} {ver:Nat} {x:Leg} {Y:Hd} {K:Ex->St->Prop} {m:Nat} (hm:m<=2) (hlen:way.length<=1000) {all2:List (List Nat)} (hc:CtM Try.prog 82 (X3 l been all ver) 2 [.agg (Zt l),I w,I to,I on,I till,.agg (Zi p),.mr 0 0,ZB (way ++ [j]),.mr 1 ver] (ZfB l been all2))
 (hK:∀ ver2 σF,σF=mo1 l p been v to t till j way all2 ver2->K .n σF):LAT Try.prog Y m YF 16 0 (moE l p been v to t till w on j way all ver x false false false false false false false false false false false false false false) K:=by
 have h:=Zus (l:=l) (p:=p) (been:=been) (v:=v) (to:=to) (t:=t) (till:=till) (x:=x) (Y:=Y) (K:=K) hm hlen hc hK 14 0 (by simp) (by simp) (by simp) (by simp) (by simp)
 simpa using h
end Go.Proofs.Ytkjldleglbbkeaa
namespace Go.Sx
open Go Go.RowKit
theorem Ct.res {P:Program} {f:FuncId} {args:List SV} {res res0:SV} (h:Ct P f args res) (kr:KF res0) (hw:ZaU res res0):Ct P f args res0 :=
 ⟨h.1,h.2,kr,fun w ok vs hR=>Calls.mono (h.4 w ok vs hR) fun e w' q=>by
  obtain ⟨y,h1,h2,h3⟩:=q
  exact ⟨y,h1,hw _ _ _ _ _ h2,h3⟩⟩
theorem ZnD {l:List SV}:∀ (w:World) (E:Env) (n ok:Nat->Prop) (ys:List Value),RL w E n ok l ys->RL w E n ok l ys:=fun _ _ _ _ _ h=>h
def VM (fr:List (Nat × SV)):List Nat->List (Nat × SV)
 | []=>[]
 | t :: ts=>(t,lk t fr) :: VM fr ts
theorem Zg5 (fr:List (Nat × SV)):VM fr []=[]:=rfl
theorem Zds (fr:List (Nat × SV)) (t:Nat) (ts:List Nat):VM fr (t :: ts)=(t,lk t fr) :: VM fr ts:=rfl
attribute [go_sem] Zg5 Zds
theorem Zbf (fr:List (Nat × SV)):∀ ts,ZsJ (VM fr ts) fr
 | []=>trivial
 | _ :: ts=>⟨rfl,Zbf fr ts⟩
theorem Zm2 {m:Nat} {σ : St} (ts:List Nat) (hg:ZsH (VM σ.fr ts)=true):Ent m σ ⟨VM σ.fr ts,σ.hp,σ.n,σ.N,[]⟩:=by
 intro C E a w _ h
 refine ⟨E,fun t=>?_,h.sz,h.df,fun t j b s ht=>absurd ht (ZbT hg t j b s),h.hs⟩
 have hfr:=h.fr t
 rcases Ze4 (Zbf σ.fr ts) t with h1 | h1
 . rw [h1];exact trivial
 . rw [h1]
   have:=ZbT hg t
   rw [h1] at this
   cases hq:lk t σ.fr<;>rw [hq] at hfr this<;>first | exact hfr | exact absurd rfl (this _ _ _)
theorem Zul {m:Nat} {f:CT} {σ : St} {K:Ex->St->Prop} {S:Type} (ts:List Nat) (hg:ZsH (VM σ.fr ts)=true) (ov:S->List (Nat × SV)) (hv:S->List (Nat × HB)) (rel:S->Prop) (μ : S->Nat) (s0:S) (h0:rel s0)
 (he:Ent m ⟨VM σ.fr ts,σ.hp,σ.n,σ.N,[]⟩ (stO ⟨VM σ.fr ts,σ.hp,σ.n,σ.N,[]⟩ ov hv s0))
 (hb:∀ s,rel s->f (stO ⟨VM σ.fr ts,σ.hp,σ.n,σ.N,[]⟩ ov hv s) (Znr m (stO ⟨VM σ.fr ts,σ.hp,σ.n,σ.N,[]⟩ ov hv) rel μ s K)):Zpv m f σ K :=
 loopG (Zm2 ts hg) ov hv rel μ s0 h0 he hb
end Go.Sx
namespace Go.Proofs.Ytkjldleglbbkeaa
open Go Go.Sx Go.Azalai
def Zir (l:Land) (p:Span) (been:List Int) (v to t till:Int) (all:List (List Nat)) (ver:Nat) (way:List Nat):St :=
 ⟨[(8,.mr 1 ver),(7,ZB way),(6,.mr 0 0),(5,.agg (Zi p)),(4,I till),(3,I t),(2,I to),(1,I v),(0,.agg (Zt l))],X3 l been all ver,2,96,[]⟩
theorem Zna (l:Land) (p:Span) (hs:Vw l) (hok:OkLP l p) (till to:Int) (hti:till<=100000):∀ (f:Nat) (been:List Int) (v t:Int) (way:List Nat) (all:List (List Nat)) (ver:Nat) (s7 s8:SV) (n0:Nat) (hp0:List (Nat × HB)),Zk3 l f been->v ∉ been->(0<=v/\v < l.wells.length)->(0<=t/\t<=till) ->
 way.length+f<=900->all.length<=200->(n0=2/\s7=ZB way/\s8 = .mr 1 ver/\hp0=X3 l been all ver\/n0=1/\s7 = .v (.slice none 0 0)/\s8 = .v (.slice none 0 0)/\way=[]/\all=[]/\ver=0/\hp0=[(0,.row 0 1 ((Xd l.wells.length been).map boL) 4)]) ->
 CtM Try.prog 82 hp0 n0 [.agg (Zt l),I v,I to,I t,I till,.agg (Zi p),.mr 0 0,s7,s8] (ZfB l been (cap (all ++ (YD l p to till f been v t).map (way ++ ·)))):=by
 intro f
 induction f with
 | zero =>
  intro been v t way all ver s7 s8 n0 hp0 hR hv hvi
  obtain ⟨g,h,_⟩:=hR.pos hv hvi
  omega
 | succ f ih =>
 intro been v t way all ver s7 s8 n0 hp0 hR hv hvi ht hlen hall hc
 obtain ⟨g,hg,hR'⟩:=hR.pos hv hvi
 have hgf:g=f:=by omega
 subst hgf
 have hleg:=hs.2.1
 have hlate:¬ t > till:=by omega
 obtain ⟨v0,hv0,rfl⟩:∃ v0:Nat,v0 < l.wells.length/\v=(v0:Int):=⟨v.toNat,by omega,by omega⟩
 have hpost:∀ (n0:Nat) (o:Ot),ZfB l been (cap (all ++ (YD l p to till (g+1) been v0 t).map (way ++ ·))) o->KX o.res/\KXP o.hp:=fun n0 o ho=>by
  obtain ⟨ver',rfl⟩:=ho
  simp [X3,KX,KXL,KXP,KXH,KFL,KF,Zs,Zl,bo_kf]
 rcases hc with ⟨rfl,rfl,rfl,rfl⟩ | ⟨rfl,rfl,rfl,hw0,ha0,hve,rfl⟩
 refine mk82 (by simp [hpb,X3]) (hpost 2) ?_
 dsimp only [Zvf,Zvh,go_sem,rA,rM,rS]
 refine gh (σ1:=Zir l p been v0 to t till all ver way) ?_ ?_
 . dsimp only [Zir,X3,Zt,Zi,ZB,go_sem,rA,rM,rS]
   (refine Zk ?_ ?_ ?_ rfl rfl<;>dsimp only [Zf,Zm,Ze,Zs,Zl,ZH,boL,id,go_sem,rA,rM,rS]<;>simp [Zf,Zm,Ze,Zs,Zl,ZH,boL,Za,Zd,KFR,KFL,KF,Zc,mtO,nbr])
 rotate_left
 refine mk82 (by simp [hpb]) (hpost 1) ?_
 dsimp only [Zvf,Zvh,go_sem,rA,rM,rS]
 refine gh (σ1:=Zir l p been v0 to t till all ver way) ?_ ?_
 . refine Yk (UN 8 1 59 rfl rfl) (Yk (Zff 1 0 0 1 3 rfl rfl) (Yk (UL (s':=.sl false 1 ([]:List (List SV))) 7 rfl Wi (fun _ _ _ h=>by cases h)) ?_))
   subst hw0 ha0 hve
   dsimp only [Zir,X3,Zt,Zi,ZB,go_sem,rA,rM,rS]
   (refine Zk ?_ ?_ ?_ rfl rfl<;>dsimp only [Zf,Zm,Ze,wX,wI,ZH,boL,id,go_sem,rA,rM,rS]<;>simp [Zf,Zm,Ze,wX,wI,ZH,boL,Za,Zd,KFR,KFL,KF,Zc,mtO,nbr])
 all_goals
  dsimp only [Zir,X3,Zt,Zi,ZB,go_sem,rA,rM,rS]
  refine br ?_ ?_
  . intro hto
    have hto:(v0:Int)=to:=by simpa using hto
    dsimp only [go_sem,rA,rM,rS]
    refine ⟨by simp;omega,?_⟩
    dsimp only [go_sem,rA,rM,rS]
    refine ZcY (k:=1) (v:=ver) (m:=1) (o:=0) (m':=1) (xs:=wX all) (ys:=[[.mr 4 0]]) (inn:=wI all) (T:=59) (T':=3) (t:=53) (bs:=24) rfl rfl rfl rfl rfl (by kernel_rfl) (by kernel_rfl) (by kernel_rfl) (by kernel_rfl) rfl rfl (by intro c hc;simp only [List.mem_singleton] at hc;subst hc;rfl) (by simp) (by rw [XW];simp;omega) rfl rfl ?_
    dsimp only [go_sem,rA,rM,rS]
    refine ⟨_,⟨ver+1+(wI all).length,rfl⟩,?_⟩
    refine ZbX (Yk (Zbs 1 4 [.mr 4 0] rfl rfl rfl (by rw [ZhY,List.getElem?_append_right (by rw [XW];exact Nat.le_refl _),XW,Nat.sub_self];rfl) rfl) ?_) (fun _ _ _ e=>by cases e)
    rw [Zf9 all way,Zgo all way,YB,if_neg hlate,if_pos hto]
    simp only [List.map_cons,List.map_nil,List.append_nil]
    rw [W8 (by simp;omega)]
    dsimp only [X3,go_sem,rA,rM,rS]
    (refine Zk ?_ ?_ ?_ rfl rfl<;>dsimp only [Zs,Zl,ZH,boL,id,go_sem,rA,rM,rS]<;>simp [Zs,Zl,ZH,boL,Za,Zd,KFR,KFL,KF,Zc,mtO,nbr])
  intro hto
  have hto:¬ (v0:Int)=to:=by simpa using hto
  dsimp only [go_sem,rA,rM,rS]
  simp only [List.length_map,YO]
  refine ZnI v0 rfl hv0 ?_
  dsimp only [go_sem,rA,rM,rS]
  refine Zva true (by rw [YO];exact hv0) (by simp [boL]) (by simp [boL,Zo]) ?_
  dsimp only [go_sem,rA,rM,rS]
  rw [Zjy hv0]
  refine Zul [1,2,3,4,6,7,8,9,14,19] rfl (fun q:Nat × List (List Nat) × Nat=>[(19,I q.1),(8,.mr 1 q.2.2)]) (fun q=>[(1,.rws q.2.2 1 (wX q.2.1) 59 0 1 (wI q.2.1) 3)])
   (fun q=>q.1<=l.legs.length/\q.2.1=cap (all ++ (ZX l p to till g been v0 t q.1).map (way ++ ·))) (fun q=>l.legs.length - q.1) (0,all,ver) ⟨Nat.zero_le _,by simp [Za6,W8 (show all.length<=201 by omega)]⟩ ?_ ?_
  . (refine Zk ?_ ?_ ?_ rfl rfl<;>dsimp only [Zf,Zm,Ze,Zs,Zl,ZH,boL,id,go_sem,rA,rM,rS]<;>simp [Zf,Zm,Ze,Zs,Zl,ZH,boL,Za,Zd,KFR,KFL,KF,Zc,mtO,nbr])
  rintro ⟨j,allj,verj⟩ ⟨hj,hallj⟩
  simp only at hj hallj
  dsimp only [go_sem,rA,rM,rS]
  simp only [List.length_map]
  have hWs:YD l p to till (g+1) been v0 t=ZX l p to till g been v0 t l.legs.length:=by rw [YB,if_neg hlate,if_neg hto]
  by_cases hlt:j < l.legs.length
  case neg =>
   have hje:j=l.legs.length:=by omega
   have hend:cap (all ++ (YD l p to till (g+1) been v0 t).map (way ++ ·))=allj:=by rw [hWs,hallj,hje]
   have g1:decide ((j:Int) < l.legs.length)=false:=by simp;omega
   simp only [g1]
   iterate 3 (refine UE (by decide) ?_;dsimp only [go_sem,rA,rM,rS])
   refine Yi (by decide) ?_
   dsimp only [go_sem,rA,rM,rS]
   simp only [List.length_map,YO]
   refine ZnI v0 rfl hv0 ?_
   dsimp only [go_sem,rA,rM,rS]
   refine Zva false (by rw [YO];exact hv0) (by simp [boL]) (by simp [boL,Zo]) ?_
   dsimp only [go_sem,rA,rM,rS]
   rw [Zbn hv0 hv]
   refine ⟨_,⟨verj,rfl⟩,?_⟩
   rw [hend]
   dsimp only [X3,go_sem,rA,rM,rS]
   (refine YR ?_ ?_ ?_ rfl<;>dsimp only [Zf,Zm,Ze,Zs,Zl,ZH,boL,id,go_sem,rA,rM,rS]<;>simp [Zf,Zm,Ze,Zs,Zl,ZH,boL,Za,Zd,KFR,KFL,KF,Zc,mtO,nbr])
  have g1:decide ((j:Int) < l.legs.length)=true:=by simp;omega
  simp only [g1]
  refine YA rfl ?_
  dsimp only [go_sem,rA,rM,rS]
  refine YA rfl ?_
  dsimp only [go_sem,rA,rM,rS]
  refine ⟨0,1,_,_,rfl,rfl,?_⟩
  simp only [Z9,XW]
  refine YA rfl ?_
  dsimp only [go_sem,rA,rM,rS]
  by_cases hsm:allj.length<=200
  case neg =>
   have hend:cap (all ++ (YD l p to till (g+1) been v0 t).map (way ++ ·))=allj:=by
    obtain ⟨R,hRs⟩:=YV (l:=l) (p:=p) (to:=to) (till:=till) (f:=g) (been:=been) (v:=(v0:Int)) (t:=t) (j:=j) (l.legs.length - j)
    rw [show j+(l.legs.length - j)=l.legs.length by omega] at hRs
    rw [hWs,hRs,List.map_append,<- List.append_assoc,ZbR,hallj]
    rw [hallj] at hsm
    unfold cap at hsm
    rw [List.length_take] at hsm
    omega
   have g2:decide ((allj.length:Int)<=200)=false:=by simp;omega
   simp only [g2]
   refine Yi (by decide) ?_
   dsimp only [go_sem,rA,rM,rS]
   simp only [List.length_map,YO]
   refine ZnI v0 rfl hv0 ?_
   dsimp only [go_sem,rA,rM,rS]
   refine Zva false (by rw [YO];exact hv0) (by simp [boL]) (by simp [boL,Zo]) ?_
   dsimp only [go_sem,rA,rM,rS]
   rw [Zbn hv0 hv]
   refine ⟨_,⟨verj,rfl⟩,?_⟩
   rw [hend]
   dsimp only [X3,go_sem,rA,rM,rS]
   (refine YR ?_ ?_ ?_ rfl<;>dsimp only [Zf,Zm,Ze,Zs,Zl,ZH,boL,id,go_sem,rA,rM,rS]<;>simp [Zf,Zm,Ze,Zs,Zl,ZH,boL,Za,Zd,KFR,KFL,KF,Zc,mtO,nbr])
  have g2:decide ((allj.length:Int)<=200)=true:=by simp;omega
  simp only [g2]
  refine YH (by decide) ?_
  dsimp only [go_sem,rA,rM,rS]
  refine ZG j hlt rfl ?_
  dsimp only [Zm,go_sem,rA,rM,rS]
  have hgl:GoodLeg l.legs[j]:=Vs hok.land _ (List.getElem_mem _)
  have hxj:l.legs[j]? = some l.legs[j]:=List.getElem?_eq_getElem hlt
  have hin:inR 0 100001 t=true:=by simp only [inR,decide_eq_true_eq];omega
  have hab:=YC (k:=true) (t:=t) hgl hok.pace (by omega)
  refine call (ZhP l.legs[j] v0) ?_
  dsimp only [go_sem,rA,rM,rS]
  by_cases hn0:Zg l.legs[j] v0 < 0
  . have g3:decide (Zg l.legs[j] v0 < 0)=true:=by simpa using hn0
    simp only [g3]
    iterate 4 (refine UE (by decide) ?_;dsimp only [go_sem,rA,rM,rS])
    refine YH (by decide) ?_
    dsimp only [go_sem,rA,rM,rS]
    rw [Zn (n:=(j:Int)+1) (by omega) (by omega)]
    refine ⟨(j+1,allj,verj),⟨hlt,by rw [ZJ,X1 hxj (.inl hn0),List.append_nil];exact hallj⟩,by simp only;omega,?_⟩
    (refine Zk ?_ ?_ ?_ rfl rfl<;>dsimp only [Zf,Zm,Ze,Zs,Zl,ZH,boL,id,go_sem,rA,rM,rS]<;>simp [Zf,Zm,Ze,Zs,Zl,ZH,boL,Za,Zd,KFR,KFL,KF,Zc,mtO,nbr])
  have g3:decide (Zg l.legs[j] v0 < 0)=false:=by simpa using hn0
  have hot:=Z6 hok hxj hn0
  obtain ⟨w0,hw0e⟩:∃ w0:Nat,Zg l.legs[j] v0=(w0:Int):=⟨(Zg l.legs[j] v0).toNat,by omega⟩
  have hw0:w0 < l.wells.length:=by omega
  have g5:decide ((w0:Int) < 0)=false:=by simp
  simp only [hw0e,g5]
  refine YA rfl ?_
  dsimp only [go_sem,rA,rM,rS]
  refine YA rfl ?_
  dsimp only [go_sem,rA,rM,rS]
  refine YA rfl ?_
  dsimp only [go_sem,rA,rM,rS]
  simp only [List.length_map,YO]
  refine ZnI w0 rfl hw0 ?_
  dsimp only [go_sem,rA,rM,rS]
  refine YA rfl ?_
  dsimp only [go_sem,rA,rM,rS]
  refine ldrm (by rw [YO];exact hw0) ?_
  dsimp only [boL,go_sem,rA,rM,rS]
  rw [Zgu hw0]
  by_cases hmem:(w0:Int) ∈ (v0:Int) :: been
  . rw [decide_eq_true hmem]
    refine YH (by decide) ?_
    dsimp only [go_sem,rA,rM,rS]
    rw [Zn (n:=(j:Int)+1) (by omega) (by omega)]
    refine ⟨(j+1,allj,verj),⟨hlt,by rw [ZJ,X1 hxj (.inr (by rw [hw0e];exact hmem)),List.append_nil];exact hallj⟩,by simp only;omega,?_⟩
    (refine Zk ?_ ?_ ?_ rfl rfl<;>dsimp only [Zf,Zm,Ze,Zs,Zl,ZH,boL,id,go_sem,rA,rM,rS]<;>simp [Zf,Zm,Ze,Zs,Zl,ZH,boL,Za,Zd,KFR,KFL,KF,Zc,mtO,nbr])
  rw [decide_eq_false hmem]
  refine Yi (by decide) ?_
  dsimp only [go_sem,rA,rM,rS]
  refine call (ZdC l.legs[j] p t t hgl hok.pace hin hin) ?_
  dsimp only [go_sem,rA,rM,rS]
  generalize htt:ZR true l.legs[j] p t=t1 at hab ⊢
  have hly:Y9 l p to till g been v0 t j=(YD l p to till g ((v0:Int) :: been) w0 t1).map (j :: ·):=by
   rw [Vt hxj hn0 (by rw [hw0e];exact hmem),hw0e,htt]
  by_cases ht1:t1 < 100001
  case neg =>
   have g4:decide (t1 < 100001)=false:=by simpa using ht1
   simp only [g4]
   iterate 3 (refine UE (by decide) ?_;dsimp only [go_sem,rA,rM,rS])
   refine Yi (by decide) ?_
   dsimp only [go_sem,rA,rM,rS]
   rw [Zn (n:=(j:Int)+1) (by omega) (by omega)]
   refine ⟨(j+1,allj,verj),⟨hlt,by rw [ZJ,hly,We (by omega),List.map_nil,List.append_nil];exact hallj⟩,by simp only;omega,?_⟩
   (refine Zk ?_ ?_ ?_ rfl rfl<;>dsimp only [Zf,Zm,Ze,Zs,Zl,ZH,boL,id,go_sem,rA,rM,rS]<;>simp [Zf,Zm,Ze,Zs,Zl,ZH,boL,Za,Zd,KFR,KFL,KF,Zc,mtO,nbr])
  have g4:decide (t1 < 100001)=true:=by simpa using ht1
  simp only [g4]
  iterate 3 (refine YA rfl ?_;dsimp only [go_sem,rA,rM,rS])
  by_cases ht2:t1<=till
  case neg =>
   refine Yi (by simpa using ht2) ?_
   dsimp only [go_sem,rA,rM,rS]
   rw [Zn (n:=(j:Int)+1) (by omega) (by omega)]
   refine ⟨(j+1,allj,verj),⟨hlt,by rw [ZJ,hly,We (by omega),List.map_nil,List.append_nil];exact hallj⟩,by simp only;omega,?_⟩
   (refine Zk ?_ ?_ ?_ rfl rfl<;>dsimp only [Zf,Zm,Ze,Zs,Zl,ZH,boL,id,go_sem,rA,rM,rS]<;>simp [Zf,Zm,Ze,Zs,Zl,ZH,boL,Za,Zd,KFR,KFL,KF,Zc,mtO,nbr])
  refine YH (by simpa using ht2) ?_
  dsimp only [go_sem,rA,rM,rS]
  have hall2:all ++ (ZX l p to till g been v0 t j).map (way ++ ·)=allj:=by
   rw [hallj];exact (ZtK (by rw [<- hallj];exact hsm)).symm
  have hih:=ih ((v0:Int) :: been) w0 t1 (way ++ [j]) allj verj _ _ 2 _ hR' hmem (by omega) (by omega) (by simp;omega) hsm (.inl ⟨rfl,rfl,rfl,rfl⟩)
  have hW:cap (allj ++ (YD l p to till g ((v0:Int) :: been) w0 t1).map (way ++ [j] ++ ·))=cap (all ++ (ZX l p to till g been v0 t (j+1)).map (way ++ ·)):=by
   rw [ZJ,hly,List.map_append,<- List.append_assoc,hall2,List.map_map]
   simp [Function.comp_def]
  rw [hW] at hih
  refine gh (σ1:=moE l p ((v0:Int) :: been) v0 to t till w0 t1 j way allj verj l.legs[j] false false false false false false false false false false false false false false) (Yk (σ':=mo0 l p ((v0:Int) :: been) v0 to t till w0 t1 j way allj verj l.legs[j]) ?_ (ZkD (by decide))) ?_
  . dsimp only [mo0,Zt,Zi,Zm,ZB,go_sem,rA,rM,rS]
    (refine Zk ?_ ?_ ?_ rfl rfl<;>dsimp only [Zf,Zm,Ze,Zs,Zl,ZH,boL,id,go_sem,rA,rM,rS]<;>simp [Zf,Zm,Ze,Zs,Zl,ZH,boL,Za,Zd,KFR,KFL,KF,Zc,mtO,nbr])
  show LAT _ _ _ _ 16 0 _ _
  refine moReg (by decide) (by omega) hih ?_
  intro ver2 σF eF
  subst eF
  dsimp only [mo1,Zt,Zi,ZB,go_sem,rA,rM,rS]
  rw [Zn (n:=(j:Int)+1) (by omega) (by omega)]
  refine ⟨(j+1,cap (all ++ (ZX l p to till g been v0 t (j+1)).map (way ++ ·)),ver2),⟨hlt,rfl⟩,by simp only;omega,?_⟩
  generalize cap (all ++ (ZX l p to till g been v0 t (j+1)).map (way ++ ·))=alln
  (refine Zk ?_ ?_ ?_ rfl rfl<;>dsimp only [Zf,Zm,Ze,Zs,Zl,ZH,boL,id,go_sem,rA,rM,rS]<;>simp [Zf,Zm,Ze,Zs,Zl,ZH,boL,Za,Zd,KFR,KFL,KF,Zc,mtO,nbr])
theorem u30 {args:List SV} {res:SV} (ka:KFL args) (kr:KF res) (h:sx Try.prog Y0 0 ck30 (st0 args 66) (ZuF rk30 res)) (hA:Nat.ble args.length 66=true:=by rfl):Ct Try.prog 30 args res:=ZbF Try.func30 rfl bk30 Zpq Zon nk30 (Nat.le_of_ble_eq_true hA) ka kr h
theorem been0 (n:Nat):(Xd n []).map boL=List.replicate n [SV.v (.bool false)]:=by
 apply List.ext_getElem
 . simp [Xd]
 . intro i h1 h2
   simp [Xd,boL]
theorem Zkn (l:Land) (hs:Vw l) (s to day till:Int) (p:Span):Ct Try.prog 30 [.agg (Zt l),I s,I to,I day,I till,.agg (Zi p)] (U3 l p s to day till):=by
 have hw:=hs.1
 have hleg:=hs.2.1
 refine u30 (by simp [Zt,Zf,Zm,Ze,Zi,Za,KFL,KF]) (Zkg _ _ _ _ _ _) ?_
 dsimp only [ck30,rk30,Zt,Zi,go_sem,rA,rM,rS]
 refine call (Znx l hs p) ?_
 dsimp only [go_sem,rA,rM,rS]
 by_cases ha:ZaV l p=0
 case neg =>
  refine YH (by simpa using ha) ?_
  dsimp only [go_sem,rA,rM,rS]
  refine ⟨_,rfl,?_⟩
  simp only [U3,Xv,ha,ZaJ,ne_eq,not_false_eq_true,if_true,if_false]
  exact ZaU.rfl
 have hok:=ZnV ha
 refine Yi (by simpa using ha) ?_
 dsimp only [go_sem,rA,rM,rS]
 simp only [List.length_map]
 have h1:=Zai hok.land
 rw [Zn (n:=(l.wells.length:Int) - 1) (by omega) (by omega)]
 refine call (YK s 0 (l.wells.length - 1)) ?_
 dsimp only [go_sem,rA,rM,rS]
 repeat (first | (refine gb ?_;dsimp only [go_sem,rA,rM,rS]) | (refine call (YK to 0 (l.wells.length - 1)) ?_;dsimp only [go_sem,rA,rM,rS]) | (refine call (YK day 0 100000) ?_;dsimp only [go_sem,rA,rM,rS]) | (refine call (YK till 0 100000) ?_;dsimp only [go_sem,rA,rM,rS]) | (simp only [List.length_map];rw [Zn (n:=(l.wells.length:Int) - 1) (by omega) (by omega)]))
 by_cases hr:(inR 0 (l.wells.length - 1) s && inR 0 (l.wells.length - 1) to && inR 0 100000 day && inR 0 100000 till)=true
 case neg =>
  have hb:∀ a b c d:Bool,¬ (a && b && c && d)=true->(((!a || !b) || !c) || !d)=true:=by decide
  refine YH (hb _ _ _ _ hr) ?_
  dsimp only [go_sem,rA,rM,rS]
  have he:Xv l p s to day till=2:=by simp [Xv,ha,hr]
  refine ⟨_,rfl,?_⟩
  simp only [U3,he,ZaJ]
  exact ZaU.rfl
 have hb:∀ a b c d:Bool,(a && b && c && d)=true->(((!a || !b) || !c) || !d)=false:=by decide
 refine Yi (hb _ _ _ _ hr) ?_
 dsimp only [go_sem,rA,rM,rS]
 have he:Xv l p s to day till=if (Xh l p s to day till).length > 200 then 9 else 0:=by simp only [Xv,Xh,ha,hr];simp
 simp only [Bool.and_eq_true,inR,decide_eq_true_eq] at hr
 obtain ⟨⟨⟨hr1,hr3⟩,hd⟩,hu⟩:=hr
 by_cases hlate:day > till
 . refine YH (by simpa using hlate) ?_
   dsimp only [go_sem,rA,rM,rS]
   have hW:Xh l p s to day till=[]:=We hlate
   refine ⟨_,rfl,?_⟩
   simp only [U3,he,hW,ZaJ,List.length_nil,List.map_nil]
   exact Zmx (UB Wi ZnD)
 refine Yi (by simpa using hlate) ?_
 dsimp only [go_sem,rA,rM,rS]
 simp only [List.length_map]
 refine ⟨l.wells.length,rfl,by omega,?_⟩
 dsimp only [go_sem,rA,rM,rS]
 have hm:=Zna l p hs hok till to hu.2 (l.wells.length+1) [] s day [] [] 0 _ _ 1 _ Zk3.start (by simp) (by omega) (by omega) (by simp;omega) (by simp) (.inr ⟨rfl,rfl,rfl,rfl,rfl,rfl,rfl⟩)
 have hW:cap ([] ++ (YD l p to till (l.wells.length+1) [] s day).map (([]:List Nat) ++ ·))=cap (Xh l p s to day till):=by simp [Xh]
 rw [hW,been0] at hm
 refine U9 [2] hm rfl rfl ?_ ?_ ?_ ?_
 . rfl
 . dsimp only [rho,Zt,Zi,go_sem,rA,rM,rS]
   simp [Za,Zd,KFR,KFL,KF,Zc,mtL,mtB,mtS,mtO,VN,nbr,Zf,Zm,Ze]
 . dsimp only [rho,go_sem,rA,rM,rS]
   have hz:=ZaD (r:=[SV.v (.bool false)]) (by simp [KFL,KF]) l.wells.length
   simp [Zd,KFR,KFL,KF,Zc,mtO,nbr,hz]
 rintro o ⟨ver,rfl⟩
 dsimp only [X3,go_sem,rA,rM,rS]
 refine gh (ZiX 15 3 ver rfl rfl rfl rfl) ?_
 rw [ZuP]
 dsimp only [go_sem,rA,rM,rS]
 simp only [List.length_map]
 by_cases hl:(Xh l p s to day till).length<=200
 . rw [W8 (show (Xh l p s to day till).length<=201 by omega)]
   refine Yi (by simp;omega) ?_
   dsimp only [go_sem,rA,rM,rS]
   refine ⟨_,rfl,?_⟩
   rw [U3,he,if_neg (by omega)]
   simp only [ZaJ,if_true]
   exact ZaU.rfl
 . have hc:(cap (Xh l p s to day till)).length=201:=by unfold cap;rw [List.length_take];omega
   rw [hc]
   refine YH (by decide) ?_
   dsimp only [go_sem,rA,rM,rS]
   refine ⟨_,rfl,?_⟩
   rw [U3,he,if_pos (by omega)]
   simp only [ZaJ]
   exact ZaU.rfl
def c6:SC:=(sr1 [
 o1 6 (.box (.t 0) 0 25),
 o1 10 (.box (.t 4) 0 29),
 o1 12 (.mv (.c (.bool false)))]
 (.seq (sr1 [
 o1 29 (lt 6 2),
 o1 30 (.call 16 [.t 29]),
 m1 31 30,
 g1 32 31 false (.mv (.t 5)),
 g1 33 31 false (.len (.t 32)),
 g1 34 31 false (.bin .gtr (.t 33) (cn 40)),
 o1 35 (.pick (.t 31) (.c (.bool true)) (.t 34))]
 (.cond (.t 35)
 (sr1 [
  o1 12 (.mv (.c (.bool true)))]
  .ret)
 .skip))
 (sr1 [
 o1 36 (lt 6 2),
 o1 37 (.call 21 [.t 36]),
 o1 38 (.bsl 1 3 []),
 m1 39 5,
 o1 40 (.app 1 8 3 (.t 38) (.t 39)),
 o1 13 (.alloc [.slice none 0 0,.slice none 0 0] 25),
 ⟨none,.st (.t 13) (.t 37) 2,none,[]⟩,
 m1 14 40]
 (sr1 [
 o1 42 (lt 13 2),
 m1 43 1,
 m1 44 3,
 o1 45 (lt 10 2),
 o1 46 (.call 32 [.t 42,.t 43,.t 44,.t 45]),
 m1 41 46,
 o1 47 (.ext (.t 41) 0),
 o1 48 (.ext (.t 41) 1),
 m1 15 47,
 m1 16 48]
 (sr1 [
 o1 50 (lt 6 2),
 m1 51 1,
 m1 52 3,
 o1 53 (lt 10 2),
 o1 54 (.call 33 [.t 50,.t 51,.t 52,.t 53]),
 m1 49 54,
 o1 55 (.ext (.t 49) 0),
 o1 56 (.ext (.t 49) 1),
 m1 17 55,
 m1 18 56]
 (sr1 [
 o1 58 (lt 13 2),
 m1 59 1,
 m1 60 3,
 o1 61 (lt 10 2),
 m1 62 14,
 o1 63 (.call 34 [.t 58,.t 59,.t 60,.t 61,.t 62]),
 m1 57 63,
 o1 64 (.ext (.t 57) 0),
 o1 65 (.ext (.t 57) 1),
 o1 66 (.ext (.t 57) 2),
 m1 19 64,
 m1 20 65,
 m1 21 66]
 (sr1 [
 o1 68 (lt 6 2),
 m1 69 1,
 m1 70 3,
 o1 71 (lt 10 2),
 m1 72 5,
 o1 73 (.call 35 [.t 68,.t 69,.t 70,.t 71,.t 72]),
 m1 67 73,
 o1 74 (.ext (.t 67) 0),
 o1 75 (.ext (.t 67) 1),
 o1 76 (.ext (.t 67) 2),
 m1 22 74,
 m1 23 75,
 m1 24 76]
 (sr1 [
 o1 78 (lt 13 2),
 m1 79 1,
 m1 80 2,
 m1 81 3,
 o1 82 (lt 10 2),
 o1 83 (.call 36 [.t 78,.t 79,.t 80,.t 81,.t 82]),
 m1 77 83,
 o1 84 (.ext (.t 77) 0),
 o1 85 (.ext (.t 77) 1),
 m1 25 84,
 m1 26 85]
 (sr1 [
 o1 87 (lt 6 2),
 m1 88 1,
 m1 89 2,
 m1 90 3,
 o1 91 (lt 10 2),
 o1 92 (.call 37 [.t 87,.t 88,.t 89,.t 90,.t 91]),
 m1 86 92,
 o1 93 (.ext (.t 86) 0),
 o1 94 (.ext (.t 86) 1),
 m1 27 93,
 m1 28 94]
 (sr1 [
 m1 95 15,
 m1 96 17,
 o1 97 (.call 38 [.t 95,.t 96]),
 m1 98 97,
 g1 99 98 true (.mv (.t 16)),
 g1 100 98 true (.mv (.t 18)),
 g1 101 98 true (.bin .eql (.t 99) (.t 100)),
 o1 102 (.pick (.t 98) (.t 101) (.c (.bool false))),
 m1 103 102,
 g1 104 103 true (.mv (.t 19)),
 g1 105 103 true (.mv (.t 22)),
 g1 106 103 true (.call 39 [.t 104,.t 105]),
 o1 107 (.pick (.t 103) (.t 106) (.c (.bool false))),
 m1 108 107,
 g1 109 108 true (.mv (.t 20)),
 g1 110 108 true (.mv (.t 23)),
 g1 111 108 true (.bin .eql (.t 109) (.t 110)),
 o1 112 (.pick (.t 108) (.t 111) (.c (.bool false))),
 m1 113 112,
 g1 114 113 true (.mv (.t 21)),
 g1 115 113 true (.mv (.t 24)),
 g1 116 113 true (.bin .eql (.t 114) (.t 115)),
 o1 117 (.pick (.t 113) (.t 116) (.c (.bool false))),
 m1 118 117,
 g1 119 118 true (.mv (.t 25)),
 g1 120 118 true (.mv (.t 27)),
 g1 121 118 true (.call 40 [.t 119,.t 120]),
 o1 122 (.pick (.t 118) (.t 121) (.c (.bool false))),
 m1 123 122,
 g1 124 123 true (.mv (.t 26)),
 g1 125 123 true (.mv (.t 28)),
 g1 126 123 true (.bin .eql (.t 124) (.t 125)),
 o1 127 (.pick (.t 123) (.t 126) (.c (.bool false))),
 m1 128 127,
 g1 129 128 true (lt 13 2),
 g1 130 128 true (lt 6 2),
 g1 131 128 true (.call 28 [.t 129,.t 130]),
 o1 132 (.pick (.t 128) (.t 131) (.c (.bool false))),
 m1 133 132,
 g1 134 133 true (.mv (.t 14)),
 g1 135 133 true (.mv (.t 5)),
 g1 136 133 true (.call 40 [.t 134,.t 135]),
 o1 137 (.pick (.t 133) (.t 136) (.c (.bool false))),
 m1 12 137]
 .ret))))))))))
theorem ZeS (a b:List Int) (ha:a.length<=1000000) (hb:b.length<=1000000) (c c':Bool):Ct Try.prog 40 [.sl c 1 (a.map Vi),.sl c' 1 (b.map Vi)] (B (decide (a=b))):=by
 refine t40.1 (by simp [Za,Vi,KFL,KF]) (by simp [KFL,KF]) ?_
 dsimp only [c40,r40,go_sem,rA,rM,rS]
 simp only [List.length_map]
 by_cases hl:a.length=b.length
 case neg =>
  refine YH (by simp;omega) ?_
  dsimp only [go_sem,rA,rM,rS]
  have:a≠b:=fun e=>hl (by rw [e])
  simp [this]
 refine Yi (by simp;omega) ?_
 dsimp only [go_sem,rA,rM,rS]
 refine Xw (fun j:Nat=>[(5,I j)]) (fun _=>[]) (fun j=>j<=a.length/\a.take j=b.take j) (fun j=>a.length - j) 0 ⟨Nat.zero_le _,rfl⟩ ?_ ?_
 . (refine Zk ?_ ?_ ?_ rfl rfl<;>dsimp only [Vi,id,go_sem,rA,rM,rS]<;>simp [Vi,Za,Zd,KFR,KFL,KF,Zc,mtO,nbr])
 rintro j ⟨hj,ht⟩
 dsimp only [go_sem,rA,rM,rS]
 simp only [List.length_map]
 by_cases hlt:j < a.length
 . refine YH (by simpa using hlt) ?_
   dsimp only [go_sem,rA,rM,rS]
   have hltb:j < b.length:=by omega
   refine ZG j hlt rfl ?_
   dsimp only [go_sem,rA,rM,rS]
   refine ZG j hltb rfl ?_
   dsimp only [Vi,go_sem,rA,rM,rS]
   by_cases he:a[j]=b[j]
   . refine Yi (by rw [he];simp [ngB]) ?_
     dsimp only [go_sem,rA,rM,rS]
     rw [Zn (n:=(j:Int)+1) (by omega) (by omega)]
     refine ⟨j+1,⟨hlt,?_⟩,by omega,?_⟩
     . rw [List.take_succ_eq_append_getElem hlt,List.take_succ_eq_append_getElem hltb,ht,he]
     (refine Zk ?_ ?_ ?_ rfl rfl<;>dsimp only [Vi,id,go_sem,rA,rM,rS]<;>simp [Vi,Za,Zd,KFR,KFL,KF,Zc,mtO,nbr])
   . refine YH ?_ ?_
     . simpa using he
     dsimp only [go_sem,rA,rM,rS]
     have:a≠b:=fun e=>he (by subst e;rfl)
     simp [this]
 refine Yi (by simp;omega) ?_
 dsimp only [go_sem,rA,rM,rS]
 have:a=b:=by
  rw [List.take_of_length_le (by omega),List.take_of_length_le (by omega)] at ht
  exact ht
 simp [this]
def c8:SC:=(sr1 [
 o1 5 (.box (.t 0) 0 25),
 o1 6 (.box (.t 1) 0 3),
 o1 8 (.box (.t 3) 0 29),
 o1 10 (.mv (.c (.bool false)))]
 (sr1 [
 o1 20 (.call 41 []),
 m1 11 20]
 (.seq (sr1 [
 m1 21 11,
 o1 22 (.un .not (.t 21))]
 (.cond (.t 22)
 (sr1 [
  o1 10 (.mv (.c (.bool false)))]
  .ret)
 .skip))
 (.seq (sr1 [
 o1 23 (lt 5 2),
 o1 24 (lt 8 2),
 o1 25 (.call 42 [.t 23,.t 24]),
 o1 26 (.un .not (.t 25)),
 m1 27 26,
 g1 28 27 false (lf 6 1),
 g1 29 27 false (.bin .lss (.t 28) (cn 0)),
 o1 30 (.pick (.t 27) (.c (.bool true)) (.t 29)),
 m1 31 30,
 g1 32 31 false (lf 6 1),
 g1 33 31 false (ao 5 1),
 g1 34 31 false (lf 33 1),
 g1 35 31 false (.len (.t 34)),
 g1 36 31 false (.bin .geq (.t 32) (.t 35)),
 o1 37 (.pick (.t 31) (.c (.bool true)) (.t 36)),
 m1 38 37,
 g1 39 38 false (.mv (.t 2)),
 g1 40 38 false (.bin .lss (.t 39) (cn 0)),
 o1 41 (.pick (.t 38) (.c (.bool true)) (.t 40)),
 m1 42 41,
 g1 43 42 false (.mv (.t 2)),
 g1 44 42 false (.bin .gtr (.t 43) (cn 100000)),
 o1 45 (.pick (.t 42) (.c (.bool true)) (.t 44))]
 (.cond (.t 45)
 (sr1 [
  m1 46 11,
  m1 10 46]
  .ret)
 .skip))
 (sr1 [
 o1 48 (lt 5 2),
 o1 49 (lf 6 1),
 m1 50 2,
 o1 51 (lt 8 2),
 o1 52 (.call 24 [.t 48,.t 49,.t 50,.t 51]),
 m1 47 52,
 o1 53 (.ext (.t 47) 0),
 o1 54 (.ext (.t 47) 1),
 o1 12 (.alloc [.int .i64 0,.int .i64 0] 29),
 ⟨none,.st (.t 12) (.t 53) 2,none,[]⟩,
 m1 13 54]
 (sr1 [
 o1 56 (lt 5 2),
 o1 57 (lf 6 1),
 o1 58 (lt 8 2),
 o1 59 (.call 22 [.t 56,.t 57,.t 58]),
 m1 55 59,
 o1 60 (.ext (.t 55) 0),
 o1 61 (.ext (.t 55) 1),
 o1 14 (.alloc [.int .i64 0,.int .i64 0] 29),
 ⟨none,.st (.t 14) (.t 60) 2,none,[]⟩,
 m1 15 61]
 (.seq (sr1 [
 m1 62 13,
 o1 63 (.bin .neq (.t 62) (cn 0)),
 m1 64 63,
 g1 65 64 false (.mv (.t 15)),
 g1 66 64 false (.bin .neq (.t 65) (cn 0)),
 o1 67 (.pick (.t 64) (.c (.bool true)) (.t 66)),
 m1 68 67,
 g1 69 68 false (ao 14 0),
 g1 70 68 false (lf 69 1),
 g1 71 68 false (.bin .lss (.t 70) (cn 1)),
 o1 72 (.pick (.t 68) (.c (.bool true)) (.t 71)),
 m1 73 72,
 g1 74 73 false (ao 14 0),
 g1 75 73 false (lf 74 1),
 g1 76 73 false (ao 14 1),
 g1 77 73 false (lf 76 1),
 g1 78 73 false (.bin .gtr (.t 75) (.t 77)),
 o1 79 (.pick (.t 73) (.c (.bool true)) (.t 78)),
 m1 80 79,
 g1 81 80 false (ao 12 0),
 g1 82 80 false (lf 81 1),
 g1 83 80 false (.mv (.t 2)),
 g1 84 80 false (.bin .lss (.t 82) (.t 83)),
 o1 85 (.pick (.t 80) (.c (.bool true)) (.t 84)),
 m1 86 85,
 g1 87 86 false (ao 12 0),
 g1 88 86 false (lf 87 1),
 g1 89 86 false (ao 12 1),
 g1 90 86 false (lf 89 1),
 g1 91 86 false (.bin .gtr (.t 88) (.t 90)),
 o1 92 (.pick (.t 86) (.c (.bool true)) (.t 91)),
 m1 93 92,
 g1 94 93 false (ao 12 1),
 g1 95 93 false (lf 94 1),
 g1 96 93 false (.bin .gtr (.t 95) (cn 100001)),
 o1 97 (.pick (.t 93) (.c (.bool true)) (.t 96))]
 (.cond (.t 97)
 (sr1 [
  o1 10 (.mv (.c (.bool false)))]
  .ret)
 .skip))
 (sr1 [
 o1 98 (ao 5 1),
 o1 99 (lf 98 1),
 o1 100 (lf 6 1),
 o1 101 (.ixs (.t 99) (.t 100) 5),
 o1 102 (ao 101 2),
 o1 103 (lt 102 2),
 o1 16 (.alloc [.int .i64 0,.int .i64 0] 29),
 ⟨none,.st (.t 16) (.t 103) 2,none,[]⟩]
 (.seq (sr1 [
 o1 104 (ao 14 0),
 o1 105 (lf 104 1),
 o1 106 (ao 8 1),
 o1 107 (lf 106 1),
 o1 108 (.bin .mul (.t 105) (.t 107)),
 o1 109 (ao 16 0),
 o1 110 (lf 109 1),
 o1 111 (.bin .lss (.t 108) (.t 110)),
 m1 112 111,
 g1 113 112 false (ao 14 0),
 g1 114 112 false (lf 113 1),
 g1 115 112 false (.bin .sub (.t 114) (cn 1)),
 g1 116 112 false (ao 8 1),
 g1 117 112 false (lf 116 1),
 g1 118 112 false (.bin .mul (.t 115) (.t 117)),
 g1 119 112 false (ao 16 0),
 g1 120 112 false (lf 119 1),
 g1 121 112 false (.bin .geq (.t 118) (.t 120)),
 o1 122 (.pick (.t 112) (.c (.bool true)) (.t 121)),
 m1 123 122,
 g1 124 123 false (ao 14 1),
 g1 125 123 false (lf 124 1),
 g1 126 123 false (ao 8 0),
 g1 127 123 false (lf 126 1),
 g1 128 123 false (.bin .mul (.t 125) (.t 127)),
 g1 129 123 false (ao 16 1),
 g1 130 123 false (lf 129 1),
 g1 131 123 false (.bin .lss (.t 128) (.t 130)),
 o1 132 (.pick (.t 123) (.c (.bool true)) (.t 131)),
 m1 133 132,
 g1 134 133 false (ao 14 1),
 g1 135 133 false (lf 134 1),
 g1 136 133 false (.bin .sub (.t 135) (cn 1)),
 g1 137 133 false (ao 8 0),
 g1 138 133 false (lf 137 1),
 g1 139 133 false (.bin .mul (.t 136) (.t 138)),
 g1 140 133 false (ao 16 1),
 g1 141 133 false (lf 140 1),
 g1 142 133 false (.bin .geq (.t 139) (.t 141)),
 o1 143 (.pick (.t 133) (.c (.bool true)) (.t 142))]
 (.cond (.t 143)
 (sr1 [
  o1 10 (.mv (.c (.bool false)))]
  .ret)
 .skip))
 (sr1 [
 o1 144 (.mkf 48 [.t 5,.t 6,.t 14]),
 o1 145 (.mkf 49 [.t 5,.t 6,.t 14]),
 m1 17 144,
 m1 18 145]
 (.seq (.seq (.regd [0,1,2,3,4,5,6,7,8,9,10,11,12,13,14,15,16,17] [
 .op (o1 146 (ao 12 0)),
 .op (p1 147 (lf 146 1) [0]),
 .op (p1 148 (.bin .lss (.t 147) (cn 100001)) [1]),
 .op (m1 149 17),
 .op (o1 150 (ao 12 0)),
 .op (p1 151 (lf 150 1) [4]),
 .op (p1 152 (.calv (.t 149) [.t 151]) [3,5]),
 .op (p1 153 (.eqs true false [0] (.t 148) (.t 152)) [2,6]),
 .op (p1 154 (.mv (.t 153)) [6,7]),
 .op (q1 155 154 false (ao 12 1) [8]),
 .op (q1 156 154 false (lf 155 1) [8,9]),
 .op (q1 157 154 false (.bin .lss (.t 156) (cn 100001)) [8,10]),
 .op (q1 158 154 false (.mv (.t 18)) [8]),
 .op (q1 159 154 false (ao 12 1) [8]),
 .op (q1 160 154 false (lf 159 1) [8,13]),
 .op (q1 161 154 false (.calv (.t 158) [.t 160]) [8,12,14]),
 .op (q1 162 154 false (.eqs true false [0] (.t 157) (.t 161)) [8,11,15]),
 .op (p1 163 (.pick (.t 154) (.c (.bool true)) (.t 162)) [8,16])] 0 0 [
])
 (.cond (.t 163)
 (sr1 [
  o1 10 (.mv (.c (.bool false)))]
  .ret)
 .skip))
 (sr1 [
 m1 164 2,
 m1 165 4,
 o1 166 (.conv .i64 (.t 165)),
 m1 167 2,
 o1 168 (.bin .sub (cn 100000) (.t 167)),
 o1 169 (.bin .add (.t 168) (cn 1)),
 o1 170 (.div .rem (.t 166) (.t 169)),
 o1 171 (.bin .add (.t 164) (.t 170)),
 m1 19 171]
 (sr1 [
 m1 172 11,
 m1 173 172,
 g1 174 173 true (.mv (.t 19)),
 g1 175 173 true (ao 12 0),
 g1 176 173 true (lf 175 1),
 g1 177 173 true (.bin .geq (.t 174) (.t 176)),
 g1 178 173 true (.mv (.t 177)),
 g1 179 178 false (.mv (.t 17)),
 g1 180 178 false (.mv (.t 19)),
 g1 181 178 false (.calv (.t 179) [.t 180]),
 g1 182 178 false (.un .not (.t 181)),
 g1 183 173 true (.pick (.t 178) (.c (.bool true)) (.t 182)),
 o1 184 (.pick (.t 173) (.t 183) (.c (.bool false))),
 m1 185 184,
 g1 186 185 true (.mv (.t 19)),
 g1 187 185 true (ao 12 1),
 g1 188 185 true (lf 187 1),
 g1 189 185 true (.bin .geq (.t 186) (.t 188)),
 g1 190 185 true (.mv (.t 189)),
 g1 191 190 false (.mv (.t 18)),
 g1 192 190 false (.mv (.t 19)),
 g1 193 190 false (.calv (.t 191) [.t 192]),
 g1 194 190 false (.un .not (.t 193)),
 g1 195 185 true (.pick (.t 190) (.c (.bool true)) (.t 194)),
 o1 196 (.pick (.t 185) (.t 195) (.c (.bool false))),
 m1 10 196]
 .ret)))))))))))))
end Go.Proofs.Ytkjldleglbbkeaa
namespace Go.Azalai
open Go.Sx
end Go.Azalai
namespace Go.Proofs.Ytkjldleglbbkeaa
open Go Go.Sx Go.Azalai
theorem Zcw (a:List Nat):a.map ZH=(a.map fun n:Nat=>(n:Int)).map Vi:=by simp [ZH,Vi,Function.comp_def]
end Go.Proofs.Ytkjldleglbbkeaa
namespace Go.Sx
open Go Go.RowKit
end Go.Sx
namespace Go.Azalai
end Go.Azalai
namespace Go.Proofs.Ytkjldleglbbkeaa
open Go Go.Sx Go.Azalai
theorem ZcF (a b:List (List Nat)) (ha:a.length<=1000000) (hb:b.length<=1000000) (h1:∀ x ∈ a,x.length<=1000000) (h2:∀ x ∈ b,x.length<=1000000) (c c':Bool):Ct Try.prog 31 [.sl c 1 (a.map Xn),.sl c' 1 (b.map Xn)] (B (decide (a=b))):=by
 refine t31.1 (by simp [Za,Xn,ZB,ZH,KFL,KF]) (by simp [KFL,KF]) ?_
 dsimp only [c31,r31,go_sem,rA,rM,rS]
 simp only [List.length_map]
 by_cases hl:a.length=b.length
 case neg =>
  refine YH (by simp;omega) ?_
  dsimp only [go_sem,rA,rM,rS]
  have:a≠b:=fun e=>hl (by rw [e])
  simp [this]
 refine Yi (by simp;omega) ?_
 dsimp only [go_sem,rA,rM,rS]
 refine Xw (fun j:Nat=>[(5,I j)]) (fun _=>[]) (fun j=>j<=a.length/\a.take j=b.take j) (fun j=>a.length - j) 0 ⟨Nat.zero_le _,rfl⟩ ?_ ?_
 . (refine Zk ?_ ?_ ?_ rfl rfl<;>dsimp only [Xn,ZB,ZH,Za,id,go_sem,rA,rM,rS]<;>simp [Xn,ZB,ZH,Za,Za,Zd,KFR,KFL,KF,Zc,mtO,nbr])
 rintro j ⟨hj,ht⟩
 dsimp only [go_sem,rA,rM,rS]
 simp only [List.length_map]
 by_cases hlt:j < a.length
 . refine YH (by simpa using hlt) ?_
   dsimp only [go_sem,rA,rM,rS]
   have hltb:j < b.length:=by omega
   refine ZG j hlt rfl ?_
   dsimp only [Xn,go_sem,rA,rM,rS]
   refine ZG j hltb rfl ?_
   dsimp only [Xn,go_sem,rA,rM,rS]
   have hc:=ZeS (a[j].map fun n:Nat=>(n:Int)) (b[j].map fun n:Nat=>(n:Int)) (by rw [List.length_map];exact h1 _ (List.getElem_mem _)) (by rw [List.length_map];exact h2 _ (List.getElem_mem _)) false false
   rw [<- Zcw,<- Zcw] at hc
   refine call hc ?_
   dsimp only [go_sem,rA,rM,rS]
   have hinj:(a[j].map (fun n:Nat=>(n:Int))=b[j].map fun n:Nat=>(n:Int))↔a[j]=b[j]:=⟨fun h=>List.map_inj_right (fun x y h=>Int.ofNat_inj.1 h) |>.1 h,fun h=>by rw [h]⟩
   by_cases he:a[j]=b[j]
   . refine Yi (by simp [he]) ?_
     dsimp only [go_sem,rA,rM,rS]
     rw [Zn (n:=(j:Int)+1) (by omega) (by omega)]
     refine ⟨j+1,⟨hlt,?_⟩,by omega,?_⟩
     . rw [List.take_succ_eq_append_getElem hlt,List.take_succ_eq_append_getElem hltb,ht,he]
     (refine Zk ?_ ?_ ?_ rfl rfl<;>dsimp only [Xn,ZB,ZH,Za,id,go_sem,rA,rM,rS]<;>simp [Xn,ZB,ZH,Za,Za,Zd,KFR,KFL,KF,Zc,mtO,nbr])
   . have hne:¬ (a[j].map (fun n:Nat=>(n:Int))=b[j].map fun n:Nat=>(n:Int)):=fun h=>he (hinj.1 h)
     refine YH (by rw [decide_eq_false hne];rfl) ?_
     dsimp only [go_sem,rA,rM,rS]
     have:a≠b:=fun e=>he (by subst e;rfl)
     simp [this]
 refine Yi (by simp;omega) ?_
 dsimp only [go_sem,rA,rM,rS]
 have:a=b:=by
  rw [List.take_of_length_le (by omega),List.take_of_length_le (by omega)] at ht
  exact ht
 simp [this]
def fX (_:List Int):List SV:=[.any]
def hI (r:List Int):List (List SV):=r.map Vi
def ZnP (W:List (List Nat)):List (List Int):=W.map fun r=>r.map fun n:Nat=>(n:Int)
theorem wX_M (W:List (List Nat)):wX W=(ZnP W).map fX:=by simp [wX,ZnP,fX,Function.comp_def]
theorem wI_M (W:List (List Nat)):wI W=(ZnP W).map hI:=by
 simp only [wI,ZnP,hI,List.map_map]
 refine List.map_congr_left fun r _=>?_
 simp [hI,ZH,Vi,Function.comp_def]
theorem ZnT (x:List Int):KFL (fX x)=True:=eq_true (by simp [fX,KFL,KF])
theorem Zn5 (x:List Int):KFR (hI x)=True:=eq_true (by simp [hI,Vi,Za,KFL,KF])
theorem Zgx {l:Land} {p:Span} {s to day till:Int} (h:Xv l p s to day till=0):(Xh l p s to day till).length<=200:=by
 unfold Xv at h
 split at h
 . rename_i q;omega
 split at h
 . omega
 split at h
 . omega
 . rename_i q;unfold Xh;omega
theorem ZcG {l:Land} {p:Span} {to till:Int}:∀ (f:Nat) (been:List Int) (v t:Int),∀ w ∈ YD l p to till f been v t,w.length<=f
 | 0,_,_,_,w,h=>by simp [YD] at h
 | f+1,been,v,t,w,h=>by
  simp only [YD] at h
  split at h
  . cases h
  split at h
  . simp only [List.mem_singleton] at h;subst h;simp
  . obtain ⟨i,_,hi⟩:=List.mem_flatMap.1 h
    split at hi
    . cases hi
    split at hi
    . cases hi
    . obtain ⟨u,hu,rfl⟩:=List.mem_map.1 hi
      have:=ZcG f _ _ _ u hu
      simp;omega
theorem Zhm (l:Land) (s to day till:Int) (p:Span):Ct Try.prog 5 [.agg (Zt l),I s,I to,I day,I till,.agg (Zi p)] (B true):=by
 refine tk5.1 (by simp [Zt,Zf,Zm,Ze,Zi,Za,KFL,KF]) (by simp [KFL,KF]) ?_
 dsimp only [ck5,rk5,Zt,Zi,go_sem,rA,rM,rS]
 refine call (ZmW l) ?_
 dsimp only [go_sem,rA,rM,rS]
 by_cases hgr:U8 l=true
 . refine YH (by simpa using hgr) ?_
   dsimp only [go_sem,rA,rM,rS]
 refine Yi (by simpa using hgr) ?_
 dsimp only [go_sem,rA,rM,rS]
 simp only [Bool.not_eq_true] at hgr
 have hs:Vw l:=by
  simp only [U8,Bool.or_eq_false_iff,decide_eq_false_iff_not,List.any_eq_false,decide_eq_true_eq] at hgr
  exact ⟨by omega,by omega,fun x hx=>by have:=hgr.2 x hx;omega⟩
 have k1:=Zkn l hs s to day till p
 refine call (Zq0 l hs) ?_
 dsimp only [Zt,go_sem,rA,rM,rS]
 refine U9 [] (ZjV l hs s to day till p) rfl rfl rfl ?_ ?_ ?_
 . dsimp only [Zt,Zi,go_sem,rA,rM,rS]
   simp [Za,Zd,KFR,KFL,KF,Zc,mtL,mtB,mtS,mtO,VN,nbr,Zf,Zm,Ze]
 . trivial
 intro o ho
 unfold Zcf at ho
 by_cases he:Xv l p s to day till=0
 case neg =>
  rw [if_neg he] at ho
  subst ho
  dsimp only [go_sem,rA,rM,rS]
  refine gh (UL (s':=.sl false 1 ([]:List (List SV))) 14 rfl Wi (fun _ _ _ h=>by cases h)) ?_
  dsimp only [go_sem,rA,rM,rS]
  simp only [U3,ZaJ,if_neg he] at k1
  refine call k1 ?_
  dsimp only [go_sem,rA,rM,rS]
  have k0:=(ZcF [] [] (by simp) (by simp) (by simp) (by simp) false false).args (args0:=[.sl false 1 [],.v (.slice none 0 0)]) (by simp [KFR,KFL,KF]) (UB ZaU.rfl (UB Wi ZnD))
  refine call k0 ?_
  dsimp only [go_sem,rA,rM,rS]
  repeat (refine gb ?_;dsimp only [go_sem,rA,rM,rS])
  refine ZaW 1 ?_
  dsimp only [Zj,go_sem,rA,rM,rS]
  refine Yi (by decide) ?_
  dsimp only [go_sem,rA,rM,rS]
  refine gh XG ?_
  dsimp only [go_sem,rA,rM,rS]
  repeat (first | (refine gb ?_;dsimp only [go_sem,rA,rM,rS]) | (refine call (ZgZ l hs) ?_;dsimp only [go_sem,rA,rM,rS]))
  simp
 rw [if_pos he] at ho
 obtain ⟨ver,rfl⟩:=ho
 dsimp only [go_sem,rA,rM,rS]
 refine gh XG ?_
 dsimp only [go_sem,rA,rM,rS]
 have hWl:=Zgx he
 have hWw:∀ w ∈ Xh l p s to day till,w.length<=1001:=fun w hw=>by
  have:=ZcG _ _ _ _ w hw
  have:=hs.1
  omega
 simp only [U3,ZaJ,if_pos he] at k1
 generalize Xh l p s to day till=W at hWl hWw k1 ⊢
 simp only [he] at k1
 refine call k1 ?_
 dsimp only [go_sem,rA,rM,rS]
 have k0:=ZcF W W (by omega) (by omega) (fun x hx=>by have:=hWw x hx;omega) (fun x hx=>by have:=hWw x hx;omega) false false
 have hdW:decide (W=W)=true:=by simp
 rw [hdW] at k0
 refine ZmR (by simp [FLT]) (res:=B true) ?_ ?_
 . simp only [UV,vw4,vwS,nbr]
   dsimp only [go_sem,rA,rM,rS]
   rw [ZuP,show Nat.beq ver ver=true from nbr ver]
   exact k0
 dsimp only [go_sem,rA,rM,rS]
 repeat (refine gb ?_;dsimp only [go_sem,rA,rM,rS])
 refine ⟨0,1,_,_,rfl,rfl,?_⟩
 simp only [Z9,XW]
 rw [wX_M,wI_M]
 have hN:(ZnP W).length=W.length:=by simp [ZnP]
 have hr0:∀ r ∈ ZnP W,r.length<=1001:=fun r hr=>by
  obtain ⟨w,hw,rfl⟩:=List.mem_map.1 hr
  simpa using hWw w hw
 generalize ZnP W=M0 at hN hr0
 generalize W.length=N at hN hWl
 refine Zul [6,13,18,54,55,56] rfl (fun q:Nat × List (List Int)=>[(56,I q.1)]) (fun q=>[(3,.rws ver 1 (q.2.map fX) 59 0 1 (q.2.map hI) 3)]) (fun q=>q.1<=N/\q.2.length=N/\∀ r ∈ q.2,r.length<=1001) (fun q=>N - q.1) (0,M0) ⟨Nat.zero_le _,hN,hr0⟩ ?_ ?_
 . (refine Zk ?_ ?_ ?_ rfl rfl<;>dsimp only [Zf,Zm,Ze,ZnT,Zn5,id,go_sem,rA,rM,rS]<;>simp [Zf,Zm,Ze,ZnT,Zn5,Za,Zd,KFR,KFL,KF,Zc,mtO,nbr])
 rintro ⟨j,M⟩ ⟨hj,hM,hr⟩
 simp only at hj hM hr
 dsimp only [go_sem,rA,rM,rS]
 by_cases hlt:j < N
 case neg =>
  refine Yi (by simp;omega) ?_
  dsimp only [go_sem,rA,rM,rS]
  refine gh XG ?_
  dsimp only [go_sem,rA,rM,rS]
  repeat (first | (refine gb ?_;dsimp only [go_sem,rA,rM,rS]) | (refine call (ZgZ l hs) ?_;dsimp only [go_sem,rA,rM,rS]))
  simp
 refine YH (by simpa using hlt) ?_
 dsimp only [go_sem,rA,rM,rS]
 have hjM:j < M.length:=by omega
 refine Ztt j rfl (by simp;omega) ?_
 dsimp only [go_sem,rA,rM,rS]
 refine ⟨0,_,_,rfl,rfl,[.mr 3 (ver+1+j)],Zy.2 fun _=>?_,?_⟩
 . rw [Xb,if_pos (by simp;omega)];simp [fX,hjM]
 dsimp only [go_sem,rA,rM,rS]
 refine ⟨j+1,1,hI M[j],3,by omega,by simp [Z1,hjM],?_⟩
 have hlen:(hI M[j]).length=M[j].length:=by simp [hI]
 have hrj:=hr _ (List.getElem_mem hjM)
 rw [hlen]
 generalize hK:M[j].length=Kj at hrj
 refine Xw (fun q:Nat × List (List Int)=>[(62,I q.1)]) (fun q=>[(3,.rws ver 1 (q.2.map fX) 59 0 1 (q.2.map hI) 3)]) (fun q=>q.1<=Kj/\q.2.length=N/\(∀ r ∈ q.2,r.length<=1001)/\∀ h:j < q.2.length,(q.2[j]).length=Kj) (fun q=>Kj - q.1) (0,M) ⟨Nat.zero_le _,hM,hr,fun _=>hK⟩ ?_ ?_
 . (refine Zk ?_ ?_ ?_ rfl rfl<;>dsimp only [Zf,Zm,Ze,ZnT,Zn5,id,go_sem,rA,rM,rS]<;>simp [Zf,Zm,Ze,ZnT,Zn5,Za,Zd,KFR,KFL,KF,Zc,mtO,nbr])
 clear hr hK hlen hjM hM
 rintro ⟨i,M2⟩ ⟨hi,hM2,hr2,hK2⟩
 simp only at hi hM2 hr2 hK2
 dsimp only [go_sem,rA,rM,rS]
 by_cases hit:i < Kj
 case neg =>
  refine Yi (by simp;omega) ?_
  dsimp only [go_sem,rA,rM,rS]
  refine gh XG ?_
  dsimp only [go_sem,rA,rM,rS]
  rw [Zn (n:=(j:Int)+1) (by omega) (by omega)]
  refine ⟨(j+1,M2),⟨hlt,hM2,hr2⟩,by simp only;omega,?_⟩
  (refine Zk ?_ ?_ ?_ rfl rfl<;>dsimp only [Zf,Zm,Ze,ZnT,Zn5,id,go_sem,rA,rM,rS]<;>simp [Zf,Zm,Ze,ZnT,Zn5,Za,Zd,KFR,KFL,KF,Zc,mtO,nbr])
 refine YH (by simpa using hit) ?_
 dsimp only [go_sem,rA,rM,rS]
 have hjM:j < M2.length:=by omega
 have hK3:=hK2 hjM
 refine Ztp (rows:=hI M2[j]) j i (by omega) (by simp [hjM]) rfl (by simp [hI];omega) ?_
 dsimp only [go_sem,rA,rM,rS]
 refine Zuy (row:=[I (M2[j][i]'(by omega))]) j (M2[j].set i (-7)) (by omega) hjM (by simp [hI,Vi]) (by simp) ?_ rfl ?_
 . simp [hI,Vi,Zo,List.map_set]
 dsimp only [go_sem,rA,rM,rS]
 rw [Zn (n:=(i:Int)+1) (by omega) (by omega)]
 refine ⟨(i+1,M2.set j (M2[j].set i (-7))),⟨hit,by simp [hM2],fun r hr=>?_,fun h=>by simp [hK3]⟩,by simp only;omega,?_⟩
 . rcases List.mem_or_eq_of_mem_set hr with q | q
   . exact hr2 r q
   . rw [q,List.length_set];exact hr2 _ (List.getElem_mem hjM)
 generalize M2.set j (M2[j].set i (-7))=M3
 (refine Zk ?_ ?_ ?_ rfl rfl<;>dsimp only [Zf,Zm,Ze,ZnT,Zn5,id,go_sem,rA,rM,rS]<;>simp [Zf,Zm,Ze,ZnT,Zn5,Za,Zd,KFR,KFL,KF,Zc,mtO,nbr])
end Go.Proofs.Ytkjldleglbbkeaa
