/- Walks and plain laws that lead to the given statement, part 7 of 10. -/
import Derived.Test.YtiigiflofnjilaaGreatQF
import Derived.Recover
import Derived.Test.YtiigiflofnjilaaGreatProg
import Derived.WideLaws
set_option maxRecDepth 100000
set_option maxHeartbeats 8000000
set_option linter.all false
open Nat renaming reduceAdd->rA,reduceMul->rM,reduceSub->rS,beq_refl->nbr
namespace Go.Sx
open Go Go.RowKit
inductive FB where
 | tail (c:SC)
 | seq (a:SC) (b:FB)
 | dfr (ops:List Ins) (mx kx:X) (t:TypeId) (b:FB)
 | rcv (ops:List Ins) (cx:X) (b:FB)
def Zz0 (mx kx:X) (t:TypeId) (o:Oper):Bool :=
 match o.op,o.dst,o.guard with
 | .defer c,none,none=>(match c.callee with | .builtin .delete=>true | _=>false) && (match c.args.toList with | [m,k]=>Y4 mx m && Y4 kx k | _=>false) && (match c.argTypes[0]? with | some u=>u == t | none=>false)
 | _,_,_=>false
def ZsF (cx:X) (o:Oper):Bool :=
 match o.op,o.dst,o.guard with
 | .defer c,none,none=>(match c.callee with | .value y=>Y4 cx y | _=>false) && c.args.isEmpty
 | _,_,_=>false
def Zaz (P:Program):FB->Code->Bool
 | .tail c,code=>XK P c code
 | .seq a b,code=>(match code with | .seq x y=>XK P a x && Zaz P b y | _=>false)
 | .dfr ops mx kx t b,code=>(match code with
  | .seq (.region _ os false) y=>Zax P os ops (os.toList.take ops.length) && (match os.toList.drop ops.length with | [o]=>Zz0 mx kx t o | _=>false) && Zaz P b y
  | _=>false)
 | .rcv ops cx b,code=>(match code with
  | .seq (.region _ os false) y=>Zax P os ops (os.toList.take ops.length) && (match os.toList.drop ops.length with | [o]=>ZsF cx o | _=>false) && Zaz P b y
  | _=>false)
def Zxi (P:Program) (t:TypeId) (kv:Value) (hb hb':HB):Prop :=
 ∃ (K V:Type) (_:DecidableEq K) (key:K->Value) (val:V->SV) (sv:K->SV) (L:List (Nat × K × V)) (k:K) (kt et:TypeId) (c:Nat),
  hb = .map (mpS key val L) c/\hb' = .map (mpS key val (Ux k L)) c/\kv=key k/\P.underlying t=some (.map kt et)/\KeyT P kt key sv
theorem ZxZ {P:Program} {K V:Type} [DecidableEq K] {t:TypeId} {key:K->Value} {val:V->SV} {sv:K->SV} {L:List (Nat × K × V)} {k:K} {c:Nat} {kt et:TypeId} (ht:P.underlying t=some (.map kt et)) (hK:KeyT P kt key sv) :
 Zxi P t (key k) (.map (mpS key val L) c) (.map (mpS key val (Ux k L)) c):=⟨K,V,inferInstance,key,val,sv,L,k,kt,et,c,rfl,rfl,rfl,ht,hK⟩
def dK (P:Program) (t:TypeId) (km:Nat) (kv:Value) (K:Ex->St->Prop):Ex->St->Prop
 | .n,σ=>∃ hb',Zxi P t kv (lkh km σ.hp) hb'/\K .n ⟨σ.fr,(km,hb') :: σ.hp,σ.n,σ.N,σ.gs⟩
 | .ret,σ=>∃ hb',Zxi P t kv (lkh km σ.hp) hb'/\K .ret ⟨σ.fr,(km,hb') :: σ.hp,σ.n,σ.N,σ.gs⟩
 | _,_=>False
def fxS (f:St->(Ex->St->Prop)->Prop) (K:Ex->St->Prop):Ex->St->Prop
 | .n,σ=>f σ K
 | .ex _,_=>False
 | .ret,σ=>K .ret σ
 | .pan s,σ=>K (.pan s) σ
def mpO:SV->Option Nat
 | .mp k=>some k
 | _=>none
def vO:SV->Option Value
 | .v x=>some x
 | _=>none
def Zy4 (P:Program) (t:TypeId) (f:Nat->St->(Ex->St->Prop)->Prop) (km:Option Nat) (kv:Option Value) (σ : St) (K:Ex->St->Prop):Prop :=
 match km,kv with
 | some km,some kv=>Nat.blt km σ.n=true/\f σ.n σ (dK P t km kv K)
 | _,_=>False
def ZpV (t:Nat) (o:Oper):Bool :=
 match o.op,o.dst,o.guard with
 | .call c,some u,none=>u == t && (match c.callee with | .builtin .recover=>true | _=>false) && c.args.isEmpty
 | _,_,_=>false
structure RcF (P:Program) (g:FuncId) (t:Nat) (l:List Ins) (c:SC) (N:Nat):Prop where
 ex:∃ fn id os y0 o1,P.funcs[g]? = some fn/\fn.body=some (.seq (.region id os false) y0)/\os[0]? = some o1/\ZpV t o1=true/\Zax P os l (os.toList.drop 1)=true/\XK P c y0=true/\fn.ntmps=N/\t < N/\fn.results = #[]
 bd:YP P g=true
def rcK (σ : St) (k:St->Prop):Ex->St->Prop
 | .n,σ'=>k ⟨σ.fr,σ'.hp,σ'.n,σ.N,σ.gs⟩
 | .ret,σ'=>k ⟨σ.fr,σ'.hp,σ'.n,σ.N,σ.gs⟩
 | _,_=>False
def rcR (P:Program) (t:Nat) (l:List Ins) (c:SC) (N:Nat) (caps:List SV) (s:SV) (σ : St) (k:St->Prop):Prop :=
 Nat.ble caps.length N=true/\rx P Y0 l ⟨(t,s) :: Wu 0 caps,σ.hp,σ.n,N,[]⟩ (Zdb (fxS (fun σ' K=>sx P Y0 σ.n c σ' K) (rcK σ k)))
def ZzY (P:Program) (f:Nat->St->(Ex->St->Prop)->Prop) (rk:FuncId->List SV->Ex->St->Prop) (s:SV) (σ : St):Prop :=
 match s with
 | .cl g caps=>f σ.n σ (rk g caps)
 | _=>False
def rK (P:Program) (K:Ex->St->Prop) (g:FuncId) (caps:List SV):Ex->St->Prop
 | .n,σ=>∃ t l c N,RcF P g t l c N/\rcR P t l c N caps (.v .nilIface) σ (K .n)
 | .ret,σ=>∃ t l c N,RcF P g t l c N/\rcR P t l c N caps (.v .nilIface) σ (K .ret)
 | .pan s,σ=>∃ t l c N,RcF P g t l c N/\rcR P t l c N caps s σ (K .ret)
 | .ex _,_=>False
def fx (P:Program):Nat->FB->St->(Ex->St->Prop)->Prop
 | m,.tail c,σ,K=>sx P Y0 m c σ K
 | m,.seq a b,σ,K=>sx P Y0 m a σ (fxS (fx P m b) K)
 | _,.dfr ops mx kx t b,σ,K=>rx P Y0 ops σ (Zdb (fxS (fun σ K=>Zy4 P t (fun n=>fx P n b) (mpO (rdG none σ.fr mx)) (vO (rdG none σ.fr kx)) σ K) K))
 | _,.rcv ops cx b,σ,K=>rx P Y0 ops σ (Zdb (fxS (fun σ K=>ZzY P (fun n=>fx P n b) (rK P K) (rdG none σ.fr cx) σ) K))
theorem ZvN (P:Program) (m:Nat) (c:SC) (σ : St) (K:Ex->St->Prop):fx P m (.tail c) σ K=sx P Y0 m c σ K:=rfl
theorem Zyr (P:Program) (m:Nat) (a:SC) (b:FB) (σ : St) (K:Ex->St->Prop):fx P m (.seq a b) σ K=sx P Y0 m a σ (fxS (fx P m b) K):=rfl
theorem Zzm (P:Program) (m:Nat) (ops:List Ins) (mx kx:X) (t:TypeId) (b:FB) (σ : St) (K:Ex->St->Prop):fx P m (.dfr ops mx kx t b) σ K=rx P Y0 ops σ (Zdb (fxS (fun σ K=>Zy4 P t (fun n=>fx P n b) (mpO (rdG none σ.fr mx)) (vO (rdG none σ.fr kx)) σ K) K)):=rfl
theorem Zze (P:Program) (m:Nat) (ops:List Ins) (cx:X) (b:FB) (σ : St) (K:Ex->St->Prop):fx P m (.rcv ops cx b) σ K=rx P Y0 ops σ (Zdb (fxS (fun σ K=>ZzY P (fun n=>fx P n b) (rK P K) (rdG none σ.fr cx) σ) K)):=rfl
theorem Zv0 (P:Program) (f:Nat->St->(Ex->St->Prop)->Prop) (rk:FuncId->List SV->Ex->St->Prop) (g:FuncId) (caps:List SV) (σ : St):ZzY P f rk (.cl g caps) σ = f σ.n σ (rk g caps):=rfl
theorem rK_n (P:Program) (K:Ex->St->Prop) (g:FuncId) (caps:List SV) (σ : St):rK P K g caps .n σ = ∃ t l c N,RcF P g t l c N/\rcR P t l c N caps (.v .nilIface) σ (K .n):=rfl
theorem Zyp (P:Program) (K:Ex->St->Prop) (g:FuncId) (caps:List SV) (σ : St):rK P K g caps .ret σ = ∃ t l c N,RcF P g t l c N/\rcR P t l c N caps (.v .nilIface) σ (K .ret):=rfl
theorem ZzA (P:Program) (K:Ex->St->Prop) (g:FuncId) (caps:List SV) (s:SV) (σ : St):rK P K g caps (.pan s) σ = ∃ t l c N,RcF P g t l c N/\rcR P t l c N caps s σ (K .ret):=rfl
theorem e_rcR (P:Program) (t:Nat) (l:List Ins) (c:SC) (N:Nat) (caps:List SV) (s:SV) (σ : St) (k:St->Prop):rcR P t l c N caps s σ k=(Nat.ble caps.length N=true/\rx P Y0 l ⟨(t,s) :: Wu 0 caps,σ.hp,σ.n,N,[]⟩ (Zdb (fxS (fun σ' K=>sx P Y0 σ.n c σ' K) (rcK σ k)))):=rfl
theorem rcK_n (σ : St) (k:St->Prop) (σ':St):rcK σ k .n σ'=k ⟨σ.fr,σ'.hp,σ'.n,σ.N,σ.gs⟩:=rfl
theorem Zwk (σ : St) (k:St->Prop) (σ':St):rcK σ k .ret σ'=k ⟨σ.fr,σ'.hp,σ'.n,σ.N,σ.gs⟩:=rfl
attribute [go_sem] Zze Zv0 rK_n Zyp ZzA e_rcR rcK_n Zwk
theorem fxS_n (f:St->(Ex->St->Prop)->Prop) (K:Ex->St->Prop) (σ : St):fxS f K .n σ = f σ K:=rfl
theorem ZuL (f:St->(Ex->St->Prop)->Prop) (K:Ex->St->Prop) (σ : St):fxS f K .ret σ = K .ret σ:=rfl
theorem Zzp (P:Program) (t:TypeId) (f:Nat->St->(Ex->St->Prop)->Prop) (km:Nat) (kv:Value) (σ : St) (K:Ex->St->Prop):Zy4 P t f (some km) (some kv) σ K=(Nat.blt km σ.n=true/\f σ.n σ (dK P t km kv K)):=rfl
theorem Zyc (k:Nat):mpO (.mp k)=some k:=rfl
theorem vO_v (x:Value):vO (.v x)=some x:=rfl
theorem dK_n (P:Program) (t:TypeId) (km:Nat) (kv:Value) (K:Ex->St->Prop) (σ : St):dK P t km kv K .n σ = ∃ hb',Zxi P t kv (lkh km σ.hp) hb'/\K .n ⟨σ.fr,(km,hb') :: σ.hp,σ.n,σ.N,σ.gs⟩:=rfl
theorem ZyW (P:Program) (t:TypeId) (km:Nat) (kv:Value) (K:Ex->St->Prop) (σ : St):dK P t km kv K .ret σ = ∃ hb',Zxi P t kv (lkh km σ.hp) hb'/\K .ret ⟨σ.fr,(km,hb') :: σ.hp,σ.n,σ.N,σ.gs⟩:=rfl
attribute [go_sem] ZvN Zyr Zzm fxS_n ZuL Zzp Zyc vO_v dK_n ZyW
section
variable {P:Program}
theorem Zmk {C:Cx} {Y:Hd} (hY:Zfw P C Y) {ops:Array Oper} {Q:Exit->Act->World->Prop} {K:RK} {os2:List Oper} (hn:∀ σ E a w,K .n σ->Sim C E σ a w->UH C.rd P ops Q os2 a w)
 (hp:∀ s σ' E a w y,K (.pan s) σ'->Sim C E σ' a w->R w E (ltn σ'.n) (okS C E σ'.hp) s y->Q (.panic [{ v:=y,recovered:=false }]) a w):∀ (l:List Ins) (os:List Oper),Zax P ops l os=true ->
 ∀ (σ : St) E a w,rx P Y l σ K->Sim C E σ a w->UH C.rd P ops Q (os ++ os2) a w
 | [],[],_,σ,E,a,w,hr,h=>hn σ E a w hr h
 | io :: l,o :: os,hc,σ,E,a,w,hr,h=>by
  simp only [Zax,Bool.and_eq_true] at hc
  have ih:=Zmk hY hn hp l os hc.2
  exact Zck (next:=UH C.rd P ops Q (os ++ os2)) hc.1 hr h (fun σ' E' a' w' h1 h2=>ih σ' E' a' w' h1 h2) (fun s σ' E' w' y h1 h2 h3=>hp s σ' E' a w' y h1 h2 h3) hY
 | [],_ :: _,h,_,_,_,_,_,_=>by simp [Zax] at h
 | _ :: _,[],h,_,_,_,_,_,_=>by simp [Zax] at h
theorem ZwM {C:Cx} {E:Env} {σ : St} {a:Act} {w:World} (h:Sim C E σ a w) {t:TypeId} {km:Nat} {kv:Value} {hb':HB} {ats:Array TypeId} {ty:TypeId} {cc:Array Bool} (ha:ats[0]? = some t) (hd:Zxi P t kv (lkh km σ.hp) hb') :
 ∃ x w',(invoke (.builtin .delete ats ty cc) #[.map (some (E.β km)),kv]).run P w = .ok (.value x) w'/\Sim C E ⟨σ.fr,(km,hb') :: σ.hp,σ.n,σ.N,σ.gs⟩ a w'/\ZG w w' (okS C E σ.hp) (okS C E ((km,hb') :: σ.hp)):=by
 obtain ⟨K,V,_,key,val,sv,L,k,kt,et,c,hh,rfl,rfl,ht,hK⟩:=hd
 obtain ⟨g0,ys,g1,g2⟩:=Zav h hh
 have hfn:=fun w=>hK.fnd k _ _ w (Zbp g2)
 have hex:∀ w',(Builtin.delete_ ats ty #[.map (some (E.β km)),key k]).run P w = .ok (.tuple #[]) w'->(invoke (.builtin .delete ats ty cc) #[.map (some (E.β km)),key k]).run P w = .ok (.value (.tuple #[])) w':=fun w' hy=>by
  simp [invoke,builtin,hy]
 have hfin:∀ ys':Array MapEntry,(∀ {w':World} {ok':Nat->Prop},RM w' E (ltn σ.n) ok' (mpS key val L) ys.toList->RM w' E (ltn σ.n) ok' (mpS key val (Ux k L)) ys'.toList) ->
  Sim C E ⟨σ.fr,(km,.map (mpS key val (Ux k L)) c) :: σ.hp,σ.n,σ.N,σ.gs⟩ a (Uj w (E.β km) (.map ys' c))/\ZG w (Uj w (E.β km) (.map ys' c)) (okS C E σ.hp) (okS C E ((km,.map (mpS key val (Ux k L)) c) :: σ.hp)):=fun ys' hRM=>by
  obtain ⟨q1,q2⟩:=W4 (k:=km) (hb:=.map (mpS key val (Ux k L)) c) (o:=.map ys' c) h.hs (fun b=>by rw [hh];simp only [occ]) (fun b=>by simp only [occ]) (fun hlt hst=>by
   simp only [Yc]
   exact ⟨ys',X7 hlt,hRM (Za4 hst.c (fun _ _=>Ele.rfl) (fun _ h=>h) _ _ g2)⟩)
  exact ⟨YE h q2 (fun _ _=>Ele.rfl) (Nat.le_refl _) q1,q2⟩
 rcases Zci (w:=w) (E:=E) (n:=ltn σ.n) (ok:=okS C E σ.hp) k L ys.toList 0 g2 with ⟨a1,a2,a3,-⟩ | ⟨j,v0,e,b1,b2,b3,b4,b5,b6⟩
 . have hrun:(Builtin.delete_ ats ty #[.map (some (E.β km)),key k]).run P w = .ok (.tuple #[]) (Uj w (E.β km) (.map ys c)):=by
    simp [Builtin.delete_,Sem.run_bind,ha,run_underlying ht,Result.andThen_ok,Yq g1 rfl,Sem.run_pure,hK.chk,hfn,a2,Y2 _ g1 rfl]
   exact ⟨_,_,hex _ hrun,hfin _ fun h1=>by rw [a3];exact h1⟩
 . rw [Nat.zero_add] at b2
   have hlt:j < ys.size:=by
    have:ys[j]? = some e:=by simpa using b3
    exact (Array.getElem?_eq_some_iff.1 this).1
   have hrun:(Builtin.delete_ ats ty #[.map (some (E.β km)),key k]).run P w = .ok (.tuple #[]) (Uj w (E.β km) (.map (ys.eraseIdxIfInBounds j) c)):=by
    simp [Builtin.delete_,Sem.run_bind,ha,run_underlying ht,Result.andThen_ok,Yq g1 rfl,Sem.run_pure,hK.chk,hfn,b2,Y2 _ g1 rfl]
   exact ⟨_,_,hex _ hrun,hfin _ fun {w' ok'} h1=>by
    have:(ys.eraseIdxIfInBounds j).toList=ys.toList.eraseIdx j:=by simp [Array.eraseIdxIfInBounds,hlt]
    rw [this];exact (b6 h1).1⟩
theorem Zfb {C C':Cx} {E E':Env} {σ σ':St} {a a':Act} {w w':World} (h:Sim C E σ a w) (h':Sim C' E' σ' a' w') (c1:C'.w0=w) (c2:C'.okp=okS C E σ.hp) (c3:C'.pass=fun k b=>occ E k (lkh k σ.hp) b) (c4:C'.e0=E) (c5:C'.m0 = σ.n) (hm:C.m0<=σ.n) :
 Sim { C with ds:=a'.defers } E' σ' a' w':=by
 have hok:∀ b,okS C' E' σ'.hp b->okS C E' σ'.hp b:=fun b hb=>by
  obtain ⟨g1,g2⟩:=hb
  refine ⟨?_,g2⟩
  rw [c1,c2] at g1
  rcases g1 with g1 | g1
  . exact g1.1
  . exact .inr (Nat.le_trans h.hs.kp.size g1)
 have hst:YX w' w' (okS C' E' σ'.hp) (okS C E' σ'.hp):=fun b hb _=>⟨hok b hb,rfl⟩
 refine ⟨fun t=>?_,h'.sz,Zaq,h'.gs,⟨h'.hs.kn,fun k=>?_,h'.hs.dj,fun k b ho=>?_,⟨?_,?_,?_,?_,fun b h1 h2=>?_⟩,fun k hk=>?_⟩⟩
 . have:=h'.fr t
   cases hq:lk t σ'.fr<;>rw [hq] at this<;>try exact ZS hst (fun _ _=>Ele.rfl) (fun _ h=>h) _ _ this
   exact ⟨fun hg=>ZS hst (fun _ _=>Ele.rfl) (fun _ h=>h) _ _ (this.1 hg),this.2⟩
 . refine XV hst (fun _ _=>Ele.rfl) (fun _ h=>h) ?_ (fun b ho=>rfl) rfl (h'.hs.bk k)
   rcases Classical.em (ltn σ'.n k) with hk | hk
   . exact .inr hk
   . exact .inl (h'.hs.kn k hk)
 . rcases h'.hs.lo k b ho with g | g
   . rw [c1] at g;exact .inl (Nat.le_trans h.hs.kp.size g)
   . rw [c3] at g;exact h.hs.lo k b g
 . have:=h'.hs.kp.os;rw [c1] at this;exact this.trans h.hs.kp.os
 . have:=h'.hs.kp.tape;rw [c1] at this;exact this.trans h.hs.kp.tape
 . have:=h'.hs.kp.output;rw [c1] at this;exact this.trans h.hs.kp.output
 . have:=h'.hs.kp.size;rw [c1] at this;exact Nat.le_trans h.hs.kp.size this
 . have h1':b < C.w0.heap.size:=h1
   have h2':∀ k,¬ C.pass k b:=h2
   have hb:=h'.hs.kp.block b (by rw [c1];exact Nat.lt_of_lt_of_le h1' h.hs.kp.size) (fun k hk=>by
    rw [c3] at hk
    rcases h.hs.lo k b hk with g | g
    . exact absurd h1' (Nat.not_lt.2 g)
    . exact h2' k g)
   rw [c1] at hb
   exact hb.trans (h.hs.kp.block b h1' h2')
 . have hk':k < C.m0:=hk
   have p1:=h.hs.pin k hk'
   have p2:=h'.hs.pin k (by rw [c5];exact Nat.lt_of_lt_of_le hk' hm)
   rw [c4] at p2
   exact ⟨p2.1,p1.2.trans p2.2⟩
theorem We {fn:Func} {R':Ending->World->Prop} {C:Cx} {K:Ex->St->Prop}
 (hK:∀ e σ',K e σ'->∀ (C':Cx) E' a' w',C'.w0=C.w0->C'.okp=C.okp->C'.pass=C.pass->C'.e0=C.e0->C'.m0=C.m0->Sim C' E' σ' a' w'->match e with
  | .n | .ret=>Lv P fn a'.tmps R' C.ds .returning w'
  | .ex _=>False
  | .pan s=>∀ y,R w' E' (ltn σ'.n) (okS C' E' σ'.hp) s y->Lv P fn a'.tmps R' C.ds (.panicking [{ v:=y,recovered:=false }]) w')
 (e:Ex) (σ':St) (hk:K e σ') (E':Env) (a':Act) (w':World) (hs:Sim C E' σ' a' w'):ExQ C (Yy P fn R') e σ' E' a' w':=by
 obtain ⟨ms,d1,d2,d3⟩:=hs.df
 have key:=hK e σ' hk
 cases e with
 | ex i=>exact (key C E' a' w' rfl rfl rfl rfl rfl hs).elim
 | n =>
  show Lv P fn a'.tmps R' a'.defers .returning w'
  rw [d1]
  refine XO ms _ _ (by simp) d2.1 (fun m hm=>(d3 m hm).2.2) fun w'' hu=>?_
  exact key { C with ds:=a'.defers } E' a' w'' rfl rfl rfl rfl rfl (Ws hs d3 hu)
 | ret =>
  show Lv P fn a'.tmps R' a'.defers .returning w'
  rw [d1]
  refine XO ms _ _ (by simp) d2.1 (fun m hm=>(d3 m hm).2.2) fun w'' hu=>?_
  exact key { C with ds:=a'.defers } E' a' w'' rfl rfl rfl rfl rfl (Ws hs d3 hu)
 | pan s =>
  intro y hy
  show Lv P fn a'.tmps R' a'.defers (.panicking _) w'
  rw [d1]
  refine XO ms _ _ (by simp) d2.1 (fun m hm=>(d3 m hm).2.2) fun w'' hu=>?_
  have hst:YX w' w'' (okS C E' σ'.hp) (okS C E' σ'.hp):=fun b hb q=>⟨hb,hu.other b fun hm'=>by rcases q with ⟨cs,T,fz,e⟩ | ⟨es,c,e⟩<;>(rw [(d3 b hm').2.2] at e;cases e)⟩
  exact key { C with ds:=a'.defers } E' a' w'' rfl rfl rfl rfl rfl (Ws hs d3 hu) y (ZS hst (fun _ _=>Ele.rfl) (fun _ h=>h) _ _ hy)
theorem Zk6 {C:Cx} {E:Env} {σ : St} {a:Act} {w:World} (h:Sim C E σ a w) (ds:List Deferred):Sim ⟨w,okS C E σ.hp,fun k b=>occ E k (lkh k σ.hp) b,ds,none,E,σ.n⟩ E σ { a with defers:=ds } w:=by
 have hst:YX w w (okS C E σ.hp) (okS ⟨w,okS C E σ.hp,fun k b=>occ E k (lkh k σ.hp) b,ds,none,E,σ.n⟩ E σ.hp):=fun b hb _=>⟨⟨.inl hb,hb.2⟩,rfl⟩
 refine ⟨fun t=>?_,h.sz,Zaq,h.gs,⟨h.hs.kn,fun k=>?_,h.hs.dj,fun k b ho=>.inr ho,⟨rfl,rfl,rfl,Nat.le_refl _,fun _ _ _=>rfl⟩,fun k hk=>⟨hk,Ele.rfl⟩⟩⟩
 . have:=h.fr t
   show FR w E (ltn σ.n) _ σ.fr (lk t σ.fr) (a.tmps.getD t undef)
   cases hq:lk t σ.fr<;>rw [hq] at this<;>try exact ZS hst (fun _ _=>Ele.rfl) (fun _ h=>h) _ _ this
   exact ⟨fun hg=>ZS hst (fun _ _=>Ele.rfl) (fun _ h=>h) _ _ (this.1 hg),this.2⟩
 . refine XV hst (fun _ _=>Ele.rfl) (fun _ h=>h) ?_ (fun b ho=>rfl) rfl (h.hs.bk k)
   rcases Classical.em (ltn σ.n k) with hk | hk
   . exact .inr hk
   . exact .inl (h.hs.kn k hk)
def ZAy (v:Value) (u u':FrameMode):Prop:=(u = .returning/\v = .nilIface/\u' = .returning)\/(u = .panicking [{ v:=v,recovered:=false }]/\u' = .panicking [{ v:=v,recovered:=true }])
theorem Zql {b c₀:Frame} {a:Act} {k:List Item} {cs:List Frame} {w:World} {os:Array Oper} {o:Oper} {rest:List Nat} {t:Nat} {v:Value} {u u':FrameMode} (hb:b.kind = .deferred) (h0:os[0]? = some o) (hr:ZpV t o=true)
 (hc:c₀.mode=u) (hu:ZAy v u u'):step P (lone (b.at a (.inRegion os (0 :: rest) :: k)) (c₀ :: cs) w) = .next (lone (b.at (a.put (some t) v) (.inRegion os rest :: k)) ({ c₀ with mode:=u' } :: cs) w):=by
 obtain ⟨dst,op,ty,pos,after,guard⟩:=o
 unfold ZpV at hr
 split at hr
 case h_2=>cases hr
 rename_i c x e1 e2 e3
 simp only at e1 e2 e3
 subst e1;subst e2;subst e3
 simp only [Bool.and_eq_true,beq_iff_eq] at hr
 obtain ⟨⟨rfl,hr1⟩,hr2⟩:=hr
 split at hr1
 case h_2=>cases hr1
 rename_i hcal
 have hw:Region.wanted (⟨some x,.call c,ty,pos,after,none⟩:Oper) (yielded os a.tmps)=true:=rfl
 have hg:=stepG_op (P:=P) (b:=b) (k:=k) (cs:=c₀ :: cs) (w:=w) (rest:=rest) h0 hw
 have hfin:∀ v,(b.at a (.inRegion os (0 :: rest) :: k)).finish v=b.at (a.put (some x) v) (.inRegion os rest :: k):=by
  intro v;rw [Frame.finish_at,h0];rfl
 have hrun:(execOp a.eval (⟨some x,.call c,ty,pos,after,none⟩:Oper)).run P w = .ok .recover w:=by
  simp [execOp,resolve,hcal,invoke,builtin,Sem.run_bind,Sem.run_pure]
 have hk:(b.at a (.inRegion os (0 :: rest) :: k)).kind = .deferred:=hb
 have htr:=tryRecover_deferred hk (c₀ :: cs)
 refine step_lone_go ?_
 rw [hg,<- hfin]
 rcases hu with ⟨rfl,rfl,rfl⟩ | ⟨rfl,rfl⟩
 . have hrd:recoverD (c₀ :: cs)=none:=by simp [recoverD,hc]
   have hcc:({ c₀ with mode:=.returning }:Frame)=c₀:=by rw [<- hc]
   simp only [Frame.at] at htr ⊢
   simp [stepG.apply,hrun,htr,hrd,hcc]
 . have hrd:recoverD (c₀ :: cs)=some (v,{ c₀ with mode:=.panicking [{ v:=v,recovered:=true }] } :: cs):=by simp [recoverD,hc]
   simp only [Frame.at] at htr ⊢
   simp [stepG.apply,hrun,htr,hrd]
theorem Zss {fr:Frame} {cs:List Frame}:∀ (ms:List Nat) (w:World),fr.mode≠.run->fr.defers=ms.map Zdj->ms.Nodup->(∀ m ∈ ms,w.heap[m]? = some (.deferred (some []))) ->
 ∃ w',Unm ms w w'/\Steps P (lone fr cs w) (lone { fr with defers:=[] } cs w')
 | [],w,_,hd,_,_=>⟨w,Unm.refl w,by rw [show ({ fr with defers:=[] }:Frame)=fr by rw [<- show fr.defers=[] from hd]];exact Steps.refl P _⟩
 | m :: ms,w,hm,hd,hnd,hh=>by
  rw [List.nodup_cons] at hnd
  have hm0:=hh m (by simp)
  have hlt:=(Array.getElem?_eq_some_iff.1 hm0).1
  have h1:step P (lone fr cs w) = .next (lone { fr with defers:=ms.map Zdj } cs (Uj w m (.deferred none))) :=
   V3 hm hd rfl (by simp only [Instr.takeDeferred,Sem.run_bind,Yq hm0 rfl,Result.andThen_ok,Y2 _ hm0 rfl,Sem.run_pure])
  obtain ⟨w',g1,g2⟩:=Zss (fr:={ fr with defers:=ms.map Zdj }) (cs:=cs) ms (Uj w m (.deferred none)) hm rfl hnd.2 (fun k hk=>by
   rw [WC (by rintro rfl;exact hnd.1 hk)];exact hh k (by simp [hk]))
  refine ⟨w',⟨g1.os,g1.tape,g1.output,by rw [g1.size,ZbH],fun b hb=>?_⟩,.head h1 g2⟩
  rw [List.mem_cons,not_or] at hb
  rw [g1.other b hb.2];exact WC hb.1
theorem Zmd {g:FuncId} {fn:Func} {id:Nat} {os:Array Oper} {y0:Code} {o1:Oper} {t:Nat} {args:Array Value} {w:World} {u u':FrameMode} {v:Value} {R:Ending->FrameMode->World->Prop} {Q:Exit->Act->World->Prop}
 (hf:P.funcs[g]? = some fn) (hb:fn.body=some (.seq (.region id os false) y0)) (h0:os[0]? = some o1) (hrec:ZpV t o1=true) (hu:ZAy v u u')
 (h:UH none P os (Exit.then (wpX none P y0 Q) Q) (os.toList.drop 1) (({ tmps:=args ++ Array.replicate (fn.ntmps - args.size) undef,defers:=[] }:Act).put (some t) v) w)
 (hQ:∀ e a w,Q e a w->(e = .normal\/e = .ret)/\∃ ms:List Nat,a.defers=ms.map Zdj/\ms.Nodup/\(∀ m ∈ ms,w.heap[m]? = some (.deferred (some [])))/\∀ w',Unm ms w w'->∃ val,(results fn a.tmps).run P w' = .ok val w'/\R (.returned val) u' w') :
 CallsD P g args u w R:=by
 intro c₀ cs hc
 let b:Frame:={ (default:Frame) with fn:=g,kind:=.deferred }
 let a0:Act:={ tmps:=args ++ Array.replicate (fn.ntmps - args.size) undef,defers:=[] }
 have henter:Frame.enter P g args .deferred=b.at a0 [.code (.seq (.region id os false) y0)]:=by
  simp [Frame.enter,Frame.at,hf,hb,b,a0]
 have hsz:0 < os.size:=(Array.getElem?_eq_some_iff.1 h0).1
 have hrange:List.range os.size=0 :: List.range' 1 (os.size - 1):=by
  rw [List.range_eq_range',show os.size=(os.size - 1)+1 from by omega,List.range'_succ];simp
 have h1:=ZbU (r:=none) (P:=P) (ops:=os) (os.toList.drop 1) 1 (fun j hj=>by simp [List.getElem?_drop,Nat.add_comm]) _ w h
 rw [List.length_drop,Array.length_toList] at h1
 obtain ⟨e,a1,w1,q,s⟩:=ZaS _ _ w h1 b [.code y0] ({ c₀ with mode:=u' } :: cs) rfl (by simp [b,hf])
 have s:=(arrivesIn_iff (b:=b) (fun _ _=>steps_iff.symm) rfl).1 s
 rw [Frame.atR_of_none (b:=b) rfl] at s
 have hpre:Steps P (lone (Frame.enter P g args .deferred) (c₀ :: cs) w) (lone (b.at (a0.put (some t) v) (.inRegion os (List.range' 1 (os.size - 1)) :: [.code y0])) ({ c₀ with mode:=u' } :: cs) w):=by
  rw [henter]
  refine .head step_seq (.head step_region ?_)
  rw [hrange]
  exact .one (Zql rfl h0 hrec hc hu)
 have fin:∀ (e:Exit) (a:Act) (w2:World) (todo:List Item),Q e a w2->Steps P (lone (Frame.enter P g args .deferred) (c₀ :: cs) w) (lone ({ b.at a todo with mode:=.returning }:Frame) ({ c₀ with mode:=u' } :: cs) w2) ->
  ∃ e u'' w' fr,R e u'' w'/\Comes P (lone (Frame.enter P g args .deferred) (c₀ :: cs) w) (lone fr ({ c₀ with mode:=u'' } :: cs) w') e/\fr.kind = .deferred/\fr.going P w' e:=fun e a w2 todo hq hs=>by
  obtain ⟨_,ms,d1,d2,d3,d4⟩:=hQ e a w2 hq
  obtain ⟨w3,g1,g2⟩:=Zss (P:=P) (fr:={ b.at a todo with mode:=.returning }) (cs:={ c₀ with mode:=u' } :: cs) ms w2 (by simp) d1 d2 d3
  obtain ⟨val,hr,hR⟩:=d4 w3 g1
  exact ⟨.returned val,u',w3,_,hR,Steps.trans hs g2,rfl,rfl,rfl,fn,hf,hr⟩
 have tl:∀ (a:Act) (w2:World),wpX none P y0 Q a w2->Steps P (lone (Frame.enter P g args .deferred) (c₀ :: cs) w) (lone (b.at a [.code y0]) ({ c₀ with mode:=u' } :: cs) w2) ->
  ∃ e u'' w' fr,R e u'' w'/\Comes P (lone (Frame.enter P g args .deferred) (c₀ :: cs) w) (lone fr ({ c₀ with mode:=u'' } :: cs) w') e/\fr.kind = .deferred/\fr.going P w' e:=fun a w2 hy hs=>by
  obtain ⟨e2,a2,w3,q2,s2⟩:=hy b [] ({ c₀ with mode:=u' } :: cs) rfl (by simp [b,hf])
  have s2:=(arrivesIn_iff (b:=b) (fun _ _=>steps_iff.symm) rfl).1 s2
  rw [Frame.atR_of_none (b:=b) rfl] at s2
  rcases (hQ e2 a2 w3 q2).1 with rfl | rfl
  . exact fin _ a2 w3 [] q2 (Steps.trans hs (Steps.trans s2 (.one step_end)))
  . obtain ⟨todo,s3⟩:=s2
    exact fin _ a2 w3 todo q2 (Steps.trans hs s3)
 cases e with
 | normal=>exact tl a1 w1 q (Steps.trans hpre s)
 | ret =>
  obtain ⟨todo,s3⟩:=s
  exact fin _ a1 w1 todo q (Steps.trans hpre s3)
 | panic chain=>rcases (hQ _ a1 w1 q).1 with h | h<;>cases h
 | exit id=>rcases (hQ _ a1 w1 q).1 with h | h<;>cases h
 | goto l=>rcases (hQ _ a1 w1 q).1 with h | h<;>cases h
 | outgrown=>rcases (hQ _ a1 w1 q).1 with h | h<;>cases h
theorem ZjE {C:Cx} {E:Env} {hp0:List (Nat × HB)} {n0 N:Nat} {args:List SV} {vs:List Value} {w:World} (hN:args.length<=N) (hds:C.ds=[]) (hH:HSim C E hp0 (ltn n0) w) (hR:RL w E (ltn n0) (okS C E hp0) args vs) :
 Sim C E ⟨Wu 0 args,hp0,n0,N,[]⟩ { tmps:=vs.toArray ++ Array.replicate (N - vs.toArray.size) undef,defers:=[] } w:=by
 have hlen:=ZH hR
 have hng:∀ t j b s,lk t (Wu 0 args)≠.gd j b s:=by
  intro t j b s ht
  simp only [Ug,Nat.zero_le,if_true,Nat.sub_zero] at ht
  by_cases htl:t < args.length
  . have e1:args.getD t .any=args[t]:=by simp [htl]
    obtain ⟨y,h1,h2⟩:=VG hR (List.getElem?_eq_getElem htl)
    rw [e1] at ht;rw [ht] at h2;simp only [R] at h2
  . have e1:args.getD t .any = .any:=by simp [List.getElem?_eq_none (Nat.le_of_not_lt htl)]
    rw [e1] at ht;cases ht
 refine ⟨fun t=>?_,by simp;omega,by rw [<- hds];exact Zaq,fun t j b s ht=>absurd ht (hng t j b s),hH⟩
 have hng:=hng t
 have hFR:R w E (ltn n0) (okS C E hp0) (lk t (Wu 0 args)) ((vs.toArray ++ Array.replicate (N - vs.toArray.size) undef).getD t undef):=by
  simp only [Ug,Nat.zero_le,if_true,Nat.sub_zero]
  by_cases ht:t < args.length
  . have e1:args.getD t .any=args[t]:=by simp [ht]
    obtain ⟨y,h1,h2⟩:=VG hR (List.getElem?_eq_getElem ht)
    have e2:(vs.toArray ++ Array.replicate (N - vs.toArray.size) undef).getD t undef=y:=by
     have:t < vs.length:=by omega
     have h1':=(List.getElem?_eq_some_iff.1 h1).2
     simp [Array.getElem?_append,this,h1']
    rw [e1,e2];exact h2
  . have e1:args.getD t .any = .any:=by simp [List.getElem?_eq_none (Nat.le_of_not_lt ht)]
    rw [e1];simp only [R]
 simp only
 cases hq:lk t (Wu 0 args)<;>rw [hq] at hFR hng<;>first | exact hFR | exact absurd rfl (hng _ _ _)
theorem Zyf {g:FuncId} {t N:Nat} {l:List Ins} {c:SC} (hF:RcF P g t l c N) {C:Cx} {E:Env} {σ : St} {a:Act} {w:World} (hS:Sim C E σ a w) (hm:C.m0<=σ.n) {caps:List SV} {vs:List Value} (hR:RL w E (ltn σ.n) (okS C E σ.hp) caps vs)
 {s:SV} {v:Value} (hv:R w E (ltn σ.n) (okS C E σ.hp) s v) {k:St->Prop} (hrun:rcR P t l c N caps s σ k) {u u':FrameMode} (hu:ZAy v u u') {R':Ending->FrameMode->World->Prop}
 (hk:∀ hp' n' E' w',k ⟨σ.fr,hp',n',σ.N,σ.gs⟩->Sim C E' ⟨σ.fr,hp',n',σ.N,σ.gs⟩ a w'->R' (.returned (.tuple #[])) u' w'):CallsD P g vs.toArray u w R':=by
 obtain ⟨fn,id,os,y0,o1,f1,f2,f3,f4,f5,f6,f7,f8,f9⟩:=hF.ex
 obtain ⟨hcl,hrun⟩:=hrun
 have hcl:=Nat.le_of_ble_eq_true hcl
 let C2:Cx:=⟨w,okS C E σ.hp,fun k b=>occ E k (lkh k σ.hp) b,[],none,E,σ.n⟩
 have hst:YX w w (okS C E σ.hp) (okS C2 E σ.hp):=fun b hb _=>⟨⟨.inl hb,hb.2⟩,rfl⟩
 have hin:=Zk6 hS []
 have hR2:RL w E (ltn σ.n) (okS C2 E σ.hp) caps vs:=ZD hst (fun _ _=>Ele.rfl) (fun _ h=>h) _ _ hR
 have hv2:R w E (ltn σ.n) (okS C2 E σ.hp) s v:=ZS hst (fun _ _=>Ele.rfl) (fun _ h=>h) _ _ hv
 have h0:Sim C2 E ⟨Wu 0 caps,σ.hp,σ.n,N,[]⟩ { tmps:=vs.toArray ++ Array.replicate (N - vs.toArray.size) undef,defers:=[] } w:=ZjE hcl rfl hin.hs hR2
 have h1:Sim C2 E ⟨(t,s) :: Wu 0 caps,σ.hp,σ.n,N,[]⟩ (Act.put { tmps:=vs.toArray ++ Array.replicate (N - vs.toArray.size) undef,defers:=[] } (some t) v) w :=
  XX h0 (fun b hb _=>⟨hb,rfl⟩) (fun _ _=>Ele.rfl) (Nat.le_refl _) hin.hs (by simp) f8 (Uw hv) hv2
 let Q:Exit->Act->World->Prop:=fun e a2 w2=>(e = .normal\/e = .ret)/\∃ σ' E',k ⟨σ.fr,σ'.hp,σ'.n,σ.N,σ.gs⟩/\Sim C2 E' σ' a2 w2
 have hKQ:LkQ C2 (rcK σ k) Q:=fun e σ' hk' E' a' w' hs=>by
  cases e with
  | n=>exact ⟨.inl rfl,σ',E',hk',hs⟩
  | ret=>exact ⟨.inr rfl,σ',E',hk',hs⟩
  | ex i=>exact hk'.elim
  | pan s=>exact hk'.elim
 have hmc:MC C2 σ.n:=⟨Nat.le_refl _,fun j b ho=>by
  rcases Classical.em (ltn σ.n j) with hj | hj
  . exact hj
  . have ho':occ E j (lkh j σ.hp) b:=ho
    rw [hS.hs.kn j hj] at ho';exact ho'.elim⟩
 have hlist:=Zdy (P:=P) (C:=C2) (Y:=Y0) Za5 (ops:=os) (Q:=Exit.then (wpX none P y0 Q) Q) (K:=Zdb (fxS (fun σ' K=>sx P Y0 σ.n c σ' K) (rcK σ k))) (fun e σ' hk' E' a' w' hs0=>by
  have hs:=XC hs0
  cases e with
  | n =>
   have hwp:=YC c C2 Y0 σ.n y0 (V1 σ') (rcK σ k) Q E' a' w' hmc Za5 (.inl rfl) f6 hk' hKQ hs
   exact hwp
  | ret=>exact hKQ .ret _ hk' E' a' w' hs
  | ex i=>exact hk'.elim
  | pan s=>exact hk'.elim) l _ f5 _ E _ w hrun h1
 refine Zmd (u':=u') (v:=v) f1 f2 f3 f4 hu (Q:=Q) (by rw [f7];exact hlist) (fun e a2 w2 hq=>⟨hq.1,?_⟩)
 obtain ⟨_,σ',E',hk',hs'⟩:=hq
 obtain ⟨ms,d1,d2,d3⟩:=hs'.df
 refine ⟨ms,by rw [d1];simp [C2],d2.1,fun m hm'=>(d3 m hm').2.2,fun w3 hu3=>?_⟩
 refine ⟨.tuple #[],by simp [results,f9],?_⟩
 have hs3:=Ws hs' d3 hu3
 have hout:=Zfb hS hs3 rfl rfl rfl rfl rfl hm
 obtain ⟨g1,g2⟩:=Zfv (C:=C) hout.hs rfl rfl rfl rfl rfl
 have hpin:∀ j,j < σ.n->j < σ'.n/\Ele E E' j j:=fun j hj=>hs3.hs.pin j hj
 refine hk σ'.hp σ'.n E' w3 hk' (YE hS (fun b hb hsome=>?_) (fun j hj=>(hpin j hj).2) ?_ g1)
 . obtain ⟨b1,b2⟩:=hb
   have hlt:b < w.heap.size:=by
    rcases Nat.lt_or_ge b w.heap.size with q | q
    . exact q
    . rw [Array.getElem?_eq_none q] at hsome;cases hsome
   refine ⟨⟨b1,fun j ho=>?_⟩,?_⟩
   . rcases hs3.hs.lo j b ho with q | q
     . exact absurd hlt (Nat.not_lt.2 q)
     . exact b2 j q
   . exact hs3.hs.kp.block b hlt (fun j q=>b2 j q)
 . rcases Nat.lt_or_ge σ'.n σ.n with q | q
   . exact absurd (hpin σ'.n q).1 (Nat.lt_irrefl _)
   . exact q
theorem ZaP {fn:Func} {R':Ending->World->Prop}:∀ (b:FB) (C:Cx) (m:Nat) (code:Code) (σ : St) (K:Ex->St->Prop) (E:Env) (a:Act) (w:World),MC C m->C.rd=none->Zaz P b code=true->fx P m b σ K->Sim C E σ a w ->
 (∀ e σ',K e σ'->∀ (C':Cx) E' a' w',C'.w0=C.w0->C'.okp=C.okp->C'.pass=C.pass->C'.e0=C.e0->C'.m0=C.m0->Sim C' E' σ' a' w'->match e with
  | .n | .ret=>Lv P fn a'.tmps R' C.ds .returning w'
  | .ex _=>False
  | .pan s=>∀ y,R w' E' (ltn σ'.n) (okS C' E' σ'.hp) s y->Lv P fn a'.tmps R' C.ds (.panicking [{ v:=y,recovered:=false }]) w') ->
 wpX none P code (Yy P fn R') a w
 | .tail c,C,m,code,σ,K,E,a,w,hm,hrd,hc,h,hS,hK=>by
  have hwp:=YC c C Y0 m code σ K (Yy P fn R') E a w hm Za5 (.inl hrd) hc h (fun e σ' hk E' a' w' hs=>We hK e σ' hk E' a' w' hs) hS
  rw [hrd] at hwp;exact hwp
 | .seq x b,C,m,code,σ,K,E,a,w,hm,hrd,hc,h,hS,hK=>by
  cases code<;>simp [Zaz] at hc
  rename_i cx cy
  refine ZdF ?_
  have hwp:=YC x C Y0 m cx σ (fxS (fx P m b) K) (Exit.then (wpX none P cy (Yy P fn R')) (Yy P fn R')) E a w hm Za5 (.inl hrd) hc.1 h (fun e σ' hk E' a' w' hs=>?_) hS
  . rw [hrd] at hwp;exact hwp
  cases e with
  | n=>exact ZaP b C m cy σ' K E' a' w' hm hrd hc.2 hk hs hK
  | ex i=>exact hk.elim
  | ret=>exact We hK .ret σ' hk E' a' w' hs
  | pan s=>exact We hK (.pan s) σ' hk E' a' w' hs
 | .dfr ops mx kx t b,C,m,code,σ,K,E,a,w,hm,hrd,hc,h,hS,hK=>by
  unfold Zaz at hc
  split at hc
  case h_2=>cases hc
  rename_i id os cy
  simp only [Bool.and_eq_true] at hc
  obtain ⟨⟨hc1,hc2⟩,hc3⟩:=hc
  split at hc2
  case h_2=>cases hc2
  rename_i o ho
  have hos:os.toList=os.toList.take ops.length ++ [o]:=by rw [<- ho,List.take_append_drop]
  refine ZdF (X0 ?_)
  rw [hos,<- hrd]
  refine Zmk (C:=C) (Q:=Exit.then (wpX C.rd P cy (Yy P fn R')) (Yy P fn R')) (os2:=[o]) Za5 (K:=Zdb (fxS (fun σ K=>Zy4 P t (fun n=>fx P n b) (mpO (rdG none σ.fr mx)) (vO (rdG none σ.fr kx)) σ K) K)) (fun σ0 E1 a1 w1 hk0 hs0=>?_)
   (fun s σ' E' a' w' y hk hs hy=>We hK (.pan s) (V1 σ') hk E' a' w' (XC hs) y (by rw [ZfC,ZdK];exact hy)) ops _ hc1 σ E a w h hS
  have hs:=XC hs0
  simp only [Zdb,fxS] at hk0
  generalize V1 σ0 = σ1 at hs hk0
  obtain ⟨ms,d1,d2,d3⟩:=hs.df
  unfold Zy4 at hk0
  split at hk0
  case h_2=>exact hk0.elim
  rename_i km kv hkm hkv
  obtain ⟨hlt,hfx⟩:=hk0
  have hlt:=Nat.le_of_ble_eq_true hlt
  have hmv:a1.tmps=a1.tmps/\evX a1 mx = .map (some (E1.β km)):=by
   have hR:=YL hs.fr (g:=none) trivial mx
   cases hq:rdG none σ1.fr mx<;>rw [hq] at hkm<;>simp only [mpO,Option.some.injEq,reduceCtorEq] at hkm
   subst hkm
   rw [hq] at hR;simp only [R] at hR
   exact ⟨rfl,hR.2⟩
  have hkv':evX a1 kx=kv:=by
   have hR:=YL hs.fr (g:=none) trivial kx
   cases hq:rdG none σ1.fr kx<;>rw [hq] at hkv<;>simp only [vO,Option.some.injEq,reduceCtorEq] at hkv
   subst hkv
   rw [hq] at hR;simp only [R] at hR
   exact hR
  have hmn:C.m0<=σ1.n:=by
   rcases Nat.lt_or_ge σ1.n C.m0 with q | q
   . exact absurd (hs.hs.pin σ1.n q).1 (Nat.lt_irrefl _)
   . exact q
  unfold Zz0 at hc2
  split at hc2
  case h_2=>cases hc2
  rename_i c hop hdst hgd
  simp only [Bool.and_eq_true] at hc2
  obtain ⟨⟨e1,e2⟩,e3⟩:=hc2
  split at e1
  case h_2=>cases e1
  rename_i hcal
  split at e2
  case h_2=>cases e2
  rename_i om ok hargs
  simp only [Bool.and_eq_true] at e2
  split at e3
  case h_2=>cases e3
  rename_i u hu
  have hut:u=t:=by simpa using e3
  subst hut
  have hca:c.args = #[om,ok]:=by apply Array.toList_inj.1;rw [hargs]
  rw [hrd]
  simp only [UH,Region.wanted,hgd]
  simp only [if_true]
  have hrun:(o.semAt none a1.eval).run P w1 = .ok (.defer { target:=.builtin .delete c.argTypes o.type (c.args.map fun | .const _=>true | _=>false),args:=#[.map (some (E1.β km)),kv] }) w1:=by
   rw [Oper.semAt_none]
   obtain ⟨dst',op',ty',pos,after,guard⟩:=o
   simp only at hop;subst hop
   simp only [execOp,Sem.run_bind,resolve,hcal,Sem.run_pure,Result.andThen_ok,hca]
   simp only [List.map_toArray,List.map_cons,List.map_nil,Zi e2.1 a1,Zi e2.2 a1,hmv.2,hkv']
   cases om<;>cases ok<;>rfl
  show o.wpq none P a1 w1 _ _
  unfold Oper.wpq
  rw [hrun]
  simp only [Oper.uponX,hdst]
  show Exit.then _ _ .normal _ w1
  simp only [Exit.then]
  show wpX none P cy (Yy P fn R') { a1 with defers:=_ :: a1.defers } w1
  refine ZaP b _ σ1.n cy σ1 (dK P u km kv K) E1 _ w1 ⟨Nat.le_refl _,fun k b ho=>?_⟩ rfl hc3 hfx (Zk6 hs _) (fun e σ' hk C2 E' a' w' c1 c2 c3 c4 c5 hs'=>?_)
  . rcases Classical.em (ltn σ1.n k) with hk | hk
    . exact hk
    . have ho':occ E1 k (lkh k σ1.hp) b:=ho
      rw [hs.hs.kn k hk] at ho';exact ho'.elim
  have main:∀ (hb':HB),Zxi P u kv (lkh km σ'.hp) hb'->(∀ (C':Cx) E' a' w',C'.w0=C.w0->C'.okp=C.okp->C'.pass=C.pass->C'.e0=C.e0->C'.m0=C.m0->Sim C' E' ⟨σ'.fr,(km,hb') :: σ'.hp,σ'.n,σ'.N,σ'.gs⟩ a' w'->Lv P fn a'.tmps R' C.ds .returning w') ->
   Lv P fn a'.tmps R' ({ target:=.builtin .delete c.argTypes o.type (c.args.map fun | .const _=>true | _=>false),args:=#[.map (some (E1.β km)),kv] } :: a1.defers) .returning w':=fun hb' hdel hKK=>by
   obtain ⟨x,w2,hrun2,hs2,_⟩:=ZwM hs' (ty:=o.type) (cc:=c.args.map fun | .const _=>true | _=>false) hu hdel
   have hβ : E'.β km=E1.β km:=by
    have:=(hs'.hs.pin km (by rw [c5];exact hlt)).2.1
    rw [c4] at this;exact this
   rw [hβ] at hrun2
   refine ⟨by simp,.inr (.inl ⟨.delete,c.argTypes,o.type,_,w2,x,rfl,hrun2,?_⟩)⟩
   rw [d1]
   have hsim:=Zfb hs hs2 c1 c2 c3 c4 c5 hmn
   have hmark:∀ m ∈ ms,C.w0.heap.size<=m/\okS C E' ((km,hb') :: σ'.hp) m/\w2.heap[m]? = some (.deferred (some [])):=fun m hm=>by
    obtain ⟨p1,p2,p3⟩:=d3 m hm
    have hlt':m < w1.heap.size:=(Array.getElem?_eq_some_iff.1 p3).1
    have hnp:∀ k,¬ C2.pass k m:=fun k hk=>by rw [c3] at hk;exact p2.2 k hk
    refine ⟨p1,⟨p2.1,fun k ho=>?_⟩,?_⟩
    . rcases hs2.hs.lo k m ho with g | g
      . rw [c1] at g;exact absurd hlt' (Nat.not_lt.2 g)
      . exact hnp k g
    . have:=hs2.hs.kp.block m (by rw [c1];exact hlt') hnp
      rw [c1] at this;rw [this];exact p3
   refine XO ms _ _ (by simp) d2.1 (fun m hm=>(hmark m hm).2.2) fun w3 hu3=>?_
   exact hKK { C with ds:=a'.defers } E' a' w3 rfl rfl rfl rfl rfl (Ws (C:={ C with ds:=a'.defers }) hsim hmark hu3)
  cases e with
  | ex i=>exact hk.elim
  | pan s=>exact hk.elim
  | n =>
   obtain ⟨hb',h1,h2⟩:=hk
   exact main hb' h1 (fun C' E' a' w' q1 q2 q3 q4 q5 q6=>hK .n _ h2 C' E' a' w' q1 q2 q3 q4 q5 q6)
  | ret =>
   obtain ⟨hb',h1,h2⟩:=hk
   exact main hb' h1 (fun C' E' a' w' q1 q2 q3 q4 q5 q6=>hK .ret _ h2 C' E' a' w' q1 q2 q3 q4 q5 q6)
 | .rcv ops cx b,C,m,code,σ,K,E,a,w,hm,hrd,hc,h,hS,hK=>by
  unfold Zaz at hc
  split at hc
  case h_2=>cases hc
  rename_i id os cy
  simp only [Bool.and_eq_true] at hc
  obtain ⟨⟨hc1,hc2⟩,hc3⟩:=hc
  split at hc2
  case h_2=>cases hc2
  rename_i o ho
  have hos:os.toList=os.toList.take ops.length ++ [o]:=by rw [<- ho,List.take_append_drop]
  refine ZdF (X0 ?_)
  rw [hos,<- hrd]
  refine Zmk (C:=C) (Q:=Exit.then (wpX C.rd P cy (Yy P fn R')) (Yy P fn R')) (os2:=[o]) Za5 (K:=Zdb (fxS (fun σ K=>ZzY P (fun n=>fx P n b) (rK P K) (rdG none σ.fr cx) σ) K)) (fun σ0 E1 a1 w1 hk0 hs0=>?_)
   (fun s σ' E' a' w' y hk hs hy=>We hK (.pan s) (V1 σ') hk E' a' w' (XC hs) y (by rw [ZfC,ZdK];exact hy)) ops _ hc1 σ E a w h hS
  have hs:=XC hs0
  simp only [Zdb,fxS] at hk0
  generalize V1 σ0 = σ1 at hs hk0
  obtain ⟨ms,d1,d2,d3⟩:=hs.df
  unfold ZzY at hk0
  split at hk0
  case h_2=>exact hk0.elim
  rename_i g caps hcl
  have hRx:=YL hs.fr (g:=none) trivial cx
  rw [hcl] at hRx
  simp only [R] at hRx
  obtain ⟨cs,k1,k2⟩:=hRx
  have hmn:C.m0<=σ1.n:=by
   rcases Nat.lt_or_ge σ1.n C.m0 with q | q
   . exact absurd (hs.hs.pin σ1.n q).1 (Nat.lt_irrefl _)
   . exact q
  unfold ZsF at hc2
  split at hc2
  case h_2=>cases hc2
  rename_i cc hop hdst hgd
  simp only [Bool.and_eq_true] at hc2
  obtain ⟨e1,e2⟩:=hc2
  split at e1
  case h_2=>cases e1
  rename_i y hcal
  have hca:cc.args = #[]:=by simpa using e2
  rw [hrd]
  simp only [UH,Region.wanted,hgd]
  simp only [if_true]
  have hrun:(o.semAt none a1.eval).run P w1 = .ok (.defer { target:=.fn (.func g) cs,args:=#[] }) w1:=by
   rw [Oper.semAt_none]
   obtain ⟨dst',op',ty',pos,after,guard⟩:=o
   simp only at hop;subst hop
   simp [execOp,resolve,hcal,hca,Zi e1 a1,k1,Deferred.ofValue,Sem.run_bind,Sem.run_pure]
  show o.wpq none P a1 w1 _ _
  unfold Oper.wpq
  rw [hrun]
  simp only [Oper.uponX,hdst]
  show Exit.then _ _ .normal _ w1
  simp only [Exit.then]
  show wpX none P cy (Yy P fn R') { a1 with defers:=_ :: a1.defers } w1
  refine ZaP b _ σ1.n cy σ1 (rK P K g caps) E1 _ w1 ⟨Nat.le_refl _,fun k b ho=>?_⟩ rfl hc3 hk0 (Zk6 hs _) (fun e σ' hk C2 E' a' w' c1 c2 c3 c4 c5 hs'=>?_)
  . rcases Classical.em (ltn σ1.n k) with hk | hk
    . exact hk
    . have ho':occ E1 k (lkh k σ1.hp) b:=ho
      rw [hs.hs.kn k hk] at ho';exact ho'.elim
  have hpin:∀ j,j < σ1.n->j < σ'.n/\Ele E1 E' j j:=fun j hj=>by
   have:=hs'.hs.pin j (by rw [c5];exact hj)
   rw [c4] at this;exact this
  have hstC:YX w1 w' (okS C E1 σ1.hp) (okS C2 E' σ'.hp):=fun b hb q=>by
   have hlt:b < w1.heap.size:=by rcases q with ⟨cells,T,fz,hcell⟩ | ⟨es,c,hcell⟩<;>exact (Array.getElem?_eq_some_iff.1 hcell).1
   refine ⟨⟨.inl (by rw [c2];exact hb),fun j ho=>?_⟩,?_⟩
   . rcases hs'.hs.lo j b ho with q | q
     . rw [c1] at q;exact absurd hlt (Nat.not_lt.2 q)
     . rw [c3] at q;exact hb.2 j q
   . have:=hs'.hs.kp.block b (by rw [c1];exact hlt) (fun j q=>by rw [c3] at q;exact hb.2 j q)
     rw [c1] at this;exact this
  have hcaps:RL w' E' (ltn σ'.n) (okS C2 E' σ'.hp) caps cs.toList:=ZD hstC (fun j hj=>(hpin j hj).2) (fun j hj=>(hpin j hj).1) _ _ k2
  have fin:∀ (kk:St->Prop) (eK:Ex) (heK:eK = .n\/eK = .ret),(∀ σ,kk σ->K eK σ)->∀ hp' n' E3 w3,kk ⟨σ'.fr,hp',n',σ'.N,σ'.gs⟩->Sim C2 E3 ⟨σ'.fr,hp',n',σ'.N,σ'.gs⟩ a' w3->Lv P fn a'.tmps R' a1.defers .returning w3:=fun kk eK heK hkk hp' n' E3 w3 hq hs2=>by
   rw [d1]
   have hsim:=Zfb hs hs2 c1 c2 c3 c4 c5 hmn
   have hmark:∀ m ∈ ms,C.w0.heap.size<=m/\okS C E3 hp' m/\w3.heap[m]? = some (.deferred (some [])):=fun m hm=>by
    obtain ⟨p1,p2,p3⟩:=d3 m hm
    have hlt':m < w1.heap.size:=(Array.getElem?_eq_some_iff.1 p3).1
    have hnp:∀ k,¬ C2.pass k m:=fun k hk=>by rw [c3] at hk;exact p2.2 k hk
    refine ⟨p1,⟨p2.1,fun k ho=>?_⟩,?_⟩
    . rcases hs2.hs.lo k m ho with g | g
      . rw [c1] at g;exact absurd hlt' (Nat.not_lt.2 g)
      . exact hnp k g
    . have:=hs2.hs.kp.block m (by rw [c1];exact hlt') hnp
      rw [c1] at this;rw [this];exact p3
   refine XO ms _ _ (by simp) d2.1 (fun m hm=>(hmark m hm).2.2) fun w4 hu4=>?_
   rcases heK with rfl | rfl
   . exact hK .n _ (hkk _ hq) { C with ds:=a'.defers } E3 a' w4 rfl rfl rfl rfl rfl (Ws (C:={ C with ds:=a'.defers }) hsim hmark hu4)
   . exact hK .ret _ (hkk _ hq) { C with ds:=a'.defers } E3 a' w4 rfl rfl rfl rfl rfl (Ws (C:={ C with ds:=a'.defers }) hsim hmark hu4)
  have hm2:C2.m0<=σ'.n:=by
   rw [c5]
   rcases Nat.lt_or_ge σ'.n σ1.n with q | q
   . exact absurd (hpin σ'.n q).1 (Nat.lt_irrefl _)
   . exact q
  have main:∀ (s:SV) (v:Value) (u u':FrameMode) (eK:Ex),(eK = .n\/eK = .ret)->R w' E' (ltn σ'.n) (okS C2 E' σ'.hp) s v->ZAy v u u'->(∃ t l c N,RcF P g t l c N/\rcR P t l c N caps s σ' (K eK)) ->
   Lv P fn a'.tmps R' ({ target:=.fn (.func g) cs,args:=#[] } :: a1.defers) u w':=fun s v u u' eK heK hv hu hex=>by
   obtain ⟨t,l,c,N,hF,hrun⟩:=hex
   have hset:u≠.run/\settle u' = .returning:=by
    rcases hu with ⟨rfl,rfl,rfl⟩ | ⟨rfl,rfl⟩
    . exact ⟨by simp,rfl⟩
    . exact ⟨by simp,rfl⟩
   refine ⟨hset.1,.inr (.inr ⟨.func g,cs,g,cs,rfl,by simp [invoke,Y9 hF.bd],?_⟩)⟩
   have hcalls:=Zyf hF hs' hm2 hcaps hv hrun hu (R':=fun e u'' w''=>match e with
    | .returned _=>Lv P fn a'.tmps R' a1.defers (settle u'') w''
    | .panicked chain=>Lv P fn a'.tmps R' a1.defers (raised u'' chain) w''
    | .outgrown=>R' .outgrown w'') (fun hp' n' E3 w3 hq hs3=>by
    show Lv P fn a'.tmps R' a1.defers (settle u') w3
    rw [hset.2]
    exact fin (K eK) eK heK (fun _ h=>h) hp' n' E3 w3 hq hs3)
   rw [show cs.toList.toArray=cs from rfl] at hcalls
   intro c₀ cs0 hc0
   obtain ⟨e2,u2,w2,fr2,q1,q2,q3,q4⟩:=hcalls c₀ cs0 hc0
   refine ⟨e2,u2,w2,fr2,?_,q2,q3,q4⟩
   cases e2<;>exact q1
  cases e with
  | ex i=>exact hk.elim
  | n=>exact main _ _ _ _ .n (.inl rfl) (by simp only [R]) (.inl ⟨rfl,rfl,rfl⟩) hk
  | ret=>exact main _ _ _ _ .ret (.inr rfl) (by simp only [R]) (.inl ⟨rfl,rfl,rfl⟩) hk
  | pan s=>intro y hy;exact main s y _ _ .ret (.inr rfl) hy (.inr ⟨rfl,rfl⟩) hk
theorem ZfI {f:FuncId} {fn:Func} {code:Code} {fb:FB} {args:List SV} {N n0 m:Nat} {hp0:List (Nat × HB)} {C:Cx} {E:Env} {w:World} {vs:List Value} {K:Ex->St->Prop} {R':Ending->World->Prop}
 (hf:P.funcs[f]? = some fn) (hb:fn.body=some code) (hc:Zaz P fb code=true) (hN:fn.ntmps=N) (hA:args.length<=N) (hds:C.ds=[]) (hrd:C.rd=none) (hm:MC C m)
 (hH:HSim C E hp0 (ltn n0) w) (hR:RL w E (ltn n0) (okS C E hp0) args vs) (h:fx P m fb ⟨Wu 0 args,hp0,n0,N,[]⟩ K)
 (hK:∀ e σ,K e σ->∀ C' E a w',C'.w0=C.w0->C'.okp=C.okp->C'.pass=C.pass->C'.e0=C.e0->C'.m0=C.m0->Sim C' E σ a w'->match e with
  | .n | .ret=>∃ v,(results fn a.tmps).run P w' = .ok v w'/\R' (.returned v) w'
  | .ex _=>False
  | .pan s=>∀ y,R w' E (ltn σ.n) (okS C' E σ.hp) s y->R' (.panicked [{ v:=y,recovered:=false }]) w'):Calls P f vs.toArray w R':=by
 have hlen:=ZH hR
 have hng:∀ t j b s,lk t (Wu 0 args)≠.gd j b s:=by
  intro t j b s ht
  simp only [Ug,Nat.zero_le,if_true,Nat.sub_zero] at ht
  by_cases htl:t < args.length
  . have e1:args.getD t .any=args[t]:=by simp [htl]
    obtain ⟨y,h1,h2⟩:=VG hR (List.getElem?_eq_getElem htl)
    rw [e1] at ht;rw [ht] at h2;simp only [R] at h2
  . have e1:args.getD t .any = .any:=by simp [List.getElem?_eq_none (Nat.le_of_not_lt htl)]
    rw [e1] at ht;cases ht
 have hS:Sim C E ⟨Wu 0 args,hp0,n0,N,[]⟩ { tmps:=vs.toArray ++ Array.replicate (fn.ntmps - vs.toArray.size) undef,defers:=[] } w:=by
  refine ⟨fun t=>?_,by simp [hN];omega,by rw [<- hds];exact Zaq,fun t j b s ht=>absurd ht (hng t j b s),hH⟩
  have hng:=hng t
  have hFR:R w E (ltn n0) (okS C E hp0) (lk t (Wu 0 args)) ((vs.toArray ++ Array.replicate (fn.ntmps - vs.toArray.size) undef).getD t undef):=by
   simp only [Ug,Nat.zero_le,if_true,Nat.sub_zero]
   by_cases ht:t < args.length
   . have e1:args.getD t .any=args[t]:=by simp [ht]
     obtain ⟨y,h1,h2⟩:=VG hR (List.getElem?_eq_getElem ht)
     have e2:(vs.toArray ++ Array.replicate (fn.ntmps - vs.toArray.size) undef).getD t undef=y:=by
      have:t < vs.length:=by omega
      have h1':=(List.getElem?_eq_some_iff.1 h1).2
      simp [Array.getElem?_append,this,h1']
     rw [e1,e2];exact h2
   . have e1:args.getD t .any = .any:=by simp [List.getElem?_eq_none (Nat.le_of_not_lt ht)]
     rw [e1];simp only [R]
  simp only
  cases hq:lk t (Wu 0 args)<;>rw [hq] at hFR hng<;>first | exact hFR | exact absurd rfl (hng _ _ _)
 refine V5 hf hb ?_
 refine ZaP fb C m code _ K E _ w hm hrd hc h hS (fun e σ hk C' E a w' c1 c2 c3 c4 c5 hs=>?_)
 have key:=hK e σ hk C' E a w' c1 c2 c3 c4 c5 hs
 rw [hds]
 cases e with
 | ex i=>exact key
 | n=>exact key
 | ret=>exact key
 | pan s=>exact key
theorem Zhy {f:FuncId} {fn:Func} {code:Code} {fb:FB} {args:List SV} {rs:List RV} {N n0:Nat} {hp0:List (Nat × HB)} {Yi:Ot->Prop} (hf:P.funcs[f]? = some fn) (hb:fn.body=some code) (hc:Zaz P fb code=true)
 (hr:Wx P rs fn.results.toList=true) (hN:fn.ntmps=N) (hA:args.length<=N) (h:fx P n0 fb ⟨Wu 0 args,hp0,n0,N,[]⟩ (ZcF rs Yi)):CtY P Y0 f hp0 n0 args Yi:=by
 intro C E w vs d1 d2 d3 d4 d5 d6 hY hH hR
 refine ZfI hf hb hc hN hA d3 d2 ⟨Nat.le_of_eq d5,d6⟩ hH hR h fun e σ hk C' E' a w' c1 c2 c3 c4 c5 hs=>?_
 obtain ⟨g1,g2⟩:=Zfv hs.hs c1 c2 c3 c4 c5
 have hend:Zsk Yi σ.hp σ.n (rvE (ZeY σ rs))->∃ v,(results fn a.tmps).run P w' = .ok v w'/\∃ o E' y,Yi o/\HSim C E' o.hp (ltn o.n) w'/\R w' E' (ltn o.n) (okS C E' o.hp) o.res y/\Ending.returned v=ZvT o.pn y:=fun hrr=>by
  cases hq:rvE (ZeY σ rs) with
  | none=>rw [hq] at hrr;exact hrr.elim
  | some s =>
   rw [hq] at hrr
   obtain ⟨v,h1,h2⟩:=UK (P:=P) (fn:=fn) (a:=a) (w:=w') (E:=E') (n:=ltn σ.n) (ok:=okS C' E' σ.hp) hq fun l hl=>Zfj hs rs _ l hr hl
   rw [g2] at h2
   exact ⟨v,h1,_,E',v,hrr,g1,h2,rfl⟩
 cases e with
 | ex i=>exact hk.elim
 | n=>exact hend hk
 | ret=>exact hend hk
 | pan s=>intro y hy;rw [g2] at hy;exact ⟨_,E',y,hk,g1,hy,rfl⟩
theorem ZcS {f:FuncId} {fn:Func} {code:Code} {fb:FB} {args:List SV} {rs:List RV} {N n0:Nat} {hp0:List (Nat × HB)} {Yi:Ot->Prop} (hf:P.funcs[f]? = some fn) (hb:fn.body=some code) (hnm:YP P f=true) (hc:Zaz P fb code=true)
 (hr:Wx P rs fn.results.toList=true) (hN:fn.ntmps=N) (hA:args.length<=N) (hh:hpb n0 hp0) (hx:∀ o,Yi o->KX o.res/\KXP o.hp) (h:fx P n0 fb ⟨Wu 0 args,hp0,n0,N,[]⟩ (ZcF rs fun o=>∃ o',Yi o'/\ZeW n0 o o')):CtM P f hp0 n0 args Yi :=
 ⟨hnm,hh,hx,(Zhy hf hb hc hr hN hA h).mono fun _ h=>h⟩
end
theorem Za6 {m:Nat} {σ : St} (t:Nat) {s':SV} (hg:σ.gs=[]) (hw:Xh (lk t σ.fr) s') (h2:∀ j b u,s'≠.gd j b u):Ent m σ ⟨(t,s') :: σ.fr,σ.hp,σ.n,σ.N,σ.gs⟩:=fun C E a w hmc h=>by
 have hR0:∀ u,R w E (ltn σ.n) (okS C E σ.hp) (lk u σ.fr) (a.tmps.getD u undef):=fun u=>Zvr (h.fr u) (fun j b u' e=>by have:=h.gs u j b u' e;rw [hg] at this;simp at this)
 have g2:ZG w w (okS C E σ.hp) (okS C E σ.hp):=fun b hb _=>⟨hb,rfl⟩
 refine ⟨E,fun u=>?_,h.sz,h.df,fun u j b s hu=>?_,h.hs⟩
 . rw [ZF]
   split
   . rename_i hu;subst hu
     have:=hw _ _ _ _ _ (hR0 u)
     cases s'<;>first | exact this | exact absurd rfl (h2 _ _ _)
   . refine Xq g2 (fun _ _=>Ele.rfl) (fun k hk=>hk) (fun j b s hs=>?_) (h.fr u)
     have:=h.gs u j b s hs;rw [hg] at this;simp at this
 . rw [ZF] at hu
   split at hu
   . exact absurd hu (h2 _ _ _)
   . exact h.gs u j b s hu
end Go.Sx
namespace Go.Proofs.YtiigiflofnjilaaGreat
open Go Go.Sx
def c109:FB:=(.seq (.gh (.reg [
 o1 8 (.box (.t 0) 0 201),
 o1 9 (.box (.t 1) 0 35),
 o1 10 (.alloc [.bool false] 4)]))
 (.seq (.seq (.reg [
 o1 13 (.addo (.t 8) 1),
 o1 14 (.ld (.t 13) 1 false),
 o1 15 (.ld (.t 2) 1 false),
 o1 16 (.bin .gtr (.t 14) (.t 15))])
 (.cond (.t 16)
 (.seq (.reg [
  ⟨none,.st (.t 10) (.c (.bool true)) 1,none,[]⟩])
  .ret)
 .skip))
 (.seq (.seq (.reg [
 o1 17 (.addo (.t 8) 0),
 o1 18 (.ld (.t 17) 1 false),
 o1 19 (.ld (.t 3) 1 false),
 o1 20 (.bin .eql (.t 18) (.t 19))])
 (.cond (.t 20)
 (.seq (.regd [0,1,2,3,4,5] [
  .op (o1 21 (.ld (.t 4) 1 false)),
  .op (o1 22 (.ld (.t 9) 1 false)),
  .op ⟨some 23,.call 110 [.t 22],none,[1]⟩,
  .op ⟨some 24,.bsl 1 35 [.t 23],none,[2]⟩] 0 2 [
  ⟨some 25,.appm 1 24 35 (.t 21) (.t 24),none,[0,2,3]⟩,
  ⟨none,.st (.t 4) (.t 25) 1,none,[0,1,2,3,4]⟩])
  (.seq (.reg [
  o1 26 (.ld (.t 4) 1 false),
  o1 27 (.len (.t 26)),
  o1 28 (.bin .leq (.t 27) (.c (.int .i64 200))),
  ⟨none,.st (.t 10) (.t 28) 1,none,[]⟩])
  .ret))
 .skip))
 (.seq (.reg [
 o1 29 (.ld (.t 5) 1 false),
 o1 30 (.addo (.t 8) 0),
 o1 31 (.ld (.t 30) 1 false),
 ⟨none,.raw (Go.Op.mapUpdate 189 (Go.Operand.tmp 29) (Go.Operand.tmp 31) (Go.Operand.const (Go.Value.bool Bool.true))) 0,none,[]⟩])
 (.dfr [
 o1 32 (.ld (.t 5) 1 false),
 o1 33 (.addo (.t 8) 0),
 o1 34 (.ld (.t 33) 1 false)] (.t 32) (.t 34) 189
 (.tail (.seq (.seq (.reg [
 o1 35 (.ld (.t 6) 4 true),
 o1 36 (.addo (.t 8) 0),
 o1 37 (.ld (.t 36) 1 false),
 o1 38 (.callm 111 [.t 35,.t 37])])
 (.block 0 (.gh (.rfun (.t 38) [39,40] (.seq (.reg [
  m1 11 39])
  (.reg [
  m1 12 40]))
  (.block 1 (.seq (.regs [0,1,2,3,4,5,6,7,8,9,10,11,12,13,14,15,16,17,18,19,20,21,22] ⟨[
   .op (o1 41 (.ld (.t 5) 1 false)),
   .op (m1 42 12)],0,0,[
   ⟨some 43,.raw (Go.Op.lookup 189 (Go.Operand.tmp 41) (Go.Operand.tmp 42) Bool.false) 4,none,[0,1]⟩]⟩ [⟨[
   .op ⟨some 44,.un .not (.t 43),none,[2]⟩,
   .op ⟨some 45,.mv (.t 44),none,[3]⟩,
   .op ⟨some 46,.ld (.t 7) 1 false,some (45,true),[4]⟩,
   .op ⟨some 47,.mv (.t 12),some (45,true),[4]⟩,
   .op ⟨some 48,.ld (.t 6) 4 true,some (45,true),[4]⟩,
   .op ⟨some 49,.mv (.t 11),some (45,true),[4]⟩,
   .op ⟨some 50,.addo (.t 8) 1,some (45,true),[4]⟩,
   .op ⟨some 51,.ld (.t 50) 1 false,some (45,true),[4,9]⟩,
   .op ⟨some 52,.addo (.t 8) 1,some (45,true),[4]⟩,
   .op ⟨some 53,.ld (.t 52) 1 false,some (45,true),[4,11]⟩,
   .op ⟨some 54,.build [.int .i64 0,.int .i64 0] [(0,1,.t 51),(1,1,.t 53)],some (45,true),[4,10,12]⟩,
   .op ⟨some 55,.call 79 [.t 48,.t 49,.t 54],some (45,true),[4,7,8,13]⟩,
   .op ⟨some 56,.idx (.t 55) (.c (.int .i64 1)) 2 1 false,some (45,true),[4,14]⟩,
   .op ⟨some 57,.build [.int .i64 0,.int .i64 0] [(0,1,.t 47),(1,1,.t 56)],some (45,true),[4,6,15]⟩,
   .op ⟨some 58,.ld (.t 9) 1 false,some (45,true),[4]⟩,
   .op ⟨some 59,.mv (.t 11),some (45,true),[4]⟩,
   .op ⟨some 60,.call 112 [.t 58,.t 59],some (45,true),[4,14,17,18]⟩],0,0,[
   ⟨some 61,.calvm (.t 46) [.t 57,.t 60],some (45,true),[4,5,16,19]⟩,
   ⟨some 62,.un .not (.t 61),some (45,true),[4,20]⟩,
   ⟨some 63,.pick (.t 45) (.t 62) (.c (.bool false)),none,[4,21]⟩]⟩])
   (.cond (.t 63)
   (.seq (.reg [
    ⟨none,.st (.t 10) (.c (.bool false)) 1,none,[]⟩])
    .ret)
   .skip)))))))
 (.seq (.reg [
 ⟨none,.st (.t 10) (.c (.bool true)) 1,none,[]⟩])
 .ret))))))))
def r109:List RV:=[.cell 10 1 false]
theorem n109:Tryz.f109.ntmps=64:=by kernel_rfl
theorem b109:YP Tryz.prog 109=true:=by kernel_rfl
theorem ZuU:Zaz Tryz.prog c109 ((Tryz.f109.body).getD .skip)=true:=by kernel_rfl
theorem Zxq:Wx Tryz.prog r109 Tryz.f109.results.toList=true:=by kernel_rfl
theorem m109 {n0:Nat} {hp0:List (Nat × HB)} {args:List SV} {Yi:Ot->Prop} (hh:hpb n0 hp0) (hx:∀ o,Yi o->KX o.res/\KXP o.hp) (h:fx Tryz.prog n0 c109 ⟨Wu 0 args,hp0,n0,64,[]⟩ (ZcF r109 fun o=>∃ o',Yi o'/\ZeW n0 o o')) (hA:Nat.ble args.length 64=true:=by rfl):CtM Tryz.prog 109 hp0 n0 args Yi:=ZcS Tryz.func109 rfl b109 ZuU Zxq n109 (Nat.le_of_ble_eq_true hA) hh hx h
def c65:SC:=(sr1 [
 o1 6 (.box (.t 0) 0 25),
 o1 8 (.box (.t 2) 0 3),
 o1 10 (.box (.t 4) 0 3),
 o1 11 (.box (.t 5) 0 27),
 o1 12 (.mv (.c (.slice none 0 0))),
 o1 13 (.mv (.c (.int .i64 0)))]
 (sr1 [
 o1 20 (.ld (.t 6) 2 true),
 o1 21 (.ld (.t 11) 2 true),
 o1 22 (.call 75 [.t 20,.t 21]),
 m1 19 22,
 o1 23 (.ext (.t 19) 0),
 o1 24 (.ext (.t 19) 1),
 o1 14 (.alloc [.slice none 0 0,.slice none 0 0,.int .i64 0,.int .i64 0] 160),
 ⟨none,.st (.t 14) (.t 23) 4,none,[]⟩,
 m1 15 24]
 (.seq (.block 0 (sr1 [
  m1 26 15,
  o1 27 (.bin .neq (.t 26) (.c (.int .i64 0))),
  m1 25 27]
  (.cond (.t 25)
  (sr1 [
   m1 28 15,
   o1 12 (.mv (.c (.slice none 0 0))),
   m1 13 28]
   .ret)
  (sr1 [
   o1 30 (.addo (.t 6) 0),
   o1 31 (.ld (.t 30) 1 false),
   o1 32 (.len (.t 31)),
   o1 33 (.bin .sub (.t 32) (.c (.int .i64 1))),
   m1 34 1,
   o1 35 (.ld (.t 8) 1 false),
   o1 36 (.bsl 1 3 [.t 34,.t 35]),
   o1 37 (.call 76 [.c (.int .i64 0),.t 33,.t 36]),
   o1 38 (.un .not (.t 37)),
   m1 39 38,
   ⟨some 40,.mv (.t 3),some (39,false),[]⟩,
   ⟨some 41,.ld (.t 10) 1 false,some (39,false),[]⟩,
   ⟨some 42,.bsl 1 3 [.t 40,.t 41],some (39,false),[]⟩,
   ⟨some 43,.call 76 [.c (.int .i64 0),.c (.int .i64 100000),.t 42],some (39,false),[]⟩,
   ⟨some 44,.un .not (.t 43),some (39,false),[]⟩,
   o1 45 (.pick (.t 39) (.c (.bool true)) (.t 44)),
   m1 29 45]
   (.cond (.t 29)
   (sr1 [
    o1 12 (.mv (.c (.slice none 0 0))),
    o1 13 (.mv (.c (.int .i64 2)))]
    .ret)
   .skip)))))
 (sr1 [
 o1 16 (.alloc [.slice none 0 0] 144)]
 (sr1 [
 o1 46 (.raw (Go.Op.makeMap 189 Option.none) 189),
 o1 17 (.alloc [.map none] 189),
 ⟨none,.st (.t 17) (.t 46) 1,none,[]⟩]
 (sr1 [
 o1 18 (.alloc [.nilFunc] 199)]
 (sr1 [
 o1 47 (.mkf 109 [.t 10,.t 8,.t 16,.t 17,.t 14,.t 18]),
 ⟨none,.st (.t 18) (.t 47) 1,none,[]⟩]
 (.seq (.seq (.gh (.reg [
 o1 48 (.ld (.t 18) 1 false),
 m1 49 1,
 m1 50 3,
 o1 51 (.build [.int .i64 0,.int .i64 0] [(0,1,.t 49),(1,1,.t 50)]),
 o1 52 (.calvm (.t 48) [.t 51,.c (.slice none 0 0)]),
 o1 53 (.un .not (.t 52))]))
 (.cond (.t 53)
 (sr1 [
  o1 12 (.mv (.c (.slice none 0 0))),
  o1 13 (.mv (.c (.int .i64 9)))]
  .ret)
 .skip))
 (sr1 [
 o1 54 (.ld (.t 16) 1 false),
 m1 12 54,
 o1 13 (.mv (.c (.int .i64 0)))]
 .ret)))))))))
def r65:List RV:=[.tmp 12,.tmp 13]
theorem t65:Qt1 Tryz.prog 65 c65 r65 55:=Z8 Tryz.func65 rfl (by kernel_rfl) (by kernel_rfl) (by kernel_rfl) (by kernel_rfl)
end Go.Proofs.YtiigiflofnjilaaGreat
namespace Go.Azalai
open Go.Sx
theorem Xd {l:Land} {p:Span} {to till:Int} {f:Nat} {been:List Int} {v t:Int} {j:Nat}:∀ (k:Nat),∃ R,Yd l p to till f been v t (j+k)=Yd l p to till f been v t j ++ R
 | 0=>⟨[],by simp⟩
 | k+1=>by
  obtain ⟨R,h⟩:=Xd k
  exact ⟨R ++ Xb l p to till f been v t (j+k),by rw [<- Nat.add_assoc,Z4,h,List.append_assoc]⟩
theorem WA {l:Land} {p:Span} {to till:Int} {f:Nat} {been:List Int} {v t:Int} {j:Nat} {x:Leg} (hx:l.legs[j]? = some x) (h:Zk x v < 0\/Zk x v ∈ v :: been):Xb l p to till f been v t j=[]:=by
 simp only [Xb,hx];rw [if_pos h]
theorem WN {l:Land} {p:Span} {to till:Int} {f:Nat} {been:List Int} {v t:Int} {j:Nat} {x:Leg} (hx:l.legs[j]? = some x) (h0:¬ Zk x v < 0) (h:Zk x v ∉ v :: been) :
 Xb l p to till f been v t j=(XM l p to till f (v :: been) (Zk x v) (ZK true x p t)).map (j :: ·):=by
 simp only [Xb,hx];rw [if_neg (fun q=>q.elim h0 h)]
end Go.Azalai
namespace Go.Proofs.YtiigiflofnjilaaGreat
open Go Go.Sx Go.Azalai
def Yz (w:List Nat):List SV:=[Z2 w]
def YN (l:Land) (p:Span) (till to:Int) (all:List (List Nat)) (ver:Nat) (L:List (Nat × Int × Bool)) (clk:Nat):List (Nat × HB) :=
 [(0,.cells [I till] 3),(1,.cells [I to] 3),(2,.cells [.mr 6 ver] 144),(3,.cells [.mp 7] 189),(4,.cells (ZO l p) 160),(5,.cells [.cl 109 [.p 0 0,.p 1 0,.p 2 0,.p 3 0,.p 4 0,.p 5 0]] 199),(6,.row ver 1 (all.map Yz) 35),(7,.map (mpS kI B L) clk)]
def lookP (l:Land) (p:Span) (till to:Int) (all:List (List Nat)) (L:List (Nat × Int × Bool)) (W:List (List Nat)):Ot->Prop:=fun o =>
 ∃ ver clk,MW L clk/\o=⟨false,B (decide ((all ++ W).length<=200)),YN l p till to (cap (all ++ W)) ver L clk,8⟩
def ZeO (been:List Int) (L:List (Nat × Int × Bool)):Prop:=∀ u:Int,XG u L=if u ∈ been then some true else none
theorem Zf3 {L:List (Nat × Int × Bool)} {c:Nat} {v:Int} {b:Bool} (h:XG v L=none):Ux v (Uh c v b L)=L:=by
 rw [ZaJ h]
 have key:∀ (L:List (Nat × Int × Bool)),XG v L=none->Ux v (L ++ [(c,v,b)])=L:=by
  intro L
  induction L with
  | nil=>intro _;simp [Ux]
  | cons e L ih =>
   intro h
   have hne:e.2.1≠v:=XE.1 h e (by simp)
   have hL:XG v L=none:=XE.2 fun x hx=>XE.1 h x (by simp [hx])
   have:=ih hL
   obtain ⟨e1,e2,e3⟩:=e
   simp only at hne
   simp only [List.cons_append,Ux]
   rw [this]
   simp [hne,Ne.symm hne]
 exact key L h
theorem ZuJ (l:Land) (p:Span) (hs:Vl l) (hok:OkLP l p) (till to:Int):∀ (f:Nat) (been:List Int) (v t:Int) (way:List Nat) (all:List (List Nat)) (ver clk:Nat) (L:List (Nat × Int × Bool)) (s1:SV),Zmx l f been->v ∉ been->(0<=v/\v < l.wells.length)->(0<=t/\t<=100001) ->
 way.length+f<=1000->all.length<=200->MW L clk->ZeO been L->(s1=Z2 way\/s1 = .v (.slice none 0 0)/\way=[]) ->
 CtM Tryz.prog 109 (YN l p till to all ver L clk) 8 [.agg [I v,I t],s1,.p 0 0,.p 1 0,.p 2 0,.p 3 0,.p 4 0,.p 5 0] (lookP l p till to all L ((XM l p to till f been v t).map (way ++ ·))):=by
 intro f
 induction f with
 | zero =>
  intro been v t way all ver clk L s1 hR hv hvi
  obtain ⟨g,h,_⟩:=hR.pos hv hvi
  omega
 | succ f ih =>
 intro been v t way all ver clk L s1 hR hv hvi ht hlen hall hM hbL hs1
 obtain ⟨g,hg,hR'⟩:=hR.pos hv hvi
 have hgf:g=f:=by omega
 subst hgf
 have hleg:=hs.2.1
 refine m109 (by simp [hpb,YN]) (fun o ho=>?_) ?_
 . obtain ⟨ver',clk',_,rfl⟩:=ho
   simp [YN,KX,KXL,KXP,KXH,Za,KFL,KF,ZO,Zg,Zm,Zh,Yz,Z2,Ym,Zs,Zn]
 dsimp only [c109,r109,YN,go_sem,rA,rM,rS]
 rcases hs1 with rfl | ⟨rfl,hw0⟩
 . refine gh Vh ?_
   dsimp only [Z2,go_sem,rA,rM,rS]
   refine br ?_ ?_
   . intro hlate
     have hlate:t > till:=of_decide_eq_true hlate
     dsimp only [go_sem,rA,rM,rS]
     refine ⟨_,⟨ver,clk,hM,rfl⟩,?_⟩
     rw [ZcG hlate,List.map_nil,List.append_nil,Vx (by omega),decide_eq_true hall]
     (refine Z1 ?_ ?_ ?_ rfl<;>dsimp only [ZO,Zg,Zm,Zh,Yz,Z2,Ym,Zz,Zs,Zn,Za,YN,id,go_sem,rA,rM,rS]<;>simp [ZO,Zg,Zm,Zh,Yz,Z2,Ym,Zz,Zs,Zn,Za,YN,Za,Ze,KFR,KFL,KF,Zc,mtO,nbr])
   intro hlate
   have hlate:¬ t > till:=of_decide_eq_false hlate
   dsimp only [go_sem,rA,rM,rS]
   refine br ?_ ?_
   . intro hto
     have hto:v=to:=by simpa using hto
     dsimp only [go_sem,rA,rM,rS]
     refine call (Zbg way (by omega)) ?_
     dsimp only [Z2,go_sem,rA,rM,rS]
     simp only [nbr]
     dsimp only [go_sem,rA,rM,rS]
     refine ⟨(by intro c hc;simp only [List.mem_singleton] at hc;subst hc;rfl),by simp;omega,?_⟩
     dsimp only [go_sem,rA,rM,rS]
     simp only [nbr]
     dsimp only [go_sem,rA,rM,rS]
     have e:all.map Yz ++ [[SV.sl false 1 (way.map Ym)]]=(all ++ [way]).map Yz:=by simp [Yz,Z2]
     rw [e]
     refine ⟨_,⟨ver+1,clk,hM,rfl⟩,?_⟩
     rw [YI,if_neg hlate,if_pos hto]
     simp only [List.map_cons,List.map_nil,List.append_nil,List.length_map]
     rw [Vx (by simp;omega)]
     have hd:decide (((all ++ [way]).length:Int)<=200)=decide ((all ++ [way]).length<=200):=by simp;omega
     rw [hd]
     (refine Z1 ?_ ?_ ?_ rfl<;>dsimp only [ZO,Zg,Zm,Zh,Yz,Z2,Ym,Zz,Zs,Zn,Za,YN,id,go_sem,rA,rM,rS]<;>simp [ZO,Zg,Zm,Zh,Yz,Z2,Ym,Zz,Zs,Zn,Za,YN,Za,Ze,KFR,KFL,KF,Zc,mtO,nbr])
   intro hto
   have hto:¬ v=to:=by simpa using hto
   dsimp only [go_sem,rA,rM,rS]
   refine ZbY (ins:=false) (key:=kI) (val:=B) (L:=L) (k:=v) (v:=true) rfl rfl ZdM Zdx rfl rfl (by simp) ?_
   dsimp only [go_sem,rA,rM,rS]
   refine ⟨rfl,?_⟩
   have hvL:XG v L=none:=by rw [hbL,if_neg hv]
   have hM1:=hM.set (k:=v) true
   have hL1:ZeO (v :: been) (Uh clk v true L):=fun u=>by
    rw [UI]
    by_cases hu:u=v
    . simp [hu]
    . rw [if_neg hu,hbL]
      simp [hu]
   have hdel:=Zf3 (L:=L) (c:=clk) (b:=true) hvL
   generalize Uh clk v true L=L1 at hM1 hL1 hdel ⊢
   generalize Zcm clk v L=clk1 at hM1 ⊢
   refine ZbK [] (Za0 l p v) rfl rfl rfl ?_ ?_ ?_
   . exact Zc (by simp [ZO,Zg,Zm,Zh,Za,KFL,KF])
   . trivial
   dsimp only [Zcf,ZO,go_sem,rA,rM,rS]
   refine gh Vh ?_
   dsimp only [go_sem,rA,rM,rS]
   refine ⟨ZAi,fun rec=>?_⟩
   refine ZAE ?_
   dsimp only [ZxL,ZxA,go_sem,rA,rM,rS]
   refine Xt (fun q:Nat × List (List Nat) × Nat × Nat=>[(10,I q.1)]) (fun q=>[(2,.cells [.mr 6 q.2.2.1] 144),(6,.row q.2.2.1 1 (q.2.1.map Yz) 35),(7,.map (mpS kI B L1) q.2.2.2)])
    (fun q=>q.1<=l.legs.length/\MW L1 q.2.2.2/\q.2.1=all ++ (Yd l p to till g been v t q.1).map (way ++ ·)/\q.2.1.length<=200) (fun q=>l.legs.length - q.1) (0,all,ver,clk1) ⟨Nat.zero_le _,hM1,by simp [Zek],hall⟩ ?_ ?_
   . (refine Zl ?_ ?_ ?_ rfl rfl<;>dsimp only [ZO,Zg,Zm,Zh,Yz,Z2,Ym,Zz,Zs,Zn,Za,id,go_sem,rA,rM,rS]<;>simp [ZO,Zg,Zm,Zh,Yz,Z2,Ym,Zz,Zs,Zn,Za,Za,Ze,KFR,KFL,KF,Zc,mtO,nbr])
   rintro ⟨j,allj,ver,clk⟩ ⟨hj,hMj,hallj,hlenj⟩
   simp only at hj hMj hallj hlenj
   dsimp only [go_sem,rA,rM,rS]
   simp only [List.length_map]
   by_cases hlt:j < l.legs.length
   . refine Zv (by simpa using hlt) ?_
     dsimp only [go_sem,rA,rM,rS]
     refine Zp j hlt rfl ?_
     dsimp only [Zm,go_sem,rA,rM,rS]
     have hgl:GoodLeg l.legs[j]:=XW hok.land _ (List.getElem_mem _)
     have hends:=hok.ends (List.getElem_mem hlt)
     have hxj:l.legs[j]? = some l.legs[j]:=List.getElem?_eq_getElem hlt
     have hin:inR 0 100001 t=true:=by simp only [inR,decide_eq_true_eq];omega
     have hab:=Xu (k:=true) (t:=t) hgl hok.pace (by omega)
     by_cases hca:v=l.legs[j].a
     . refine Zv (by simpa using hca) ?_
       have hoth:Zk l.legs[j] v=l.legs[j].b:=by rw [Zk,if_pos hca.symm]
       dsimp only [go_sem,rA,rM,rS]
       refine ⟨rfl,rfl,?_⟩
       refine Zcd (key:=kI) (sv:=sI) (val:=B) (L:=L1) (k:=l.legs[j].b) (z:=.bool false) (zs:=B false) rfl rfl ZdM Zdx rfl (by kernel_rfl) (fun w E n ok=>by simp only [R]) ?_ ?_
       . intro b hget
         have hb:b=true/\Zk l.legs[j] v ∈ v :: been:=by
          have h:=hL1 l.legs[j].b
          rw [hget] at h
          rw [hoth]
          split at h
          . rename_i hm;exact ⟨Option.some.inj h,hm⟩
          . cases h
         obtain ⟨rfl,hmem⟩:=hb
         dsimp only [Bool.not_true,go_sem,rA,rM,rS]
         repeat (refine Vt (by decide) ?_;dsimp only [go_sem,rA,rM,rS])
         refine Zw (by decide) ?_
         dsimp only [go_sem,rA,rM,rS]
         refine ⟨rfl,?_⟩
         refine Zw (by decide) ?_
         dsimp only [go_sem,rA,rM,rS]
         rw [Zf (n:=(j:Int)+1) (by omega) (by omega)]
         refine ⟨(j+1,allj,ver,clk),⟨hlt,hMj,by rw [Z4,WA hxj (.inr hmem),List.append_nil];exact hallj,hlenj⟩,by simp only;omega,?_⟩
         (refine Zl ?_ ?_ ?_ rfl rfl<;>dsimp only [ZO,Zg,Zm,Zh,Yz,Z2,Ym,Zz,Zs,Zn,Za,id,go_sem,rA,rM,rS]<;>simp [ZO,Zg,Zm,Zh,Yz,Z2,Ym,Zz,Zs,Zn,Za,Za,Ze,KFR,KFL,KF,Zc,mtO,nbr])
       intro hget
       have hnb:Zk l.legs[j] v ∉ v :: been:=fun hm=>by
        have h:=hL1 l.legs[j].b
        rw [hoth] at hm
        rw [hget,if_pos hm] at h;cases h
       have hn0:¬ Zk l.legs[j] v < 0:=by rw [hoth];omega
       dsimp only [Bool.not_false,go_sem,rA,rM,rS]
       iterate 10 (refine Yn rfl ?_;dsimp only [go_sem,rA,rM,rS])
       refine call (XZ l p j hlt t t hgl hok.pace hin hin) ?_
       dsimp only [go_sem,rA,rM,rS]
       refine Yn rfl ?_
       dsimp only [go_sem,rA,rM,rS]
       refine ixa 1 rfl (by decide) ?_
       dsimp only [go_sem,rA,rM,rS]
       iterate 4 (refine Yn rfl ?_;dsimp only [go_sem,rA,rM,rS])
       refine call (Zdg way j (by omega)) ?_
       dsimp only [Z2,go_sem,rA,rM,rS]
       refine Yn rfl ?_
       dsimp only [go_sem,rA,rM,rS]
       have hot:=ZW hok hxj hn0
       have hih:=ih (v :: been) (Zk l.legs[j] v) (ZK true l.legs[j] p t) (way ++ [j]) allj ver clk L1 (Z2 (way ++ [j])) hR' hnb hot.1 (by omega) (by simp;omega) hlenj hMj hL1 (.inl rfl)
       have hWj:(XM l p to till g (v :: been) (Zk l.legs[j] v) (ZK true l.legs[j] p t)).map (way ++ [j] ++ ·)=(Xb l p to till g been v t j).map (way ++ ·):=by
        rw [WN hxj hn0 hnb,List.map_map]
        simp [Function.comp_def]
       rw [hWj,hoth] at hih
       refine YO [0,1,2,3,4,5,6,7] hih rfl rfl ?_ ?_ ?_ ?_
       . rfl
       . dsimp only [rho,Z2,go_sem,rA,rM,rS]
         simp [Za,Ze,KFR,KFL,KF,Zc,mtO,nbr,ZO,Zg,Zm,Zh,Yz,Z2,Ym,Zs,Zn]
       . dsimp only [rho,YN,ZO,go_sem,rA,rM,rS]
         simp [Za,Ze,KFR,KFL,KF,Zc,mtO,nbr,ZO,Zg,Zm,Zh,Yz,Z2,Ym,Zs,Zn]
       rintro o ⟨ver',clk',hM',rfl⟩
       dsimp only [YN,ZO,go_sem,rA,rM,rS]
       refine Yn rfl ?_
       dsimp only [Bool.not_false,go_sem,rA,rM,rS]
       have hnext:all ++ (Yd l p to till g been v t (j+1)).map (way ++ ·)=allj ++ (Xb l p to till g been v t j).map (way ++ ·):=by
        rw [Z4,List.map_append,<- List.append_assoc,<- hallj]
       generalize hWW:(Xb l p to till g been v t j).map (way ++ ·)=Wj at hnext ⊢
       by_cases hsm:(allj ++ Wj).length<=200
       . refine Zw (by simp only [hsm,decide_true];rfl) ?_
         dsimp only [go_sem,rA,rM,rS]
         refine ⟨rfl,?_⟩
         refine Zw (by decide) ?_
         dsimp only [go_sem,rA,rM,rS]
         rw [Zf (n:=(j:Int)+1) (by omega) (by omega),Vx (by omega)]
         rw [<- hnext] at hsm ⊢
         refine ⟨(j+1,_,ver',clk'),⟨hlt,hM',rfl,hsm⟩,by simp only;omega,?_⟩
         generalize all ++ (Yd l p to till g been v t (j+1)).map (way ++ ·)=alln
         (refine Zl ?_ ?_ ?_ rfl rfl<;>dsimp only [ZO,Zg,Zm,Zh,Yz,Z2,Ym,Zz,Zs,Zn,Za,id,go_sem,rA,rM,rS]<;>simp [ZO,Zg,Zm,Zh,Yz,Z2,Ym,Zz,Zs,Zn,Za,Za,Ze,KFR,KFL,KF,Zc,mtO,nbr])
       . refine Zv (by simp only [hsm,decide_false];rfl) ?_
         dsimp only [go_sem,rA,rM,rS]
         refine ⟨rfl,?_⟩
         refine Zv rfl ?_
         dsimp only [go_sem,rA,rM,rS]
         have hWs:XM l p to till (g+1) been v t=Yd l p to till g been v t l.legs.length:=by rw [YI,if_neg hlate,if_neg hto]
         obtain ⟨R,hRs⟩:=Xd (l:=l) (p:=p) (to:=to) (till:=till) (f:=g) (been:=been) (v:=v) (t:=t) (j:=j+1) (l.legs.length - (j+1))
         rw [show j+1+(l.legs.length - (j+1))=l.legs.length by omega] at hRs
         have hall2:all ++ (XM l p to till (g+1) been v t).map (way ++ ·)=allj ++ Wj ++ R.map (way ++ ·):=by
          rw [hWs,hRs,List.map_append,<- List.append_assoc,hnext]
         have hlong:¬ (allj ++ Wj ++ R.map (way ++ ·)).length<=200:=by rw [List.length_append];omega
         refine ⟨_,ZxZ (key:=kI) (val:=B) (sv:=sI) (L:=L1) (k:=v) ZdM Zdx,?_⟩
         rw [hdel]
         have hMf:MW L clk':=by have:=hM'.del (k:=v);rw [hdel] at this;exact this
         refine ⟨_,⟨ver',clk',hMf,rfl⟩,?_⟩
         have hc2:cap (allj ++ Wj ++ R.map (way ++ ·))=cap (allj ++ Wj):=Zdv (by omega)
         rw [hall2,hc2,decide_eq_false hlong]
         generalize cap (allj ++ Wj)=alln
         (refine Z1 ?_ ?_ ?_ rfl<;>dsimp only [ZO,Zg,Zm,Zh,Yz,Z2,Ym,Zz,Zs,Zn,Za,YN,id,go_sem,rA,rM,rS]<;>simp [ZO,Zg,Zm,Zh,Yz,Z2,Ym,Zz,Zs,Zn,Za,YN,Za,Ze,KFR,KFL,KF,Zc,mtO,nbr])
     refine Zw (by simpa using hca) ?_
     dsimp only [go_sem,rA,rM,rS]
     by_cases hcb:v=l.legs[j].b
     . refine Zv (by simpa using hcb) ?_
       have hoth:Zk l.legs[j] v=l.legs[j].a:=by rw [Zk,if_neg (fun h=>hca h.symm),if_pos hcb.symm]
       dsimp only [go_sem,rA,rM,rS]
       refine ⟨rfl,rfl,?_⟩
       refine Zcd (key:=kI) (sv:=sI) (val:=B) (L:=L1) (k:=l.legs[j].a) (z:=.bool false) (zs:=B false) rfl rfl ZdM Zdx rfl (by kernel_rfl) (fun w E n ok=>by simp only [R]) ?_ ?_
       . intro b hget
         have hb:b=true/\Zk l.legs[j] v ∈ v :: been:=by
          have h:=hL1 l.legs[j].a
          rw [hget] at h
          rw [hoth]
          split at h
          . rename_i hm;exact ⟨Option.some.inj h,hm⟩
          . cases h
         obtain ⟨rfl,hmem⟩:=hb
         dsimp only [Bool.not_true,go_sem,rA,rM,rS]
         repeat (refine Vt (by decide) ?_;dsimp only [go_sem,rA,rM,rS])
         refine Zw (by decide) ?_
         dsimp only [go_sem,rA,rM,rS]
         refine ⟨rfl,?_⟩
         refine Zw (by decide) ?_
         dsimp only [go_sem,rA,rM,rS]
         rw [Zf (n:=(j:Int)+1) (by omega) (by omega)]
         refine ⟨(j+1,allj,ver,clk),⟨hlt,hMj,by rw [Z4,WA hxj (.inr hmem),List.append_nil];exact hallj,hlenj⟩,by simp only;omega,?_⟩
         (refine Zl ?_ ?_ ?_ rfl rfl<;>dsimp only [ZO,Zg,Zm,Zh,Yz,Z2,Ym,Zz,Zs,Zn,Za,id,go_sem,rA,rM,rS]<;>simp [ZO,Zg,Zm,Zh,Yz,Z2,Ym,Zz,Zs,Zn,Za,Za,Ze,KFR,KFL,KF,Zc,mtO,nbr])
       intro hget
       have hnb:Zk l.legs[j] v ∉ v :: been:=fun hm=>by
        have h:=hL1 l.legs[j].a
        rw [hoth] at hm
        rw [hget,if_pos hm] at h;cases h
       have hn0:¬ Zk l.legs[j] v < 0:=by rw [hoth];omega
       dsimp only [Bool.not_false,go_sem,rA,rM,rS]
       iterate 10 (refine Yn rfl ?_;dsimp only [go_sem,rA,rM,rS])
       refine call (XZ l p j hlt t t hgl hok.pace hin hin) ?_
       dsimp only [go_sem,rA,rM,rS]
       refine Yn rfl ?_
       dsimp only [go_sem,rA,rM,rS]
       refine ixa 1 rfl (by decide) ?_
       dsimp only [go_sem,rA,rM,rS]
       iterate 4 (refine Yn rfl ?_;dsimp only [go_sem,rA,rM,rS])
       refine call (Zdg way j (by omega)) ?_
       dsimp only [Z2,go_sem,rA,rM,rS]
       refine Yn rfl ?_
       dsimp only [go_sem,rA,rM,rS]
       have hot:=ZW hok hxj hn0
       have hih:=ih (v :: been) (Zk l.legs[j] v) (ZK true l.legs[j] p t) (way ++ [j]) allj ver clk L1 (Z2 (way ++ [j])) hR' hnb hot.1 (by omega) (by simp;omega) hlenj hMj hL1 (.inl rfl)
       have hWj:(XM l p to till g (v :: been) (Zk l.legs[j] v) (ZK true l.legs[j] p t)).map (way ++ [j] ++ ·)=(Xb l p to till g been v t j).map (way ++ ·):=by
        rw [WN hxj hn0 hnb,List.map_map]
        simp [Function.comp_def]
       rw [hWj,hoth] at hih
       refine YO [0,1,2,3,4,5,6,7] hih rfl rfl ?_ ?_ ?_ ?_
       . rfl
       . dsimp only [rho,Z2,go_sem,rA,rM,rS]
         simp [Za,Ze,KFR,KFL,KF,Zc,mtO,nbr,ZO,Zg,Zm,Zh,Yz,Z2,Ym,Zs,Zn]
       . dsimp only [rho,YN,ZO,go_sem,rA,rM,rS]
         simp [Za,Ze,KFR,KFL,KF,Zc,mtO,nbr,ZO,Zg,Zm,Zh,Yz,Z2,Ym,Zs,Zn]
       rintro o ⟨ver',clk',hM',rfl⟩
       dsimp only [YN,ZO,go_sem,rA,rM,rS]
       refine Yn rfl ?_
       dsimp only [Bool.not_false,go_sem,rA,rM,rS]
       have hnext:all ++ (Yd l p to till g been v t (j+1)).map (way ++ ·)=allj ++ (Xb l p to till g been v t j).map (way ++ ·):=by
        rw [Z4,List.map_append,<- List.append_assoc,<- hallj]
       generalize hWW:(Xb l p to till g been v t j).map (way ++ ·)=Wj at hnext ⊢
       by_cases hsm:(allj ++ Wj).length<=200
       . refine Zw (by simp only [hsm,decide_true];rfl) ?_
         dsimp only [go_sem,rA,rM,rS]
         refine ⟨rfl,?_⟩
         refine Zw (by decide) ?_
         dsimp only [go_sem,rA,rM,rS]
         rw [Zf (n:=(j:Int)+1) (by omega) (by omega),Vx (by omega)]
         rw [<- hnext] at hsm ⊢
         refine ⟨(j+1,_,ver',clk'),⟨hlt,hM',rfl,hsm⟩,by simp only;omega,?_⟩
         generalize all ++ (Yd l p to till g been v t (j+1)).map (way ++ ·)=alln
         (refine Zl ?_ ?_ ?_ rfl rfl<;>dsimp only [ZO,Zg,Zm,Zh,Yz,Z2,Ym,Zz,Zs,Zn,Za,id,go_sem,rA,rM,rS]<;>simp [ZO,Zg,Zm,Zh,Yz,Z2,Ym,Zz,Zs,Zn,Za,Za,Ze,KFR,KFL,KF,Zc,mtO,nbr])
       . refine Zv (by simp only [hsm,decide_false];rfl) ?_
         dsimp only [go_sem,rA,rM,rS]
         refine ⟨rfl,?_⟩
         refine Zv rfl ?_
         dsimp only [go_sem,rA,rM,rS]
         have hWs:XM l p to till (g+1) been v t=Yd l p to till g been v t l.legs.length:=by rw [YI,if_neg hlate,if_neg hto]
         obtain ⟨R,hRs⟩:=Xd (l:=l) (p:=p) (to:=to) (till:=till) (f:=g) (been:=been) (v:=v) (t:=t) (j:=j+1) (l.legs.length - (j+1))
         rw [show j+1+(l.legs.length - (j+1))=l.legs.length by omega] at hRs
         have hall2:all ++ (XM l p to till (g+1) been v t).map (way ++ ·)=allj ++ Wj ++ R.map (way ++ ·):=by
          rw [hWs,hRs,List.map_append,<- List.append_assoc,hnext]
         have hlong:¬ (allj ++ Wj ++ R.map (way ++ ·)).length<=200:=by rw [List.length_append];omega
         refine ⟨_,ZxZ (key:=kI) (val:=B) (sv:=sI) (L:=L1) (k:=v) ZdM Zdx,?_⟩
         rw [hdel]
         have hMf:MW L clk':=by have:=hM'.del (k:=v);rw [hdel] at this;exact this
         refine ⟨_,⟨ver',clk',hMf,rfl⟩,?_⟩
         have hc2:cap (allj ++ Wj ++ R.map (way ++ ·))=cap (allj ++ Wj):=Zdv (by omega)
         rw [hall2,hc2,decide_eq_false hlong]
         generalize cap (allj ++ Wj)=alln
         (refine Z1 ?_ ?_ ?_ rfl<;>dsimp only [ZO,Zg,Zm,Zh,Yz,Z2,Ym,Zz,Zs,Zn,Za,YN,id,go_sem,rA,rM,rS]<;>simp [ZO,Zg,Zm,Zh,Yz,Z2,Ym,Zz,Zs,Zn,Za,YN,Za,Ze,KFR,KFL,KF,Zc,mtO,nbr])
     refine Zw (by simpa using hcb) ?_
     dsimp only [go_sem,rA,rM,rS]
     rw [Zf (n:=(j:Int)+1) (by omega) (by omega)]
     have hoth:Zk l.legs[j] v = -1:=by rw [Zk,if_neg (fun h=>hca h.symm),if_neg (fun h=>hcb h.symm)]
     refine ⟨(j+1,allj,ver,clk),⟨hlt,hMj,by rw [Z4,WA hxj (.inl (by omega)),List.append_nil];exact hallj,hlenj⟩,by simp only;omega,?_⟩
     (refine Zl ?_ ?_ ?_ rfl rfl<;>dsimp only [ZO,Zg,Zm,Zh,Yz,Z2,Ym,Zz,Zs,Zn,Za,id,go_sem,rA,rM,rS]<;>simp [ZO,Zg,Zm,Zh,Yz,Z2,Ym,Zz,Zs,Zn,Za,Za,Ze,KFR,KFL,KF,Zc,mtO,nbr])
   refine Zw (by simp;omega) ?_
   dsimp only [go_sem,rA,rM,rS]
   have hje:j=l.legs.length:=by omega
   subst hje
   have hWs:XM l p to till (g+1) been v t=Yd l p to till g been v t l.legs.length:=by rw [YI,if_neg hlate,if_neg hto]
   refine ⟨_,ZxZ (key:=kI) (val:=B) (sv:=sI) (L:=L1) (k:=v) ZdM Zdx,?_⟩
   rw [hdel]
   have hMf:MW L clk:=by have:=hMj.del (k:=v);rw [hdel] at this;exact this
   refine ⟨_,⟨ver,clk,hMf,rfl⟩,?_⟩
   rw [hWs,<- hallj,Vx (by omega),decide_eq_true hlenj]
   (refine Z1 ?_ ?_ ?_ rfl<;>dsimp only [ZO,Zg,Zm,Zh,Yz,Z2,Ym,Zz,Zs,Zn,Za,YN,id,go_sem,rA,rM,rS]<;>simp [ZO,Zg,Zm,Zh,Yz,Z2,Ym,Zz,Zs,Zn,Za,YN,Za,Ze,KFR,KFL,KF,Zc,mtO,nbr])
 . refine gh (Za6 (s':=.sl false 1 (way.map Ym)) 1 rfl (by subst hw0;exact YV) (fun _ _ _ h=>by cases h)) ?_
   dsimp only [Z2,go_sem,rA,rM,rS]
   refine br ?_ ?_
   . intro hlate
     have hlate:t > till:=of_decide_eq_true hlate
     dsimp only [go_sem,rA,rM,rS]
     refine ⟨_,⟨ver,clk,hM,rfl⟩,?_⟩
     rw [ZcG hlate,List.map_nil,List.append_nil,Vx (by omega),decide_eq_true hall]
     (refine Z1 ?_ ?_ ?_ rfl<;>dsimp only [ZO,Zg,Zm,Zh,Yz,Z2,Ym,Zz,Zs,Zn,Za,YN,id,go_sem,rA,rM,rS]<;>simp [ZO,Zg,Zm,Zh,Yz,Z2,Ym,Zz,Zs,Zn,Za,YN,Za,Ze,KFR,KFL,KF,Zc,mtO,nbr])
   intro hlate
   have hlate:¬ t > till:=of_decide_eq_false hlate
   dsimp only [go_sem,rA,rM,rS]
   refine br ?_ ?_
   . intro hto
     have hto:v=to:=by simpa using hto
     dsimp only [go_sem,rA,rM,rS]
     refine call (Zbg way (by omega)) ?_
     dsimp only [Z2,go_sem,rA,rM,rS]
     simp only [nbr]
     dsimp only [go_sem,rA,rM,rS]
     refine ⟨(by intro c hc;simp only [List.mem_singleton] at hc;subst hc;rfl),by simp;omega,?_⟩
     dsimp only [go_sem,rA,rM,rS]
     simp only [nbr]
     dsimp only [go_sem,rA,rM,rS]
     have e:all.map Yz ++ [[SV.sl false 1 (way.map Ym)]]=(all ++ [way]).map Yz:=by simp [Yz,Z2]
     rw [e]
     refine ⟨_,⟨ver+1,clk,hM,rfl⟩,?_⟩
     rw [YI,if_neg hlate,if_pos hto]
     simp only [List.map_cons,List.map_nil,List.append_nil,List.length_map]
     rw [Vx (by simp;omega)]
     have hd:decide (((all ++ [way]).length:Int)<=200)=decide ((all ++ [way]).length<=200):=by simp;omega
     rw [hd]
     (refine Z1 ?_ ?_ ?_ rfl<;>dsimp only [ZO,Zg,Zm,Zh,Yz,Z2,Ym,Zz,Zs,Zn,Za,YN,id,go_sem,rA,rM,rS]<;>simp [ZO,Zg,Zm,Zh,Yz,Z2,Ym,Zz,Zs,Zn,Za,YN,Za,Ze,KFR,KFL,KF,Zc,mtO,nbr])
   intro hto
   have hto:¬ v=to:=by simpa using hto
   dsimp only [go_sem,rA,rM,rS]
   refine ZbY (ins:=false) (key:=kI) (val:=B) (L:=L) (k:=v) (v:=true) rfl rfl ZdM Zdx rfl rfl (by simp) ?_
   dsimp only [go_sem,rA,rM,rS]
   refine ⟨rfl,?_⟩
   have hvL:XG v L=none:=by rw [hbL,if_neg hv]
   have hM1:=hM.set (k:=v) true
   have hL1:ZeO (v :: been) (Uh clk v true L):=fun u=>by
    rw [UI]
    by_cases hu:u=v
    . simp [hu]
    . rw [if_neg hu,hbL]
      simp [hu]
   have hdel:=Zf3 (L:=L) (c:=clk) (b:=true) hvL
   generalize Uh clk v true L=L1 at hM1 hL1 hdel ⊢
   generalize Zcm clk v L=clk1 at hM1 ⊢
   refine ZbK [] (Za0 l p v) rfl rfl rfl ?_ ?_ ?_
   . exact Zc (by simp [ZO,Zg,Zm,Zh,Za,KFL,KF])
   . trivial
   dsimp only [Zcf,ZO,go_sem,rA,rM,rS]
   refine gh Vh ?_
   dsimp only [go_sem,rA,rM,rS]
   refine ⟨ZAi,fun rec=>?_⟩
   refine ZAE ?_
   dsimp only [ZxL,ZxA,go_sem,rA,rM,rS]
   refine Xt (fun q:Nat × List (List Nat) × Nat × Nat=>[(10,I q.1)]) (fun q=>[(2,.cells [.mr 6 q.2.2.1] 144),(6,.row q.2.2.1 1 (q.2.1.map Yz) 35),(7,.map (mpS kI B L1) q.2.2.2)])
    (fun q=>q.1<=l.legs.length/\MW L1 q.2.2.2/\q.2.1=all ++ (Yd l p to till g been v t q.1).map (way ++ ·)/\q.2.1.length<=200) (fun q=>l.legs.length - q.1) (0,all,ver,clk1) ⟨Nat.zero_le _,hM1,by simp [Zek],hall⟩ ?_ ?_
   . (refine Zl ?_ ?_ ?_ rfl rfl<;>dsimp only [ZO,Zg,Zm,Zh,Yz,Z2,Ym,Zz,Zs,Zn,Za,id,go_sem,rA,rM,rS]<;>simp [ZO,Zg,Zm,Zh,Yz,Z2,Ym,Zz,Zs,Zn,Za,Za,Ze,KFR,KFL,KF,Zc,mtO,nbr])
   rintro ⟨j,allj,ver,clk⟩ ⟨hj,hMj,hallj,hlenj⟩
   simp only at hj hMj hallj hlenj
   dsimp only [go_sem,rA,rM,rS]
   simp only [List.length_map]
   by_cases hlt:j < l.legs.length
   . refine Zv (by simpa using hlt) ?_
     dsimp only [go_sem,rA,rM,rS]
     refine Zp j hlt rfl ?_
     dsimp only [Zm,go_sem,rA,rM,rS]
     have hgl:GoodLeg l.legs[j]:=XW hok.land _ (List.getElem_mem _)
     have hends:=hok.ends (List.getElem_mem hlt)
     have hxj:l.legs[j]? = some l.legs[j]:=List.getElem?_eq_getElem hlt
     have hin:inR 0 100001 t=true:=by simp only [inR,decide_eq_true_eq];omega
     have hab:=Xu (k:=true) (t:=t) hgl hok.pace (by omega)
     by_cases hca:v=l.legs[j].a
     . refine Zv (by simpa using hca) ?_
       have hoth:Zk l.legs[j] v=l.legs[j].b:=by rw [Zk,if_pos hca.symm]
       dsimp only [go_sem,rA,rM,rS]
       refine ⟨rfl,rfl,?_⟩
       refine Zcd (key:=kI) (sv:=sI) (val:=B) (L:=L1) (k:=l.legs[j].b) (z:=.bool false) (zs:=B false) rfl rfl ZdM Zdx rfl (by kernel_rfl) (fun w E n ok=>by simp only [R]) ?_ ?_
       . intro b hget
         have hb:b=true/\Zk l.legs[j] v ∈ v :: been:=by
          have h:=hL1 l.legs[j].b
          rw [hget] at h
          rw [hoth]
          split at h
          . rename_i hm;exact ⟨Option.some.inj h,hm⟩
          . cases h
         obtain ⟨rfl,hmem⟩:=hb
         dsimp only [Bool.not_true,go_sem,rA,rM,rS]
         repeat (refine Vt (by decide) ?_;dsimp only [go_sem,rA,rM,rS])
         refine Zw (by decide) ?_
         dsimp only [go_sem,rA,rM,rS]
         refine ⟨rfl,?_⟩
         refine Zw (by decide) ?_
         dsimp only [go_sem,rA,rM,rS]
         rw [Zf (n:=(j:Int)+1) (by omega) (by omega)]
         refine ⟨(j+1,allj,ver,clk),⟨hlt,hMj,by rw [Z4,WA hxj (.inr hmem),List.append_nil];exact hallj,hlenj⟩,by simp only;omega,?_⟩
         (refine Zl ?_ ?_ ?_ rfl rfl<;>dsimp only [ZO,Zg,Zm,Zh,Yz,Z2,Ym,Zz,Zs,Zn,Za,id,go_sem,rA,rM,rS]<;>simp [ZO,Zg,Zm,Zh,Yz,Z2,Ym,Zz,Zs,Zn,Za,Za,Ze,KFR,KFL,KF,Zc,mtO,nbr])
       intro hget
       have hnb:Zk l.legs[j] v ∉ v :: been:=fun hm=>by
        have h:=hL1 l.legs[j].b
        rw [hoth] at hm
        rw [hget,if_pos hm] at h;cases h
       have hn0:¬ Zk l.legs[j] v < 0:=by rw [hoth];omega
       dsimp only [Bool.not_false,go_sem,rA,rM,rS]
       iterate 10 (refine Yn rfl ?_;dsimp only [go_sem,rA,rM,rS])
       refine call (XZ l p j hlt t t hgl hok.pace hin hin) ?_
       dsimp only [go_sem,rA,rM,rS]
       refine Yn rfl ?_
       dsimp only [go_sem,rA,rM,rS]
       refine ixa 1 rfl (by decide) ?_
       dsimp only [go_sem,rA,rM,rS]
       iterate 4 (refine Yn rfl ?_;dsimp only [go_sem,rA,rM,rS])
       refine call (Zdg way j (by omega)) ?_
       dsimp only [Z2,go_sem,rA,rM,rS]
       refine Yn rfl ?_
       dsimp only [go_sem,rA,rM,rS]
       have hot:=ZW hok hxj hn0
       have hih:=ih (v :: been) (Zk l.legs[j] v) (ZK true l.legs[j] p t) (way ++ [j]) allj ver clk L1 (Z2 (way ++ [j])) hR' hnb hot.1 (by omega) (by simp;omega) hlenj hMj hL1 (.inl rfl)
       have hWj:(XM l p to till g (v :: been) (Zk l.legs[j] v) (ZK true l.legs[j] p t)).map (way ++ [j] ++ ·)=(Xb l p to till g been v t j).map (way ++ ·):=by
        rw [WN hxj hn0 hnb,List.map_map]
        simp [Function.comp_def]
       rw [hWj,hoth] at hih
       refine YO [0,1,2,3,4,5,6,7] hih rfl rfl ?_ ?_ ?_ ?_
       . rfl
       . dsimp only [rho,Z2,go_sem,rA,rM,rS]
         simp [Za,Ze,KFR,KFL,KF,Zc,mtO,nbr,ZO,Zg,Zm,Zh,Yz,Z2,Ym,Zs,Zn]
       . dsimp only [rho,YN,ZO,go_sem,rA,rM,rS]
         simp [Za,Ze,KFR,KFL,KF,Zc,mtO,nbr,ZO,Zg,Zm,Zh,Yz,Z2,Ym,Zs,Zn]
       rintro o ⟨ver',clk',hM',rfl⟩
       dsimp only [YN,ZO,go_sem,rA,rM,rS]
       refine Yn rfl ?_
       dsimp only [Bool.not_false,go_sem,rA,rM,rS]
       have hnext:all ++ (Yd l p to till g been v t (j+1)).map (way ++ ·)=allj ++ (Xb l p to till g been v t j).map (way ++ ·):=by
        rw [Z4,List.map_append,<- List.append_assoc,<- hallj]
       generalize hWW:(Xb l p to till g been v t j).map (way ++ ·)=Wj at hnext ⊢
       by_cases hsm:(allj ++ Wj).length<=200
       . refine Zw (by simp only [hsm,decide_true];rfl) ?_
         dsimp only [go_sem,rA,rM,rS]
         refine ⟨rfl,?_⟩
         refine Zw (by decide) ?_
         dsimp only [go_sem,rA,rM,rS]
         rw [Zf (n:=(j:Int)+1) (by omega) (by omega),Vx (by omega)]
         rw [<- hnext] at hsm ⊢
         refine ⟨(j+1,_,ver',clk'),⟨hlt,hM',rfl,hsm⟩,by simp only;omega,?_⟩
         generalize all ++ (Yd l p to till g been v t (j+1)).map (way ++ ·)=alln
         (refine Zl ?_ ?_ ?_ rfl rfl<;>dsimp only [ZO,Zg,Zm,Zh,Yz,Z2,Ym,Zz,Zs,Zn,Za,id,go_sem,rA,rM,rS]<;>simp [ZO,Zg,Zm,Zh,Yz,Z2,Ym,Zz,Zs,Zn,Za,Za,Ze,KFR,KFL,KF,Zc,mtO,nbr])
       . refine Zv (by simp only [hsm,decide_false];rfl) ?_
         dsimp only [go_sem,rA,rM,rS]
         refine ⟨rfl,?_⟩
         refine Zv rfl ?_
         dsimp only [go_sem,rA,rM,rS]
         have hWs:XM l p to till (g+1) been v t=Yd l p to till g been v t l.legs.length:=by rw [YI,if_neg hlate,if_neg hto]
         obtain ⟨R,hRs⟩:=Xd (l:=l) (p:=p) (to:=to) (till:=till) (f:=g) (been:=been) (v:=v) (t:=t) (j:=j+1) (l.legs.length - (j+1))
         rw [show j+1+(l.legs.length - (j+1))=l.legs.length by omega] at hRs
         have hall2:all ++ (XM l p to till (g+1) been v t).map (way ++ ·)=allj ++ Wj ++ R.map (way ++ ·):=by
          rw [hWs,hRs,List.map_append,<- List.append_assoc,hnext]
         have hlong:¬ (allj ++ Wj ++ R.map (way ++ ·)).length<=200:=by rw [List.length_append];omega
         refine ⟨_,ZxZ (key:=kI) (val:=B) (sv:=sI) (L:=L1) (k:=v) ZdM Zdx,?_⟩
         rw [hdel]
         have hMf:MW L clk':=by have:=hM'.del (k:=v);rw [hdel] at this;exact this
         refine ⟨_,⟨ver',clk',hMf,rfl⟩,?_⟩
         have hc2:cap (allj ++ Wj ++ R.map (way ++ ·))=cap (allj ++ Wj):=Zdv (by omega)
         rw [hall2,hc2,decide_eq_false hlong]
         generalize cap (allj ++ Wj)=alln
         (refine Z1 ?_ ?_ ?_ rfl<;>dsimp only [ZO,Zg,Zm,Zh,Yz,Z2,Ym,Zz,Zs,Zn,Za,YN,id,go_sem,rA,rM,rS]<;>simp [ZO,Zg,Zm,Zh,Yz,Z2,Ym,Zz,Zs,Zn,Za,YN,Za,Ze,KFR,KFL,KF,Zc,mtO,nbr])
     refine Zw (by simpa using hca) ?_
     dsimp only [go_sem,rA,rM,rS]
     by_cases hcb:v=l.legs[j].b
     . refine Zv (by simpa using hcb) ?_
       have hoth:Zk l.legs[j] v=l.legs[j].a:=by rw [Zk,if_neg (fun h=>hca h.symm),if_pos hcb.symm]
       dsimp only [go_sem,rA,rM,rS]
       refine ⟨rfl,rfl,?_⟩
       refine Zcd (key:=kI) (sv:=sI) (val:=B) (L:=L1) (k:=l.legs[j].a) (z:=.bool false) (zs:=B false) rfl rfl ZdM Zdx rfl (by kernel_rfl) (fun w E n ok=>by simp only [R]) ?_ ?_
       . intro b hget
         have hb:b=true/\Zk l.legs[j] v ∈ v :: been:=by
          have h:=hL1 l.legs[j].a
          rw [hget] at h
          rw [hoth]
          split at h
          . rename_i hm;exact ⟨Option.some.inj h,hm⟩
          . cases h
         obtain ⟨rfl,hmem⟩:=hb
         dsimp only [Bool.not_true,go_sem,rA,rM,rS]
         repeat (refine Vt (by decide) ?_;dsimp only [go_sem,rA,rM,rS])
         refine Zw (by decide) ?_
         dsimp only [go_sem,rA,rM,rS]
         refine ⟨rfl,?_⟩
         refine Zw (by decide) ?_
         dsimp only [go_sem,rA,rM,rS]
         rw [Zf (n:=(j:Int)+1) (by omega) (by omega)]
         refine ⟨(j+1,allj,ver,clk),⟨hlt,hMj,by rw [Z4,WA hxj (.inr hmem),List.append_nil];exact hallj,hlenj⟩,by simp only;omega,?_⟩
         (refine Zl ?_ ?_ ?_ rfl rfl<;>dsimp only [ZO,Zg,Zm,Zh,Yz,Z2,Ym,Zz,Zs,Zn,Za,id,go_sem,rA,rM,rS]<;>simp [ZO,Zg,Zm,Zh,Yz,Z2,Ym,Zz,Zs,Zn,Za,Za,Ze,KFR,KFL,KF,Zc,mtO,nbr])
       intro hget
       have hnb:Zk l.legs[j] v ∉ v :: been:=fun hm=>by
        have h:=hL1 l.legs[j].a
        rw [hoth] at hm
        rw [hget,if_pos hm] at h;cases h
       have hn0:¬ Zk l.legs[j] v < 0:=by rw [hoth];omega
       dsimp only [Bool.not_false,go_sem,rA,rM,rS]
       iterate 10 (refine Yn rfl ?_;dsimp only [go_sem,rA,rM,rS])
       refine call (XZ l p j hlt t t hgl hok.pace hin hin) ?_
       dsimp only [go_sem,rA,rM,rS]
       refine Yn rfl ?_
       dsimp only [go_sem,rA,rM,rS]
       refine ixa 1 rfl (by decide) ?_
       dsimp only [go_sem,rA,rM,rS]
       iterate 4 (refine Yn rfl ?_;dsimp only [go_sem,rA,rM,rS])
       refine call (Zdg way j (by omega)) ?_
       dsimp only [Z2,go_sem,rA,rM,rS]
       refine Yn rfl ?_
       dsimp only [go_sem,rA,rM,rS]
       have hot:=ZW hok hxj hn0
       have hih:=ih (v :: been) (Zk l.legs[j] v) (ZK true l.legs[j] p t) (way ++ [j]) allj ver clk L1 (Z2 (way ++ [j])) hR' hnb hot.1 (by omega) (by simp;omega) hlenj hMj hL1 (.inl rfl)
       have hWj:(XM l p to till g (v :: been) (Zk l.legs[j] v) (ZK true l.legs[j] p t)).map (way ++ [j] ++ ·)=(Xb l p to till g been v t j).map (way ++ ·):=by
        rw [WN hxj hn0 hnb,List.map_map]
        simp [Function.comp_def]
       rw [hWj,hoth] at hih
       refine YO [0,1,2,3,4,5,6,7] hih rfl rfl ?_ ?_ ?_ ?_
       . rfl
       . dsimp only [rho,Z2,go_sem,rA,rM,rS]
         simp [Za,Ze,KFR,KFL,KF,Zc,mtO,nbr,ZO,Zg,Zm,Zh,Yz,Z2,Ym,Zs,Zn]
       . dsimp only [rho,YN,ZO,go_sem,rA,rM,rS]
         simp [Za,Ze,KFR,KFL,KF,Zc,mtO,nbr,ZO,Zg,Zm,Zh,Yz,Z2,Ym,Zs,Zn]
       rintro o ⟨ver',clk',hM',rfl⟩
       dsimp only [YN,ZO,go_sem,rA,rM,rS]
       refine Yn rfl ?_
       dsimp only [Bool.not_false,go_sem,rA,rM,rS]
       have hnext:all ++ (Yd l p to till g been v t (j+1)).map (way ++ ·)=allj ++ (Xb l p to till g been v t j).map (way ++ ·):=by
        rw [Z4,List.map_append,<- List.append_assoc,<- hallj]
       generalize hWW:(Xb l p to till g been v t j).map (way ++ ·)=Wj at hnext ⊢
       by_cases hsm:(allj ++ Wj).length<=200
       . refine Zw (by simp only [hsm,decide_true];rfl) ?_
         dsimp only [go_sem,rA,rM,rS]
         refine ⟨rfl,?_⟩
         refine Zw (by decide) ?_
         dsimp only [go_sem,rA,rM,rS]
         rw [Zf (n:=(j:Int)+1) (by omega) (by omega),Vx (by omega)]
         rw [<- hnext] at hsm ⊢
         refine ⟨(j+1,_,ver',clk'),⟨hlt,hM',rfl,hsm⟩,by simp only;omega,?_⟩
         generalize all ++ (Yd l p to till g been v t (j+1)).map (way ++ ·)=alln
         (refine Zl ?_ ?_ ?_ rfl rfl<;>dsimp only [ZO,Zg,Zm,Zh,Yz,Z2,Ym,Zz,Zs,Zn,Za,id,go_sem,rA,rM,rS]<;>simp [ZO,Zg,Zm,Zh,Yz,Z2,Ym,Zz,Zs,Zn,Za,Za,Ze,KFR,KFL,KF,Zc,mtO,nbr])
       . refine Zv (by simp only [hsm,decide_false];rfl) ?_
         dsimp only [go_sem,rA,rM,rS]
         refine ⟨rfl,?_⟩
         refine Zv rfl ?_
         dsimp only [go_sem,rA,rM,rS]
         have hWs:XM l p to till (g+1) been v t=Yd l p to till g been v t l.legs.length:=by rw [YI,if_neg hlate,if_neg hto]
         obtain ⟨R,hRs⟩:=Xd (l:=l) (p:=p) (to:=to) (till:=till) (f:=g) (been:=been) (v:=v) (t:=t) (j:=j+1) (l.legs.length - (j+1))
         rw [show j+1+(l.legs.length - (j+1))=l.legs.length by omega] at hRs
         have hall2:all ++ (XM l p to till (g+1) been v t).map (way ++ ·)=allj ++ Wj ++ R.map (way ++ ·):=by
          rw [hWs,hRs,List.map_append,<- List.append_assoc,hnext]
         have hlong:¬ (allj ++ Wj ++ R.map (way ++ ·)).length<=200:=by rw [List.length_append];omega
         refine ⟨_,ZxZ (key:=kI) (val:=B) (sv:=sI) (L:=L1) (k:=v) ZdM Zdx,?_⟩
         rw [hdel]
         have hMf:MW L clk':=by have:=hM'.del (k:=v);rw [hdel] at this;exact this
         refine ⟨_,⟨ver',clk',hMf,rfl⟩,?_⟩
         have hc2:cap (allj ++ Wj ++ R.map (way ++ ·))=cap (allj ++ Wj):=Zdv (by omega)
         rw [hall2,hc2,decide_eq_false hlong]
         generalize cap (allj ++ Wj)=alln
         (refine Z1 ?_ ?_ ?_ rfl<;>dsimp only [ZO,Zg,Zm,Zh,Yz,Z2,Ym,Zz,Zs,Zn,Za,YN,id,go_sem,rA,rM,rS]<;>simp [ZO,Zg,Zm,Zh,Yz,Z2,Ym,Zz,Zs,Zn,Za,YN,Za,Ze,KFR,KFL,KF,Zc,mtO,nbr])
     refine Zw (by simpa using hcb) ?_
     dsimp only [go_sem,rA,rM,rS]
     rw [Zf (n:=(j:Int)+1) (by omega) (by omega)]
     have hoth:Zk l.legs[j] v = -1:=by rw [Zk,if_neg (fun h=>hca h.symm),if_neg (fun h=>hcb h.symm)]
     refine ⟨(j+1,allj,ver,clk),⟨hlt,hMj,by rw [Z4,WA hxj (.inl (by omega)),List.append_nil];exact hallj,hlenj⟩,by simp only;omega,?_⟩
     (refine Zl ?_ ?_ ?_ rfl rfl<;>dsimp only [ZO,Zg,Zm,Zh,Yz,Z2,Ym,Zz,Zs,Zn,Za,id,go_sem,rA,rM,rS]<;>simp [ZO,Zg,Zm,Zh,Yz,Z2,Ym,Zz,Zs,Zn,Za,Za,Ze,KFR,KFL,KF,Zc,mtO,nbr])
   refine Zw (by simp;omega) ?_
   dsimp only [go_sem,rA,rM,rS]
   have hje:j=l.legs.length:=by omega
   subst hje
   have hWs:XM l p to till (g+1) been v t=Yd l p to till g been v t l.legs.length:=by rw [YI,if_neg hlate,if_neg hto]
   refine ⟨_,ZxZ (key:=kI) (val:=B) (sv:=sI) (L:=L1) (k:=v) ZdM Zdx,?_⟩
   rw [hdel]
   have hMf:MW L clk:=by have:=hMj.del (k:=v);rw [hdel] at this;exact this
   refine ⟨_,⟨ver,clk,hMf,rfl⟩,?_⟩
   rw [hWs,<- hallj,Vx (by omega),decide_eq_true hlenj]
   (refine Z1 ?_ ?_ ?_ rfl<;>dsimp only [ZO,Zg,Zm,Zh,Yz,Z2,Ym,Zz,Zs,Zn,Za,YN,id,go_sem,rA,rM,rS]<;>simp [ZO,Zg,Zm,Zh,Yz,Z2,Ym,Zz,Zs,Zn,Za,YN,Za,Ze,KFR,KFL,KF,Zc,mtO,nbr])
def Zda (l:Land) (p:Span) (s to day till:Int):SV:=.tup [XQ (Zdd l p s to day till) 1 ((Zaf l p s to day till).map Yz),I (Zdd l p s to day till)]
theorem Zn6 (l:Land) (p:Span) (s to day till:Int):KF (Zda l p s to day till):=by
 unfold Zda XQ;split<;>simp [KFL,KF,Za,Yz,Z2,Ym]
theorem Zqk (l:Land) (hs:Vl l) (s to day till:Int) (p:Span):Ct Tryz.prog 65 [.agg (Yo l),I s,I to,I day,I till,.agg (Zd p)] (Zda l p s to day till):=by
 have hw:=hs.1
 have hleg:=hs.2.1
 refine t65.1 (by simp [Yo,Zg,Zm,Zh,Zd,Za,KFL,KF]) (Zn6 _ _ _ _ _ _) ?_
 dsimp only [c65,r65,Yo,Zd,go_sem,rA,rM,rS]
 by_cases ha:ZaE l p=0
 case neg =>
  refine call (Za1 l hs p ha) ?_
  dsimp only [go_sem,rA,rM,rS]
  refine Zv (by simpa using ha) ?_
  dsimp only [go_sem,rA,rM,rS]
  simp [Zda,Zdd,ha,XQ]
 have hok:=ZiA ha
 refine call (ZdL l hs p ha) ?_
 dsimp only [ZO,go_sem,rA,rM,rS]
 refine Zw (by decide) ?_
 dsimp only [go_sem,rA,rM,rS]
 simp only [List.length_map]
 have h1:=U5 hok.land
 rw [Zf (n:=(l.wells.length:Int) - 1) (by omega) (by omega)]
 refine call (ZeH 0 (l.wells.length - 1) s to true) ?_
 dsimp only [go_sem,rA,rM,rS]
 repeat (first | (refine gb ?_;dsimp only [go_sem,rA,rM,rS]) | (refine call (ZeH 0 100000 day till true) ?_;dsimp only [go_sem,rA,rM,rS]))
 by_cases hr:(inR 0 (l.wells.length - 1) s && inR 0 (l.wells.length - 1) to && inR 0 100000 day && inR 0 100000 till)=true
 case neg =>
  have hb:∀ a b c d:Bool,¬ (a && b && c && d)=true->(!(a && b) || !(c && d))=true:=by decide
  refine Zv (hb _ _ _ _ hr) ?_
  dsimp only [go_sem,rA,rM,rS]
  simp [Zda,Zdd,ha,XQ,hr]
 have hb:∀ a b c d:Bool,(a && b && c && d)=true->(!(a && b) || !(c && d))=false:=by decide
 refine Zw (hb _ _ _ _ hr) ?_
 dsimp only [go_sem,rA,rM,rS]
 have he:Zdd l p s to day till=if (Zaf l p s to day till).length > 200 then 9 else 0:=by simp only [Zdd,Zaf,ha,hr];simp
 simp only [Bool.and_eq_true,inR,decide_eq_true_eq] at hr
 obtain ⟨⟨⟨hr1,hr3⟩,hd⟩,hu⟩:=hr
 refine ZbZ rfl rfl rfl ?_
 dsimp only [go_sem,rA,rM,rS]
 refine gh (Um 5 0 1 35 rfl rfl) ?_
 dsimp only [go_sem,rA,rM,rS]
 have hlk:=ZuJ l p hs hok till to (l.wells.length+1) [] s day [] [] 0 0 [] (.v (.slice none 0 0)) Zmx.start (by simp) (by omega) (by omega) (by simp;omega) (by simp) MW.nil (fun u=>by simp [XG]) (.inr ⟨rfl,rfl⟩)
 have hW:(XM l p to till (l.wells.length+1) [] s day).map (([]:List Nat) ++ ·)=Zaf l p s to day till:=by simp [Zaf]
 rw [hW] at hlk
 refine YO [2,1,5,7,4,8,9,6] hlk rfl rfl ?_ ?_ ?_ ?_
 . rfl
 . dsimp only [rho,go_sem,rA,rM,rS]
   simp [Za,Ze,KFR,KFL,KF,Zc,mtO,nbr]
 . dsimp only [rho,YN,ZO,go_sem,rA,rM,rS]
   simp [Za,Ze,KFR,KFL,KF,Zc,mtO,nbr,Zz,ZO,Zg,Zm,Zh,Yz,Z2,Ym]
 rintro o ⟨ver',clk',hM',rfl⟩
 dsimp only [YN,ZO,go_sem,rA,rM,rS]
 try simp only [List.nil_append]
 by_cases hl:(Zaf l p s to day till).length<=200
 . refine Zw (by simp only [hl,decide_true];rfl) ?_
   dsimp only [go_sem,rA,rM,rS]
   simp only [nbr]
   dsimp only [go_sem,rA,rM,rS]
   rw [Zda,he,if_neg (by omega),Vx (by omega)]
   simp [XQ,vwN]
 . refine Zv (by simp only [hl,decide_false];rfl) ?_
   dsimp only [go_sem,rA,rM,rS]
   rw [Zda,he,if_pos (by omega)]
   simp [XQ]
end Go.Proofs.YtiigiflofnjilaaGreat
namespace Go.Azalai
def W32:={n:Int // 0<=n/\n < 4294967296}
def atF (l:List W32) (i:Nat):Int:=match l[i % l.length]? with | some x=>x.val | none=>0
theorem Ya (l:List W32) (i:Nat):0<=atF l i/\atF l i < 4294967296:=by
 unfold atF;split
 . rename_i x _;exact x.property
 . omega
def YY (s:Span) (n:Int):Int:=s.lo+n.tmod (s.hi - s.lo+1)
theorem Yh {s:Span} {n:Int} (h:s.lo<=s.hi) (hn:0<=n):s.lo<=YY s n/\YY s n<=s.hi:=by
 have h1:=Int.tmod_nonneg (s.hi - s.lo+1) hn
 have h2:=Int.tmod_lt_of_pos n (show 0 < s.hi - s.lo+1 by omega)
 unfold YY;omega
structure Ready (l:Land) (p:Span):Prop where
 small:Vl l
 ok:OkLP l p
theorem ZgJ {n day:Int} {o s:Gate->Int} {t:Int} (ht:t<=100000):∀ {l:List Gate} {a:Int},Zco n day o s a l<=t↔a<=t\/∃ g ∈ l,max day (o g)+n - 1<=s g/\max day (o g)<=t
 | [],a=>by simp [Zco]
 | g :: l,a=>by
  simp only [Zco]
  rw [ZgJ ht (l:=l)]
  simp only [List.mem_cons,exists_eq_or_imp]
  by_cases h:max day (o g)+n - 1<=s g
  . rw [if_pos h]
    constructor
    . rintro (q | q)
      . by_cases ha:a<=t
        . exact .inl ha
        . exact .inr (.inl ⟨h,by omega⟩)
      . exact .inr (.inr q)
    . rintro (q | q | q)
      . exact .inl (by omega)
      . exact .inl (by have:=q.2;omega)
      . exact .inr q
  . rw [if_neg h]
    constructor
    . rintro (q | q)
      . exact .inl q
      . exact .inr (.inr q)
    . rintro (q | q | q)
      . exact .inl q
      . exact absurd q.1 h
      . exact .inr q
def oK (k:Bool) (g:Gate):Int:=bif k then g.opens.hi else g.opens.lo
def sK (k:Bool) (g:Gate):Int:=bif k then g.shuts.lo else g.shuts.hi
theorem Zeg {k:Bool} {x:Leg} {p:Span} {t u:Int} (h:GoodLeg x) (hp:ZX p=true) (hu:u<=100000) :
 leK k x p t<=u↔∃ g ∈ x.gates,max t (oK k g)+nK k x p - 1<=sK k g/\max t (oK k g)<=u:=by
 rw [(Zbt (k:=k) (t:=t) h hp).1,ZgJ hu]
 constructor
 . rintro (q | q)
   . omega
   . exact q
 . exact fun q=>.inr q
theorem Zlx {k:Bool} {x:Leg} {p:Span} {t:Int} (h:GoodLeg x) (hp:ZX p=true) (ht:t<=100001):t<=leK k x p t/\leK k x p t<=100001:=by
 have hn:=ZeF (k:=k) h hp
 obtain ⟨_,a2,a3⟩:=Zbt (k:=k) (t:=t) h hp
 have:=ZfO (day:=t) (o:=fun g=>bif k then g.opens.hi else g.opens.lo) hn.1 a3
 refine ⟨?_,by omega⟩
 apply Classical.byContradiction
 intro q
 obtain ⟨g,hg,h1,h2⟩:=(Zeg (k:=k) (t:=t) (u:=leK k x p t) h hp (by omega)).1 (Int.le_refl _)
 omega
theorem UO {a b:Int} (ha:1<=a) (hb:1<=b):a<=(a+b - 1).tdiv b * b/\((a+b - 1).tdiv b - 1) * b < a:=by
 rw [Int.tdiv_eq_ediv_of_nonneg (by omega)]
 have h1:=Int.emod_add_mul_ediv (a+b - 1) b
 have h2:=Int.emod_nonneg (a+b - 1) (show b≠0 by omega)
 have h3:=Int.emod_lt_of_pos (a+b - 1) (show 0 < b by omega)
 rw [Int.sub_mul,Int.mul_comm ((a+b - 1) / b) b]
 omega
theorem Zjk {x:Leg} {p:Span} (h:GoodLeg x) (hp:ZX p=true):nK false x p<=nK true x p:=by
 simp only [ZX,Z6,decide_eq_true_eq] at hp
 obtain ⟨h1,h2,h3,_,_⟩:=h
 simp only [nK,cond_true,cond_false,V2]
 have u:=UO (a:=x.long.lo) (b:=p.hi) h1 (by omega)
 have v:=UO (a:=x.long.hi) (b:=p.lo) (by omega) (by omega)
 have w:0<=(x.long.hi+p.lo - 1).tdiv p.lo:=Int.tdiv_nonneg (by omega) (by omega)
 generalize (x.long.lo+p.hi - 1).tdiv p.hi=A at *
 generalize (x.long.hi+p.lo - 1).tdiv p.lo=B at *
 have q:=Int.mul_le_mul_of_nonneg_left hp.2.1 w
 apply Classical.byContradiction
 intro hc
 have q2:B * p.hi<=(A - 1) * p.hi:=Int.mul_le_mul_of_nonneg_right (by omega) (by omega)
 omega
theorem Zrn {x:Leg} {p:Span} {t:Int} (h:GoodLeg x) (hp:ZX p=true) (ht:t<=100001):leK false x p t<=leK true x p t:=by
 have b0:=Zlx (k:=false) h hp ht
 have b1:=Zlx (k:=true) h hp ht
 have hn:=Zjk h hp
 apply Classical.byContradiction
 intro q
 obtain ⟨g,hg,h1,h2⟩:=(Zeg (k:=true) (t:=t) (u:=leK true x p t) h hp (by omega)).1 (Int.le_refl _)
 have hm:=YQ h.g2 (Int.le_refl _) g hg
 simp only [oK,sK,cond_true] at h1 h2
 exact q ((Zeg (k:=false) h hp (by omega)).2 ⟨g,hg,by simp only [oK,sK,cond_false];omega,by simp only [oK,cond_false];omega⟩)
end Go.Azalai
namespace Go.Proofs.YtiigiflofnjilaaGreat
open Go Go.Sx Go.Azalai
def U32 (n:Int):SV:=.v (.int .u32 n)
def Uq (x:W32):List SV:=[U32 x.val]
theorem wf32 {n:Int} (h:(Lit.int .u32 n).wf=true):0<=n/\n < 4294967296:=by
 simp only [Lit.wf,Bool.and_eq_true,decide_eq_true_eq] at h
 have e1:IntKind.u32.min=0:=rfl
 have e2:IntKind.u32.max=4294967295:=rfl
 omega
end Go.Proofs.YtiigiflofnjilaaGreat
namespace Go.Azalai
structure Truth where
 water:Int
 fat:Int
 sore:Int
theorem ZmE {x y a b:Int} (hx:0<=x) (hxy:x<=y) (ha:0<=a) (hab:a<=b):0<=x * a/\x * a<=y * b:=⟨Int.mul_nonneg hx ha,Int.mul_le_mul hxy hab ha (by omega)⟩
structure Pk where
 rest:Int
 heat:Int
 mheat:Int
 toil:Int
 milk:Int
 burn:Int
 drinks:Int
 grass:Int
 rub:Int
def inS (x:Int) (s:Span):Prop:=s.lo<=x/\x<=s.hi
structure Pin (p:Pk) (b:Breed) (m:March):Prop where
 rest:inS p.rest b.rest
 heat:inS p.heat b.heat
 mheat:inS p.mheat m.heat
 toil:inS p.toil b.toil
 milk:inS p.milk b.milk
 burn:inS p.burn b.burn
 drinks:inS p.drinks m.drinks
 grass:inS p.grass m.grass
 rub:inS p.rub b.rub
def Ve (p:Pk) (k:Bool) (m:March) (t:Truth):Int:=if k then t.water - (100000 * (p.rest+p.heat * max 0 (p.mheat - 20))+p.toil * ZB m) - 100000 * p.milk else t.water - (100000 * (p.rest+p.heat * max 0 (p.mheat - 20))+p.toil * ZB m)
def Vr (p:Pk) (m:March) (t:Truth):Int:=t.fat - p.burn * ZB m
def Zk1 (p:Pk) (b:Breed) (m:March) (t:Truth):Int:=if m.hours=0 then max 0 (min 1000000000 (t.sore+p.rub * m.hours * m.load) - 1000000 * b.heal) else min 1000000000 (t.sore+p.rub * m.hours * m.load)
def Znu (p:Pk) (b:Breed) (k:Bool) (m:March) (t:Truth):Truth:=⟨min (100000 * b.full) (Ve p k m t+100000 * p.drinks),min (100000 * b.fed) (Vr p m t+100000 * p.grass),Zk1 p b m t⟩
def XJ (p:Pk) (k:Bool) (m:March) (t:Truth):Bool:=decide (0<=Ve p k m t) && decide (0<=Vr p m t)
structure Tin (t:Truth) (c:Camel):Prop where
 water:100000 * c.water.lo<=t.water/\t.water<=100000 * c.water.hi
 fat:100000 * c.fat.lo<=t.fat/\t.fat<=100000 * c.fat.hi
 sore:1000000 * c.sore.lo<=t.sore/\t.sore<=1000000 * c.sore.hi
theorem Zak {a d:Int} (h0:0<=a) (hd:0 < d):d * a.tdiv d<=a:=by
 rw [Int.tdiv_eq_ediv_of_nonneg h0];exact Int.mul_ediv_self_le (by omega)
theorem ZcO {a d:Int} (h0:0<=a) (hd:0 < d):a<=d * upF a d:=by
 unfold upF
 rw [Int.tdiv_eq_ediv_of_nonneg (by omega)]
 have h1:=Int.emod_add_mul_ediv (a+d - 1) d
 have h2:=Int.emod_lt_of_pos (a+d - 1) hd
 omega
theorem ZdU {b:Breed} {m:March} {p:Pk} (k:Bool) (hb:Zx b=true) (hm:ZY m=true) (hp:Pin p b m) (t:Truth) :
 (100000 * (X4 b k m).lo<=t.water - Ve p k m t/\t.water - Ve p k m t<=100000 * (X4 b k m).hi)/\100000 * (WB b m).lo<=t.fat - Vr p m t/\t.fat - Vr p m t<=100000 * (WB b m).hi:=by
 have hbb:=Go.Proofs.YtiigiflofnjilaaGreat.Cm.breed_bd hb
 have hmm:=Go.Proofs.YtiigiflofnjilaaGreat.Cm.march_bd hm
 have hw:0<=ZB m:=by unfold ZB;exact Int.mul_nonneg (by omega) (by omega)
 obtain ⟨r1,r2,r3,r4,r5,r6,r7,r8,r9⟩:=hp
 unfold inS at *
 have a1:=ZmE (x:=b.heat.lo) (y:=p.heat) (a:=max 0 (m.heat.lo - 20)) (b:=max 0 (p.mheat - 20)) (by omega) (by omega) (by omega) (by omega)
 have a2:=ZmE (x:=p.heat) (y:=b.heat.hi) (a:=max 0 (p.mheat - 20)) (b:=max 0 (m.heat.hi - 20)) (by omega) (by omega) (by omega) (by omega)
 have t1:=ZmE (x:=b.toil.lo) (y:=p.toil) (a:=ZB m) (b:=ZB m) (by omega) (by omega) hw (Int.le_refl _)
 have t2:=ZmE (x:=p.toil) (y:=b.toil.hi) (a:=ZB m) (b:=ZB m) (by omega) (by omega) hw (Int.le_refl _)
 have u1:=ZmE (x:=b.burn.lo) (y:=p.burn) (a:=ZB m) (b:=ZB m) (by omega) (by omega) hw (Int.le_refl _)
 have u2:=ZmE (x:=p.burn) (y:=b.burn.hi) (a:=ZB m) (b:=ZB m) (by omega) (by omega) hw (Int.le_refl _)
 have T1:=Zak t1.1 (d:=100000) (by decide)
 have T2:=ZcO (a:=b.toil.hi * ZB m) (d:=100000) (by omega) (by decide)
 have U1:=Zak u1.1 (d:=100000) (by decide)
 have U2:=ZcO (a:=b.burn.hi * ZB m) (d:=100000) (by omega) (by decide)
 simp only [X4,WB,Ve,Vr]
 cases k<;>simp<;>omega
theorem Zju {b:Breed} {m:March} {p:Pk} {t:Truth} {c:Camel} (hb:Zx b=true) (hm:ZY m=true) (hp:Pin p b m) (ht:Tin t c) (h0:0<=c.sore.lo/\c.sore.lo<=1000) :
 1000000 * (U3 b c.sore m).lo<=Zk1 p b m t/\Zk1 p b m t<=1000000 * (U3 b c.sore m).hi:=by
 have hbb:=Go.Proofs.YtiigiflofnjilaaGreat.Cm.breed_bd hb
 have hmm:=Go.Proofs.YtiigiflofnjilaaGreat.Cm.march_bd hm
 obtain ⟨r1,r2,r3,r4,r5,r6,r7,r8,r9⟩:=hp
 unfold inS at *
 have hl:0<=m.hours * m.load:=Int.mul_nonneg (by omega) (by omega)
 have t1:=ZmE (x:=b.rub.lo) (y:=p.rub) (a:=m.hours * m.load) (b:=m.hours * m.load) (by omega) (by omega) hl (Int.le_refl _)
 have t2:=ZmE (x:=p.rub) (y:=b.rub.hi) (a:=m.hours * m.load) (b:=m.hours * m.load) (by omega) (by omega) hl (Int.le_refl _)
 have T1:=Zak t1.1 (d:=1000000) (by decide)
 have T2:=ZcO (a:=b.rub.hi * (m.hours * m.load)) (d:=1000000) (by omega) (by decide)
 obtain ⟨q1,q2,q3⟩:=ht
 unfold Zk1 U3
 rw [Int.mul_assoc]
 by_cases h:m.hours=0
 . rw [if_pos h,if_pos h]
   have:m.hours * m.load=0:=by rw [h,Int.zero_mul]
   rw [this,Int.mul_zero]
   simp only;omega
 . rw [if_neg h,if_neg h];simp only;omega
theorem Znd {b:Breed} {c:Camel} {m:March} {p:Pk} {t:Truth} (hb:Zx b=true) (hc:Zu b c=true) (hm:ZY m=true) (hp:Pin p b m) (ht:Tin t c) :
 ((Yl b c m).2=0->XJ p c.milks m t=true)/\(XJ p c.milks m t=true->(Yl b c m).2≠2/\Tin (Znu p b c.milks m t) (Yl b c m).1):=by
 have hbb:=Go.Proofs.YtiigiflofnjilaaGreat.Cm.breed_bd hb
 simp only [Zu,Z6,Bool.and_eq_true,decide_eq_true_eq] at hc
 obtain ⟨⟨w1,w2⟩,w3,w4⟩:=ZdU c.milks hb hm hp t
 have s:=Zju hb hm hp ht ⟨hc.2.1,by omega⟩
 obtain ⟨q1,q2,q3⟩:=ht
 obtain ⟨r1,r2,r3,r4,r5,r6,r7,r8,r9⟩:=hp
 unfold inS at *
 unfold XJ Yl
 simp only [Bool.and_eq_true,decide_eq_true_eq]
 generalize hx:X4 b c.milks m=x at *
 generalize hy:WB b m=y at *
 generalize hlw:Ve p c.milks m t=lw at *
 generalize hlb:Vr p m t=lb at *
 refine ⟨fun h=>?_,fun h=>?_⟩
 . by_cases hd:c.water.hi < x.lo\/c.fat.hi < y.lo
   . rw [if_pos hd] at h;cases h
   rw [if_neg hd] at h
   by_cases hq:c.water.lo ≥ x.hi/\c.fat.lo ≥ y.hi
   . omega
   . simp only at h;rw [if_neg hq] at h;cases h
 . rw [if_neg (by omega)]
   refine ⟨by simp only;split<;>decide,⟨?_,?_,s⟩⟩<;>(simp only [Znu,ZaC,hlw,hlb];omega)
theorem ZpO {b:Breed} {c:Camel} {t:Truth} (hb:Zx b=true) (hc:Zu b c=true) (ht:Tin t c) :
 (Wy b c).lo<=1000/\(Wy b c).lo * 100000 * b.full<=2000 * t.water/\(Wy b c).lo * 100000 * b.fed<=2000 * t.fat/\1000000 * (Wy b c).lo<=1000000000 - t.sore /\
  ((Wy b c).hi < 1000->2000 * t.water<=(Wy b c).hi * 100000 * b.full\/2000 * t.fat<=(Wy b c).hi * 100000 * b.fed\/1000000000 - t.sore<=1000000 * (Wy b c).hi):=by
 have hbb:=Go.Proofs.YtiigiflofnjilaaGreat.Cm.breed_bd hb
 simp only [Zu,Z6,Bool.and_eq_true,decide_eq_true_eq] at hc
 obtain ⟨q1,q2,q3⟩:=ht
 have e1:=Zak (a:=2000 * c.water.lo) (d:=b.full) (by omega) (by omega)
 have e2:=Zak (a:=2000 * c.fat.lo) (d:=b.fed) (by omega) (by omega)
 have e3:=ZcO (a:=2000 * c.water.hi) (d:=b.full) (by omega) (by omega)
 have e4:=ZcO (a:=2000 * c.fat.hi) (d:=b.fed) (by omega) (by omega)
 have l1:(Wy b c).lo<=(2000 * c.water.lo).tdiv b.full:=by simp only [Wy];omega
 have l2:(Wy b c).lo<=(2000 * c.fat.lo).tdiv b.fed:=by simp only [Wy];omega
 have l3:(Wy b c).lo<=1000 - c.sore.hi/\(Wy b c).lo<=1000:=by simp only [Wy];omega
 have l4:(Wy b c).hi < 1000->(Wy b c).hi=upF (2000 * c.water.hi) b.full\/(Wy b c).hi=upF (2000 * c.fat.hi) b.fed\/(Wy b c).hi=1000 - c.sore.lo:=by simp only [Wy];omega
 have m1:=Int.mul_le_mul_of_nonneg_left l1 (show 0<=b.full by omega)
 have m2:=Int.mul_le_mul_of_nonneg_left l2 (show 0<=b.fed by omega)
 have r1:∀ x y:Int,x * 100000 * y=100000 * (y * x):=fun x y=>by rw [Int.mul_comm y x,Int.mul_comm x 100000,Int.mul_assoc]
 rw [r1,r1,r1,r1]
 refine ⟨l3.2,by omega,by omega,by omega,fun h=>?_⟩
 rcases l4 h with h | h | h
 . left;rw [h];omega
 . right;left;rw [h];omega
 . right;right;rw [h];omega
theorem ZoH {b:Breed} {c:Camel} {x:Int} (hb:Zx b=true) (hc:Zu b c=true) (hx:inS x b.strong):(Zmy b c).lo * 1000<=x * (Wy b c).lo/\x * (Wy b c).hi<=(Zmy b c).hi * 1000:=by
 have hbb:=Go.Proofs.YtiigiflofnjilaaGreat.Cm.breed_bd hb
 simp only [Zu,Z6,Bool.and_eq_true,decide_eq_true_eq] at hc
 unfold inS at hx
 have z1:=Int.tdiv_nonneg (a:=2000 * c.water.lo) (b:=b.full) (by omega) (by omega)
 have z2:=Int.tdiv_nonneg (a:=2000 * c.fat.lo) (b:=b.fed) (by omega) (by omega)
 have z3:=(ZfL (a:=2000 * c.water.hi) (d:=b.full) (by omega) (Int.le_refl _) (by omega)).1
 have z4:=(ZfL (a:=2000 * c.fat.hi) (d:=b.fed) (by omega) (Int.le_refl _) (by omega)).1
 have f0:0<=(Wy b c).lo/\0<=(Wy b c).hi:=by simp only [Wy];omega
 have p1:=ZmE (x:=b.strong.lo) (y:=x) (by omega) hx.1 f0.1 (Int.le_refl _)
 have p2:=ZmE (x:=x) (y:=b.strong.hi) (by omega) hx.2 f0.2 (Int.le_refl _)
 have T1:=Zak p1.1 (d:=1000) (by decide)
 have T2:=ZcO (a:=b.strong.hi * (Wy b c).hi) (d:=1000) (by omega) (by decide)
 simp only [Zmy]
 omega
end Go.Azalai
namespace Go.Proofs.YtiigiflofnjilaaGreat
open Go Go.Sx
def c12:SC:=(sr1 [
 o1 1 (.box (.t 0) 0 34),
 o1 2 (.mv (.c (.bool false)))]
 (.seq (sr1 [
 o1 4 (.addo (.t 1) 0),
 o1 5 (.ld (.t 4) 2 true),
 o1 6 (.call 46 [.t 5]),
 m1 7 6,
 ⟨some 8,.addo (.t 1) 36,some (7,false),[]⟩,
 ⟨some 9,.ld (.t 8) 1 false,some (7,false),[]⟩,
 ⟨some 10,.len (.t 9),some (7,false),[]⟩,
 ⟨some 11,.bin .gtr (.t 10) (.c (.int .i64 8)),some (7,false),[]⟩,
 o1 12 (.pick (.t 7) (.c (.bool true)) (.t 11))]
 (.cond (.t 12)
 (sr1 [
  o1 2 (.mv (.c (.bool true)))]
  .ret)
 .skip))
 (.seq (sr1 [
 o1 3 (.mv (.c (.int .i64 0)))]
 (.block 0 (.loop (.seq (sr1 [
  m1 13 3,
  o1 14 (.addo (.t 1) 36),
  o1 15 (.ld (.t 14) 1 false),
  o1 16 (.len (.t 15)),
  o1 17 (.bin .lss (.t 13) (.t 16))]
  (.cond (.t 17)
  .skip
  (.exit 0)))
  (.seq (.block 1 (sr1 [
   o1 20 (.addo (.t 1) 36),
   o1 21 (.ld (.t 20) 1 false),
   m1 22 3,
   o1 23 (.ixs (.t 21) (.t 22) 6),
   o1 24 (.addo (.t 23) 4),
   o1 25 (.ld (.t 24) 1 false),
   o1 26 (.len (.t 25)),
   o1 27 (.bin .gtr (.t 26) (.c (.int .i64 20))),
   m1 28 27,
   ⟨some 29,.addo (.t 1) 36,some (28,false),[]⟩,
   ⟨some 30,.ld (.t 29) 1 false,some (28,false),[]⟩,
   ⟨some 31,.mv (.t 3),some (28,false),[]⟩,
   ⟨some 32,.ixs (.t 30) (.t 31) 6,some (28,false),[]⟩,
   ⟨some 33,.addo (.t 32) 5,some (28,false),[]⟩,
   ⟨some 34,.ld (.t 33) 1 false,some (28,false),[]⟩,
   ⟨some 35,.len (.t 34),some (28,false),[]⟩,
   ⟨some 36,.bin .gtr (.t 35) (.c (.int .i64 20)),some (28,false),[]⟩,
   o1 37 (.pick (.t 28) (.c (.bool true)) (.t 36))]
   (.cond (.t 37)
   (sr1 [
    o1 2 (.mv (.c (.bool true)))]
    .ret)
   .skip)))
  (.reg [
  m1 18 3,
  o1 19 (.bin .add (.t 18) (.c (.int .i64 1))),
  m1 3 19]))))))
 (sr1 [
 o1 2 (.mv (.c (.bool false)))]
 .ret))))
def r12:List RV:=[.tmp 2]
theorem t12:Qt1 Tryz.prog 12 c12 r12 38:=Z8 Tryz.func12 rfl (by kernel_rfl) (by kernel_rfl) (by kernel_rfl) (by kernel_rfl)
def c16:SC:=(sr1 [
 o1 1 (.box (.t 0) 0 34),
 o1 2 (.mv (.c (.int .i64 0)))]
 (sr1 [
 o1 9 (.addo (.t 1) 0),
 o1 10 (.addo (.t 9) 0),
 o1 11 (.ld (.t 10) 1 false),
 o1 12 (.len (.t 11)),
 m1 3 12]
 (sr1 [
 o1 14 (.addo (.t 1) 0),
 o1 15 (.ld (.t 14) 2 true),
 o1 16 (.addo (.t 1) 33),
 o1 17 (.ld (.t 16) 1 false),
 o1 18 (.addo (.t 1) 34),
 o1 19 (.ld (.t 18) 1 false),
 o1 20 (.addo (.t 1) 2),
 o1 21 (.ld (.t 20) 2 true),
 o1 22 (.call 52 [.t 15,.t 17,.t 19,.t 21]),
 m1 13 22,
 o1 23 (.ext (.t 13) 0),
 o1 24 (.ext (.t 13) 1),
 m1 4 23,
 m1 5 24]
 (sr1 [
 o1 25 (.addo (.t 1) 28),
 o1 26 (.ld (.t 25) 1 false),
 o1 27 (.bsl 1 3 [.t 26]),
 o1 28 (.call 53 [.c (.int .i64 1),.c (.int .i64 30),.t 27]),
 m1 29 28,
 ⟨some 30,.addo (.t 1) 29,some (29,true),[]⟩,
 ⟨some 31,.ld (.t 30) 1 false,some (29,true),[]⟩,
 ⟨some 32,.bsl 1 3 [.t 31],some (29,true),[]⟩,
 ⟨some 33,.call 53 [.c (.int .i64 1),.c (.int .i64 24),.t 32],some (29,true),[]⟩,
 o1 34 (.pick (.t 29) (.t 33) (.c (.bool false))),
 m1 35 34,
 ⟨some 36,.addo (.t 1) 30,some (35,true),[]⟩,
 ⟨some 37,.ld (.t 36) 1 false,some (35,true),[]⟩,
 ⟨some 38,.bsl 1 3 [.t 37],some (35,true),[]⟩,
 ⟨some 39,.call 53 [.c (.int .i64 1),.c (.int .i64 1000000),.t 38],some (35,true),[]⟩,
 o1 40 (.pick (.t 35) (.t 39) (.c (.bool false))),
 m1 41 40,
 ⟨some 42,.addo (.t 1) 31,some (41,true),[]⟩,
 ⟨some 43,.ld (.t 42) 1 false,some (41,true),[]⟩,
 ⟨some 44,.addo (.t 1) 32,some (41,true),[]⟩,
 ⟨some 45,.ld (.t 44) 1 false,some (41,true),[]⟩,
 ⟨some 46,.bsl 1 3 [.t 43,.t 45],some (41,true),[]⟩,
 ⟨some 47,.call 53 [.c (.int .i64 0),.c (.int .i64 1000000),.t 46],some (41,true),[]⟩,
 o1 48 (.pick (.t 41) (.t 47) (.c (.bool false))),
 m1 49 48,
 ⟨some 50,.addo (.t 1) 35,some (49,true),[]⟩,
 ⟨some 51,.ld (.t 50) 1 false,some (49,true),[]⟩,
 ⟨some 52,.addo (.t 1) 34,some (49,true),[]⟩,
 ⟨some 53,.ld (.t 52) 1 false,some (49,true),[]⟩,
 ⟨some 54,.bsl 1 3 [.t 53],some (49,true),[]⟩,
 ⟨some 55,.call 53 [.c (.int .i64 0),.t 51,.t 54],some (49,true),[]⟩,
 o1 56 (.pick (.t 49) (.t 55) (.c (.bool false))),
 m1 57 56,
 ⟨some 58,.addo (.t 1) 35,some (57,true),[]⟩,
 ⟨some 59,.ld (.t 58) 1 false,some (57,true),[]⟩,
 ⟨some 60,.bin .leq (.t 59) (.c (.int .i64 100000)),some (57,true),[]⟩,
 o1 61 (.pick (.t 57) (.t 60) (.c (.bool false))),
 m1 6 61]
 (.seq (sr1 [
 m1 62 5,
 o1 63 (.bin .neq (.t 62) (.c (.int .i64 0))),
 m1 64 63,
 ⟨some 65,.addo (.t 1) 4,some (64,false),[]⟩,
 ⟨some 66,.ld (.t 65) 17 true,some (64,false),[]⟩,
 ⟨some 67,.addo (.t 1) 21,some (64,false),[]⟩,
 ⟨some 68,.ld (.t 67) 7 true,some (64,false),[]⟩,
 ⟨some 69,.call 54 [.t 66,.t 68],some (64,false),[]⟩,
 ⟨some 70,.bin .neq (.t 69) (.c (.int .i64 0)),some (64,false),[]⟩,
 o1 71 (.pick (.t 64) (.c (.bool true)) (.t 70)),
 m1 72 71,
 ⟨some 73,.mv (.t 6),some (72,false),[]⟩,
 ⟨some 74,.un .not (.t 73),some (72,false),[]⟩,
 o1 75 (.pick (.t 72) (.c (.bool true)) (.t 74)),
 m1 76 75,
 ⟨some 77,.addo (.t 1) 36,some (76,false),[]⟩,
 ⟨some 78,.ld (.t 77) 1 false,some (76,false),[]⟩,
 ⟨some 79,.len (.t 78),some (76,false),[]⟩,
 ⟨some 80,.bsl 1 3 [.t 79],some (76,false),[]⟩,
 ⟨some 81,.call 53 [.c (.int .i64 1),.c (.int .i64 4),.t 80],some (76,false),[]⟩,
 ⟨some 82,.un .not (.t 81),some (76,false),[]⟩,
 o1 83 (.pick (.t 76) (.c (.bool true)) (.t 82))]
 (.cond (.t 83)
 (sr1 [
  o1 2 (.mv (.c (.int .i64 90)))]
  .ret)
 .skip))
 (.seq (sr1 [
 o1 84 (.addo (.t 1) 36),
 o1 85 (.ld (.t 84) 1 false),
 o1 86 (.len (.t 85)),
 o1 87 (.mv (.c (.int .i64 0)))]
 (.block 0 (.loop (sr1 [
  o1 88 (.bin .lss (.t 87) (.t 86))]
  (.seq (.cond (.t 88)
  .skip
  (.exit 0))
  (.seq (.block 1 (sr1 [
   o1 89 (.ixs (.t 85) (.t 87) 6),
   o1 90 (.ld (.t 89) 6 true),
   o1 8 (.alloc zv5 72),
   ⟨none,.st (.t 8) (.t 90) 6,none,[]⟩]
   (sr1 [
   o1 91 (.addo (.t 8) 0),
   o1 92 (.ld (.t 91) 2 true),
   o1 93 (.bsl 2 27 [.t 92]),
   o1 94 (.call 55 [.c (.int .i64 0),.c (.int .i64 60),.t 93]),
   o1 95 (.un .not (.t 94)),
   m1 96 95,
   ⟨some 97,.addo (.t 8) 2,some (96,false),[]⟩,
   ⟨some 98,.ld (.t 97) 2 true,some (96,false),[]⟩,
   ⟨some 99,.bsl 2 27 [.t 98],some (96,false),[]⟩,
   ⟨some 100,.call 55 [.c (.int .i64 0),.c (.int .i64 1000000),.t 99],some (96,false),[]⟩,
   ⟨some 101,.un .not (.t 100),some (96,false),[]⟩,
   o1 102 (.pick (.t 96) (.c (.bool true)) (.t 101)),
   m1 103 102,
   ⟨some 104,.addo (.t 8) 4,some (103,false),[]⟩,
   ⟨some 105,.ld (.t 104) 1 false,some (103,false),[]⟩,
   ⟨some 106,.len (.t 105),some (103,false),[]⟩,
   ⟨some 107,.mv (.t 3),some (103,false),[]⟩,
   ⟨some 108,.bin .neq (.t 106) (.t 107),some (103,false),[]⟩,
   o1 109 (.pick (.t 103) (.c (.bool true)) (.t 108)),
   m1 110 109,
   ⟨some 111,.addo (.t 8) 4,some (110,false),[]⟩,
   ⟨some 112,.ld (.t 111) 1 false,some (110,false),[]⟩,
   ⟨some 113,.call 55 [.c (.int .i64 0),.c (.int .i64 10000000),.t 112],some (110,false),[]⟩,
   ⟨some 114,.un .not (.t 113),some (110,false),[]⟩,
   o1 115 (.pick (.t 110) (.c (.bool true)) (.t 114)),
   m1 116 115,
   ⟨some 117,.addo (.t 8) 5,some (116,false),[]⟩,
   ⟨some 118,.ld (.t 117) 1 false,some (116,false),[]⟩,
   ⟨some 119,.len (.t 118),some (116,false),[]⟩,
   ⟨some 120,.mv (.t 3),some (116,false),[]⟩,
   ⟨some 121,.bin .neq (.t 119) (.t 120),some (116,false),[]⟩,
   o1 122 (.pick (.t 116) (.c (.bool true)) (.t 121)),
   m1 123 122,
   ⟨some 124,.addo (.t 8) 5,some (123,false),[]⟩,
   ⟨some 125,.ld (.t 124) 1 false,some (123,false),[]⟩,
   ⟨some 126,.call 53 [.c (.int .i64 0),.c (.int .i64 1000000),.t 125],some (123,false),[]⟩,
   ⟨some 127,.un .not (.t 126),some (123,false),[]⟩,
   o1 128 (.pick (.t 123) (.c (.bool true)) (.t 127))]
   (.cond (.t 128)
   (sr1 [
    o1 2 (.mv (.c (.int .i64 90)))]
    .ret)
   .skip))))
  (.reg [
  o1 129 (.bin .add (.t 87) (.c (.int .i64 1))),
  m1 87 129])))))))
 (sr1 [
 o1 2 (.mv (.c (.int .i64 0)))]
 .ret)))))))
def r16:List RV:=[.tmp 2]
theorem t16:Qt1 Tryz.prog 16 c16 r16 130:=Z8 Tryz.func16 rfl (by kernel_rfl) (by kernel_rfl) (by kernel_rfl) (by kernel_rfl)
def c17:SC:=(sr1 [
 o1 1 (.box (.t 0) 0 34),
 o1 2 (.mv (.c (.int .i64 0)))]
 (.seq (sr1 [
 o1 3 (.ld (.t 1) 37 true),
 o1 4 (.call 50 [.t 3]),
 o1 5 (.un .not (.t 4))]
 (.cond (.t 5)
 (sr1 [
  o1 2 (.mv (.c (.int .i64 90)))]
  .ret)
 .skip))
 (sr1 [
 o1 2 (.mv (.c (.int .i64 0)))]
 .ret)))
def r17:List RV:=[.tmp 2]
theorem t17:Qt1 Tryz.prog 17 c17 r17 6:=Z8 Tryz.func17 rfl (by kernel_rfl) (by kernel_rfl) (by kernel_rfl) (by kernel_rfl)
def c19:SC:=(sr1 [
 o1 2 (.box (.t 0) 0 37),
 o1 3 (.box (.t 1) 0 37),
 o1 4 (.mv (.c (.bool false)))]
 (sr1 [
 o1 5 (.addo (.t 2) 1),
 o1 6 (.ld (.t 5) 1 false),
 o1 7 (.addo (.t 3) 1),
 o1 8 (.ld (.t 7) 1 false),
 o1 9 (.bin .eql (.t 6) (.t 8)),
 m1 10 9,
 ⟨some 11,.addo (.t 2) 2,some (10,true),[]⟩,
 ⟨some 12,.ld (.t 11) 1 false,some (10,true),[]⟩,
 ⟨some 13,.addo (.t 3) 2,some (10,true),[]⟩,
 ⟨some 14,.ld (.t 13) 1 false,some (10,true),[]⟩,
 ⟨some 15,.bin .eql (.t 12) (.t 14),some (10,true),[]⟩,
 o1 16 (.pick (.t 10) (.t 15) (.c (.bool false))),
 m1 17 16,
 ⟨some 18,.addo (.t 2) 0,some (17,true),[]⟩,
 ⟨some 19,.ld (.t 18) 1 false,some (17,true),[]⟩,
 ⟨some 20,.addo (.t 3) 0,some (17,true),[]⟩,
 ⟨some 21,.ld (.t 20) 1 false,some (17,true),[]⟩,
 ⟨some 22,.call 57 [.t 19,.t 21],some (17,true),[]⟩,
 o1 23 (.pick (.t 17) (.t 22) (.c (.bool false))),
 m1 4 23]
 .ret))
def r19:List RV:=[.tmp 4]
theorem t19:Qt1 Tryz.prog 19 c19 r19 24:=Z8 Tryz.func19 rfl (by kernel_rfl) (by kernel_rfl) (by kernel_rfl) (by kernel_rfl)
def c48:SC:=(sr1 [
 o1 2 (.box (.t 0) 0 34),
 o1 3 (.box (.t 1) 0 37),
 o1 4 (.mv (.c (.int .i64 0)))]
 (.seq (sr1 [
 o1 8 (.ld (.t 2) 37 true),
 o1 9 (.call 16 [.t 8]),
 m1 5 9]
 (sr1 [
 m1 10 5,
 o1 11 (.bin .neq (.t 10) (.c (.int .i64 0)))]
 (.cond (.t 11)
 (sr1 [
  m1 12 5,
  m1 4 12]
  .ret)
 .skip)))
 (.seq (sr1 [
 o1 14 (.ld (.t 2) 37 true),
 o1 15 (.addo (.t 3) 0),
 o1 16 (.ld (.t 15) 1 false),
 o1 17 (.call 58 [.t 14,.t 16]),
 m1 13 17,
 o1 18 (.ext (.t 13) 0),
 o1 19 (.ext (.t 13) 1),
 m1 6 18,
 m1 7 19]
 (sr1 [
 m1 20 7,
 o1 21 (.un .not (.t 20)),
 m1 22 21,
 ⟨some 23,.addo (.t 2) 28,some (22,false),[]⟩,
 ⟨some 24,.ld (.t 23) 1 false,some (22,false),[]⟩,
 ⟨some 25,.addo (.t 3) 1,some (22,false),[]⟩,
 ⟨some 26,.ld (.t 25) 1 false,some (22,false),[]⟩,
 ⟨some 27,.bsl 1 3 [.t 26],some (22,false),[]⟩,
 ⟨some 28,.call 53 [.c (.int .i64 0),.t 24,.t 27],some (22,false),[]⟩,
 ⟨some 29,.un .not (.t 28),some (22,false),[]⟩,
 o1 30 (.pick (.t 22) (.c (.bool true)) (.t 29)),
 m1 31 30,
 ⟨some 32,.addo (.t 3) 2,some (31,false),[]⟩,
 ⟨some 33,.ld (.t 32) 1 false,some (31,false),[]⟩,
 ⟨some 34,.bsl 1 3 [.t 33],some (31,false),[]⟩,
 ⟨some 35,.call 53 [.c (.int .i64 0),.c (.int .i64 12),.t 34],some (31,false),[]⟩,
 ⟨some 36,.un .not (.t 35),some (31,false),[]⟩,
 o1 37 (.pick (.t 31) (.c (.bool true)) (.t 36))]
 (.cond (.t 37)
 (sr1 [
  o1 4 (.mv (.c (.int .i64 91)))]
  .ret)
 .skip)))
 (sr1 [
 o1 4 (.mv (.c (.int .i64 0)))]
 .ret))))
def r48:List RV:=[.tmp 4]
theorem t48:Qt1 Tryz.prog 48 c48 r48 38:=Z8 Tryz.func48 rfl (by kernel_rfl) (by kernel_rfl) (by kernel_rfl) (by kernel_rfl)
def c50:SC:=(sr1 [
 o1 1 (.box (.t 0) 0 34),
 o1 2 (.mv (.c (.bool false)))]
 (.seq (sr1 [
 o1 6 (.addo (.t 1) 0),
 o1 7 (.ld (.t 6) 2 true),
 o1 8 (.call 93 [.t 7]),
 o1 9 (.bin .neq (.t 8) (.c (.int .i64 0))),
 m1 10 9,
 ⟨some 11,.addo (.t 1) 2,some (10,false),[]⟩,
 ⟨some 12,.ld (.t 11) 2 true,some (10,false),[]⟩,
 ⟨some 13,.call 94 [.t 12],some (10,false),[]⟩,
 ⟨some 14,.un .not (.t 13),some (10,false),[]⟩,
 o1 15 (.pick (.t 10) (.c (.bool true)) (.t 14)),
 m1 16 15,
 ⟨some 17,.addo (.t 1) 4,some (16,false),[]⟩,
 ⟨some 18,.ld (.t 17) 17 true,some (16,false),[]⟩,
 ⟨some 19,.addo (.t 1) 21,some (16,false),[]⟩,
 ⟨some 20,.ld (.t 19) 7 true,some (16,false),[]⟩,
 ⟨some 21,.call 95 [.t 18,.t 20],some (16,false),[]⟩,
 ⟨some 22,.bin .neq (.t 21) (.c (.int .i64 0)),some (16,false),[]⟩,
 o1 23 (.pick (.t 16) (.c (.bool true)) (.t 22))]
 (.cond (.t 23)
 (sr1 [
  o1 2 (.mv (.c (.bool false)))]
  .ret)
 .skip))
 (.seq (sr1 [
 o1 24 (.addo (.t 1) 28),
 o1 25 (.ld (.t 24) 1 false),
 o1 26 (.call 61 [.t 25,.c (.int .i64 1),.c (.int .i64 30)]),
 o1 27 (.un .not (.t 26)),
 m1 28 27,
 ⟨some 29,.addo (.t 1) 29,some (28,false),[]⟩,
 ⟨some 30,.ld (.t 29) 1 false,some (28,false),[]⟩,
 ⟨some 31,.call 61 [.t 30,.c (.int .i64 1),.c (.int .i64 24)],some (28,false),[]⟩,
 ⟨some 32,.un .not (.t 31),some (28,false),[]⟩,
 o1 33 (.pick (.t 28) (.c (.bool true)) (.t 32)),
 m1 34 33,
 ⟨some 35,.addo (.t 1) 30,some (34,false),[]⟩,
 ⟨some 36,.ld (.t 35) 1 false,some (34,false),[]⟩,
 ⟨some 37,.call 61 [.t 36,.c (.int .i64 1),.c (.int .i64 1000000)],some (34,false),[]⟩,
 ⟨some 38,.un .not (.t 37),some (34,false),[]⟩,
 o1 39 (.pick (.t 34) (.c (.bool true)) (.t 38)),
 m1 40 39,
 ⟨some 41,.addo (.t 1) 31,some (40,false),[]⟩,
 ⟨some 42,.ld (.t 41) 1 false,some (40,false),[]⟩,
 ⟨some 43,.call 61 [.t 42,.c (.int .i64 0),.c (.int .i64 1000000)],some (40,false),[]⟩,
 ⟨some 44,.un .not (.t 43),some (40,false),[]⟩,
 o1 45 (.pick (.t 40) (.c (.bool true)) (.t 44)),
 m1 46 45,
 ⟨some 47,.addo (.t 1) 32,some (46,false),[]⟩,
 ⟨some 48,.ld (.t 47) 1 false,some (46,false),[]⟩,
 ⟨some 49,.call 61 [.t 48,.c (.int .i64 0),.c (.int .i64 1000000)],some (46,false),[]⟩,
 ⟨some 50,.un .not (.t 49),some (46,false),[]⟩,
 o1 51 (.pick (.t 46) (.c (.bool true)) (.t 50))]
 (.cond (.t 51)
 (sr1 [
  o1 2 (.mv (.c (.bool false)))]
  .ret)
 .skip))
 (.seq (sr1 [
 o1 52 (.addo (.t 1) 33),
 o1 53 (.ld (.t 52) 1 false),
 o1 54 (.addo (.t 1) 0),
 o1 55 (.addo (.t 54) 0),
 o1 56 (.ld (.t 55) 1 false),
 o1 57 (.len (.t 56)),
 o1 58 (.bin .sub (.t 57) (.c (.int .i64 1))),
 o1 59 (.call 61 [.t 53,.c (.int .i64 0),.t 58]),
 o1 60 (.un .not (.t 59)),
 m1 61 60,
 ⟨some 62,.addo (.t 1) 34,some (61,false),[]⟩,
 ⟨some 63,.ld (.t 62) 1 false,some (61,false),[]⟩,
 ⟨some 64,.addo (.t 1) 35,some (61,false),[]⟩,
 ⟨some 65,.ld (.t 64) 1 false,some (61,false),[]⟩,
 ⟨some 66,.call 61 [.t 63,.c (.int .i64 0),.t 65],some (61,false),[]⟩,
 ⟨some 67,.un .not (.t 66),some (61,false),[]⟩,
 o1 68 (.pick (.t 61) (.c (.bool true)) (.t 67)),
 m1 69 68,
 ⟨some 70,.addo (.t 1) 35,some (69,false),[]⟩,
 ⟨some 71,.ld (.t 70) 1 false,some (69,false),[]⟩,
 ⟨some 72,.bin .gtr (.t 71) (.c (.int .i64 100000)),some (69,false),[]⟩,
 o1 73 (.pick (.t 69) (.c (.bool true)) (.t 72)),
 m1 74 73,
 ⟨some 75,.addo (.t 1) 36,some (74,false),[]⟩,
 ⟨some 76,.ld (.t 75) 1 false,some (74,false),[]⟩,
 ⟨some 77,.len (.t 76),some (74,false),[]⟩,
 ⟨some 78,.call 61 [.t 77,.c (.int .i64 1),.c (.int .i64 4)],some (74,false),[]⟩,
 ⟨some 79,.un .not (.t 78),some (74,false),[]⟩,
 o1 80 (.pick (.t 74) (.c (.bool true)) (.t 79))]
 (.cond (.t 80)
 (sr1 [
  o1 2 (.mv (.c (.bool false)))]
  .ret)
 .skip))
 (.seq (sr1 [
 o1 3 (.mv (.c (.int .i64 0)))]
 (.block 0 (.loop (.seq (sr1 [
  m1 81 3,
  o1 82 (.addo (.t 1) 36),
  o1 83 (.ld (.t 82) 1 false),
  o1 84 (.len (.t 83)),
  o1 85 (.bin .lss (.t 81) (.t 84))]
  (.cond (.t 85)
  .skip
  (.exit 0)))
  (.seq (.block 1 (sr1 [
   o1 88 (.addo (.t 1) 36),
   o1 89 (.ld (.t 88) 1 false),
   m1 90 3,
   o1 91 (.ixs (.t 89) (.t 90) 6),
   o1 92 (.ld (.t 91) 6 true),
   o1 4 (.alloc zv5 72),
   ⟨none,.st (.t 4) (.t 92) 6,none,[]⟩]
   (.seq (sr1 [
   o1 93 (.addo (.t 4) 0),
   o1 94 (.ld (.t 93) 2 true),
   o1 95 (.call 96 [.t 94,.c (.int .i64 0),.c (.int .i64 60)]),
   o1 96 (.un .not (.t 95)),
   m1 97 96,
   ⟨some 98,.addo (.t 4) 2,some (97,false),[]⟩,
   ⟨some 99,.ld (.t 98) 2 true,some (97,false),[]⟩,
   ⟨some 100,.call 96 [.t 99,.c (.int .i64 0),.c (.int .i64 1000000)],some (97,false),[]⟩,
   ⟨some 101,.un .not (.t 100),some (97,false),[]⟩,
   o1 102 (.pick (.t 97) (.c (.bool true)) (.t 101)),
   m1 103 102,
   ⟨some 104,.addo (.t 4) 4,some (103,false),[]⟩,
   ⟨some 105,.ld (.t 104) 1 false,some (103,false),[]⟩,
   ⟨some 106,.len (.t 105),some (103,false),[]⟩,
   ⟨some 107,.addo (.t 1) 0,some (103,false),[]⟩,
   ⟨some 108,.addo (.t 107) 0,some (103,false),[]⟩,
   ⟨some 109,.ld (.t 108) 1 false,some (103,false),[]⟩,
   ⟨some 110,.len (.t 109),some (103,false),[]⟩,
   ⟨some 111,.bin .neq (.t 106) (.t 110),some (103,false),[]⟩,
   o1 112 (.pick (.t 103) (.c (.bool true)) (.t 111)),
   m1 113 112,
   ⟨some 114,.addo (.t 4) 5,some (113,false),[]⟩,
   ⟨some 115,.ld (.t 114) 1 false,some (113,false),[]⟩,
   ⟨some 116,.len (.t 115),some (113,false),[]⟩,
   ⟨some 117,.addo (.t 1) 0,some (113,false),[]⟩,
   ⟨some 118,.addo (.t 117) 0,some (113,false),[]⟩,
   ⟨some 119,.ld (.t 118) 1 false,some (113,false),[]⟩,
   ⟨some 120,.len (.t 119),some (113,false),[]⟩,
   ⟨some 121,.bin .neq (.t 116) (.t 120),some (113,false),[]⟩,
   o1 122 (.pick (.t 113) (.c (.bool true)) (.t 121))]
   (.cond (.t 122)
   (sr1 [
    o1 2 (.mv (.c (.bool false)))]
    .ret)
   .skip))
   (sr1 [
   o1 5 (.mv (.c (.int .i64 0)))]
   (.block 2 (.loop (.seq (sr1 [
    m1 123 5,
    o1 124 (.addo (.t 4) 4),
    o1 125 (.ld (.t 124) 1 false),
    o1 126 (.len (.t 125)),
    o1 127 (.bin .lss (.t 123) (.t 126))]
    (.cond (.t 127)
    .skip
    (.exit 2)))
    (.seq (.block 3 (sr1 [
     o1 130 (.addo (.t 4) 4),
     o1 131 (.ld (.t 130) 1 false),
     m1 132 5,
     o1 133 (.ixs (.t 131) (.t 132) 2),
     o1 134 (.ld (.t 133) 2 true),
     o1 135 (.call 96 [.t 134,.c (.int .i64 0),.c (.int .i64 10000000)]),
     o1 136 (.un .not (.t 135)),
     m1 137 136,
     ⟨some 138,.addo (.t 4) 5,some (137,false),[]⟩,
     ⟨some 139,.ld (.t 138) 1 false,some (137,false),[]⟩,
     ⟨some 140,.mv (.t 5),some (137,false),[]⟩,
     ⟨some 141,.ixs (.t 139) (.t 140) 1,some (137,false),[]⟩,
     ⟨some 142,.ld (.t 141) 1 false,some (137,false),[]⟩,
     ⟨some 143,.call 61 [.t 142,.c (.int .i64 0),.c (.int .i64 1000000)],some (137,false),[]⟩,
     ⟨some 144,.un .not (.t 143),some (137,false),[]⟩,
     o1 145 (.pick (.t 137) (.c (.bool true)) (.t 144))]
     (.cond (.t 145)
     (sr1 [
      o1 2 (.mv (.c (.bool false)))]
      .ret)
     .skip)))
    (.reg [
    m1 128 5,
    o1 129 (.bin .add (.t 128) (.c (.int .i64 1))),
    m1 5 129])))))))))
  (.reg [
  m1 86 3,
  o1 87 (.bin .add (.t 86) (.c (.int .i64 1))),
  m1 3 87]))))))
 (sr1 [
 o1 2 (.mv (.c (.bool true)))]
 .ret))))))
def r50:List RV:=[.tmp 2]
theorem t50:Qt1 Tryz.prog 50 c50 r50 146:=Z8 Tryz.func50 rfl (by kernel_rfl) (by kernel_rfl) (by kernel_rfl) (by kernel_rfl)
def c53:SC:=(sr1 [
 o1 3 (.box (.t 0) 0 3),
 o1 4 (.box (.t 1) 0 3),
 o1 6 (.mv (.c (.bool false)))]
 (sr1 [
 m1 7 2,
 o1 8 (.mkf 99 [.t 3,.t 4]),
 o1 9 (.call 98 [.t 7,.t 8]),
 o1 10 (.un .not (.t 9)),
 m1 6 10]
 .ret))
def r53:List RV:=[.tmp 6]
theorem t53:Qt1 Tryz.prog 53 c53 r53 11:=Z8 Tryz.func53 rfl (by kernel_rfl) (by kernel_rfl) (by kernel_rfl) (by kernel_rfl)
def c55:SC:=(sr1 [
 o1 3 (.box (.t 0) 0 3),
 o1 4 (.box (.t 1) 0 3),
 o1 6 (.mv (.c (.bool false)))]
 (sr1 [
 m1 7 2,
 o1 8 (.mkf 103 [.t 3,.t 4]),
 o1 9 (.call 102 [.t 7,.t 8]),
 o1 10 (.un .not (.t 9)),
 m1 6 10]
 .ret))
def r55:List RV:=[.tmp 6]
theorem t55:Qt1 Tryz.prog 55 c55 r55 11:=Z8 Tryz.func55 rfl (by kernel_rfl) (by kernel_rfl) (by kernel_rfl) (by kernel_rfl)
def c58:SC:=(sr1 [
 o1 2 (.box (.t 0) 0 34),
 o1 4 (.mv (.c (.int .i64 0))),
 o1 5 (.mv (.c (.bool false)))]
 (sr1 [
 o1 10 (.raw (Go.Op.makeMap 189 Option.none) 189),
 o1 11 (.addo (.t 2) 33),
 o1 12 (.ld (.t 11) 1 false),
 ⟨none,.raw (Go.Op.insert 189 (Go.Operand.tmp 10) (Go.Operand.tmp 12) (Go.Operand.const (Go.Value.bool Bool.true))) 0,none,[]⟩,
 m1 13 10,
 m1 6 13]
 (sr1 [
 o1 14 (.addo (.t 2) 33),
 o1 15 (.ld (.t 14) 1 false),
 m1 4 15]
 (.seq (sr1 [
 m1 16 1,
 o1 17 (.len (.t 16)),
 o1 18 (.mv (.c (.int .i64 0)))]
 (.block 0 (.loop (sr1 [
  o1 19 (.bin .lss (.t 18) (.t 17))]
  (.seq (.cond (.t 19)
  .skip
  (.exit 0))
  (.seq (.block 1 (sr1 [
   o1 20 (.ixs (.t 16) (.t 18) 1),
   o1 21 (.ld (.t 20) 1 false),
   m1 8 21]
   (.seq (sr1 [
   o1 22 (.addo (.t 2) 0),
   o1 23 (.addo (.t 22) 1),
   o1 24 (.ld (.t 23) 1 false),
   o1 25 (.len (.t 24)),
   o1 26 (.bin .sub (.t 25) (.c (.int .i64 1))),
   m1 27 8,
   o1 28 (.bsl 1 3 [.t 27]),
   o1 29 (.call 53 [.c (.int .i64 0),.t 26,.t 28]),
   o1 30 (.un .not (.t 29))]
   (.cond (.t 30)
   (sr1 [
    o1 4 (.mv (.c (.int .i64 0))),
    o1 5 (.mv (.c (.bool false)))]
    .ret)
   .skip))
   (sr1 [
   o1 31 (.addo (.t 2) 0),
   o1 32 (.addo (.t 31) 1),
   o1 33 (.ld (.t 32) 1 false),
   m1 34 8,
   o1 35 (.ixs (.t 33) (.t 34) 5),
   o1 36 (.ld (.t 35) 5 true),
   o1 9 (.alloc zv7 83),
   ⟨none,.st (.t 9) (.t 36) 5,none,[]⟩]
   (.seq (sr1 [
   m1 37 4,
   o1 38 (.addo (.t 9) 0),
   o1 39 (.ld (.t 38) 1 false),
   o1 40 (.bin .neq (.t 37) (.t 39)),
   m1 41 40,
   ⟨some 42,.mv (.t 4),some (41,true),[]⟩,
   ⟨some 43,.addo (.t 9) 1,some (41,true),[]⟩,
   ⟨some 44,.ld (.t 43) 1 false,some (41,true),[]⟩,
   ⟨some 45,.bin .neq (.t 42) (.t 44),some (41,true),[]⟩,
   o1 46 (.pick (.t 41) (.t 45) (.c (.bool false)))]
   (.cond (.t 46)
   (sr1 [
    o1 4 (.mv (.c (.int .i64 0))),
    o1 5 (.mv (.c (.bool false)))]
    .ret)
   .skip))
   (sr1 [
   o1 47 (.addo (.t 9) 0),
   o1 48 (.ld (.t 47) 1 false),
   o1 49 (.addo (.t 9) 1),
   o1 50 (.ld (.t 49) 1 false),
   o1 51 (.bin .add (.t 48) (.t 50)),
   m1 52 4,
   o1 53 (.bin .sub (.t 51) (.t 52)),
   m1 4 53]
   (.seq (sr1 [
   m1 54 6,
   m1 55 4,
   o1 56 (.raw (Go.Op.lookup 189 (Go.Operand.tmp 54) (Go.Operand.tmp 55) Bool.false) 4)]
   (.cond (.t 56)
   (sr1 [
    o1 4 (.mv (.c (.int .i64 0))),
    o1 5 (.mv (.c (.bool false)))]
    .ret)
   .skip))
   (.reg [
   m1 57 6,
   m1 58 4,
   ⟨none,.raw (Go.Op.mapUpdate 189 (Go.Operand.tmp 57) (Go.Operand.tmp 58) (Go.Operand.const (Go.Value.bool Bool.true))) 0,none,[]⟩]))))))))
  (.reg [
  o1 59 (.bin .add (.t 18) (.c (.int .i64 1))),
  m1 18 59])))))))
 (sr1 [
 m1 60 4,
 m1 4 60,
 o1 5 (.mv (.c (.bool true)))]
 .ret)))))
def r58:List RV:=[.tmp 4,.tmp 5]
theorem t58:Qt1 Tryz.prog 58 c58 r58 61:=Z8 Tryz.func58 rfl (by kernel_rfl) (by kernel_rfl) (by kernel_rfl) (by kernel_rfl)
def c61:SC:=(sr1 [
 o1 6 (.mv (.c (.bool false)))]
 (sr1 [
 m1 7 0,
 m1 8 1,
 o1 9 (.bin .geq (.t 7) (.t 8)),
 m1 10 9,
 ⟨some 11,.mv (.t 0),some (10,true),[]⟩,
 ⟨some 12,.mv (.t 2),some (10,true),[]⟩,
 ⟨some 13,.bin .leq (.t 11) (.t 12),some (10,true),[]⟩,
 o1 14 (.pick (.t 10) (.t 13) (.c (.bool false))),
 m1 6 14]
 .ret))
def r61:List RV:=[.tmp 6]
theorem t61:Qt1 Tryz.prog 61 c61 r61 15:=Z8 Tryz.func61 rfl (by kernel_rfl) (by kernel_rfl) (by kernel_rfl) (by kernel_rfl)
def c87:SC:=(sr1 [
 o1 2 (.box (.t 0) 0 34),
 o1 4 (.mv (.c (.int .i64 0)))]
 (sr1 [
 o1 9 (.addo (.t 2) 0),
 o1 10 (.addo (.t 9) 0),
 o1 11 (.ld (.t 10) 1 false),
 o1 12 (.len (.t 11)),
 o1 13 (.mks 1 1 [.bool false] 4 (.t 12)),
 m1 5 13]
 (sr1 [
 o1 14 (.addo (.t 2) 33),
 o1 15 (.ld (.t 14) 1 false),
 m1 6 15]
 (sr1 [
 m1 16 5,
 m1 17 6,
 o1 18 (.ixs (.t 16) (.t 17) 1),
 ⟨none,.st (.t 18) (.c (.bool true)) 1,none,[]⟩]
 (.seq (sr1 [
 o1 7 (.mv (.c (.int .i64 0)))]
 (.block 0 (.loop (.seq (sr1 [
  m1 19 7,
  m1 20 1,
  o1 21 (.len (.t 20)),
  o1 22 (.bin .lss (.t 19) (.t 21))]
  (.cond (.t 22)
  .skip
  (.exit 0)))
  (.seq (.block 1 (.seq (.seq (.regd [0,1,2,3,4,5,6,7,8,9,10] [
   .op (m1 25 1),
   .op (m1 26 7),
   .op ⟨some 27,.ixs (.t 25) (.t 26) 1,none,[0,1]⟩,
   .op ⟨some 28,.ld (.t 27) 1 false,none,[2]⟩,
   .op (o1 29 (.addo (.t 2) 0)),
   .op ⟨some 30,.addo (.t 29) 1,none,[4]⟩,
   .op ⟨some 31,.ld (.t 30) 1 false,none,[5]⟩,
   .op ⟨some 32,.len (.t 31),none,[6]⟩,
   .op ⟨some 33,.bin .sub (.t 32) (.c (.int .i64 1)),none,[7]⟩,
   .op ⟨some 34,.call 61 [.t 28,.c (.int .i64 0),.t 33],none,[3,8]⟩,
   .op ⟨some 35,.un .not (.t 34),none,[9]⟩] 0 0 [
])
 (.cond (.t 35)
 (sr1 [
  o1 4 (.mv (.c (.int .i64 (-1))))]
  .ret)
 .skip))
 (.seq (.regd [0,1,2,3,4,5,6,7,8,9,10] [
 .op (o1 36 (.addo (.t 2) 0)),
 .op ⟨some 37,.addo (.t 36) 1,none,[0]⟩,
 .op ⟨some 38,.ld (.t 37) 1 false,none,[1]⟩,
 .op (m1 39 1),
 .op (m1 40 7),
 .op ⟨some 41,.ixs (.t 39) (.t 40) 1,none,[3,4]⟩,
 .op ⟨some 42,.ld (.t 41) 1 false,none,[5]⟩,
 .op ⟨some 43,.ixs (.t 38) (.t 42) 5,none,[2,6]⟩,
 .op ⟨some 44,.ld (.t 43) 5 true,none,[7]⟩] 1 1 [
 o1 8 (.alloc zv7 83),
 ⟨none,.st (.t 8) (.t 44) 5,none,[0,1,2,3,4,5,6,7,8,9]⟩])
 (.seq (sr1 [
 m1 45 6]
 (.block 2 (sr1 [
  o1 47 (.addo (.t 8) 0),
  o1 48 (.ld (.t 47) 1 false),
  o1 49 (.bin .eql (.t 45) (.t 48)),
  m1 46 49]
  (.cond (.t 46)
  (.reg [
   o1 50 (.addo (.t 8) 1),
   o1 51 (.ld (.t 50) 1 false),
   m1 6 51])
  (sr1 [
   o1 53 (.addo (.t 8) 1),
   o1 54 (.ld (.t 53) 1 false),
   o1 55 (.bin .eql (.t 45) (.t 54)),
   m1 52 55]
   (.cond (.t 52)
   (.reg [
    o1 56 (.addo (.t 8) 0),
    o1 57 (.ld (.t 56) 1 false),
    m1 6 57])
   (sr1 [
    o1 4 (.mv (.c (.int .i64 (-1))))]
    .ret)))))))
 (.seq (sr1 [
 m1 58 5,
 m1 59 6,
 o1 60 (.ixs (.t 58) (.t 59) 1),
 o1 61 (.ld (.t 60) 1 false)]
 (.cond (.t 61)
 (sr1 [
  o1 4 (.mv (.c (.int .i64 (-1))))]
  .ret)
 .skip))
 (.reg [
 m1 62 5,
 m1 63 6,
 o1 64 (.ixs (.t 62) (.t 63) 1),
 ⟨none,.st (.t 64) (.c (.bool true)) 1,none,[]⟩]))))))
 (.reg [
 m1 23 7,
 o1 24 (.bin .add (.t 23) (.c (.int .i64 1))),
 m1 7 24]))))))
 (sr1 [
 m1 65 6,
 m1 4 65]
 .ret))))))
def r87:List RV:=[.tmp 4]
theorem t87:Qt1 Tryz.prog 87 c87 r87 66:=Z8 Tryz.func87 rfl (by kernel_rfl) (by kernel_rfl) (by kernel_rfl) (by kernel_rfl)
def c96:SC:=(sr1 [
 o1 3 (.box (.t 0) 0 27),
 o1 6 (.mv (.c (.bool false)))]
 (sr1 [
 o1 7 (.addo (.t 3) 0),
 o1 8 (.ld (.t 7) 1 false),
 m1 9 1,
 o1 10 (.addo (.t 3) 1),
 o1 11 (.ld (.t 10) 1 false),
 o1 12 (.call 61 [.t 8,.t 9,.t 11]),
 m1 13 12,
 ⟨some 14,.addo (.t 3) 1,some (13,true),[]⟩,
 ⟨some 15,.ld (.t 14) 1 false,some (13,true),[]⟩,
 ⟨some 16,.mv (.t 2),some (13,true),[]⟩,
 ⟨some 17,.bin .leq (.t 15) (.t 16),some (13,true),[]⟩,
 o1 18 (.pick (.t 13) (.t 17) (.c (.bool false))),
 m1 6 18]
 .ret))
def r96:List RV:=[.tmp 6]
theorem t96:Qt1 Tryz.prog 96 c96 r96 19:=Z8 Tryz.func96 rfl (by kernel_rfl) (by kernel_rfl) (by kernel_rfl) (by kernel_rfl)
def c99:SC:=(sr1 [
 o1 4 (.mv (.c (.bool false)))]
 (sr1 [
 m1 5 0,
 o1 6 (.ld (.t 1) 1 false),
 o1 7 (.bin .lss (.t 5) (.t 6)),
 m1 8 7,
 ⟨some 9,.mv (.t 0),some (8,false),[]⟩,
 ⟨some 10,.ld (.t 2) 1 false,some (8,false),[]⟩,
 ⟨some 11,.bin .gtr (.t 9) (.t 10),some (8,false),[]⟩,
 o1 12 (.pick (.t 8) (.c (.bool true)) (.t 11)),
 m1 4 12]
 .ret))
def r99:List RV:=[.tmp 4]
theorem t99:Qt1 Tryz.prog 99 c99 r99 13:=Z8 Tryz.func99 rfl (by kernel_rfl) (by kernel_rfl) (by kernel_rfl) (by kernel_rfl)
def c103:SC:=(sr1 [
 o1 3 (.box (.t 0) 0 27),
 o1 4 (.mv (.c (.bool false)))]
 (sr1 [
 o1 5 (.addo (.t 3) 0),
 o1 6 (.ld (.t 5) 1 false),
 o1 7 (.addo (.t 3) 1),
 o1 8 (.ld (.t 7) 1 false),
 o1 9 (.bin .gtr (.t 6) (.t 8)),
 m1 10 9,
 ⟨some 11,.ld (.t 1) 1 false,some (10,false),[]⟩,
 ⟨some 12,.ld (.t 2) 1 false,some (10,false),[]⟩,
 ⟨some 13,.addo (.t 3) 0,some (10,false),[]⟩,
 ⟨some 14,.ld (.t 13) 1 false,some (10,false),[]⟩,
 ⟨some 15,.addo (.t 3) 1,some (10,false),[]⟩,
 ⟨some 16,.ld (.t 15) 1 false,some (10,false),[]⟩,
 ⟨some 17,.bsl 1 3 [.t 14,.t 16],some (10,false),[]⟩,
 ⟨some 18,.call 53 [.t 11,.t 12,.t 17],some (10,false),[]⟩,
 ⟨some 19,.un .not (.t 18),some (10,false),[]⟩,
 o1 20 (.pick (.t 10) (.c (.bool true)) (.t 19)),
 m1 4 20]
 .ret))
def r103:List RV:=[.tmp 4]
theorem t103:Qt1 Tryz.prog 103 c103 r103 21:=Z8 Tryz.func103 rfl (by kernel_rfl) (by kernel_rfl) (by kernel_rfl) (by kernel_rfl)
def c44:SC:=(sr1 [
 o1 2 (.box (.t 0) 0 34),
 o1 3 (.box (.t 1) 0 37),
 o1 4 (.mv (.c (.bool false)))]
 (sr1 [
 o1 5 (.ld (.t 2) 37 true),
 o1 6 (.addo (.t 3) 0),
 o1 7 (.ld (.t 6) 1 false),
 o1 8 (.call 87 [.t 5,.t 7]),
 o1 9 (.bin .geq (.t 8) (.c (.int .i64 0))),
 m1 10 9,
 ⟨some 11,.addo (.t 3) 1,some (10,true),[]⟩,
 ⟨some 12,.ld (.t 11) 1 false,some (10,true),[]⟩,
 ⟨some 13,.addo (.t 2) 28,some (10,true),[]⟩,
 ⟨some 14,.ld (.t 13) 1 false,some (10,true),[]⟩,
 ⟨some 15,.call 61 [.t 12,.c (.int .i64 0),.t 14],some (10,true),[]⟩,
 o1 16 (.pick (.t 10) (.t 15) (.c (.bool false))),
 m1 17 16,
 ⟨some 18,.addo (.t 3) 2,some (17,true),[]⟩,
 ⟨some 19,.ld (.t 18) 1 false,some (17,true),[]⟩,
 ⟨some 20,.call 61 [.t 19,.c (.int .i64 0),.c (.int .i64 12)],some (17,true),[]⟩,
 o1 21 (.pick (.t 17) (.t 20) (.c (.bool false))),
 m1 4 21]
 .ret))
def r44:List RV:=[.tmp 4]
theorem t44:Qt1 Tryz.prog 44 c44 r44 22:=Z8 Tryz.func44 rfl (by kernel_rfl) (by kernel_rfl) (by kernel_rfl) (by kernel_rfl)
def c91:SC:=(sr1 [
 m1 6 0,
 o1 7 (.un .not (.t 6))]
 (.cond (.t 7)
 (.reg [
  m1 8 1,
  m1 9 2,
  o1 10 (.build [.int .u8 0,.int .i64 0] [(0,1,.t 8),(1,1,.t 9)]),
  o1 11 (.raw (Go.Op.makeInterface 117 (Go.Operand.tmp 10)) 20),
  ⟨none,.raw (Go.Op.panic (Go.Operand.tmp 11)) 0,none,[]⟩])
 .skip))
def r91:List RV:=[]
theorem n91:Tryz.f91.ntmps=12:=by kernel_rfl
theorem b91:YP Tryz.prog 91=true:=by kernel_rfl
theorem Zyn:XK Tryz.prog c91 ((Tryz.f91.body).getD .skip)=true:=by kernel_rfl
theorem ZzJ:Wx Tryz.prog r91 Tryz.f91.results.toList=true:=by kernel_rfl
theorem m91 {n0:Nat} {hp0:List (Nat × HB)} {args:List SV} {Yi:Ot->Prop} (hh:hpb n0 hp0) (hx:∀ o,Yi o->KX o.res/\KXP o.hp) (h:sx Tryz.prog Y0 n0 c91 ⟨Wu 0 args,hp0,n0,12,[]⟩ (ZcF r91 fun o=>∃ o',Yi o'/\ZeW n0 o o')) (hA:Nat.ble args.length 12=true:=by rfl):CtM Tryz.prog 91 hp0 n0 args Yi:=XA Tryz.func91 rfl b91 Zyn ZzJ n91 (Nat.le_of_ble_eq_true hA) hh hx h
def c92:SC:=(sr1 [
 o1 4 (.box (.t 0) 0 120),
 o1 5 (.box (.t 1) 0 90),
 o1 6 (.box (.t 2) 0 3),
 o1 8 (.mv (.c (.slice none 0 0)))]
 (.seq (sr1 [
 o1 17 (.ld (.t 5) 1 false),
 o1 18 (.len (.t 17)),
 o1 19 (.bin .eql (.t 18) (.c (.int .i64 0)))]
 (.cond (.t 19)
 (sr1 [
  o1 21 (.addo (.t 4) 0),
  o1 22 (.addo (.t 21) 4),
  o1 23 (.ld (.t 22) 17 true),
  o1 24 (.addo (.t 4) 0),
  o1 25 (.addo (.t 24) 21),
  o1 26 (.ld (.t 25) 7 true),
  o1 27 (.call 37 [.t 23,.t 26]),
  m1 20 27,
  o1 28 (.ext (.t 20) 0),
  o1 29 (.ext (.t 20) 1),
  o1 9 (.alloc [.int .i64 0,.int .i64 0] 27),
  ⟨none,.st (.t 9) (.t 28) 2,none,[]⟩,
  m1 10 29]
  (sr1 [
  o1 30 (.ld (.t 6) 1 false),
  o1 31 (.bin .eql (.t 30) (.c (.int .i64 0))),
  m1 32 31,
  ⟨some 33,.mv (.t 3),some (32,false),[]⟩,
  ⟨some 34,.addo (.t 4) 0,some (32,false),[]⟩,
  ⟨some 35,.addo (.t 34) 30,some (32,false),[]⟩,
  ⟨some 36,.ld (.t 35) 1 false,some (32,false),[]⟩,
  ⟨some 37,.bin .mul (.t 33) (.t 36),some (32,false),[]⟩,
  ⟨some 38,.addo (.t 9) 0,some (32,false),[]⟩,
  ⟨some 39,.ld (.t 38) 1 false,some (32,false),[]⟩,
  ⟨some 40,.bin .leq (.t 37) (.t 39),some (32,false),[]⟩,
  o1 41 (.pick (.t 32) (.c (.bool true)) (.t 40)),
  o1 42 (.callm 91 [.t 41,.c (.int .u8 2),.c (.int .i64 0)])]
  (sr1 [
  o1 8 (.mv (.c (.slice none 0 0)))]
  .ret)))
 .skip))
 (sr1 [
 o1 11 (.alloc [.slice none 0 0] 54)]
 (.seq (sr1 [
 o1 43 (.ld (.t 6) 1 false),
 o1 44 (.bin .eql (.t 43) (.c (.int .i64 0)))]
 (.cond (.t 44)
 (.seq (sr1 [
  o1 45 (.ld (.t 5) 1 false),
  o1 46 (.ld (.t 5) 1 false),
  o1 47 (.len (.t 46)),
  o1 48 (.bin .sub (.t 47) (.c (.int .i64 1))),
  o1 49 (.sub 6 (.t 45) none (some (.t 48))),
  o1 50 (.len (.t 49)),
  o1 51 (.mv (.c (.int .i64 0)))]
  (.block 0 (.loop (sr1 [
   o1 52 (.bin .lss (.t 51) (.t 50))]
   (.seq (.cond (.t 52)
   .skip
   (.exit 0))
   (.seq (.block 1 (sr1 [
    o1 53 (.ixs (.t 49) (.t 51) 6),
    o1 54 (.ld (.t 53) 6 true),
    o1 13 (.alloc zv8 94),
    ⟨none,.st (.t 13) (.t 54) 6,none,[]⟩]
    (.reg [
    o1 55 (.ld (.t 11) 1 false),
    o1 56 (.addo (.t 13) 1),
    o1 57 (.ld (.t 56) 1 false),
    o1 58 (.addo (.t 13) 4),
    o1 59 (.addo (.t 58) 0),
    o1 60 (.ld (.t 59) 1 false),
    o1 61 (.build [.int .i64 0,.int .i64 0,.int .i64 0] [(0,1,.t 57),(1,1,.t 60)]),
    o1 62 (.bsl 3 111 [.t 61]),
    o1 63 (.appm 3 24 111 (.t 55) (.t 62)),
    ⟨none,.st (.t 11) (.t 63) 1,none,[]⟩])))
   (.reg [
   o1 64 (.bin .add (.t 51) (.c (.int .i64 1))),
   m1 51 64])))))))
  (sr1 [
  o1 65 (.ld (.t 11) 1 false),
  m1 8 65]
  .ret))
 .skip))
 (.seq (sr1 [
 o1 66 (.ld (.t 4) 38 true),
 o1 67 (.ld (.t 5) 1 false),
 m1 68 3,
 o1 69 (.callm 135 [.t 66,.t 67,.t 68])]
 (.block 2 (.gh (.rfun (.t 69) [70,71] (sr1 [
  m1 14 70]
  (.reg [
  o1 15 (.alloc zv4 31),
  ⟨none,.st (.t 15) (.t 71) 7,none,[]⟩]))
  (.block 3 (.seq (sr1 [
   m1 72 14,
   o1 73 (.bin .add (.t 72) (.c (.int .i64 1))),
   o1 74 (.ld (.t 5) 1 false),
   o1 75 (.len (.t 74)),
   o1 76 (.bin .eql (.t 73) (.t 75))]
   (.cond (.t 76)
   (.exit 2)
   .skip))
   (.seq (.regd [0,1,2,3,4,5,6,7,8,9,10,11,12,13,14,15,16,17,18,19,20,21,22,23] [
   .op (o1 77 (.ld (.t 5) 1 false)),
   .op (m1 78 14),
   .op ⟨some 79,.ixs (.t 77) (.t 78) 6,none,[0,1]⟩,
   .op ⟨some 80,.addo (.t 79) 1,none,[2]⟩,
   .op ⟨some 81,.ld (.t 80) 1 false,none,[3]⟩,
   .op (o1 82 (.ld (.t 5) 1 false)),
   .op (m1 83 14),
   .op ⟨some 84,.ixs (.t 82) (.t 83) 6,none,[5,6]⟩,
   .op ⟨some 85,.addo (.t 84) 4,none,[7]⟩,
   .op ⟨some 86,.addo (.t 85) 0,none,[8]⟩,
   .op ⟨some 87,.ld (.t 86) 1 false,none,[9]⟩,
   .op (o1 88 (.ld (.t 6) 1 false)),
   .op (o1 89 (.addo (.t 4) 0)),
   .op ⟨some 90,.addo (.t 89) 4,none,[12]⟩,
   .op ⟨some 91,.addo (.t 90) 0,none,[13]⟩,
   .op ⟨some 92,.ld (.t 91) 1 false,none,[14]⟩,
   .op (o1 93 (.addo (.t 15) 0)),
   .op ⟨some 94,.addo (.t 93) 0,none,[16]⟩,
   .op ⟨some 95,.ld (.t 94) 1 false,none,[17]⟩,
   .op ⟨some 96,.bin .sub (.t 92) (.t 95),none,[15,18]⟩,
   .op ⟨some 97,.bin .mul (.t 88) (.t 96),none,[11,19]⟩,
   .op ⟨some 98,.build [.int .i64 0,.int .i64 0,.int .i64 0] [(0,1,.t 81),(1,1,.t 87),(2,1,.t 97)],none,[4,10,20]⟩] 1 1 [
   o1 16 (.alloc [.int .i64 0,.int .i64 0,.int .i64 0] 111),
   ⟨none,.st (.t 16) (.t 98) 3,none,[0,1,2,3,4,5,6,7,8,9,10,11,12,13,14,15,16,17,18,19,20,21,22]⟩])
   (.seq (.regd [0,1,2,3,4,5,6,7,8,9,10] [
   .op (o1 99 (.addo (.t 16) 2)),
   .op ⟨some 100,.ld (.t 99) 1 false,none,[0]⟩,
   .op (o1 101 (.ld (.t 4) 38 true)),
   .op (o1 102 (.ld (.t 5) 1 false)),
   .op (m1 103 14),
   .op ⟨some 104,.ixs (.t 102) (.t 103) 6,none,[3,4]⟩,
   .op ⟨some 105,.ld (.t 104) 6 true,none,[5]⟩,
   .op ⟨some 106,.call 113 [.t 101,.t 105],none,[2,6]⟩,
   .op ⟨some 107,.bin .leq (.t 100) (.t 106),none,[1,7]⟩,
   .op (m1 108 14)] 0 0 [
   ⟨some 109,.callm 91 [.t 107,.c (.int .u8 4),.t 108],none,[7,8,9]⟩])
   (.reg [
   o1 110 (.ld (.t 11) 1 false),
   o1 111 (.ld (.t 16) 3 true),
   o1 112 (.bsl 3 111 [.t 111]),
   o1 113 (.appm 3 24 111 (.t 110) (.t 112)),
   ⟨none,.st (.t 11) (.t 113) 1,none,[]⟩])))))))))
 (sr1 [
 o1 114 (.ld (.t 11) 1 false),
 m1 8 114]
 .ret))))))
def r92:List RV:=[.tmp 8]
theorem n92:Tryz.f92.ntmps=115:=by kernel_rfl
theorem b92:YP Tryz.prog 92=true:=by kernel_rfl
theorem Zy2:XK Tryz.prog c92 ((Tryz.f92.body).getD .skip)=true:=by kernel_rfl
theorem ZAe:Wx Tryz.prog r92 Tryz.f92.results.toList=true:=by kernel_rfl
theorem m92 {n0:Nat} {hp0:List (Nat × HB)} {args:List SV} {Yi:Ot->Prop} (hh:hpb n0 hp0) (hx:∀ o,Yi o->KX o.res/\KXP o.hp) (h:sx Tryz.prog Y0 n0 c92 ⟨Wu 0 args,hp0,n0,115,[]⟩ (ZcF r92 fun o=>∃ o',Yi o'/\ZeW n0 o o')) (hA:Nat.ble args.length 115=true:=by rfl):CtM Tryz.prog 92 hp0 n0 args Yi:=XA Tryz.func92 rfl b92 Zy2 ZAe n92 (Nat.le_of_ble_eq_true hA) hh hx h
def c135:SC:=(sr1 [
 o1 3 (.box (.t 0) 0 120),
 o1 4 (.box (.t 1) 0 90),
 o1 5 (.box (.t 2) 0 3),
 o1 6 (.mv (.c (.nilFunc)))]
 (sr1 [
 o1 7 (.mkf 163 [.t 3,.t 4,.t 5]),
 m1 6 7]
 .ret))
def r135:List RV:=[.tmp 6]
theorem n135:Tryz.f135.ntmps=8:=by kernel_rfl
theorem b135:YP Tryz.prog 135=true:=by kernel_rfl
theorem Zww:XK Tryz.prog c135 ((Tryz.f135.body).getD .skip)=true:=by kernel_rfl
theorem Zva:Wx Tryz.prog r135 Tryz.f135.results.toList=true:=by kernel_rfl
theorem m135 {n0:Nat} {hp0:List (Nat × HB)} {args:List SV} {Yi:Ot->Prop} (hh:hpb n0 hp0) (hx:∀ o,Yi o->KX o.res/\KXP o.hp) (h:sx Tryz.prog Y0 n0 c135 ⟨Wu 0 args,hp0,n0,8,[]⟩ (ZcF r135 fun o=>∃ o',Yi o'/\ZeW n0 o o')) (hA:Nat.ble args.length 8=true:=by rfl):CtM Tryz.prog 135 hp0 n0 args Yi:=XA Tryz.func135 rfl b135 Zww Zva n135 (Nat.le_of_ble_eq_true hA) hh hx h
def c156:SC:=(sr1 [
 o1 1 (.box (.t 0) 0 120),
 o1 2 (.alloc zv5 72)]
 (sr1 [
 o1 3 (.addo (.t 1) 0),
 o1 4 (.addo (.t 3) 36),
 o1 5 (.ld (.t 4) 1 false),
 o1 6 (.addo (.t 1) 37),
 o1 7 (.ld (.t 6) 1 false),
 o1 8 (.ixs (.t 5) (.t 7) 6),
 o1 9 (.ld (.t 8) 6 true),
 ⟨none,.st (.t 2) (.t 9) 6,none,[]⟩]
 .ret))
def r156:List RV:=[.cell 2 6 true]
theorem t156:Qt1 Tryz.prog 156 c156 r156 10:=Z8 Tryz.func156 rfl (by kernel_rfl) (by kernel_rfl) (by kernel_rfl) (by kernel_rfl)
def c163:SC:=(sr1 [
 o1 10 (.addo (.t 1) 0),
 o1 11 (.addo (.t 10) 21),
 o1 12 (.ld (.t 11) 7 true),
 o1 5 (.alloc zv4 31),
 ⟨none,.st (.t 5) (.t 12) 7,none,[]⟩]
 (sr1 [
 o1 13 (.ld (.t 2) 1 false),
 o1 14 (.len (.t 13)),
 o1 15 (.mv (.c (.int .i64 0)))]
 (.block 0 (.loop (sr1 [
  o1 16 (.bin .lss (.t 15) (.t 14))]
  (.seq (.cond (.t 16)
  .skip
  (.exit 0))
  (.seq (.block 1 (sr1 [
   m1 17 15,
   o1 18 (.ixs (.t 13) (.t 15) 6),
   o1 19 (.ld (.t 18) 6 true),
   o1 7 (.alloc zv8 94),
   m1 6 17,
   ⟨none,.st (.t 7) (.t 19) 6,none,[]⟩]
   (sr1 [
   o1 21 (.addo (.t 1) 0),
   o1 22 (.addo (.t 21) 0),
   o1 23 (.ld (.t 22) 2 true),
   o1 24 (.addo (.t 7) 0),
   o1 25 (.ld (.t 24) 1 false),
   o1 26 (.addo (.t 1) 0),
   o1 27 (.addo (.t 26) 2),
   o1 28 (.ld (.t 27) 2 true),
   o1 29 (.call 39 [.t 23,.t 25,.t 28]),
   m1 20 29,
   o1 30 (.ext (.t 20) 0),
   o1 31 (.ext (.t 20) 1),
   o1 8 (.alloc [.int .i64 0,.int .i64 0] 27),
   ⟨none,.st (.t 8) (.t 30) 2,none,[]⟩,
   m1 9 31]
   (.seq (sr1 [
   o1 32 (.ld (.t 1) 38 true),
   m1 33 6,
   o1 34 (.ld (.t 5) 7 true),
   o1 35 (.ld (.t 8) 2 true),
   o1 36 (.ld (.t 3) 1 false),
   o1 37 (.callm 164 [.t 32,.t 33,.t 34,.t 35,.t 36]),
   ⟨none,.st (.t 5) (.t 37) 7,none,[]⟩]
   (sr1 [
   m1 38 0,
   m1 39 6,
   o1 40 (.ld (.t 5) 7 true),
   o1 41 (.calvm (.t 38) [.t 39,.t 40]),
   o1 42 (.un .not (.t 41))]
   (.cond (.t 42)
   .ret
   .skip)))
   (.reg [
   o1 43 (.addo (.t 1) 0),
   o1 44 (.addo (.t 43) 4),
   o1 45 (.addo (.t 44) 0),
   o1 46 (.ld (.t 45) 1 false),
   o1 47 (.addo (.t 1) 0),
   o1 48 (.addo (.t 47) 4),
   o1 49 (.addo (.t 48) 0),
   o1 50 (.ld (.t 49) 1 false),
   o1 51 (.build [.int .i64 0,.int .i64 0] [(0,1,.t 46),(1,1,.t 50)]),
   o1 52 (.addo (.t 5) 0),
   ⟨none,.st (.t 52) (.t 51) 2,none,[]⟩])))))
  (.reg [
  o1 53 (.bin .add (.t 15) (.c (.int .i64 1))),
  m1 15 53]))))))))
def r163:List RV:=[]
theorem n163:Tryz.f163.ntmps=54:=by kernel_rfl
theorem b163:YP Tryz.prog 163=true:=by kernel_rfl
theorem ZtN:XK Tryz.prog c163 ((Tryz.f163.body).getD .skip)=true:=by kernel_rfl
theorem Zw2:Wx Tryz.prog r163 Tryz.f163.results.toList=true:=by kernel_rfl
theorem y163 {Y:Hd} {n0:Nat} {hp0:List (Nat × HB)} {args:List SV} {Yi:Ot->Prop} (h:sx Tryz.prog Y n0 c163 ⟨Wu 0 args,hp0,n0,54,[]⟩ (ZcF r163 Yi)) (hA:Nat.ble args.length 54=true:=by rfl):CtY Tryz.prog Y 163 hp0 n0 args Yi:=ZbO Tryz.func163 rfl ZtN Zw2 n163 (Nat.le_of_ble_eq_true hA) h
def c164:SC:=(sr1 [
 o1 5 (.box (.t 0) 0 120),
 o1 7 (.box (.t 2) 0 31),
 o1 8 (.box (.t 3) 0 27),
 o1 10 (.alloc zv4 31)]
 (.seq (.regd [0,1,2,3,4,5,6,7,8,9,10,11,12,13,14,15,16] [
 .op (o1 19 (.addo (.t 5) 0)),
 .op ⟨some 20,.addo (.t 19) 29,none,[0]⟩,
 .op ⟨some 21,.ld (.t 20) 1 false,none,[1]⟩,
 .op (m1 22 4),
 .op (o1 23 (.addo (.t 5) 0)),
 .op ⟨some 24,.addo (.t 23) 30,none,[4]⟩,
 .op ⟨some 25,.ld (.t 24) 1 false,none,[5]⟩,
 .op ⟨some 26,.bin .mul (.t 22) (.t 25),none,[3,6]⟩,
 .op (o1 27 (.ld (.t 5) 38 true)),
 .op ⟨some 28,.call 156 [.t 27],none,[8]⟩,
 .op ⟨some 29,.fld (.t 28) 0 2 true,none,[9]⟩,
 .op (o1 30 (.ld (.t 5) 38 true)),
 .op ⟨some 31,.call 156 [.t 30],none,[9,11]⟩,
 .op ⟨some 32,.fld (.t 31) 2 2 true,none,[12]⟩,
 .op ⟨some 33,.build zv6 [(0,1,.t 21),(1,1,.t 26),(2,2,.t 29),(4,2,.t 32)],none,[2,7,10,13]⟩] 1 1 [
 o1 11 (.alloc zv6 80),
 ⟨none,.st (.t 11) (.t 33) 8,none,[0,1,2,3,4,5,6,7,8,9,10,11,12,13,14,15]⟩])
 (sr1 [
 o1 12 (.alloc zv4 31)]
 (.seq (sr1 [
 o1 34 (.addo (.t 8) 1),
 o1 35 (.ld (.t 34) 1 false),
 o1 36 (.mv (.c (.int .i64 0)))]
 (.block 0 (.loop (sr1 [
  o1 37 (.bin .lss (.t 36) (.t 35))]
  (.seq (.cond (.t 37)
  .skip
  (.exit 0))
  (.seq (.block 1 (sr1 [
   m1 38 36,
   m1 13 38]
   (sr1 [
   o1 40 (.addo (.t 5) 0),
   o1 41 (.addo (.t 40) 4),
   o1 42 (.ld (.t 41) 17 true),
   o1 43 (.ld (.t 7) 7 true),
   o1 44 (.call 37 [.t 42,.t 43]),
   m1 39 44,
   o1 45 (.ext (.t 39) 0),
   o1 46 (.ext (.t 39) 1),
   o1 14 (.alloc [.int .i64 0,.int .i64 0] 27),
   ⟨none,.st (.t 14) (.t 45) 2,none,[]⟩,
   m1 15 46]
   (sr1 [
   o1 47 (.addo (.t 11) 1),
   o1 48 (.ld (.t 47) 1 false),
   o1 49 (.addo (.t 14) 0),
   o1 50 (.ld (.t 49) 1 false),
   o1 51 (.bin .leq (.t 48) (.t 50)),
   m1 52 1,
   o1 53 (.callm 91 [.t 51,.c (.int .u8 2),.t 52])]
   (sr1 [
   o1 55 (.addo (.t 5) 0),
   o1 56 (.addo (.t 55) 4),
   o1 57 (.ld (.t 56) 17 true),
   o1 58 (.ld (.t 7) 7 true),
   o1 59 (.ld (.t 11) 8 true),
   o1 60 (.call 40 [.t 57,.t 58,.t 59]),
   m1 54 60,
   o1 61 (.ext (.t 54) 0),
   o1 62 (.ext (.t 54) 1),
   o1 63 (.ext (.t 54) 2),
   o1 16 (.alloc zv4 31),
   ⟨none,.st (.t 16) (.t 61) 7,none,[]⟩,
   m1 17 62,
   m1 18 63]
   (sr1 [
   m1 64 18,
   o1 65 (.bin .eql (.t 64) (.c (.int .i64 0))),
   m1 66 65,
   ⟨some 67,.mv (.t 17),some (66,true),[]⟩,
   ⟨some 68,.bin .eql (.t 67) (.c (.int .u8 0)),some (66,true),[]⟩,
   o1 69 (.pick (.t 66) (.t 68) (.c (.bool false))),
   m1 70 1,
   o1 71 (.callm 91 [.t 69,.c (.int .u8 3),.t 70])]
   (sr1 [
   o1 72 (.ld (.t 16) 7 true),
   ⟨none,.st (.t 7) (.t 72) 7,none,[]⟩]
   (.block 2 (sr1 [
    m1 74 13,
    o1 75 (.bin .add (.t 74) (.c (.int .i64 1))),
    o1 76 (.addo (.t 8) 0),
    o1 77 (.ld (.t 76) 1 false),
    o1 78 (.bin .eql (.t 75) (.t 77)),
    m1 73 78]
    (.cond (.t 73)
    (.reg [
     o1 79 (.ld (.t 7) 7 true),
     ⟨none,.st (.t 12) (.t 79) 7,none,[]⟩])
    (sr1 [
     m1 81 13,
     o1 82 (.bin .add (.t 81) (.c (.int .i64 1))),
     o1 83 (.addo (.t 8) 0),
     o1 84 (.ld (.t 83) 1 false),
     o1 85 (.bin .gtr (.t 82) (.t 84)),
     m1 80 85]
     (.cond (.t 80)
     (.regd [0,1,2,3,4,5,6,7,8,9,10,11,12,13,14,15,16,17,18,19,20,21,22,23] [
      .op (o1 86 (.addo (.t 12) 0)),
      .op ⟨some 87,.ld (.t 86) 2 true,none,[0]⟩,
      .op (o1 88 (.addo (.t 7) 0)),
      .op ⟨some 89,.ld (.t 88) 2 true,none,[2]⟩,
      .op ⟨some 90,.bsl 2 27 [.t 89],none,[3]⟩,
      .op ⟨some 91,.call 172 [.t 87,.t 90],none,[1,4]⟩,
      .op (o1 92 (.addo (.t 12) 2)),
      .op ⟨some 93,.ld (.t 92) 2 true,none,[6]⟩,
      .op (o1 94 (.addo (.t 7) 2)),
      .op ⟨some 95,.ld (.t 94) 2 true,none,[8]⟩,
      .op ⟨some 96,.bsl 2 27 [.t 95],none,[9]⟩,
      .op ⟨some 97,.call 172 [.t 93,.t 96],none,[5,7,10]⟩,
      .op (o1 98 (.addo (.t 12) 4)),
      .op ⟨some 99,.ld (.t 98) 2 true,none,[12]⟩,
      .op (o1 100 (.addo (.t 7) 4)),
      .op ⟨some 101,.ld (.t 100) 2 true,none,[14]⟩,
      .op ⟨some 102,.bsl 2 27 [.t 101],none,[15]⟩,
      .op ⟨some 103,.call 172 [.t 99,.t 102],none,[11,13,16]⟩,
      .op ⟨some 104,.addo (.t 12) 0,none,[0,1,2,3,4,5,6,7,12,13]⟩] 0 1 [
      ⟨none,.st (.t 104) (.t 91) 2,none,[0,1,2,3,4,5,6,7,12,13,17,18]⟩,
      ⟨some 105,.addo (.t 12) 2,none,[0,1,2,3,4,5,6,7,8,9,10,11,12,13,18,19]⟩,
      ⟨none,.st (.t 105) (.t 97) 2,none,[0,1,2,3,4,5,6,7,8,9,10,11,12,13,18,19,20]⟩,
      ⟨some 106,.addo (.t 12) 4,none,[0,1,2,3,4,5,6,7,8,9,10,11,12,13,14,15,16,17,18,19,20,21]⟩,
      ⟨none,.st (.t 106) (.t 103) 2,none,[0,1,2,3,4,5,6,7,8,9,10,11,12,13,14,15,16,17,18,19,20,21,22]⟩])
     .skip))))))))))))
  (.reg [
  o1 107 (.bin .add (.t 36) (.c (.int .i64 1))),
  m1 36 107])))))))
 (sr1 [
 o1 108 (.ld (.t 12) 7 true),
 ⟨none,.st (.t 10) (.t 108) 7,none,[]⟩]
 .ret)))))
def r164:List RV:=[.cell 10 7 true]
theorem n164:Tryz.f164.ntmps=109:=by kernel_rfl
theorem b164:YP Tryz.prog 164=true:=by kernel_rfl
theorem Zvw:XK Tryz.prog c164 ((Tryz.f164.body).getD .skip)=true:=by kernel_rfl
theorem Zul:Wx Tryz.prog r164 Tryz.f164.results.toList=true:=by kernel_rfl
theorem m164 {n0:Nat} {hp0:List (Nat × HB)} {args:List SV} {Yi:Ot->Prop} (hh:hpb n0 hp0) (hx:∀ o,Yi o->KX o.res/\KXP o.hp) (h:sx Tryz.prog Y0 n0 c164 ⟨Wu 0 args,hp0,n0,109,[]⟩ (ZcF r164 fun o=>∃ o',Yi o'/\ZeW n0 o o')) (hA:Nat.ble args.length 109=true:=by rfl):CtM Tryz.prog 164 hp0 n0 args Yi:=XA Tryz.func164 rfl b164 Zvw Zul n164 (Nat.le_of_ble_eq_true hA) hh hx h
def c172:SC:=(sr1 [
 o1 2 (.box (.t 0) 0 27),
 o1 4 (.alloc [.int .i64 0,.int .i64 0] 27)]
 (.seq (sr1 [
 m1 7 1,
 o1 8 (.len (.t 7)),
 o1 9 (.mv (.c (.int .i64 0)))]
 (.block 0 (.loop (sr1 [
  o1 10 (.bin .lss (.t 9) (.t 8))]
  (.seq (.cond (.t 10)
  .skip
  (.exit 0))
  (.seq (.block 1 (sr1 [
   o1 11 (.ixs (.t 7) (.t 9) 2),
   o1 12 (.ld (.t 11) 2 true),
   o1 6 (.alloc [.int .i64 0,.int .i64 0] 27),
   ⟨none,.st (.t 6) (.t 12) 2,none,[]⟩]
   (.reg [
   o1 13 (.addo (.t 2) 0),
   o1 14 (.ld (.t 13) 1 false),
   o1 15 (.addo (.t 6) 0),
   o1 16 (.ld (.t 15) 1 false),
   o1 17 (.mm false [.t 14,.t 16]),
   o1 18 (.addo (.t 2) 1),
   o1 19 (.ld (.t 18) 1 false),
   o1 20 (.addo (.t 6) 1),
   o1 21 (.ld (.t 20) 1 false),
   o1 22 (.mm true [.t 19,.t 21]),
   o1 23 (.build [.int .i64 0,.int .i64 0] [(0,1,.t 17),(1,1,.t 22)]),
   ⟨none,.st (.t 2) (.t 23) 2,none,[]⟩])))
  (.reg [
  o1 24 (.bin .add (.t 9) (.c (.int .i64 1))),
  m1 9 24])))))))
 (sr1 [
 o1 25 (.ld (.t 2) 2 true),
 ⟨none,.st (.t 4) (.t 25) 2,none,[]⟩]
 .ret)))
def r172:List RV:=[.cell 4 2 true]
theorem t172:Qt1 Tryz.prog 172 c172 r172 26:=Z8 Tryz.func172 rfl (by kernel_rfl) (by kernel_rfl) (by kernel_rfl) (by kernel_rfl)
def c90:SC:=(sr1 [
 o1 2 (.box (.t 0) 0 34),
 o1 4 (.mv (.c (.slice none 0 0))),
 o1 5 (.mv (.c (.bool false)))]
 (sr1 [
 o1 10 (.addo (.t 2) 0),
 o1 11 (.ld (.t 10) 2 true),
 o1 12 (.addo (.t 2) 33),
 o1 13 (.ld (.t 12) 1 false),
 o1 14 (.addo (.t 2) 34),
 o1 15 (.ld (.t 14) 1 false),
 o1 16 (.addo (.t 2) 2),
 o1 17 (.ld (.t 16) 2 true),
 m1 18 1,
 o1 19 (.call 36 [.t 11,.t 13,.t 15,.t 17,.t 18]),
 m1 9 19,
 o1 20 (.ext (.t 9) 0),
 o1 21 (.ext (.t 9) 1),
 o1 22 (.ext (.t 9) 2),
 m1 6 20,
 m1 7 21,
 m1 8 22]
 (.seq (.regd [0,1,2,3,4,5,6,7,8,9,10,11,12,13,14,15,16,17,18,19,20,21,22] [
 .op (m1 23 6),
 .op (m1 24 8),
 .op ⟨some 25,.bin .eql (.t 24) (.c (.int .i64 0)),none,[1]⟩,
 .op ⟨some 26,.mv (.t 25),none,[2]⟩,
 .op ⟨some 27,.mv (.t 6),some (26,true),[3]⟩,
 .op ⟨some 28,.len (.t 27),some (26,true),[3,4]⟩,
 .op ⟨some 29,.bin .eql (.t 28) (.c (.int .i64 0)),some (26,true),[3,5]⟩,
 .op ⟨some 30,.mv (.t 29),some (26,true),[3,6]⟩,
 .op ⟨some 31,.mv (.t 6),some (30,false),[7]⟩,
 .op ⟨some 32,.mv (.t 6),some (30,false),[7]⟩,
 .op ⟨some 33,.len (.t 32),some (30,false),[7,9]⟩,
 .op ⟨some 34,.bin .sub (.t 33) (.c (.int .i64 1)),some (30,false),[7,10]⟩,
 .op ⟨some 35,.ixs (.t 31) (.t 34) 6,some (30,false),[7,8,11]⟩,
 .op ⟨some 36,.addo (.t 35) 4,some (30,false),[7,12]⟩,
 .op ⟨some 37,.addo (.t 36) 1,some (30,false),[7,13]⟩,
 .op ⟨some 38,.ld (.t 37) 1 false,some (30,false),[7,14]⟩,
 .op ⟨some 39,.addo (.t 2) 35,some (30,false),[7]⟩,
 .op ⟨some 40,.ld (.t 39) 1 false,some (30,false),[7,16]⟩,
 .op ⟨some 41,.bin .leq (.t 38) (.t 40),some (30,false),[7,15,17]⟩,
 .op ⟨some 42,.pick (.t 30) (.c (.bool true)) (.t 41),some (26,true),[3,7,18]⟩,
 .op ⟨some 43,.pick (.t 26) (.t 42) (.c (.bool false)),none,[3,19]⟩,
 .op ⟨some 4,.mv (.t 23),none,[0,7]⟩,
 .op ⟨some 5,.mv (.t 43),none,[0,1,2,3,4,5,6,7,8,9,10,11,12,13,14,15,16,17,18,19,20,21]⟩] 0 0 [
])
 .ret)))
def r90:List RV:=[.tmp 4,.tmp 5]
theorem t90:Qt1 Tryz.prog 90 c90 r90 44:=Z8 Tryz.func90 rfl (by kernel_rfl) (by kernel_rfl) (by kernel_rfl) (by kernel_rfl)
def c49:FB:=(.seq (.reg [
 o1 2 (.box (.t 0) 0 120),
 o1 3 (.box (.t 1) 0 37),
 o1 4 (.alloc [.slice none 0 0] 54),
 o1 5 (.alloc [.int .u8 0,.int .i64 0] 117)])
 (.rcv [
 o1 8 (.mkf 89 [.t 4,.t 5])] (.t 8)
 (.tail (.seq (.reg [
 o1 10 (.addo (.t 2) 0),
 o1 11 (.ld (.t 10) 37 true),
 o1 12 (.addo (.t 3) 0),
 o1 13 (.ld (.t 12) 1 false),
 o1 14 (.call 90 [.t 11,.t 13]),
 m1 9 14,
 o1 15 (.ext (.t 9) 0),
 o1 16 (.ext (.t 9) 1),
 m1 6 15,
 m1 7 16])
 (.seq (.reg [
 m1 17 7,
 o1 18 (.callm 91 [.t 17,.c (.int .u8 1),.c (.int .i64 0)])])
 (.seq (.reg [
 o1 19 (.ld (.t 2) 38 true),
 m1 20 6,
 o1 21 (.addo (.t 3) 1),
 o1 22 (.ld (.t 21) 1 false),
 o1 23 (.addo (.t 3) 2),
 o1 24 (.ld (.t 23) 1 false),
 o1 25 (.callm 92 [.t 19,.t 20,.t 22,.t 24]),
 o1 26 (.build [.int .u8 0,.int .i64 0] []),
 ⟨none,.st (.t 4) (.t 25) 1,none,[]⟩,
 ⟨none,.st (.t 5) (.t 26) 2,none,[]⟩])
 .ret))))))
def r49:List RV:=[.cell 4 1 false,.cell 5 2 true]
theorem n49:Tryz.f49.ntmps=27:=by kernel_rfl
theorem b49:YP Tryz.prog 49=true:=by kernel_rfl
theorem ZzC:Zaz Tryz.prog c49 ((Tryz.f49.body).getD .skip)=true:=by kernel_rfl
theorem Zy8:Wx Tryz.prog r49 Tryz.f49.results.toList=true:=by kernel_rfl
theorem m49 {n0:Nat} {hp0:List (Nat × HB)} {args:List SV} {Yi:Ot->Prop} (hh:hpb n0 hp0) (hx:∀ o,Yi o->KX o.res/\KXP o.hp) (h:fx Tryz.prog n0 c49 ⟨Wu 0 args,hp0,n0,27,[]⟩ (ZcF r49 fun o=>∃ o',Yi o'/\ZeW n0 o o')) (hA:Nat.ble args.length 27=true:=by rfl):CtM Tryz.prog 49 hp0 n0 args Yi:=ZcS Tryz.func49 rfl b49 ZzC Zy8 n49 (Nat.le_of_ble_eq_true hA) hh hx h
end Go.Proofs.YtiigiflofnjilaaGreat
namespace Go.Azalai
def Yb (b:Breed) (c:Camel) (m:March):Camel × Int × Int :=
 if Zcn b c≠0 then (Xk,0,Zcn b c) else if ZY m=false then (Xk,0,12) else if (Yl b c m).2=2 then (Xk,0,13) else ((Yl b c m).1,(Yl b c m).2,0)
end Go.Azalai
namespace Go.Proofs.YtiigiflofnjilaaGreat.Cm
open Go Go.Sx Go.Azalai
def U8 (n:Int):SV:=.v (.int .u8 n)
theorem after1_ok (b:Breed) (c:Camel) (m:March):Ct Tryz.prog 40 [.agg (breedL b),.agg (camelL c),.agg (marchL m)] (.tup [.agg (camelL (Yb b c m).1),U8 (Yb b c m).2.1,I (Yb b c m).2.2]):=by
 refine t40.1 (by simp [breedL,camelL,marchL,KFL,KF]) (by simp [camelL,U8,KFL,KF]) ?_
 dsimp only [c40,r40,breedL,camelL,marchL,go_sem,rA,rM,rS]
 refine call (checkCamel_ok b c) ?_
 dsimp only [go_sem,rA,rM,rS]
 by_cases h0:Zcn b c=0
 case neg =>
  refine Zv (by simpa using h0) ?_
  dsimp only [go_sem,rA,rM,rS]
  simp [Yb,h0,Xk,U8,camelL]
 refine Zw (by simpa using h0) ?_
 dsimp only [go_sem,rA,rM,rS]
 obtain ⟨hb,hc⟩:=errC_0.1 h0
 refine call (ZlY m true) ?_
 dsimp only [go_sem,rA,rM,rS]
 by_cases hm:ZY m=true
 case neg =>
  refine Zv (by simp [hm]) ?_
  dsimp only [go_sem,rA,rM,rS]
  simp [Yb,h0,hm,Xk,U8,camelL]
 refine Zw (by simp [hm]) ?_
 dsimp only [go_sem,rA,rM,rS]
 by_cases hd:(Yl b c m).2=2
 . refine call (Zm0 b c m hb hc hm hd) ?_
   dsimp only [YB,Xk,go_sem,rA,rM,rS]
   refine Zv (by decide) ?_
   dsimp only [go_sem,rA,rM,rS]
   simp [Yb,h0,hm,hd,Xk,U8,camelL]
 refine call (Zyi b c m hb hc hm hd) ?_
 dsimp only [YB,go_sem,rA,rM,rS]
 refine Zw (by simpa using hd) ?_
 dsimp only [go_sem,rA,rM,rS]
 simp [Yb,h0,hm,hd,U8,camelL]
end Go.Proofs.YtiigiflofnjilaaGreat.Cm
namespace Go.Azalai
open Go.Sx
structure Scene where
 heat:Span
 grass:Span
 yields:List Span
 prices:List Int
deriving DecidableEq
structure Season where
 land:Land
 pace:Span
 breed:Breed
 camel:Camel
 herd:Int
 hours:Int
 slab:Int
 cost:Int
 sale:Int
 start:Int
 day:Int
 till:Int
 scenes:List Scene
deriving DecidableEq
structure Plan where
 legs:List Int
 animals:Int
 slabs:Int
deriving DecidableEq
def Zau (x:Scene):Bool:=decide (x.yields.length > 20) || decide (x.prices.length > 20)
def UC (s:Season):Bool:=Zcb s.land || decide (s.scenes.length > 8) || s.scenes.any Zau
structure SmallS (s:Season):Prop where
 land:Vl s.land
 sc:s.scenes.length<=8
 each:∀ x ∈ s.scenes,x.yields.length<=20/\x.prices.length<=20
def Z9 (n:Nat) (x:Scene):Bool :=
 Z6 0 60 x.heat && Z6 0 1000000 x.grass && decide (x.yields.length=n) && decide (x.prices.length=n) && x.yields.all (Z6 0 10000000) && x.prices.all (inR 0 1000000)
def ZaB (s:Season):Bool :=
 inR 1 30 s.herd && inR 1 24 s.hours && inR 1 1000000 s.slab && inR 0 1000000 s.cost && inR 0 1000000 s.sale && inR 0 s.till s.day && decide (s.till<=100000)
def ZA (s:Season):Bool :=
 ZM s.land && ZX s.pace && decide (Zcn s.breed s.camel=0) && ZaB s && inR 0 (s.land.wells.length - 1) s.start && inR 1 4 s.scenes.length && s.scenes.all (Z9 s.land.wells.length)
theorem ZnX {l:Land} (h:Zcb l=false):Vl l:=by
 simp only [Zcb,Bool.or_eq_false_iff,decide_eq_false_iff_not,List.any_eq_false,decide_eq_true_eq] at h
 exact ⟨by omega,by omega,fun x hx=>by have:=h.2 x hx;omega⟩
theorem Zbn {s:Season} (h:UC s=false):SmallS s:=by
 simp only [UC,Bool.or_eq_false_iff,decide_eq_false_iff_not,List.any_eq_false,Zau,Bool.or_eq_true,decide_eq_true_eq] at h
 exact ⟨ZnX h.1.1,by omega,fun x hx=>by have:=h.2 x hx;omega⟩
end Go.Azalai
namespace Go.Proofs.YtiigiflofnjilaaGreat
open Go Go.Sx Go.Azalai
def Zj (x:Scene):List SV:=[I x.heat.lo,I x.heat.hi,I x.grass.lo,I x.grass.hi,.sl false 2 (x.yields.map Zd),.sl false 1 (x.prices.map Zo)]
def Zr (s:Season):List SV :=
 [.sl false 9 (s.land.wells.map Zg),.sl false 5 (s.land.legs.map Zm),I s.pace.lo,I s.pace.hi,
  I s.breed.full,I s.breed.fed,I s.breed.rest.lo,I s.breed.rest.hi,I s.breed.heat.lo,I s.breed.heat.hi,I s.breed.toil.lo,I s.breed.toil.hi,I s.breed.burn.lo,I s.breed.burn.hi,I s.breed.rub.lo,I s.breed.rub.hi,I s.breed.milk.lo,I s.breed.milk.hi,I s.breed.heal,I s.breed.strong.lo,I s.breed.strong.hi,
  I s.camel.water.lo,I s.camel.water.hi,I s.camel.fat.lo,I s.camel.fat.hi,I s.camel.sore.lo,I s.camel.sore.hi,B s.camel.milks,
  I s.herd,I s.hours,I s.slab,I s.cost,I s.sale,I s.start,I s.day,I s.till,.sl false 6 (s.scenes.map Zj)]
def ZC (p:Plan):List SV:=[.sl false 1 (p.legs.map Zo),I p.animals,I p.slabs]
theorem XS (n lo hi:Int):Ct Tryz.prog 61 [I n,I lo,I hi] (B (inR lo hi n)):=by
 refine t61.1 (by simp [KFL,KF]) (by simp [KFL,KF]) ?_
 dsimp only [c61,r61,go_sem,rA,rM,rS]
 repeat (refine gb ?_;dsimp only [go_sem,rA,rM,rS])
 (simp only [inR,Option.some.injEq,SV.v.injEq,Value.bool.injEq]<;>grind)
theorem Ua (s:Span) (lo hi:Int):Ct Tryz.prog 96 [.agg (Zd s),I lo,I hi] (B (Z6 lo hi s)):=by
 refine t96.1 (by simp [Zd,KFL,KF]) (by simp [KFL,KF]) ?_
 dsimp only [c96,r96,Zd,go_sem,rA,rM,rS]
 refine call (XS _ _ _) ?_
 dsimp only [go_sem,rA,rM,rS]
 repeat (refine gb ?_;dsimp only [go_sem,rA,rM,rS])
 (simp only [Z6,inR,Option.some.injEq,SV.v.injEq,Value.bool.injEq]<;>grind)
theorem Zjm (lo hi x:Int):Ct Tryz.prog 99 [I x,.ps [I lo] 0,.ps [I hi] 0] (B (!inR lo hi x)):=by
 refine t99.1 (by simp [KFL,KF]) (by simp [KFL,KF]) ?_
 dsimp only [c99,r99,go_sem,rA,rM,rS]
 repeat (refine gb ?_;dsimp only [go_sem,rA,rM,rS])
 (simp only [inR,Option.some.injEq,SV.v.injEq,Value.bool.injEq]<;>grind)
theorem Zbm (lo hi:Int) (l:List Int) (hl:l.length < 4611686018427387904) (c:Bool):Ct Tryz.prog 53 [I lo,I hi,.sl c 1 (l.map Zo)] (B (l.all (inR lo hi))):=by
 refine t53.1 (by simp [Za,Zo,KFL,KF]) (by simp [KFL,KF]) ?_
 dsimp only [c53,r53,go_sem,rA,rM,rS]
 refine ZeE (by simp [FLT]) (res:=B (l.any fun x=>!inR lo hi x)) ?_ ?_
 . dsimp only [go_sem,rA,rM,rS]
   exact ZyB 99 [.ps [I lo] 0,.ps [I hi] 0] (by simp [KFL,KF]) (fun x=>!inR lo hi x) l (fun x _=>Zjm lo hi x) hl
 . dsimp only [go_sem,rA,rM,rS]
   simp [List.all_eq_not_any_not]
theorem Zf4 (lo hi a:Int) (c:Bool):Ct Tryz.prog 53 [I lo,I hi,.sl c 1 [[I a]]] (B (inR lo hi a)):=by
 have:=Zbm lo hi [a] (by simp) c
 simpa [Zo] using this
theorem Zsf (lo hi a b:Int) (c:Bool):Ct Tryz.prog 53 [I lo,I hi,.sl c 1 [[I a],[I b]]] (B (inR lo hi a && inR lo hi b)):=by
 have:=Zbm lo hi [a,b] (by simp) c
 simpa [Zo] using this
theorem ZeA (lo hi:Int) (s:Span):Ct Tryz.prog 103 [.agg (Zd s),.ps [I lo] 0,.ps [I hi] 0] (B (!Z6 lo hi s)):=by
 refine t103.1 (by simp [Zd,KFL,KF]) (by simp [KFL,KF]) ?_
 dsimp only [c103,r103,Zd,go_sem,rA,rM,rS]
 repeat (first | (refine gb ?_;dsimp only [go_sem,rA,rM,rS]) | (refine call (Zsf _ _ _ _ _) ?_;dsimp only [go_sem,rA,rM,rS]))
 (simp only [Z6,inR,Option.some.injEq,SV.v.injEq,Value.bool.injEq]<;>grind)
theorem Zar (lo hi:Int) (l:List Span) (hl:l.length < 4611686018427387904) (c:Bool):Ct Tryz.prog 55 [I lo,I hi,.sl c 2 (l.map Zd)] (B (l.all (Z6 lo hi))):=by
 refine t55.1 (by simp [Za,Zd,KFL,KF]) (by simp [KFL,KF]) ?_
 dsimp only [c55,r55,go_sem,rA,rM,rS]
 refine ZeE (by simp [FLT]) (res:=B (l.any fun x=>!Z6 lo hi x)) ?_ ?_
 . dsimp only [go_sem,rA,rM,rS]
   exact Zse 103 [.ps [I lo] 0,.ps [I hi] 0] (by simp [KFL,KF]) (fun x=>!Z6 lo hi x) l (fun x _=>ZeA lo hi x) hl
 . dsimp only [go_sem,rA,rM,rS]
   simp [List.all_eq_not_any_not]
theorem Zev (lo hi:Int) (s:Span) (c:Bool):Ct Tryz.prog 55 [I lo,I hi,.sl c 2 [[I s.lo,I s.hi]]] (B (Z6 lo hi s)):=by
 have:=Zar lo hi [s] (by simp) c
 simpa [Zd] using this
theorem Zlc (s:Season):Ct Tryz.prog 12 [.agg (Zr s)] (B (UC s)):=by
 refine t12.1 (by simp [Zr,Zj,Zg,Zm,Zh,Zd,Zo,Za,KFL,KF]) (by simp [KFL,KF]) ?_
 dsimp only [c12,r12,Zr,go_sem,rA,rM,rS]
 refine call (Zq9 s.land) ?_
 dsimp only [go_sem,rA,rM,rS]
 repeat (refine gb ?_;dsimp only [go_sem,rA,rM,rS])
 simp only [List.length_map]
 refine br ?_ ?_
 . intro h
   dsimp only [go_sem,rA,rM,rS]
   (simp only [UC,Option.some.injEq,SV.v.injEq,Value.bool.injEq]<;>grind)
 intro h
 dsimp only [go_sem,rA,rM,rS]
 have hg:UC s=s.scenes.any Zau:=by simp only [UC];grind
 have hlen:s.scenes.length<=8:=by grind
 rw [hg]
 refine Xt (fun k:Nat=>[(3,I k)]) (fun _=>[]) (fun k=>k<=s.scenes.length/\(s.scenes.drop k).any Zau=s.scenes.any Zau) (fun k=>s.scenes.length - k) 0 ⟨Nat.zero_le _,rfl⟩ ?_ ?_
 . (refine Zl ?_ ?_ ?_ rfl rfl<;>dsimp only [Zh,Zg,Zm,Zj,Zd,Zo,id,go_sem,rA,rM,rS]<;>simp [Zh,Zg,Zm,Zj,Zd,Zo,Za,Ze,KFR,KFL,KF,Zc,mtO,nbr])
 intro k ⟨hk,hi⟩
 dsimp only [go_sem,rA,rM,rS]
 simp only [List.length_map]
 by_cases hlt:k < s.scenes.length
 . refine Zv (by simpa using hlt) ?_
   dsimp only [go_sem,rA,rM,rS]
   refine Zp k hlt rfl ?_
   dsimp only [Zj,go_sem,rA,rM,rS]
   repeat (first | (refine gb ?_;dsimp only [go_sem,rA,rM,rS]) | (refine Zp k hlt rfl ?_;dsimp only [Zj,go_sem,rA,rM,rS]))
   simp only [List.length_map]
   rw [List.drop_eq_getElem_cons hlt,List.any_cons] at hi
   refine br ?_ ?_
   . intro hb
     dsimp only [go_sem,rA,rM,rS]
     rw [<- hi];simp only [Zau];grind
   . intro hb
     dsimp only [go_sem,rA,rM,rS]
     rw [Zf (n:=(k:Int)+1) (by omega) (by omega)]
     have:Zau s.scenes[k]=false:=by simp only [Zau];grind
     rw [this,Bool.false_or] at hi
     refine ⟨k+1,⟨hlt,hi⟩,by omega,?_⟩
     (refine Zl ?_ ?_ ?_ rfl rfl<;>dsimp only [Zh,Zg,Zm,Zj,Zd,Zo,id,go_sem,rA,rM,rS]<;>simp [Zh,Zg,Zm,Zj,Zd,Zo,Za,Ze,KFR,KFL,KF,Zc,mtO,nbr])
 refine Zw (by simp;omega) ?_
 dsimp only [go_sem,rA,rM,rS]
 rw [<- hi,List.drop_eq_nil_of_le (by omega)]
 rfl
end Go.Proofs.YtiigiflofnjilaaGreat
namespace Go.Sx
open Go Go.RowKit
theorem Ct.res {P:Program} {f:FuncId} {args:List SV} {res res0:SV} (h:Ct P f args res) (kr:KF res0) (hw:Xh res res0):Ct P f args res0 :=
 ⟨h.1,h.2,kr,fun w ok vs hR=>Calls.mono (h.4 w ok vs hR) fun e w' q=>by
  obtain ⟨y,h1,h2,h3⟩:=q
  exact ⟨y,h1,hw _ _ _ _ _ h2,h3⟩⟩
theorem Wg {l:List SV}:∀ (w:World) (E:Env) (n ok:Nat->Prop) (ys:List Value),RL w E n ok l ys->RL w E n ok l ys:=fun _ _ _ _ _ h=>h
def ZaG (fr:List (Nat × SV)):List Nat->List (Nat × SV)
 | []=>[]
 | t :: ts=>(t,lk t fr) :: ZaG fr ts
theorem ZkW (fr:List (Nat × SV)):ZaG fr []=[]:=rfl
theorem ZhJ (fr:List (Nat × SV)) (t:Nat) (ts:List Nat):ZaG fr (t :: ts)=(t,lk t fr) :: ZaG fr ts:=rfl
attribute [go_sem] ZkW ZhJ
theorem Zez (fr:List (Nat × SV)):∀ ts,ZxH (ZaG fr ts) fr
 | []=>trivial
 | _ :: ts=>⟨rfl,Zez fr ts⟩
theorem UD {m:Nat} {σ : St} (ts:List Nat) (hg:ZxX (ZaG σ.fr ts)=true):Ent m σ ⟨ZaG σ.fr ts,σ.hp,σ.n,σ.N,[]⟩:=by
 intro C E a w _ h
 refine ⟨E,fun t=>?_,h.sz,h.df,fun t j b s ht=>absurd ht (Ze2 hg t j b s),h.hs⟩
 have hfr:=h.fr t
 rcases Zkp (Zez σ.fr ts) t with h1 | h1
 . rw [h1];exact trivial
 . rw [h1]
   have:=Ze2 hg t
   rw [h1] at this
   cases hq:lk t σ.fr<;>rw [hq] at hfr this<;>first | exact hfr | exact absurd rfl (this _ _ _)
theorem WH {m:Nat} {f:CT} {σ : St} {K:Ex->St->Prop} {S:Type} (ts:List Nat) (hg:ZxX (ZaG σ.fr ts)=true) (ov:S->List (Nat × SV)) (hv:S->List (Nat × HB)) (rel:S->Prop) (μ : S->Nat) (s0:S) (h0:rel s0)
 (he:Ent m ⟨ZaG σ.fr ts,σ.hp,σ.n,σ.N,[]⟩ (stO ⟨ZaG σ.fr ts,σ.hp,σ.n,σ.N,[]⟩ ov hv s0))
 (hb:∀ s,rel s->f (stO ⟨ZaG σ.fr ts,σ.hp,σ.n,σ.N,[]⟩ ov hv s) (Zm5 m (stO ⟨ZaG σ.fr ts,σ.hp,σ.n,σ.N,[]⟩ ov hv) rel μ s K)):Zu8 m f σ K :=
 ZeN (UD ts hg) ov hv rel μ s0 h0 he hb
end Go.Sx
namespace Go.Proofs.YtiigiflofnjilaaGreat
open Go Go.Sx Go.Azalai
theorem ZaU {α : Type} (p:α->Bool) {l:List α} {k:Nat} (h:k < l.length):(l.drop k).all p=(p l[k] && (l.drop (k+1)).all p):=by
 rw [List.drop_eq_getElem_cons h,List.all_cons]
theorem ibne (a b:Nat):((a:Int) != (b:Int)) = !decide (a=b):=by
 rw [Bool.eq_iff_iff];simp [bne];omega
theorem okX1 (n:Nat) (x:Scene):(!Z6 0 60 x.heat || !Z6 0 1000000 x.grass || (x.yields.length:Int) != (n:Int) || !x.yields.all (Z6 0 10000000) || (x.prices.length:Int) != (n:Int) || !x.prices.all (inR 0 1000000)) = !Z9 n x:=by
 simp only [ibne,Z9]
 generalize Z6 0 60 x.heat=a;generalize Z6 0 1000000 x.grass=b;generalize decide (x.yields.length=n)=c;generalize decide (x.prices.length=n)=d
 generalize x.yields.all (Z6 0 10000000)=e;generalize x.prices.all (inR 0 1000000)=f
 revert a b c d e f;decide
theorem okX2 (n:Nat) (x:Scene) (h:(!Z6 0 60 x.heat || !Z6 0 1000000 x.grass || (x.yields.length:Int) != (n:Int) || (x.prices.length:Int) != (n:Int))=true):Z9 n x=false:=by
 simp only [ibne] at h;simp only [Z9]
 revert h
 generalize Z6 0 60 x.heat=a;generalize Z6 0 1000000 x.grass=b;generalize decide (x.yields.length=n)=c;generalize decide (x.prices.length=n)=d
 generalize x.yields.all (Z6 0 10000000)=e;generalize x.prices.all (inR 0 1000000)=f
 revert a b c d e f;decide
theorem okX3 (n:Nat) (x:Scene) (h:(!Z6 0 60 x.heat || !Z6 0 1000000 x.grass || (x.yields.length:Int) != (n:Int) || (x.prices.length:Int) != (n:Int))=false) :
 Z9 n x=(x.yields.all (Z6 0 10000000) && x.prices.all (inR 0 1000000))/\x.yields.length=n/\x.prices.length=n:=by
 simp only [ibne,Bool.or_eq_false_iff,Bool.not_eq_false',decide_eq_true_eq] at h
 obtain ⟨⟨⟨h1,h2⟩,h3⟩,h4⟩:=h
 refine ⟨?_,h3,h4⟩
 simp only [Z9,h1,h2,h3,h4,decide_true,Bool.true_and]
theorem ZkO (s:Season) (hs:SmallS s):∃ xs:List (List SV),KFR xs/\Ct Tryz.prog 52 [.agg (Yo s.land),I s.start,I s.day,.agg (Zd s.pace)] (.tup [.sl false 2 xs,I (Wn s.land s.pace s.start s.day)]):=by
 have h:=ZdZ s.land hs.land s.start s.day s.pace
 unfold XQ at h;split at h
 . exact ⟨_,by simp [Za,Zd,KFL,KF],h⟩
 . exact ⟨[],trivial,h.res (res0:=.tup [.sl false 2 [],I (Wn s.land s.pace s.start s.day)]) (by simp [Za,KFR,KFL,KF]) (Wi (Z3 YV Wg))⟩
theorem Zj5 {s:Season}:Wn s.land s.pace s.start s.day=0↔ZM s.land=true/\ZX s.pace=true/\inR 0 (s.land.wells.length - 1) s.start=true/\inR 0 100000 s.day=true:=by
 unfold Wn ZaE
 cases ZM s.land<;>cases ZX s.pace<;>cases inR 0 (s.land.wells.length - 1) s.start<;>cases inR 0 100000 s.day<;>simp
theorem ZfV (s:Season):ZA s=((decide (Wn s.land s.pace s.start s.day=0) && decide (Zcn s.breed s.camel=0) && ZaB s && inR 1 4 s.scenes.length) && s.scenes.all (Z9 s.land.wells.length)):=by
 have hd:ZaB s=true->inR 0 100000 s.day=true:=fun h=>by
  simp only [ZaB,inR,Bool.and_eq_true,decide_eq_true_eq] at h ⊢;omega
 have hr:decide (Wn s.land s.pace s.start s.day=0)=(ZM s.land && ZX s.pace && inR 0 (s.land.wells.length - 1) s.start && inR 0 100000 s.day):=by
  rw [Bool.eq_iff_iff,decide_eq_true_eq,Zj5];simp only [Bool.and_eq_true,and_assoc]
 rw [hr]
 simp only [ZA]
 cases hn:ZaB s
 . simp
 . rw [hd hn]
   cases ZM s.land<;>cases ZX s.pace<;>cases inR 0 (s.land.wells.length - 1) s.start<;>simp
theorem ZbB (s:Season) (hs:SmallS s):Ct Tryz.prog 16 [.agg (Zr s)] (I (if ZA s=true then 0 else 90)):=by
 have hw:=hs.land.1
 have hsc:=hs.sc
 refine t16.1 (by simp [Zr,Zj,Zg,Zm,Zh,Zd,Zo,Za,KFL,KF]) (by simp [KFL,KF]) ?_
 dsimp only [c16,r16,Zr,go_sem,rA,rM,rS]
 obtain ⟨x,hx0,hc⟩:=ZkO s hs
 refine call hc ?_
 dsimp only [go_sem,rA,rM,rS]
 repeat (first | (refine gb ?_;dsimp only [go_sem,rA,rM,rS]) | (refine call (Zf4 _ _ _ _) ?_;dsimp only [go_sem,rA,rM,rS]) | (refine call (Zsf _ _ _ _ _) ?_;dsimp only [go_sem,rA,rM,rS]) | (refine call (Cm.checkCamel_ok s.breed s.camel) ?_;dsimp only [go_sem,rA,rM,rS]))
 simp only [List.length_map]
 by_cases hA:(decide (Wn s.land s.pace s.start s.day=0) && decide (Zcn s.breed s.camel=0) && ZaB s && inR 1 4 s.scenes.length)=true
 case neg =>
  refine Zv ?_ ?_
  . simp only [ZaB] at hA;grind
  dsimp only [go_sem,rA,rM,rS]
  rw [ZfV,Bool.eq_false_iff.2 hA,Bool.false_and];rfl
 refine Zw ?_ ?_
 . simp only [ZaB] at hA;grind
 dsimp only [go_sem,rA,rM,rS]
 rw [ZfV,hA,Bool.true_and]
 simp only [List.length_map]
 refine WH [1,3,85,86,87] rfl (fun k:Nat=>[(87,I k)]) (fun _=>[]) (fun k=>k<=s.scenes.length/\(s.scenes.drop k).all (Z9 s.land.wells.length)=s.scenes.all (Z9 s.land.wells.length)) (fun k=>s.scenes.length - k) 0 ⟨Nat.zero_le _,rfl⟩ ?_ ?_
 . (refine Zl ?_ ?_ ?_ rfl rfl<;>dsimp only [Zh,Zg,Zm,Zj,Zd,Zo,hx0,id,go_sem,rA,rM,rS]<;>simp [Zh,Zg,Zm,Zj,Zd,Zo,hx0,Za,Ze,KFR,KFL,KF,Zc,mtO,nbr])
 intro k ⟨hk,hi⟩
 dsimp only [go_sem,rA,rM,rS]
 by_cases hlt:k < s.scenes.length
 . refine Zv (by simpa using hlt) ?_
   dsimp only [go_sem,rA,rM,rS]
   have hx:=hs.each _ (List.getElem_mem hlt)
   refine Zp k hlt rfl ?_
   dsimp only [Zj,go_sem,rA,rM,rS]
   repeat (first | (refine gb ?_;dsimp only [go_sem,rA,rM,rS]) | (refine call (Zev _ _ s.scenes[k].heat _) ?_;dsimp only [go_sem,rA,rM,rS]) | (refine call (Zev _ _ s.scenes[k].grass _) ?_;dsimp only [go_sem,rA,rM,rS]) | (refine call (Zar _ _ s.scenes[k].yields (by omega) _) ?_;dsimp only [go_sem,rA,rM,rS]) | (refine call (Zbm _ _ s.scenes[k].prices (by omega) _) ?_;dsimp only [go_sem,rA,rM,rS]))
   simp only [List.length_map]
   rw [ZaU _ hlt] at hi
   rw [okX1]
   refine br ?_ ?_
   . intro hb
     dsimp only [go_sem,rA,rM,rS]
     rw [<- hi,(by simpa using hb:Z9 s.land.wells.length s.scenes[k]=false)];rfl
   intro hb
   dsimp only [go_sem,rA,rM,rS]
   rw [Zf (n:=(k:Int)+1) (by omega) (by omega)]
   rw [(by simpa using hb:Z9 s.land.wells.length s.scenes[k]=true),Bool.true_and] at hi
   refine ⟨k+1,⟨hlt,hi⟩,by omega,?_⟩
   (refine Zl ?_ ?_ ?_ rfl rfl<;>dsimp only [Zh,Zg,Zm,Zj,Zd,Zo,hx0,id,go_sem,rA,rM,rS]<;>simp [Zh,Zg,Zm,Zj,Zd,Zo,hx0,Za,Ze,KFR,KFL,KF,Zc,mtO,nbr])
 refine Zw (by simp;omega) ?_
 dsimp only [go_sem,rA,rM,rS]
 rw [<- hi,List.drop_eq_nil_of_le (by omega)]
 rfl
theorem Zkt (s:Season) (hs:SmallS s):Ct Tryz.prog 50 [.agg (Zr s)] (B (ZA s)):=by
 refine t50.1 (by simp [Zr,Zj,Zg,Zm,Zh,Zd,Zo,Za,KFL,KF]) (by simp [KFL,KF]) ?_
 dsimp only [c50,r50,Zr,go_sem,rA,rM,rS]
 refine call (Zi7 s.land hs.land) ?_
 dsimp only [go_sem,rA,rM,rS]
 repeat (first | (refine gb ?_;dsimp only [go_sem,rA,rM,rS]) | (refine call (Zm8 s.pace) ?_;dsimp only [go_sem,rA,rM,rS]) | (refine call (Cm.checkCamelR_ok s.breed s.camel) ?_;dsimp only [go_sem,rA,rM,rS]))
 have hw:=hs.land.1
 have hsc:=hs.sc
 refine br ?_ ?_
 . intro h
   dsimp only [go_sem,rA,rM,rS]
   (simp only [ZA,Option.some.injEq,SV.v.injEq,Value.bool.injEq]<;>grind)
 intro h
 dsimp only [go_sem,rA,rM,rS]
 repeat (first | (refine gb ?_;dsimp only [go_sem,rA,rM,rS]) | (refine call (XS _ _ _) ?_;dsimp only [go_sem,rA,rM,rS]))
 refine br ?_ ?_
 . intro h2
   dsimp only [go_sem,rA,rM,rS]
   (simp only [ZA,ZaB,Option.some.injEq,SV.v.injEq,Value.bool.injEq]<;>grind)
 intro h2
 dsimp only [go_sem,rA,rM,rS]
 simp only [List.length_map]
 rw [Zf (n:=(s.land.wells.length:Int) - 1) (by omega) (by omega)]
 repeat (first | (refine gb ?_;dsimp only [go_sem,rA,rM,rS]) | (refine call (XS _ _ _) ?_;dsimp only [go_sem,rA,rM,rS]))
 simp only [List.length_map]
 refine br ?_ ?_
 . intro h3
   dsimp only [go_sem,rA,rM,rS]
   (simp only [ZA,ZaB,Option.some.injEq,SV.v.injEq,Value.bool.injEq]<;>grind)
 intro h3
 dsimp only [go_sem,rA,rM,rS]
 have hO:ZA s=s.scenes.all (Z9 s.land.wells.length):=by simp only [ZA,ZaB];grind
 rw [hO]
 refine WH [1,3] rfl (fun k:Nat=>[(3,I k)]) (fun _=>[]) (fun k=>k<=s.scenes.length/\(s.scenes.drop k).all (Z9 s.land.wells.length)=s.scenes.all (Z9 s.land.wells.length)) (fun k=>s.scenes.length - k) 0 ⟨Nat.zero_le _,rfl⟩ ?_ ?_
 . (refine Zl ?_ ?_ ?_ rfl rfl<;>dsimp only [Zh,Zg,Zm,Zj,Zd,Zo,id,go_sem,rA,rM,rS]<;>simp [Zh,Zg,Zm,Zj,Zd,Zo,Za,Ze,KFR,KFL,KF,Zc,mtO,nbr])
 intro k ⟨hk,hi⟩
 dsimp only [go_sem,rA,rM,rS]
 simp only [List.length_map]
 by_cases hlt:k < s.scenes.length
 . refine Zv (by simpa using hlt) ?_
   dsimp only [go_sem,rA,rM,rS]
   have hx:=hs.each _ (List.getElem_mem hlt)
   refine Zp k hlt rfl ?_
   dsimp only [Zj,go_sem,rA,rM,rS]
   rw [ZaU _ hlt] at hi
   repeat (first | (refine gb ?_;dsimp only [go_sem,rA,rM,rS]) | (refine call (Ua s.scenes[k].heat _ _) ?_;dsimp only [go_sem,rA,rM,rS]) | (refine call (Ua s.scenes[k].grass _ _) ?_;dsimp only [go_sem,rA,rM,rS]))
   simp only [List.length_map]
   refine br ?_ ?_
   . intro hb
     dsimp only [go_sem,rA,rM,rS]
     rw [<- hi,okX2 _ _ hb];rfl
   intro hb
   dsimp only [go_sem,rA,rM,rS]
   obtain ⟨hy,hx1,hx2⟩:=okX3 _ _ hb
   rw [hy] at hi
   refine WH [1,3,4,5] rfl (fun j:Nat=>[(5,I j)]) (fun _=>[]) (fun j=>j<=s.scenes[k].yields.length/\((s.scenes[k].yields.drop j).all (Z6 0 10000000) && (s.scenes[k].prices.drop j).all (inR 0 1000000))=(s.scenes[k].yields.all (Z6 0 10000000) && s.scenes[k].prices.all (inR 0 1000000))) (fun j=>s.scenes[k].yields.length - j) 0 ⟨Nat.zero_le _,rfl⟩ ?_ ?_
   . (refine Zl ?_ ?_ ?_ rfl rfl<;>dsimp only [Zh,Zg,Zm,Zj,Zd,Zo,id,go_sem,rA,rM,rS]<;>simp [Zh,Zg,Zm,Zj,Zd,Zo,Za,Ze,KFR,KFL,KF,Zc,mtO,nbr])
   intro j ⟨hj,hij⟩
   dsimp only [go_sem,rA,rM,rS]
   simp only [List.length_map]
   by_cases hlj:j < s.scenes[k].yields.length
   . refine Zv (by simpa using hlj) ?_
     dsimp only [go_sem,rA,rM,rS]
     refine Zp j hlj rfl ?_
     dsimp only [Zd,go_sem,rA,rM,rS]
     refine call (Ua s.scenes[k].yields[j] _ _) ?_
     dsimp only [go_sem,rA,rM,rS]
     have hlp:j < s.scenes[k].prices.length:=by omega
     rw [ZaU _ hlj,ZaU _ hlp] at hij
     repeat (first | (refine gb ?_;dsimp only [go_sem,rA,rM,rS]) | (refine Zp j hlp rfl ?_;dsimp only [Zo,go_sem,rA,rM,rS]) | (refine Zso j hlp rfl ?_;dsimp only [Zo,go_sem,rA,rM,rS]) | (refine call (XS _ _ _) ?_;dsimp only [go_sem,rA,rM,rS]))
     refine br ?_ ?_
     . intro hc
       dsimp only [go_sem,rA,rM,rS]
       rw [<- hi,<- hij]
       cases h1:Z6 0 10000000 s.scenes[k].yields[j]<;>cases h2:inR 0 1000000 s.scenes[k].prices[j]<;>simp [h1,h2] at hc ⊢
     intro hc
     dsimp only [go_sem,rA,rM,rS]
     rw [Zf (n:=(j:Int)+1) (by omega) (by omega)]
     simp only [Bool.or_eq_false_iff,Bool.not_eq_false'] at hc
     rw [hc.1,hc.2,Bool.true_and,Bool.true_and] at hij
     refine ⟨j+1,⟨hlj,hij⟩,by omega,?_⟩
     (refine Zl ?_ ?_ ?_ rfl rfl<;>dsimp only [Zh,Zg,Zm,Zj,Zd,Zo,id,go_sem,rA,rM,rS]<;>simp [Zh,Zg,Zm,Zj,Zd,Zo,Za,Ze,KFR,KFL,KF,Zc,mtO,nbr])
   refine Zw (by simp;omega) ?_
   dsimp only [go_sem,rA,rM,rS]
   rw [List.drop_eq_nil_of_le (by omega),List.drop_eq_nil_of_le (by omega)] at hij
   rw [<- hij] at hi
   rw [Zf (n:=(k:Int)+1) (by omega) (by omega)]
   refine ⟨k+1,⟨hlt,by simpa using hi⟩,by omega,?_⟩
   (refine Zl ?_ ?_ ?_ rfl rfl<;>dsimp only [Zh,Zg,Zm,Zj,Zd,Zo,id,go_sem,rA,rM,rS]<;>simp [Zh,Zg,Zm,Zj,Zd,Zo,Za,Ze,KFR,KFL,KF,Zc,mtO,nbr])
 refine Zw (by simp;omega) ?_
 dsimp only [go_sem,rA,rM,rS]
 rw [<- hi,List.drop_eq_nil_of_le (by omega)]
 rfl
end Go.Proofs.YtiigiflofnjilaaGreat
namespace Go.Azalai
open Go.Sx
def YH (l:Land):Int->List Int->List Int->Option Int
 | v,_,[]=>some v
 | v,been,i :: r=>if Vm l i v < 0 then none else if Vm l i v ∈ been then none else YH l (Vm l i v) (Vm l i v :: been) r
end Go.Azalai
namespace Go.Proofs.YtiigiflofnjilaaGreat
open Go Go.Sx Go.Azalai
theorem ZeO.set {been:List Int} {L:List (Nat × Int × Bool)} {c:Nat} {v:Int} (h:ZeO been L):ZeO (v :: been) (Uh c v true L):=fun u=>by
 rw [UI]
 by_cases hu:u=v
 . simp [hu]
 . rw [if_neg hu,h u];simp [hu]
theorem ZyK:Y6 Tryz.prog 4=some (.bool false):=by kernel_rfl
theorem bz_RS:∀ w E n ok,R w E n ok (B false) (.bool false):=fun w E n ok=>by simp only [R]
theorem Zd4 (s:Season) (hs:SmallS s) (hl:ZM s.land=true) (hp:ZX s.pace=true) (h0:0<=s.start/\s.start < s.land.wells.length) (legs:List Int) (hg:legs.length<=1000) (c:Bool) :
 Ct Tryz.prog 58 [.agg (Zr s),.sl c 1 (legs.map Zo)] (.tup [I ((YH s.land s.start [s.start] legs).getD 0),B (YH s.land s.start [s.start] legs).isSome]):=by
 have hw:=hs.land.1
 have hlg:=hs.land.2.1
 have hlp:OkLP s.land s.pace:=⟨hl,hp⟩
 refine t58.1 (by simp [Zr,Zj,Zg,Zm,Zh,Zd,Zo,Za,KFL,KF]) (by simp [KFL,KF]) ?_
 dsimp only [c58,r58,Zr,go_sem,rA,rM,rS]
 refine ZbZ rfl rfl rfl ?_
 dsimp only [go_sem,rA,rM,rS]
 refine ZbY (ins:=true) (key:=kI) (val:=B) (L:=[]) (k:=s.start) (v:=true) rfl rfl ZdM Zdx rfl rfl (by simp) ?_
 dsimp only [go_sem,rA,rM,rS]
 have hb0:ZeO [s.start] (Uh 0 s.start true []):=fun u=>by rw [UI];simp [XG]
 refine WH [1,2,6,16,17,18,4,5] rfl (fun q:Nat × Int × List Int × List (Nat × Int × Bool) × Nat=>[(18,I q.1),(4,I q.2.1)]) (fun q=>[(1,.map (mpS kI B q.2.2.2.1) q.2.2.2.2)])
  (fun q=>q.1<=legs.length/\YH s.land q.2.1 q.2.2.1 (legs.drop q.1)=YH s.land s.start [s.start] legs/\ZeO q.2.2.1 q.2.2.2.1/\MW q.2.2.2.1 q.2.2.2.2/\0<=q.2.1/\q.2.1 < s.land.wells.length)
  (fun q=>legs.length - q.1) (0,s.start,[s.start],Uh 0 s.start true [],Zcm 0 s.start ([]:List (Nat × Int × Bool))) ⟨Nat.zero_le _,rfl,hb0,MW.nil.set true,h0⟩ ?_ ?_
 . (refine Zl ?_ ?_ ?_ rfl rfl<;>dsimp only [Zh,Zg,Zm,Zj,Zd,Zo,Zs,Zn,id,go_sem,rA,rM,rS]<;>simp [Zh,Zg,Zm,Zj,Zd,Zo,Zs,Zn,Za,Ze,KFR,KFL,KF,Zc,mtO,nbr])
 rintro ⟨k,v,been,L,c⟩ ⟨hk,hi,hb,hM,hv⟩
 simp only at hk hi hb hM hv
 dsimp only [go_sem,rA,rM,rS]
 simp only [List.length_map]
 by_cases hlt:k < legs.length
 case neg =>
  refine Zw (by simp;omega) ?_
  dsimp only [go_sem,rA,rM,rS]
  rw [<- hi,List.drop_eq_nil_of_le (by omega)]
  rfl
 refine Zv (by simpa using hlt) ?_
 dsimp only [go_sem,rA,rM,rS]
 refine Zp k hlt rfl ?_
 dsimp only [Zo,go_sem,rA,rM,rS]
 simp only [List.length_map]
 rw [Zf (n:=(s.land.legs.length:Int) - 1) (by omega) (by omega)]
 refine call (Zf4 _ _ _ _) ?_
 dsimp only [go_sem,rA,rM,rS]
 rw [List.drop_eq_getElem_cons hlt,YH] at hi
 by_cases hr:inR 0 (s.land.legs.length - 1) legs[k]=true
 case neg =>
  refine Zv (by simpa using hr) ?_
  dsimp only [go_sem,rA,rM,rS]
  simp only [inR,decide_eq_true_eq] at hr
  rw [if_pos (by rw [Zfd (by omega)];decide)] at hi
  rw [<- hi];rfl
 refine Zw (by simpa using hr) ?_
 dsimp only [go_sem,rA,rM,rS]
 simp only [inR,decide_eq_true_eq] at hr
 obtain ⟨n,hn⟩:=Int.eq_ofNat_of_zero_le hr.1
 rw [hn] at hr hi ⊢
 have hnl:n < s.land.legs.length:=by omega
 refine Zp n hnl rfl ?_
 dsimp only [Zm,go_sem,rA,rM,rS]
 have hends:=hlp.ends (List.getElem_mem hnl)
 rw [ZbT hnl] at hi
 repeat (refine gb ?_;dsimp only [go_sem,rA,rM,rS])
 by_cases hof:v=s.land.legs[n].a\/v=s.land.legs[n].b
 case neg =>
  refine Zv (by simp [bne];omega) ?_
  dsimp only [go_sem,rA,rM,rS]
  rw [if_pos (by unfold Zk;rw [if_neg (by omega),if_neg (by omega)];decide)] at hi
  rw [<- hi];rfl
 refine Zw (by simp [bne];omega) ?_
 dsimp only [go_sem,rA,rM,rS]
 have ho:Zk s.land.legs[n] v=s.land.legs[n].a+s.land.legs[n].b - v:=by
  unfold Zk;rcases hof with h | h
  . rw [if_pos h.symm];omega
  . rw [if_neg (by omega),if_pos h.symm];omega
 rw [Zf (n:=s.land.legs[n].a+s.land.legs[n].b) (by omega) (by omega),Zf (n:=s.land.legs[n].a+s.land.legs[n].b - v) (by omega) (by omega)]
 have hoi:0<=s.land.legs[n].a+s.land.legs[n].b - v/\s.land.legs[n].a+s.land.legs[n].b - v < s.land.wells.length:=by omega
 rw [ho,if_neg (by omega)] at hi
 generalize s.land.legs[n].a+s.land.legs[n].b - v=u at hi hoi
 have hbu:=hb u
 refine Zcd (key:=kI) (val:=B) (sv:=sI) (L:=L) (k:=u) (zs:=B false) rfl rfl ZdM Zdx rfl ZyK bz_RS (fun b hg=>?_) (fun hg=>?_)
 . rw [hbu] at hg
   by_cases hm:u ∈ been
   case neg=>rw [if_neg hm] at hg;cases hg
   rw [if_pos hm] at hg hi
   cases hg
   dsimp only [go_sem,rA,rM,rS]
   refine Zv rfl ?_
   dsimp only [go_sem,rA,rM,rS]
   rw [<- hi];rfl
 . rw [hbu] at hg
   by_cases hm:u ∈ been
   . rw [if_pos hm] at hg;cases hg
   rw [if_neg hm] at hi
   dsimp only [go_sem,rA,rM,rS]
   refine Zw rfl ?_
   dsimp only [go_sem,rA,rM,rS]
   refine ZbY (ins:=false) (key:=kI) (val:=B) (L:=L) (k:=u) (v:=true) rfl rfl ZdM Zdx rfl rfl (by simp) ?_
   dsimp only [go_sem,rA,rM,rS]
   rw [Zf (n:=(k:Int)+1) (by omega) (by omega)]
   refine ⟨(k+1,u,u :: been,Uh c u true L,Zcm c u L),⟨hlt,hi,hb.set,hM.set true,hoi⟩,by simp only;omega,?_⟩
   (refine Zl ?_ ?_ ?_ rfl rfl<;>dsimp only [Zh,Zg,Zm,Zj,Zd,Zo,Zs,Zn,id,go_sem,rA,rM,rS]<;>simp [Zh,Zg,Zm,Zj,Zd,Zo,Zs,Zn,Za,Ze,KFR,KFL,KF,Zc,mtO,nbr])
def Zct (n:Nat) (been:List Int):List Bool:=(List.range n).map fun u:Nat=>decide ((u:Int) ∈ been)
theorem YG {n:Nat} {been:List Int}:(Zct n been).length=n:=by simp [Zct]
theorem WI {n u:Nat} {been:List Int} (h:u < (Zct n been).length):(Zct n been)[u]=decide ((u:Int) ∈ been):=by simp [Zct]
theorem Zb8 {n u:Nat} {been:List Int} (h:u < n):(Zct n been).set u true=Zct n ((u:Int) :: been):=by
 apply List.ext_getElem (by simp [YG])
 intro i h1 h2
 rw [List.getElem_set,WI]
 by_cases hi:u=i
 . subst hi;rw [if_pos rfl,WI];simp
 . rw [if_neg hi,WI]
   have:¬ (i:Int)=(u:Int):=by omega
   simp [this]
theorem Zjl {n:Nat}:Zct n []=List.replicate n false:=by
 apply List.ext_getElem (by simp [YG])
 intro i h1 h2
 rw [WI];simp
theorem ZtH (s:Season) (hs:SmallS s) (hl:ZM s.land=true) (hp:ZX s.pace=true) (h0:0<=s.start/\s.start < s.land.wells.length) (legs:List Int) (hg:legs.length<=1000) (c:Bool) :
 Ct Tryz.prog 87 [.agg (Zr s),.sl c 1 (legs.map Zo)] (I ((YH s.land s.start [s.start] legs).getD (-1))):=by
 have hw:=hs.land.1
 have hlg:=hs.land.2.1
 have hlp:OkLP s.land s.pace:=⟨hl,hp⟩
 refine t87.1 (by simp [Zr,Zj,Zg,Zm,Zh,Zd,Zo,Za,KFL,KF]) (by simp [KFL,KF]) ?_
 dsimp only [c87,r87,Zr,go_sem,rA,rM,rS]
 simp only [List.length_map]
 refine ⟨s.land.wells.length,rfl,by omega,?_⟩
 dsimp only [go_sem,rA,rM,rS]
 obtain ⟨n0,hn0⟩:=Int.eq_ofNat_of_zero_le h0.1
 have hb0:List.replicate s.land.wells.length [B false]=(Zct s.land.wells.length []).map fun b=>[B b]:=by rw [Zjl];simp
 rw [hb0]
 rw [hn0] at h0 ⊢
 refine ZdN n0 rfl (by simp [YG];omega) ?_
 dsimp only [go_sem,rA,rM,rS]
 refine Zxc true (by simp [YG];omega) (by simp) (by simp [Zy]) ?_
 rw [Zb8 (by omega)]
 dsimp only [go_sem,rA,rM,rS]
 refine WH [1,2,4,5,6,7] rfl (fun q:Nat × Int × List Int=>[(7,I q.1),(6,I q.2.1)]) (fun q=>[(1,.row 0 1 ((Zct s.land.wells.length q.2.2).map fun b=>[B b]) 4)])
  (fun q=>q.1<=legs.length/\YH s.land q.2.1 q.2.2 (legs.drop q.1)=YH s.land n0 [(n0:Int)] legs/\0<=q.2.1/\q.2.1 < s.land.wells.length)
  (fun q=>legs.length - q.1) (0,n0,[(n0:Int)]) ⟨Nat.zero_le _,rfl,h0⟩ ?_ ?_
 . (refine Zl ?_ ?_ ?_ rfl rfl<;>dsimp only [Zh,Zg,Zm,Zj,Zd,Zo,id,go_sem,rA,rM,rS]<;>simp [Zh,Zg,Zm,Zj,Zd,Zo,Za,Ze,KFR,KFL,KF,Zc,mtO,nbr])
 rintro ⟨k,v,been⟩ ⟨hk,hi,hv⟩
 simp only at hk hi hv
 dsimp only [go_sem,rA,rM,rS]
 simp only [List.length_map]
 by_cases hlt:k < legs.length
 case neg =>
  refine Zw (by simp;omega) ?_
  dsimp only [go_sem,rA,rM,rS]
  rw [<- hi,List.drop_eq_nil_of_le (by omega)]
  rfl
 refine Zv (by simpa using hlt) ?_
 dsimp only [go_sem,rA,rM,rS]
 refine Zp k hlt rfl ?_
 dsimp only [Zo,go_sem,rA,rM,rS]
 simp only [List.length_map]
 rw [Zf (n:=(s.land.legs.length:Int) - 1) (by omega) (by omega)]
 refine call (XS _ _ _) ?_
 dsimp only [go_sem,rA,rM,rS]
 rw [List.drop_eq_getElem_cons hlt,YH] at hi
 by_cases hr:inR 0 (s.land.legs.length - 1) legs[k]=true
 case neg =>
  refine Zv (by simpa using hr) ?_
  dsimp only [go_sem,rA,rM,rS]
  simp only [inR,decide_eq_true_eq] at hr
  rw [if_pos (by rw [Zfd (by omega)];decide)] at hi
  rw [<- hi];rfl
 refine Zw (by simpa using hr) ?_
 dsimp only [go_sem,rA,rM,rS]
 refine Zp k hlt rfl ?_
 dsimp only [Zo,go_sem,rA,rM,rS]
 simp only [inR,decide_eq_true_eq] at hr
 obtain ⟨n,hn⟩:=Int.eq_ofNat_of_zero_le hr.1
 rw [hn] at hr hi ⊢
 have hnl:n < s.land.legs.length:=by omega
 refine Zp n hnl rfl ?_
 dsimp only [Zm,go_sem,rA,rM,rS]
 have hends:=hlp.ends (List.getElem_mem hnl)
 rw [ZbT hnl] at hi
 by_cases hva:v=s.land.legs[n].a
 . refine Zv (by simpa using hva) ?_
   dsimp only [go_sem,rA,rM,rS]
   rw [show Zk s.land.legs[n] v=s.land.legs[n].b from by unfold Zk;rw [if_pos hva.symm],if_neg (by omega)] at hi
   have hoi:0<=s.land.legs[n].b/\s.land.legs[n].b < s.land.wells.length:=by omega
   obtain ⟨u,hu⟩:=Int.eq_ofNat_of_zero_le hoi.1
   rw [hu] at hi hoi ⊢
   refine ZdN u rfl (by simp [YG];omega) ?_
   dsimp only [go_sem,rA,rM,rS]
   refine ZgW (by simp [YG];omega) ?_
   rw [WI]
   dsimp only [go_sem,rA,rM,rS]
   by_cases hm:(u:Int) ∈ been
   . refine Zv (by simpa using hm) ?_
     dsimp only [go_sem,rA,rM,rS]
     rw [if_pos hm] at hi
     rw [<- hi];rfl
   refine Zw (by simpa using hm) ?_
   dsimp only [go_sem,rA,rM,rS]
   rw [if_neg hm] at hi
   refine ZdN u rfl (by simp [YG];omega) ?_
   dsimp only [go_sem,rA,rM,rS]
   refine Zxc true (by simp [YG];omega) (by simp) (by simp [Zy]) ?_
   rw [Zb8 (by omega)]
   dsimp only [go_sem,rA,rM,rS]
   rw [Zf (n:=(k:Int)+1) (by omega) (by omega)]
   refine ⟨(k+1,u,(u:Int) :: been),⟨hlt,hi,hoi⟩,by simp only;omega,?_⟩
   (refine Zl ?_ ?_ ?_ rfl rfl<;>dsimp only [Zh,Zg,Zm,Zj,Zd,Zo,id,go_sem,rA,rM,rS]<;>simp [Zh,Zg,Zm,Zj,Zd,Zo,Za,Ze,KFR,KFL,KF,Zc,mtO,nbr])
 refine Zw (by simpa using hva) ?_
 dsimp only [go_sem,rA,rM,rS]
 by_cases hvb:v=s.land.legs[n].b
 case neg =>
  refine Zw (by simpa using hvb) ?_
  dsimp only [go_sem,rA,rM,rS]
  rw [if_pos (by unfold Zk;rw [if_neg (by omega),if_neg (by omega)];decide)] at hi
  rw [<- hi];rfl
 refine Zv (by simpa using hvb) ?_
 dsimp only [go_sem,rA,rM,rS]
 rw [show Zk s.land.legs[n] v=s.land.legs[n].a from by unfold Zk;rw [if_neg (by omega),if_pos hvb.symm],if_neg (by omega)] at hi
 have hoi:0<=s.land.legs[n].a/\s.land.legs[n].a < s.land.wells.length:=by omega
 obtain ⟨u,hu⟩:=Int.eq_ofNat_of_zero_le hoi.1
 rw [hu] at hi hoi ⊢
 refine ZdN u rfl (by simp [YG];omega) ?_
 dsimp only [go_sem,rA,rM,rS]
 refine ZgW (by simp [YG];omega) ?_
 rw [WI]
 dsimp only [go_sem,rA,rM,rS]
 by_cases hm:(u:Int) ∈ been
 . refine Zv (by simpa using hm) ?_
   dsimp only [go_sem,rA,rM,rS]
   rw [if_pos hm] at hi
   rw [<- hi];rfl
 refine Zw (by simpa using hm) ?_
 dsimp only [go_sem,rA,rM,rS]
 rw [if_neg hm] at hi
 refine ZdN u rfl (by simp [YG];omega) ?_
 dsimp only [go_sem,rA,rM,rS]
 refine Zxc true (by simp [YG];omega) (by simp) (by simp [Zy]) ?_
 rw [Zb8 (by omega)]
 dsimp only [go_sem,rA,rM,rS]
 rw [Zf (n:=(k:Int)+1) (by omega) (by omega)]
 refine ⟨(k+1,u,(u:Int) :: been),⟨hlt,hi,hoi⟩,by simp only;omega,?_⟩
 (refine Zl ?_ ?_ ?_ rfl rfl<;>dsimp only [Zh,Zg,Zm,Zj,Zd,Zo,id,go_sem,rA,rM,rS]<;>simp [Zh,Zg,Zm,Zj,Zd,Zo,Za,Ze,KFR,KFL,KF,Zc,mtO,nbr])
end Go.Proofs.YtiigiflofnjilaaGreat
namespace Go.Azalai
open Go.Sx
def Xs (s:Season) (p:Plan):Bool:=(YH s.land s.start [s.start] p.legs).isSome && inR 0 s.herd p.animals && inR 0 12 p.slabs
def ZJ (s:Season) (legs:List Int):List Stop:=(YU s.land s.pace s.start s.day legs).1
def Zd3 (l:List Stop):Stop:=l.getLast?.getD ⟨0,0,⟨0,0⟩,⟨0,0⟩⟩
def W7 (s:Season) (legs:List Int):Bool:=decide ((YU s.land s.pace s.start s.day legs).2.2=0) && (decide ((ZJ s legs).length=0) || decide ((Zd3 (ZJ s legs)).arrives.hi<=s.till))
theorem Zdr {l:Land} {p:Span} (hg:OkLP l p):∀ {legs:List Int} {v:Int} {been:List Int} {u:Int},0<=v/\v < l.wells.length->YH l v been legs=some u->0<=u/\u < l.wells.length
 | [],v,_,u,hv,h=>by simp only [YH,Option.some.injEq] at h;subst h;exact hv
 | i :: r,v,been,u,hv,h=>by
  simp only [YH] at h
  split at h
  . cases h
  rename_i he
  split at h
  . cases h
  obtain ⟨k,x,_,_,hx,_,e⟩:=U4 he
  rw [e] at he h
  exact Zdr hg (ZW hg hx he).1 h
theorem Zbq {l:List Stop} (h:l.length≠0):l[l.length - 1]? = some (Zd3 l):=by
 unfold Zd3
 rw [List.getLast?_eq_getElem?]
 rw [List.getElem?_eq_getElem (by omega)];rfl
theorem ZlW {l:Land} {p:Span}:∀ {legs:List Int} {v a b:Int} {k:Nat} {acc:List Stop},(goS l p v a b legs k acc).2.2≠0->(goS l p v a b legs k acc).1=[]
 | [],_,_,_,_,_,h=>by simp [goS] at h
 | i :: r,v,a,b,k,acc,h=>by
  simp only [goS] at h ⊢
  split
  . rfl
  . rename_i x hx
    rw [hx] at h;simp only at h
    split
    . rfl
    . rename_i hn;rw [if_neg hn] at h;exact ZlW h
theorem Zmn {l:Land} {p:Span}:∀ {legs:List Int} {v a b:Int} {k:Nat} {acc:List Stop},(goS l p v a b legs k acc).1.length<=acc.length+legs.length
 | [],_,_,_,_,_=>by simp [goS]
 | i :: r,v,a,b,k,acc=>by
  simp only [goS]
  split
  . simp
  . split
    . simp
    . refine Nat.le_trans Zmn ?_;simp;omega
theorem ZbV {l:Land} {p:Span} {s d:Int} {legs:List Int}:(YU l p s d legs).1.length<=legs.length:=by
 unfold YU
 split
 . simp
 split
 . simp
 split
 . simp
 split
 . simp
 refine Nat.le_trans Zmn (by simp)
theorem Zj0 {l:Land} {p:Span} {s d:Int} {legs:List Int} (h:(YU l p s d legs).2.2≠0):(YU l p s d legs).1=[]:=by
 unfold YU at h ⊢
 split
 . rfl
 rename_i h1
 rw [if_neg h1] at h
 split
 . rfl
 rename_i h2
 rw [if_neg h2] at h
 split
 . rfl
 rename_i h3
 rw [if_neg h3] at h
 split
 . rfl
 rename_i h4
 rw [h4] at h
 exact ZlW h
end Go.Azalai
namespace Go.Proofs.YtiigiflofnjilaaGreat
open Go Go.Sx Go.Azalai
structure OkS (s:Season):Prop where
 small:SmallS s
 ok:ZA s=true
theorem OkS.land {s:Season} (h:OkS s):ZM s.land=true:=by have:=h.ok;simp only [ZA,Bool.and_eq_true] at this;exact this.1.1.1.1.1.1
theorem OkS.pace {s:Season} (h:OkS s):ZX s.pace=true:=by have:=h.ok;simp only [ZA,Bool.and_eq_true] at this;exact this.1.1.1.1.1.2
theorem OkS.lp {s:Season} (h:OkS s):OkLP s.land s.pace:=⟨h.land,h.pace⟩
theorem OkS.beast {s:Season} (h:OkS s):Zx s.breed=true/\Zu s.breed s.camel=true:=by
 have:=h.ok;simp only [ZA,Bool.and_eq_true,decide_eq_true_eq] at this;exact Cm.errC_0.1 this.1.1.1.1.2
theorem OkS.num {s:Season} (h:OkS s):1<=s.herd/\s.herd<=30/\1<=s.hours/\s.hours<=24/\1<=s.slab/\s.slab<=1000000/\0<=s.cost/\s.cost<=1000000/\0<=s.sale/\s.sale<=1000000/\0<=s.day/\s.day<=s.till/\s.till<=100000:=by
 have:=h.ok;simp only [ZA,ZaB,inR,Bool.and_eq_true,decide_eq_true_eq] at this;omega
theorem OkS.start {s:Season} (h:OkS s):0<=s.start/\s.start < s.land.wells.length:=by
 have:=h.ok;simp only [ZA,inR,Bool.and_eq_true,decide_eq_true_eq] at this;omega
theorem OkS.scs {s:Season} (h:OkS s):1<=s.scenes.length/\s.scenes.length<=4:=by
 have:=h.ok;simp only [ZA,inR,Bool.and_eq_true,decide_eq_true_eq] at this;omega
theorem OkS.scene {s:Season} (h:OkS s):∀ x ∈ s.scenes,Z9 s.land.wells.length x=true:=by
 have:=h.ok;simp only [ZA,Bool.and_eq_true,List.all_eq_true] at this;exact this.2
theorem Zu7 (s:Season) (h:OkS s) (p:Plan) (hg:p.legs.length<=1000):Ct Tryz.prog 44 [.agg (Zr s),.agg (ZC p)] (B (Xs s p)):=by
 refine t44.1 (by simp [Zr,ZC,Zj,Zg,Zm,Zh,Zd,Zo,Za,KFL,KF]) (by simp [KFL,KF]) ?_
 dsimp only [c44,r44,Zr,ZC,go_sem,rA,rM,rS]
 refine call (ZtH s h.small h.land h.pace h.start p.legs hg _) ?_
 dsimp only [go_sem,rA,rM,rS]
 repeat (first | (refine gb ?_;dsimp only [go_sem,rA,rM,rS]) | (refine call (XS _ _ _) ?_;dsimp only [go_sem,rA,rM,rS]))
 have:decide ((YH s.land s.start [s.start] p.legs).getD (-1) ≥ 0)=(YH s.land s.start [s.start] p.legs).isSome:=by
  cases hq:YH s.land s.start [s.start] p.legs with
  | none=>rfl
  | some u=>have:=(Zdr h.lp h.start hq).1;simpa using this
 rw [this];rfl
theorem ZoR (s:Season) (hs:SmallS s) (p:Plan) (hg:p.legs.length<=1000):Ct Tryz.prog 48 [.agg (Zr s),.agg (ZC p)] (I (if ZA s=false then 90 else if Xs s p=false then 91 else 0)):=by
 refine t48.1 (by simp [Zr,ZC,Zj,Zg,Zm,Zh,Zd,Zo,Za,KFL,KF]) (by simp [KFL,KF]) ?_
 dsimp only [c48,r48,Zr,ZC,go_sem,rA,rM,rS]
 refine call (ZbB s hs) ?_
 dsimp only [go_sem,rA,rM,rS]
 by_cases ho:ZA s=true
 case neg =>
  refine Zv (by simp [ho]) ?_
  dsimp only [go_sem,rA,rM,rS]
  simp [ho]
 refine Zw (by simp [ho]) ?_
 dsimp only [go_sem,rA,rM,rS]
 have h:OkS s:=⟨hs,ho⟩
 refine call (Zd4 s h.small h.land h.pace h.start p.legs hg _) ?_
 dsimp only [go_sem,rA,rM,rS]
 repeat (first | (refine gb ?_;dsimp only [go_sem,rA,rM,rS]) | (refine call (Zf4 _ _ _ _) ?_;dsimp only [go_sem,rA,rM,rS]))
 refine br ?_ ?_
 . intro hb
   dsimp only [go_sem,rA,rM,rS]
   have:Xs s p=false:=by simp only [Xs];revert hb;generalize Option.isSome _=a;generalize inR 0 s.herd p.animals=b;generalize inR 0 12 p.slabs=c;revert a b c;decide
   rw [ho,this];rfl
 intro hb
 dsimp only [go_sem,rA,rM,rS]
 have:Xs s p=true:=by simp only [Xs];revert hb;generalize Option.isSome _=a;generalize inR 0 s.herd p.animals=b;generalize inR 0 12 p.slabs=c;revert a b c;decide
 rw [ho,this];rfl
theorem walkS (s:Season) (h:OkS s) (legs:List Int) (hg:legs.length<=1000) (c:Bool) {f:Nat}
 (hc:Ct Tryz.prog f [.agg (Yo s.land),I s.start,I s.day,.agg (Zd s.pace),.sl c 1 (legs.map Zo)] (ZbN (YU s.land s.pace s.start s.day legs))) :
 Ct Tryz.prog f [.agg (Yo s.land),I s.start,I s.day,.agg (Zd s.pace),.sl c 1 (legs.map Zo)] (.tup [.sl false 6 ((ZJ s legs).map ZT),I (YU s.land s.pace s.start s.day legs).2.1,I (YU s.land s.pace s.start s.day legs).2.2]):=by
 unfold ZbN XQ at hc
 split at hc
 . exact hc
 . rename_i he
   refine hc.res (by simp [Za,ZT,KFL,KF]) ?_
   rw [ZJ,Zj0 he]
   exact Wi (Z3 YV Wg)
theorem Zoc (s:Season) (h:OkS s) (legs:List Int) (hg:legs.length<=1000) (c:Bool):Ct Tryz.prog 90 [.agg (Zr s),.sl c 1 (legs.map Zo)] (.tup [.sl false 6 ((ZJ s legs).map ZT),B (W7 s legs)]):=by
 refine t90.1 (by simp [Zr,Zj,Zg,Zm,Zh,Zd,Zo,Za,KFL,KF]) (by simp [Za,ZT,KFL,KF]) ?_
 dsimp only [c90,r90,Zr,go_sem,rA,rM,rS]
 refine call (walkS s h legs hg c (ZnR s.land h.small.land s.start s.day s.pace legs hg c)) ?_
 dsimp only [go_sem,rA,rM,rS]
 repeat (refine gb ?_;dsimp only [go_sem,rA,rM,rS])
 have hlen:(ZJ s legs).length<=1000:=Nat.le_trans ZbV hg
 simp only [List.length_map]
 refine Zso ((ZJ s legs).length - 1) (ZT (Zd3 (ZJ s legs))) rfl (fun hb=>?_) ?_
 . have hz:(ZJ s legs).length≠0:=by simpa using hb
   rw [Zf (by omega) (by omega)]
   exact ⟨by omega,by rw [List.getElem?_map,Zbq hz];rfl⟩
 dsimp only [ZT,go_sem,rA,rM,rS]
 repeat (refine gb ?_;dsimp only [go_sem,rA,rM,rS])
 have:((YU s.land s.pace s.start s.day legs).2.2 == 0 && (((ZJ s legs).length:Int) == 0 || decide ((Zd3 (ZJ s legs)).arrives.hi<=s.till)))=W7 s legs:=by
  have h1:(((ZJ s legs).length:Int) == 0)=decide ((ZJ s legs).length=0):=by rw [Bool.eq_iff_iff];simp
  simp only [W7,h1];rfl
 rw [this]
end Go.Proofs.YtiigiflofnjilaaGreat
namespace Go.Sx
open Go Go.RowKit
section
variable {K V:Type} [DecidableEq K] {k k':K} {v v0:V} {c:Nat} {L:List (Nat × K × V)}
end
section
variable {P:Program} {K' V:Type} [DecidableEq K'] {key:K'->Value} {sv:K'->SV} {val:V->SV} {L:List (Nat × K' × V)} {km c:Nat} {kt et t ty:TypeId} {mx ix vx sx:Operand} {σ : St} {r:KT} {K:RK} {d:Option Nat} {k:K'}
end
section
variable {P:Program} {ty T T':TypeId} {ix jx:Operand} {σ : St} {r:KT} {K:RK} {d:Option Nat} {s:SV}
def ZdT (P:Program) (T:TypeId):Bool :=
 match P.underlying T with
 | some (.interface _)=>false
 | some _=>true
 | none=>false
theorem Zl8 (hT:ZdT P T=true) (hi:Zbv σ ix=s) (hg:∀ j b u,s≠.gd j b u) (h:YA d (.ifc T s) none σ r K):RAW P d (.makeInterface T ix) ty σ r K:=by
 intro o C E a w next Q e1 e2 e3 hS hn hq
 have hiv:=V0 hS hi hg
 have hx:(execOp a.eval o).run P w = .ok (.value (.iface T (a.eval ix))) w:=by
  obtain ⟨dst',op',ty',pos,after,guard⟩:=o
  simp only at e2;subst e2
  unfold ZdT at hT
  cases hu:P.underlying T with
  | none=>rw [hu] at hT;cases hT
  | some u =>
   rw [hu] at hT
   cases u<;>first | exact absurd hT Bool.false_ne_true | simp [execOp,Sem.run_bind,Instr.makeInterface,run_underlying hu,Result.andThen_ok,Sem.run_pure]
 refine ZE hx (by simp) ?_
 show next (a.put o.dst _) _
 rw [e1]
 refine Vf h hS ?_ hn
 simp only [R];exact ⟨_,rfl,hiv⟩
theorem Zl4 (hi:Zbv σ ix = .ifc T s) (h:K (.pan (.ifc T s)) σ):RAW P d (.panic ix) ty σ r K:=by
 intro o C E a w next Q e1 e2 e3 hS hn hq
 have hiv:=V0 hS hi (fun _ _ _=>by simp)
 simp only [R] at hiv
 obtain ⟨x,hx,hR⟩:=hiv
 have hy:(execOp a.eval o).run P w = .halt (.panic (.iface T x)) w:=by
  obtain ⟨dst',op',ty',pos,after,guard⟩:=o
  simp only at e2;subst e2
  simp [execOp,Sem.run_bind,hx,Instr.panic,goPanic,Result.andThen]
 exact Zkr hy (by rw [e2];simp) (hq _ _ _ _ _ h hS (by simp only [R];exact ⟨x,rfl,hR⟩))
theorem Zbi (hT:ZdT P T=true) (hi:Zbv σ ix = .ifc T s) (h:YA d (.tup [s,.v (.bool true)]) none σ r K):RAW P d (.typeAssert ix T' T true) ty σ r K:=by
 intro o C E a w next Q e1 e2 e3 hS hn hq
 have hiv:=V0 hS hi (fun _ _ _=>by simp)
 simp only [R] at hiv
 obtain ⟨x,hx,hR⟩:=hiv
 have hy:(execOp a.eval o).run P w = .ok (.value (.tuple #[x,.bool true])) w:=by
  obtain ⟨dst',op',ty',pos,after,guard⟩:=o
  simp only at e2;subst e2
  unfold ZdT at hT
  cases hu:P.underlying T with
  | none=>rw [hu] at hT;cases hT
  | some u =>
   rw [hu] at hT
   cases u<;>first | exact absurd hT Bool.false_ne_true | simp [execOp,Sem.run_bind,hx,Instr.typeAssert,run_underlying hu,Result.andThen_ok,Sem.run_pure]
 refine ZE hy (by simp) ?_
 show next (a.put o.dst _) _
 rw [e1]
 refine Vf h hS ?_ hn
 simp only [R,RL];exact ⟨_,rfl,_,_,rfl,hR,_,_,rfl,rfl,rfl⟩
end
section
variable {K V:Type} [DecidableEq K] {P:Program} {key:K->Value} {sv:K->SV} {val:V->SV} {L:List (Nat × K × V)} {km c:Nat} {kt et t:TypeId} {σ : St} {k:K} {i j:Nat} {ok:Bool} {zs:SV} {z:Value} {v:V}
end
end Go.Sx
namespace Go.Azalai
open Go.Sx
def XB (s:Season) (x:Scene) (slabs:Int):March:=⟨s.hours,slabs * s.slab,x.heat,x.grass,⟨0,0⟩⟩
def ZeX (b:Breed) (c:Camel):Span:=if Zcn b c=0 then Zmy b c else ZaF
def ZfS (a b:Span):Span:=⟨min a.lo b.lo,max a.hi b.hi⟩
def Zd6 (a b:Camel):Camel:=⟨ZfS a.water b.water,ZfS a.fat b.fat,ZfS a.sore b.sore,a.milks⟩
def Wd (b:Breed) (m:March) (lo:Int):Nat->Nat->Camel->Camel->Camel × Int
 | 0,_,_,out=>(out,0)
 | j+1,n,c,out =>
  if m.load > (ZeX b c).lo then (Xk,2)
  else if (Yb b c m).2.2≠0\/(Yb b c m).2.1≠0 then (Xk,3)
  else Wd b m lo j (n+1) (Yb b c m).1 (if (n:Int)+1=lo then (Yb b c m).1 else if (n:Int)+1 > lo then Zd6 out (Yb b c m).1 else out)
def Xl (s:Season) (x:Scene) (d:Span) (slabs:Int) (c:Camel):Camel × Int:=Wd s.breed (XB s x slabs) d.lo d.hi.toNat 0 c Xk
end Go.Azalai
namespace Go.Proofs.YtiigiflofnjilaaGreat
open Go Go.Sx Go.Azalai
abbrev camelL:=Cm.camelL
abbrev U8 (n:Int):SV:=.v (.int .u8 n)
def Yv (s:Season) (k:Int):List SV :=
 [.sl false 9 (s.land.wells.map Zg),.sl false 5 (s.land.legs.map Zm),I s.pace.lo,I s.pace.hi,
  I s.breed.full,I s.breed.fed,I s.breed.rest.lo,I s.breed.rest.hi,I s.breed.heat.lo,I s.breed.heat.hi,I s.breed.toil.lo,I s.breed.toil.hi,I s.breed.burn.lo,I s.breed.burn.hi,I s.breed.rub.lo,I s.breed.rub.hi,I s.breed.milk.lo,I s.breed.milk.hi,I s.breed.heal,I s.breed.strong.lo,I s.breed.strong.hi,
  I s.camel.water.lo,I s.camel.water.hi,I s.camel.fat.lo,I s.camel.fat.hi,I s.camel.sore.lo,I s.camel.sore.hi,B s.camel.milks,
  I s.herd,I s.hours,I s.slab,I s.cost,I s.sale,I s.start,I s.day,I s.till,.sl false 6 (s.scenes.map Zj),I k]
theorem ZfK (a b:Span) (c:Bool):Ct Tryz.prog 172 [.agg (Zd a),.sl c 2 [[I b.lo,I b.hi]]] (.agg (Zd (ZfS a b))):=by
 refine t172.1 ⟨by simp [KF,KFL,Zd],by simp [KF,KFR,KFL],trivial⟩ (by simp [Zd,KFL,KF]) ?_
 dsimp only [c172,r172,Zd,go_sem,rA,rM,rS]
 refine Xp 2 ?_
 dsimp only [Zb,go_sem,rA,rM,rS]
 refine Zv (by decide) ?_
 dsimp only [go_sem,rA,rM,rS]
 refine ixs 0 [I b.lo,I b.hi] rfl rfl ?_
 dsimp only [go_sem,rA,rM,rS]
 refine Zw (by decide) ?_
 dsimp only [go_sem,rA,rM,rS]
 rfl
end Go.Proofs.YtiigiflofnjilaaGreat
