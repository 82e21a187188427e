/- Walks and plain laws that lead to the given statement, part 7 of 8. -/
import Derived.Test.YtiigiflofnjilaaQF
import Derived.WideLaws
import Derived.Test.YtiigiflofnjilaaProg
set_option maxRecDepth 100000
set_option maxHeartbeats 8000000
set_option linter.all false
open Nat renaming reduceAdd->rA,reduceMul->rM,reduceSub->rS,beq_refl->nbr
namespace Go.Azalai
open Go.Sx
def Xi (l:Land):Int->List Int->List Int->Option Int
 | v,_,[]=>some v
 | v,been,i :: r=>if WM l i v < 0 then none else if WM l i v ∈ been then none else Xi l (WM l i v) (WM l i v :: been) r
end Go.Azalai
namespace Go.Proofs.Ytiigiflofnjilaa
open Go Go.Sx Go.Azalai
theorem Zdu.set {been:List Int} {L:List (Nat × Int × Bool)} {c:Nat} {v:Int} (h:Zdu been L):Zdu (v :: been) (VD c v true L):=fun u=>by
 rw [VQ]
 by_cases hu:u=v
 . simp [hu]
 . rw [if_neg hu,h u];simp [hu]
theorem ZvW:YR Try.prog 4=some (.bool false):=by kernel_rfl
theorem bz_RS:∀ w E n ok,R w E n ok (B false) (.bool false):=fun w E n ok=>by simp only [R]
theorem Zc8 (s:Season) (hs:SmallS s) (hl:Yf s.land=true) (hp:Z2 s.pace=true) (h0:0<=s.start/\s.start < s.land.wells.length) (legs:List Int) (hg:legs.length<=1000) (c:Bool) :
 Ct Try.prog 19 [.agg (Zw s),.sl c 1 (legs.map Zp)] (.tup [I ((Xi s.land s.start [s.start] legs).getD 0),B (Xi s.land s.start [s.start] legs).isSome]):=by
 have hw:=hs.land.1
 have hlg:=hs.land.2.1
 have hlp:OkLP s.land s.pace:=⟨hl,hp⟩
 refine t19.1 (by simp [Zw,Zm,Zg,Zo,Zh,Zd,Zp,Za,KFL,KF]) (by simp [KFL,KF]) ?_
 dsimp only [c19,r19,Zw,go_sem,rA,rM,rS]
 refine Zam rfl rfl rfl ?_
 dsimp only [go_sem,rA,rM,rS]
 refine ZaZ (ins:=true) (key:=kI) (val:=B) (L:=[]) (k:=s.start) (v:=true) rfl rfl ZbR Zck rfl rfl (by simp) ?_
 dsimp only [go_sem,rA,rM,rS]
 have hb0:Zdu [s.start] (VD 0 s.start true []):=fun u=>by rw [VQ];simp [Xk]
 refine Ui [1,2,6,16,17,18,4,5] rfl (fun q:Nat × Int × List Int × List (Nat × Int × Bool) × Nat=>[(18,I q.1),(4,I q.2.1)]) (fun q=>[(1,.map (mpS kI B q.2.2.2.1) q.2.2.2.2)])
  (fun q=>q.1<=legs.length/\Xi s.land q.2.1 q.2.2.1 (legs.drop q.1)=Xi s.land s.start [s.start] legs/\Zdu q.2.2.1 q.2.2.2.1/\MW q.2.2.2.1 q.2.2.2.2/\0<=q.2.1/\q.2.1 < s.land.wells.length)
  (fun q=>legs.length - q.1) (0,s.start,[s.start],VD 0 s.start true [],Zbl 0 s.start ([]:List (Nat × Int × Bool))) ⟨Nat.zero_le _,rfl,hb0,MW.nil.set true,h0⟩ ?_ ?_
 . (refine Zl ?_ ?_ ?_ rfl rfl<;>dsimp only [Zh,Zg,Zo,Zm,Zd,Zp,Zq,Zn,id,go_sem,rA,rM,rS]<;>simp [Zh,Zg,Zo,Zm,Zd,Zp,Zq,Zn,Za,Zf,KFR,KFL,KF,Zc,mtO,nbr])
 rintro ⟨k,v,been,L,c⟩ ⟨hk,hi,hb,hM,hv⟩
 simp only at hk hi hb hM hv
 dsimp only [go_sem,rA,rM,rS]
 simp only [List.length_map]
 by_cases hlt:k < legs.length
 case neg =>
  refine Zv (by simp;omega) ?_
  dsimp only [go_sem,rA,rM,rS]
  rw [<- hi,List.drop_eq_nil_of_le (by omega)]
  rfl
 refine Zt (by simpa using hlt) ?_
 dsimp only [go_sem,rA,rM,rS]
 refine Zs k hlt rfl ?_
 dsimp only [Zp,go_sem,rA,rM,rS]
 simp only [List.length_map]
 rw [Zi (n:=(s.land.legs.length:Int) - 1) (by omega) (by omega)]
 refine call (ZeW _ _ _ _) ?_
 dsimp only [go_sem,rA,rM,rS]
 rw [List.drop_eq_getElem_cons hlt,Xi] at hi
 by_cases hr:inR 0 (s.land.legs.length - 1) legs[k]=true
 case neg =>
  refine Zt (by simpa using hr) ?_
  dsimp only [go_sem,rA,rM,rS]
  simp only [inR,decide_eq_true_eq] at hr
  rw [if_pos (by rw [ZgW (by omega)];decide)] at hi
  rw [<- hi];rfl
 refine Zv (by simpa using hr) ?_
 dsimp only [go_sem,rA,rM,rS]
 simp only [inR,decide_eq_true_eq] at hr
 obtain ⟨n,hn⟩:=Int.eq_ofNat_of_zero_le hr.1
 rw [hn] at hr hi ⊢
 have hnl:n < s.land.legs.length:=by omega
 refine Zs n hnl rfl ?_
 dsimp only [Zo,go_sem,rA,rM,rS]
 have hends:=hlp.ends (List.getElem_mem hnl)
 rw [Zcq hnl] at hi
 repeat (refine gb ?_;dsimp only [go_sem,rA,rM,rS])
 by_cases hof:v=s.land.legs[n].a\/v=s.land.legs[n].b
 case neg =>
  refine Zt (by simp [bne];omega) ?_
  dsimp only [go_sem,rA,rM,rS]
  rw [if_pos (by unfold Zk;rw [if_neg (by omega),if_neg (by omega)];decide)] at hi
  rw [<- hi];rfl
 refine Zv (by simp [bne];omega) ?_
 dsimp only [go_sem,rA,rM,rS]
 have ho:Zk s.land.legs[n] v=s.land.legs[n].a+s.land.legs[n].b - v:=by
  unfold Zk;rcases hof with h | h
  . rw [if_pos h.symm];omega
  . rw [if_neg (by omega),if_pos h.symm];omega
 rw [Zi (n:=s.land.legs[n].a+s.land.legs[n].b) (by omega) (by omega),Zi (n:=s.land.legs[n].a+s.land.legs[n].b - v) (by omega) (by omega)]
 have hoi:0<=s.land.legs[n].a+s.land.legs[n].b - v/\s.land.legs[n].a+s.land.legs[n].b - v < s.land.wells.length:=by omega
 rw [ho,if_neg (by omega)] at hi
 generalize s.land.legs[n].a+s.land.legs[n].b - v=u at hi hoi
 have hbu:=hb u
 refine ZaC (key:=kI) (val:=B) (sv:=sI) (L:=L) (k:=u) (zs:=B false) rfl rfl ZbR Zck rfl ZvW bz_RS (fun b hg=>?_) (fun hg=>?_)
 . rw [hbu] at hg
   by_cases hm:u ∈ been
   case neg=>rw [if_neg hm] at hg;cases hg
   rw [if_pos hm] at hg hi
   cases hg
   dsimp only [go_sem,rA,rM,rS]
   refine Zt rfl ?_
   dsimp only [go_sem,rA,rM,rS]
   rw [<- hi];rfl
 . rw [hbu] at hg
   by_cases hm:u ∈ been
   . rw [if_pos hm] at hg;cases hg
   rw [if_neg hm] at hi
   dsimp only [go_sem,rA,rM,rS]
   refine Zv rfl ?_
   dsimp only [go_sem,rA,rM,rS]
   refine ZaZ (ins:=false) (key:=kI) (val:=B) (L:=L) (k:=u) (v:=true) rfl rfl ZbR Zck rfl rfl (by simp) ?_
   dsimp only [go_sem,rA,rM,rS]
   rw [Zi (n:=(k:Int)+1) (by omega) (by omega)]
   refine ⟨(k+1,u,u :: been,VD c u true L,Zbl c u L),⟨hlt,hi,hb.set,hM.set true,hoi⟩,by simp only;omega,?_⟩
   (refine Zl ?_ ?_ ?_ rfl rfl<;>dsimp only [Zh,Zg,Zo,Zm,Zd,Zp,Zq,Zn,id,go_sem,rA,rM,rS]<;>simp [Zh,Zg,Zo,Zm,Zd,Zp,Zq,Zn,Za,Zf,KFR,KFL,KF,Zc,mtO,nbr])
end Go.Proofs.Ytiigiflofnjilaa
namespace Go.Azalai
open Go.Sx
def X4 (s:Season) (p:Plan):Bool:=(Xi s.land s.start [s.start] p.legs).isSome && inR 0 s.herd p.animals && inR 0 12 p.slabs
def Ya (s:Season) (legs:List Int):List Stop:=(Y9 s.land s.pace s.start s.day legs).1
def Zfh (l:List Stop):Stop:=l.getLast?.getD ⟨0,0,⟨0,0⟩,⟨0,0⟩⟩
def ZaU (s:Season) (legs:List Int):Bool:=decide ((Y9 s.land s.pace s.start s.day legs).2.2=0) && (decide ((Ya s legs).length=0) || decide ((Zfh (Ya s legs)).arrives.hi<=s.till))
theorem Zfb {l:Land} {p:Span} (hg:OkLP l p):∀ {legs:List Int} {v:Int} {been:List Int} {u:Int},0<=v/\v < l.wells.length->Xi l v been legs=some u->0<=u/\u < l.wells.length
 | [],v,_,u,hv,h=>by simp only [Xi,Option.some.injEq] at h;subst h;exact hv
 | i :: r,v,been,u,hv,h=>by
  simp only [Xi] at h
  split at h
  . cases h
  rename_i he
  split at h
  . cases h
  obtain ⟨k,x,_,_,hx,_,e⟩:=Za5 he
  rw [e] at he h
  exact Zfb hg (ZS hg hx he).1 h
theorem Zds {l:List Stop} (h:l.length≠0):l[l.length - 1]? = some (Zfh l):=by
 unfold Zfh
 rw [List.getLast?_eq_getElem?]
 rw [List.getElem?_eq_getElem (by omega)];rfl
theorem Zh0 {l:Land} {p:Span}:∀ {legs:List Int} {v a b:Int} {k:Nat} {acc:List Stop},(goS l p v a b legs k acc).2.2≠0->(goS l p v a b legs k acc).1=[]
 | [],_,_,_,_,_,h=>by simp [goS] at h
 | i :: r,v,a,b,k,acc,h=>by
  simp only [goS] at h ⊢
  split
  . rfl
  . rename_i x hx
    rw [hx] at h;simp only at h
    split
    . rfl
    . rename_i hn;rw [if_neg hn] at h;exact Zh0 h
theorem ZiL {l:Land} {p:Span}:∀ {legs:List Int} {v a b:Int} {k:Nat} {acc:List Stop},(goS l p v a b legs k acc).1.length<=acc.length+legs.length
 | [],_,_,_,_,_=>by simp [goS]
 | i :: r,v,a,b,k,acc=>by
  simp only [goS]
  split
  . simp
  . split
    . simp
    . refine Nat.le_trans ZiL ?_;simp;omega
theorem Zae {l:Land} {p:Span} {s d:Int} {legs:List Int}:(Y9 l p s d legs).1.length<=legs.length:=by
 unfold Y9
 split
 . simp
 split
 . simp
 split
 . simp
 split
 . simp
 refine Nat.le_trans ZiL (by simp)
theorem ZhM {l:Land} {p:Span} {s d:Int} {legs:List Int} (h:(Y9 l p s d legs).2.2≠0):(Y9 l p s d legs).1=[]:=by
 unfold Y9 at h ⊢
 split
 . rfl
 rename_i h1
 rw [if_neg h1] at h
 split
 . rfl
 rename_i h2
 rw [if_neg h2] at h
 split
 . rfl
 rename_i h3
 rw [if_neg h3] at h
 split
 . rfl
 rename_i h4
 rw [h4] at h
 exact Zh0 h
end Go.Azalai
namespace Go.Proofs.Ytiigiflofnjilaa
open Go Go.Sx Go.Azalai
structure OkS (s:Season):Prop where
 small:SmallS s
 ok:ZQ s=true
theorem OkS.land {s:Season} (h:OkS s):Yf s.land=true:=by have:=h.ok;simp only [ZQ,Bool.and_eq_true] at this;exact this.1.1.1.1.1.1
theorem OkS.pace {s:Season} (h:OkS s):Z2 s.pace=true:=by have:=h.ok;simp only [ZQ,Bool.and_eq_true] at this;exact this.1.1.1.1.1.2
theorem OkS.lp {s:Season} (h:OkS s):OkLP s.land s.pace:=⟨h.land,h.pace⟩
theorem OkS.beast {s:Season} (h:OkS s):ZG s.breed=true/\ZB s.breed s.camel=true:=by
 have:=h.ok;simp only [ZQ,Bool.and_eq_true,decide_eq_true_eq] at this;exact Cm.errC_0.1 this.1.1.1.1.2
theorem OkS.num {s:Season} (h:OkS s):1<=s.herd/\s.herd<=30/\1<=s.hours/\s.hours<=24/\1<=s.slab/\s.slab<=1000000/\0<=s.cost/\s.cost<=1000000/\0<=s.sale/\s.sale<=1000000/\0<=s.day/\s.day<=s.till/\s.till<=100000:=by
 have:=h.ok;simp only [ZQ,Zcy,inR,Bool.and_eq_true,decide_eq_true_eq] at this;omega
theorem OkS.start {s:Season} (h:OkS s):0<=s.start/\s.start < s.land.wells.length:=by
 have:=h.ok;simp only [ZQ,inR,Bool.and_eq_true,decide_eq_true_eq] at this;omega
theorem OkS.scs {s:Season} (h:OkS s):1<=s.scenes.length/\s.scenes.length<=4:=by
 have:=h.ok;simp only [ZQ,inR,Bool.and_eq_true,decide_eq_true_eq] at this;omega
theorem OkS.scene {s:Season} (h:OkS s):∀ x ∈ s.scenes,Xn s.land.wells.length x=true:=by
 have:=h.ok;simp only [ZQ,Bool.and_eq_true,List.all_eq_true] at this;exact this.2
theorem ZpT (s:Season) (hs:SmallS s) (p:Plan) (hg:p.legs.length<=1000):Ct Try.prog 16 [.agg (Zw s),.agg (ZD p)] (I (if ZQ s=false then 90 else if X4 s p=false then 91 else 0)):=by
 refine t16.1 (by simp [Zw,ZD,Zm,Zg,Zo,Zh,Zd,Zp,Za,KFL,KF]) (by simp [KFL,KF]) ?_
 dsimp only [c16,r16,Zw,ZD,go_sem,rA,rM,rS]
 refine call (VU s hs) ?_
 dsimp only [go_sem,rA,rM,rS]
 by_cases ho:ZQ s=true
 case neg =>
  refine Zt (by simp [ho]) ?_
  dsimp only [go_sem,rA,rM,rS]
  simp [ho]
 refine Zv (by simp [ho]) ?_
 dsimp only [go_sem,rA,rM,rS]
 have h:OkS s:=⟨hs,ho⟩
 refine call (Zc8 s h.small h.land h.pace h.start p.legs hg _) ?_
 dsimp only [go_sem,rA,rM,rS]
 repeat (first | (refine gb ?_;dsimp only [go_sem,rA,rM,rS]) | (refine call (ZeW _ _ _ _) ?_;dsimp only [go_sem,rA,rM,rS]))
 refine br ?_ ?_
 . intro hb
   dsimp only [go_sem,rA,rM,rS]
   have:X4 s p=false:=by simp only [X4];revert hb;generalize Option.isSome _=a;generalize inR 0 s.herd p.animals=b;generalize inR 0 12 p.slabs=c;revert a b c;decide
   rw [ho,this];rfl
 intro hb
 dsimp only [go_sem,rA,rM,rS]
 have:X4 s p=true:=by simp only [X4];revert hb;generalize Option.isSome _=a;generalize inR 0 s.herd p.animals=b;generalize inR 0 12 p.slabs=c;revert a b c;decide
 rw [ho,this];rfl
theorem walkS (s:Season) (h:OkS s) (legs:List Int) (hg:legs.length<=1000) (c:Bool) {f:Nat}
 (hc:Ct Try.prog f [.agg (YB s.land),I s.start,I s.day,.agg (Zd s.pace),.sl c 1 (legs.map Zp)] (ZaY (Y9 s.land s.pace s.start s.day legs))) :
 Ct Try.prog f [.agg (YB s.land),I s.start,I s.day,.agg (Zd s.pace),.sl c 1 (legs.map Zp)] (.tup [.sl false 6 ((Ya s legs).map ZN),I (Y9 s.land s.pace s.start s.day legs).2.1,I (Y9 s.land s.pace s.start s.day legs).2.2]):=by
 unfold ZaY Xu at hc
 split at hc
 . exact hc
 . rename_i he
   refine hc.res (by simp [Za,ZN,KFL,KF]) ?_
   rw [Ya,ZhM he]
   exact XQ (ZL Yr XF)
theorem Zl2 (s:Season) (h:OkS s) (legs:List Int) (hg:legs.length<=1000) (c:Bool):Ct Try.prog 32 [.agg (Zw s),.sl c 1 (legs.map Zp)] (.tup [.sl false 6 ((Ya s legs).map ZN),B (ZaU s legs)]):=by
 refine t32.1 (by simp [Zw,Zm,Zg,Zo,Zh,Zd,Zp,Za,KFL,KF]) (by simp [Za,ZN,KFL,KF]) ?_
 dsimp only [c32,r32,Zw,go_sem,rA,rM,rS]
 refine call (walkS s h legs hg c (ZoB s.land h.small.land s.start s.day s.pace legs hg c)) ?_
 dsimp only [go_sem,rA,rM,rS]
 repeat (refine gb ?_;dsimp only [go_sem,rA,rM,rS])
 have hlen:(Ya s legs).length<=1000:=Nat.le_trans Zae hg
 simp only [List.length_map]
 refine Zwe ((Ya s legs).length - 1) (ZN (Zfh (Ya s legs))) rfl (fun hb=>?_) ?_
 . have hz:(Ya s legs).length≠0:=by simpa using hb
   rw [Zi (by omega) (by omega)]
   exact ⟨by omega,by rw [List.getElem?_map,Zds hz];rfl⟩
 dsimp only [ZN,go_sem,rA,rM,rS]
 repeat (refine gb ?_;dsimp only [go_sem,rA,rM,rS])
 have:((Y9 s.land s.pace s.start s.day legs).2.2 == 0 && (((Ya s legs).length:Int) == 0 || decide ((Zfh (Ya s legs)).arrives.hi<=s.till)))=ZaU s legs:=by
  have h1:(((Ya s legs).length:Int) == 0)=decide ((Ya s legs).length=0):=by rw [Bool.eq_iff_iff];simp
  simp only [ZaU,h1];rfl
 rw [this]
end Go.Proofs.Ytiigiflofnjilaa
namespace Go.Sx
open Go Go.RowKit
section
variable {K V:Type} [DecidableEq K] {k k':K} {v v0:V} {c:Nat} {L:List (Nat × K × V)}
end
section
variable {P:Program} {K' V:Type} [DecidableEq K'] {key:K'->Value} {sv:K'->SV} {val:V->SV} {L:List (Nat × K' × V)} {km c:Nat} {kt et t ty:TypeId} {mx ix vx sx:Operand} {σ : St} {r:KT} {K:RK} {d:Option Nat} {k:K'}
end
section
variable {P:Program} {ty T T':TypeId} {ix jx:Operand} {σ : St} {r:KT} {K:RK} {d:Option Nat} {s:SV}
def Zdq (P:Program) (T:TypeId):Bool :=
 match P.underlying T with
 | some (.interface _)=>false
 | some _=>true
 | none=>false
theorem ZhT (hT:Zdq P T=true) (hi:Zbg σ ix=s) (hg:∀ j b u,s≠.gd j b u) (h:putK d (.ifc T s) none σ r K):RAW P d (.makeInterface T ix) ty σ r K:=by
 intro o C E a w next Q e1 e2 e3 hS hn hq
 have hiv:=Vi hS hi hg
 have hx:(execOp a.eval o).run P w = .ok (.value (.iface T (a.eval ix))) w:=by
  obtain ⟨dst',op',ty',pos,after,guard⟩:=o
  simp only at e2;subst e2
  unfold Zdq at hT
  cases hu:P.underlying T with
  | none=>rw [hu] at hT;cases hT
  | some u =>
   rw [hu] at hT
   cases u<;>first | exact absurd hT Bool.false_ne_true | simp [execOp,Sem.run_bind,Instr.makeInterface,run_underlying hu,Result.andThen_ok,Sem.run_pure]
 refine Zx hx (by simp) ?_
 show next (a.put o.dst _) _
 rw [e1]
 refine WB h hS ?_ hn
 simp only [R];exact ⟨_,rfl,hiv⟩
theorem Zjg (hi:Zbg σ ix = .ifc T s) (h:K (.pan (.ifc T s)) σ):RAW P d (.panic ix) ty σ r K:=by
 intro o C E a w next Q e1 e2 e3 hS hn hq
 have hiv:=Vi hS hi (fun _ _ _=>by simp)
 simp only [R] at hiv
 obtain ⟨x,hx,hR⟩:=hiv
 have hy:(execOp a.eval o).run P w = .halt (.panic (.iface T x)) w:=by
  obtain ⟨dst',op',ty',pos,after,guard⟩:=o
  simp only at e2;subst e2
  simp [execOp,Sem.run_bind,hx,Instr.panic,goPanic,Result.andThen]
 exact ZgT hy (by rw [e2];simp) (hq _ _ _ _ _ h hS (by simp only [R];exact ⟨x,rfl,hR⟩))
theorem Zac (hT:Zdq P T=true) (hi:Zbg σ ix = .ifc T s) (h:putK d (.tup [s,.v (.bool true)]) none σ r K):RAW P d (.typeAssert ix T' T true) ty σ r K:=by
 intro o C E a w next Q e1 e2 e3 hS hn hq
 have hiv:=Vi hS hi (fun _ _ _=>by simp)
 simp only [R] at hiv
 obtain ⟨x,hx,hR⟩:=hiv
 have hy:(execOp a.eval o).run P w = .ok (.value (.tuple #[x,.bool true])) w:=by
  obtain ⟨dst',op',ty',pos,after,guard⟩:=o
  simp only at e2;subst e2
  unfold Zdq at hT
  cases hu:P.underlying T with
  | none=>rw [hu] at hT;cases hT
  | some u =>
   rw [hu] at hT
   cases u<;>first | exact absurd hT Bool.false_ne_true | simp [execOp,Sem.run_bind,hx,Instr.typeAssert,run_underlying hu,Result.andThen_ok,Sem.run_pure]
 refine Zx hy (by simp) ?_
 show next (a.put o.dst _) _
 rw [e1]
 refine WB h hS ?_ hn
 simp only [R,RL];exact ⟨_,rfl,_,_,rfl,hR,_,_,rfl,rfl,rfl⟩
end
section
variable {K V:Type} [DecidableEq K] {P:Program} {key:K->Value} {sv:K->SV} {val:V->SV} {L:List (Nat × K × V)} {km c:Nat} {kt et t:TypeId} {σ : St} {k:K} {i j:Nat} {ok:Bool} {zs:SV} {z:Value} {v:V}
end
end Go.Sx
namespace Go.Azalai
open Go.Sx
def Zc6 (s:Season) (x:Scene) (slabs:Int):March:=⟨s.hours,slabs * s.slab,x.heat,x.grass,⟨0,0⟩⟩
def ZgF (b:Breed) (c:Camel):Span:=if ZcA b c=0 then Zwl b c else UK
def Zi9 (a b:Span):Span:=⟨min a.lo b.lo,max a.hi b.hi⟩
def Zn9 (a b:Camel):Camel:=⟨Zi9 a.water b.water,Zi9 a.fat b.fat,Zi9 a.sore b.sore,a.milks⟩
def ZaF (b:Breed) (m:March) (lo:Int):Nat->Nat->Camel->Camel->Camel × Int
 | 0,_,_,out=>(out,0)
 | j+1,n,c,out =>
  if m.load > (ZgF b c).lo then (Xa,2)
  else if (Xo b c m).2.2≠0\/(Xo b c m).2.1≠0 then (Xa,3)
  else ZaF b m lo j (n+1) (Xo b c m).1 (if (n:Int)+1=lo then (Xo b c m).1 else if (n:Int)+1 > lo then Zn9 out (Xo b c m).1 else out)
def XB (s:Season) (x:Scene) (d:Span) (slabs:Int) (c:Camel):Camel × Int:=ZaF s.breed (Zc6 s x slabs) d.lo d.hi.toNat 0 c Xa
end Go.Azalai
namespace Go.Proofs.Ytiigiflofnjilaa
open Go Go.Sx Go.Azalai
abbrev camelL:=Cm.camelL
abbrev U8 (n:Int):SV:=.v (.int .u8 n)
def Yi (s:Season) (k:Int):List SV :=
 [.sl false 9 (s.land.wells.map Zg),.sl false 5 (s.land.legs.map Zo),I s.pace.lo,I s.pace.hi,
  I s.breed.full,I s.breed.fed,I s.breed.rest.lo,I s.breed.rest.hi,I s.breed.heat.lo,I s.breed.heat.hi,I s.breed.toil.lo,I s.breed.toil.hi,I s.breed.burn.lo,I s.breed.burn.hi,I s.breed.rub.lo,I s.breed.rub.hi,I s.breed.milk.lo,I s.breed.milk.hi,I s.breed.heal,I s.breed.strong.lo,I s.breed.strong.hi,
  I s.camel.water.lo,I s.camel.water.hi,I s.camel.fat.lo,I s.camel.fat.hi,I s.camel.sore.lo,I s.camel.sore.hi,B s.camel.milks,
  I s.herd,I s.hours,I s.slab,I s.cost,I s.sale,I s.start,I s.day,I s.till,.sl false 6 (s.scenes.map Zm),I k]
theorem ZdL (a b:Span) (c:Bool):Ct Try.prog 91 [.agg (Zd a),.sl c 2 [[I b.lo,I b.hi]]] (.agg (Zd (Zi9 a b))):=by
 refine t91.1 ⟨by simp [KF,KFL,Zd],by simp [KF,KFR,KFL],trivial⟩ (by simp [Zd,KFL,KF]) ?_
 dsimp only [c91,r91,Zd,go_sem,rA,rM,rS]
 refine Y4 2 ?_
 dsimp only [Zb,go_sem,rA,rM,rS]
 refine Zt (by decide) ?_
 dsimp only [go_sem,rA,rM,rS]
 refine ixs 0 [I b.lo,I b.hi] rfl rfl ?_
 dsimp only [go_sem,rA,rM,rS]
 refine Zv (by decide) ?_
 dsimp only [go_sem,rA,rM,rS]
 rfl
theorem Zb1:Zdq Try.prog 60=true:=by kernel_rfl
def Xl (why at_:Int):Ot:=⟨true,.ifc 60 (.agg [U8 why,I at_]),[],0⟩
theorem VO (w k:Int):CtM Try.prog 33 [] 0 [B true,U8 w,I k] (fun o=>o=⟨false,.tup [],[],0⟩):=by
 refine m33 (by simp [hpb]) (fun o ho=>by subst ho;simp [KX,KXL,KXP]) ?_
 dsimp only [c33,r33,go_sem,rA,rM,rS]
 refine Zv rfl ?_
 dsimp only [go_sem,rA,rM,rS]
 refine ⟨_,rfl,?_⟩
 (refine Z5 ?_ ?_ ?_ rfl<;>dsimp only [id,go_sem,rA,rM,rS]<;>simp [Za,Zf,KFR,KFL,KF,Zc,mtO,nbr])
theorem Zai (w k:Int):CtM Try.prog 33 [] 0 [B false,U8 w,I k] (fun o=>o=Xl w k):=by
 refine m33 (by simp [hpb]) (fun o ho=>by subst ho;simp [Xl,KX,KXL,KXP]) ?_
 dsimp only [c33,r33,go_sem,rA,rM,rS]
 refine Zt rfl ?_
 dsimp only [go_sem,rA,rM,rS]
 refine ZhT (s:=.agg [U8 w,I k]) Zb1 rfl (fun _ _ _ e=>by cases e) ?_
 dsimp only [go_sem,rA,rM,rS]
 refine Zjg rfl ?_
 dsimp only [go_sem,rA,rM,rS]
 refine ⟨_,rfl,?_⟩
 (refine Z5 ?_ ?_ ?_ rfl<;>dsimp only [Xl,id,go_sem,rA,rM,rS]<;>simp [Xl,Za,Zf,KFR,KFL,KF,Zc,mtO,nbr])
theorem ZjZ (s:Season) (k:Nat) (hk:k < s.scenes.length):Ct Try.prog 64 [.agg (Yi s k)] (.agg (Zm s.scenes[k])):=by
 refine t64.1 (by simp [Yi,Zm,Zg,Zo,Zh,Zd,Zp,Za,KFL,KF]) (by simp [Zm,Zd,Zp,Za,KFL,KF]) ?_
 dsimp only [c64,r64,Yi,go_sem,rA,rM,rS]
 refine Zs k hk rfl ?_
 dsimp only [Zm,go_sem,rA,rM,rS]
def Zas (at_:Int) (r:Camel × Int):Ot:=if r.2=0 then ⟨false,.agg (camelL r.1),[],0⟩ else Xl r.2 at_
theorem Zpk (s:Season) (k:Nat) (hk:k < s.scenes.length) (at_:Int) (c:Camel) (d:Span) (slabs:Int) (hn:0<=slabs/\slabs<=12) (hs:0<=s.slab/\s.slab<=1000000) (hd:d.hi<=1000000000) :
 CtM Try.prog 76 [] 0 [.agg (Yi s k),I at_,.agg (camelL c),.agg (Zd d),I slabs] (fun o=>o=Zas at_ (XB s s.scenes[k] d slabs c)):=by
 have hb:0<=slabs * s.slab/\slabs * s.slab<=12 * 1000000:=⟨Int.mul_nonneg hn.1 hs.1,Int.mul_le_mul hn.2 hs.2 hs.1 (by decide)⟩
 refine m76 (by simp [hpb]) (fun o ho=>by subst ho;unfold Zas;split<;>simp [Xl,Cm.camelL,KX,KXL,KXP]) ?_
 dsimp only [c76,r76,Zd,Cm.camelL,Yi,go_sem,rA,rM,rS]
 refine call (ZjZ s k hk) ?_
 dsimp only [Zm,go_sem,rA,rM,rS]
 refine call (ZjZ s k hk) ?_
 dsimp only [Zm,go_sem,rA,rM,rS]
 rw [Zi (n:=slabs * s.slab) (by omega) (by omega)]
 refine Ui [1,5,7,8,10,11,12,13,35,36] rfl (fun q:Nat × Camel × Camel=>[(36,I q.1)]) (fun q=>[(1,.cells (Cm.camelL q.2.1) 35),(5,.cells (Cm.camelL q.2.2) 35)])
  (fun q=>q.1<=d.hi.toNat/\ZaF s.breed (Zc6 s s.scenes[k] slabs) d.lo (d.hi.toNat - q.1) q.1 q.2.1 q.2.2=XB s s.scenes[k] d slabs c) (fun q=>d.hi.toNat - q.1) (0,c,Xa) ⟨Nat.zero_le _,rfl⟩ ?_ ?_
 . (refine Zl ?_ ?_ ?_ rfl rfl<;>dsimp only [Cm.camelL,Xa,UK,Zh,Zg,Zo,Zm,Zd,Zp,mtL,mtB,mtS,id,go_sem,rA,rM,rS]<;>simp [Cm.camelL,Xa,UK,Zh,Zg,Zo,Zm,Zd,Zp,mtL,mtB,mtS,Za,Zf,KFR,KFL,KF,Zc,mtO,nbr])
 rintro ⟨n,c,out⟩ ⟨hk',hi⟩
 simp only at hk' hi
 dsimp only [Cm.camelL,go_sem,rA,rM,rS]
 by_cases hlt:n < d.hi.toNat
 case neg =>
  refine Zv (by simp;omega) ?_
  dsimp only [go_sem,rA,rM,rS]
  rw [show d.hi.toNat - n=0 from by omega,ZaF] at hi
  rw [<- hi]
  refine ⟨_,rfl,?_⟩
  simp only [Zas,if_true]
  (refine Z5 ?_ ?_ ?_ rfl<;>dsimp only [Cm.camelL,mtL,mtB,mtS,id,go_sem,rA,rM,rS]<;>simp [Cm.camelL,mtL,mtB,mtS,Za,Zf,KFR,KFL,KF,Zc,mtO,nbr])
 refine Zt (by simp;omega) ?_
 dsimp only [go_sem,rA,rM,rS]
 refine call (Cm.carries_ok s.breed c) ?_
 dsimp only [Cm.sres,Zd,go_sem,rA,rM,rS]
 rw [show (if ZcA s.breed c=0 then Zwl s.breed c else UK)=ZgF s.breed c from rfl]
 have hj:d.hi.toNat - n=(d.hi.toNat - (n+1))+1:=by omega
 rw [hj,ZaF] at hi
 by_cases hw:(Zc6 s s.scenes[k] slabs).load > (ZgF s.breed c).lo
 . rw [show decide (slabs * s.slab<=(ZgF s.breed c).lo)=false from decide_eq_false (by have:slabs * s.slab > (ZgF s.breed c).lo:=hw;omega)]
   refine YI [] (Zai 2 at_) rfl rfl rfl ?_ ?_ ?_
   . (repeat first | dsimp only [go_sem,rA,rM,rS] | simp only [nbr])
     try simp [mtL,mtB,mtS]
   . trivial
   rintro _ rfl
   (repeat first | dsimp only [Xl,go_sem,rA,rM,rS] | simp only [nbr])
   rw [<- hi,if_pos hw]
   refine ⟨_,rfl,?_⟩
   simp only [Zas]
   (refine Z5 ?_ ?_ ?_ rfl<;>dsimp only [Xl,id,go_sem,rA,rM,rS]<;>simp [Xl,Za,Zf,KFR,KFL,KF,Zc,mtO,nbr])
 rw [show decide (slabs * s.slab<=(ZgF s.breed c).lo)=true from decide_eq_true (by have:¬ slabs * s.slab > (ZgF s.breed c).lo:=hw;omega)]
 refine YI [] (VO 2 at_) rfl rfl rfl ?_ ?_ ?_
 . (repeat first | dsimp only [go_sem,rA,rM,rS] | simp only [nbr])
   try simp [mtL,mtB,mtS]
 . trivial
 rintro _ rfl
 (repeat first | dsimp only [go_sem,rA,rM,rS] | simp only [nbr])
 rw [if_neg hw] at hi
 refine call (Cm.after1_ok s.breed c (Zc6 s s.scenes[k] slabs)) ?_
 generalize Xo s.breed c (Zc6 s s.scenes[k] slabs)=r at hi ⊢
 dsimp only [Cm.camelL,Cm.U8,go_sem,rA,rM,rS]
 repeat (refine gb ?_;dsimp only [go_sem,rA,rM,rS])
 by_cases hf:r.2.2≠0\/r.2.1≠0
 . rw [show (r.2.2 == 0 && r.2.1 == 0)=false from by simp;omega]
   refine YI [] (Zai 3 at_) rfl rfl rfl ?_ ?_ ?_
   . (repeat first | dsimp only [go_sem,rA,rM,rS] | simp only [nbr])
     try simp [mtL,mtB,mtS]
   . trivial
   rintro _ rfl
   (repeat first | dsimp only [Xl,go_sem,rA,rM,rS] | simp only [nbr])
   rw [<- hi,if_pos hf]
   refine ⟨_,rfl,?_⟩
   simp only [Zas]
   (refine Z5 ?_ ?_ ?_ rfl<;>dsimp only [Xl,id,go_sem,rA,rM,rS]<;>simp [Xl,Za,Zf,KFR,KFL,KF,Zc,mtO,nbr])
 rw [show (r.2.2 == 0 && r.2.1 == 0)=true from by simp;omega]
 refine YI [] (VO 3 at_) rfl rfl rfl ?_ ?_ ?_
 . (repeat first | dsimp only [go_sem,rA,rM,rS] | simp only [nbr])
   try simp [mtL,mtB,mtS]
 . trivial
 rintro _ rfl
 (repeat first | dsimp only [go_sem,rA,rM,rS] | simp only [nbr])
 rw [if_neg hf] at hi
 rw [Zi (n:=(n:Int)+1) (by omega) (by omega)]
 by_cases hl:(n:Int)+1=d.lo
 . refine Zt (by simpa using hl) ?_
   dsimp only [go_sem,rA,rM,rS]
   rw [if_pos hl] at hi
   try rw [Zi (n:=(n:Int)+1) (by omega) (by omega)]
   refine ⟨(n+1,r.1,r.1),⟨hlt,hi⟩,by simp only;omega,?_⟩
   (refine Zl ?_ ?_ ?_ rfl rfl<;>dsimp only [Cm.camelL,Xa,UK,Zh,Zg,Zo,Zm,Zd,Zp,mtL,mtB,mtS,id,go_sem,rA,rM,rS]<;>simp [Cm.camelL,Xa,UK,Zh,Zg,Zo,Zm,Zd,Zp,mtL,mtB,mtS,Za,Zf,KFR,KFL,KF,Zc,mtO,nbr])
 refine Zv (by simpa using hl) ?_
 dsimp only [go_sem,rA,rM,rS]
 rw [if_neg hl] at hi
 try rw [Zi (n:=(n:Int)+1) (by omega) (by omega)]
 by_cases hm:(n:Int)+1 > d.lo
 . refine Zt (by simpa using hm) ?_
   dsimp only [go_sem,rA,rM,rS]
   rw [if_pos hm] at hi
   refine call (ZdL out.water r.1.water _) ?_
   dsimp only [go_sem,rA,rM,rS]
   refine call (ZdL out.fat r.1.fat _) ?_
   dsimp only [go_sem,rA,rM,rS]
   refine call (ZdL out.sore r.1.sore _) ?_
   dsimp only [Zd,go_sem,rA,rM,rS]
   try rw [Zi (n:=(n:Int)+1) (by omega) (by omega)]
   refine ⟨(n+1,r.1,Zn9 out r.1),⟨hlt,hi⟩,by simp only;omega,?_⟩
   (refine Zl ?_ ?_ ?_ rfl rfl<;>dsimp only [Cm.camelL,Zn9,Xa,UK,Zh,Zg,Zo,Zm,Zd,Zp,mtL,mtB,mtS,id,go_sem,rA,rM,rS]<;>simp [Cm.camelL,Zn9,Xa,UK,Zh,Zg,Zo,Zm,Zd,Zp,mtL,mtB,mtS,Za,Zf,KFR,KFL,KF,Zc,mtO,nbr])
 refine Zv (by simp;omega) ?_
 dsimp only [go_sem,rA,rM,rS]
 rw [if_neg hm] at hi
 try rw [Zi (n:=(n:Int)+1) (by omega) (by omega)]
 refine ⟨(n+1,r.1,out),⟨hlt,hi⟩,by simp only;omega,?_⟩
 (refine Zl ?_ ?_ ?_ rfl rfl<;>dsimp only [Cm.camelL,Xa,UK,Zh,Zg,Zo,Zm,Zd,Zp,mtL,mtB,mtS,id,go_sem,rA,rM,rS]<;>simp [Cm.camelL,Xa,UK,Zh,Zg,Zo,Zm,Zd,Zp,mtL,mtB,mtS,Za,Zf,KFR,KFL,KF,Zc,mtO,nbr])
def cw63:SC:=(.seq (.reg [
 o1 2 (.mv (.c (.slice none 0 0)))])
 (.seq (.seq (.reg [
 m1 3 0,
 o1 4 (.isn (.t 3))])
 (.cond (.t 4)
 (.seq (.reg [
  o1 2 (.mv (.c (.slice none 0 0)))])
  .ret)
 .skip))
 (.seq (.reg [
 o1 5 (.bsl 9 72 []),
 m1 6 0,
 o1 7 (.cln 9 72 72 (.t 5) (.t 6)),
 m1 2 7])
 .ret)))
def rw63:List RV:=[.tmp 2]
theorem nw63:Try.f63.ntmps=8:=by kernel_rfl
theorem bw63:YE Try.prog 63=true:=by kernel_rfl
theorem Zry:Xt Try.prog cw63 ((Try.f63.body).getD .skip)=true:=by kernel_rfl
theorem Zto:X8 Try.prog rw63 Try.f63.results.toList=true:=by kernel_rfl
theorem mw63 {n0:Nat} {hp0:List (Nat × HB)} {args:List SV} {ZX:Ot->Prop} (hh:hpb n0 hp0) (hx:∀ o,ZX o->KX o.res/\KXP o.hp) (h:sx Try.prog Y0 n0 cw63 ⟨enum 0 args,hp0,n0,8,[]⟩ (retM rw63 fun o=>∃ o',ZX o'/\Zd8 n0 o o')) (hA:Nat.ble args.length 8=true:=by rfl):CtM Try.prog 63 hp0 n0 args ZX:=XE Try.func63 rfl bw63 Zry Zto nw63 (Nat.le_of_ble_eq_true hA) hh hx h
def cw44:SC:=(.seq (.reg [
 o1 2 (.box (.t 0) 0 63),
 o1 3 (.box (.t 1) 0 120),
 o1 4 (.mv (.c (.int .i64 0)))])
 (.seq (.reg [
 o1 10 (.addo (.t 2) 0),
 o1 11 (.addo (.t 10) 0),
 o1 12 (.ld (.t 11) 2 true),
 o1 5 (.alloc [.slice none 0 0,.slice none 0 0] 29),
 ⟨none,.st (.t 5) (.t 12) 2,none,[]⟩])
 (.seq (.reg [
 o1 13 (.addo (.t 5) 0),
 o1 14 (.ld (.t 13) 1 false),
 o1 15 (.callm 63 [.t 14]),
 o1 16 (.addo (.t 5) 0),
 ⟨none,.st (.t 16) (.t 15) 1,none,[]⟩])
 (.seq (.seq (.reg [
 o1 17 (.addo (.t 5) 0),
 o1 18 (.ld (.t 17) 1 false),
 o1 19 (.len (.t 18)),
 o1 20 (.mv (.c (.int .i64 0)))])
 (.block 0 (.loop (.seq (.reg [
  o1 21 (.bin .lss (.t 20) (.t 19))])
  (.seq (.cond (.t 21)
  .skip
  (.exit 0))
  (.seq (.block 1 (.seq (.reg [
   m1 22 20,
   m1 6 22])
   (.regd [0,1,2,3,4,5,6,7,8,9,10,11] [
   .op (o1 23 (.addo (.t 5) 0)),
   .op ⟨some 24,.ld (.t 23) 1 false,none,[0]⟩,
   .op (m1 25 6),
   .op (o1 26 (.ld (.t 2) 38 true)),
   .op ⟨some 27,.call 64 [.t 26],none,[3]⟩,
   .op ⟨some 28,.fld (.t 27) 4 1 false,none,[4]⟩,
   .op (m1 29 6),
   .op ⟨some 30,.ixs (.t 28) (.t 29) 2,none,[5,6]⟩,
   .op ⟨some 31,.ld (.t 30) 2 true,none,[7]⟩,
   .op ⟨some 32,.ixs (.t 24) (.t 25) 9,none,[0,1,2,3,4,5,6,7,8]⟩,
   .op ⟨some 33,.addo (.t 32) 3,none,[0,1,2,3,4,5,6,7,8,9]⟩] 0 1 [
   ⟨none,.st (.t 33) (.t 31) 2,none,[0,1,2,3,4,5,6,7,8,10]⟩])))
  (.reg [
  o1 34 (.bin .add (.t 20) (.c (.int .i64 1))),
  m1 20 34])))))))
 (.seq (.reg [
 o1 36 (.ld (.t 5) 2 true),
 o1 37 (.addo (.t 3) 1),
 o1 38 (.ld (.t 37) 1 false),
 o1 39 (.addo (.t 3) 4),
 o1 40 (.addo (.t 39) 0),
 o1 41 (.ld (.t 40) 1 false),
 o1 42 (.call 65 [.t 36,.t 38,.c (.slice none 0 0),.t 41]),
 m1 35 42,
 o1 43 (.ext (.t 35) 0),
 o1 44 (.ext (.t 35) 1),
 o1 45 (.ext (.t 35) 2),
 o1 7 (.alloc [.int .i64 0,.int .i64 0] 31),
 ⟨none,.st (.t 7) (.t 43) 2,none,[]⟩,
 m1 8 44,
 m1 9 45])
 (.seq (.reg [
 o1 46 (.addo (.t 7) 0),
 o1 47 (.ld (.t 46) 1 false),
 m1 4 47])
 .ret))))))
def rw44:List RV:=[.tmp 4]
theorem tw44:Qt1 Try.prog 44 cw44 rw44 48:=Yn Try.func44 rfl (by kernel_rfl) (by kernel_rfl) (by kernel_rfl) (by kernel_rfl)
end Go.Proofs.Ytiigiflofnjilaa
namespace Go.Azalai
open Go.Sx
def ZgA (ws:List Well) (ys:List Span):List Well:=List.zipWith (fun w y=>{ w with yld:=y }) ws ys
def Ug (s:Season) (x:Scene):Land:=⟨ZgA s.land.wells x.yields,s.land.legs⟩
def VH (ws Z:List Well) (k:Nat):List Well:=Z.take k ++ ws.drop k
theorem Zey {ws:List Well} {ys:List Span} (h:ys.length=ws.length):(ZgA ws ys).length=ws.length:=by simp [ZgA,h]
theorem Zc9 {ws Z:List Well} {k:Nat} (h:Z.length=ws.length) (hk:k<=ws.length):(VH ws Z k).length=ws.length:=by simp [VH];omega
theorem Zc3 {ws Z:List Well} {k:Nat} (h:Z.length=ws.length) (hk:k < ws.length) (hk':k < (VH ws Z k).length):(VH ws Z k)[k]=ws[k]:=by
 simp only [VH]
 rw [List.getElem_append_right (by simp;omega)]
 simp [Nat.min_eq_left (Nat.le_of_lt (h ▸ hk:k < Z.length))]
theorem Zjz {ws Z:List Well} {k:Nat} (h:Z.length=ws.length) (hk:k < ws.length) (hz:k < Z.length):(VH ws Z k).set k Z[k]=VH ws Z (k+1):=by
 simp only [VH]
 rw [List.set_append_right _ _ (by simp;omega)]
 have h1:(Z.take k).length=k:=by simp;omega
 rw [h1,Nat.sub_self,List.drop_eq_getElem_cons hk,List.set_cons_zero,List.take_succ_eq_append_getElem hz,List.append_assoc]
 rfl
theorem Zo5 {ws:List Well} {ys:List Span} {k:Nat} (h1:k < ws.length) (h2:k < ys.length) (h:k < (ZgA ws ys).length):(ZgA ws ys)[k]={ ws[k] with yld:=ys[k] }:=by simp [ZgA]
def ZcB (s:Season) (x:Scene) (st:Stop):Int:=(Wn (Ug s x) st.well [] st.arrives.lo).1.lo
end Go.Azalai
namespace Go.Proofs.Ytiigiflofnjilaa
open Go Go.Sx Go.Azalai
theorem ZcT {s:Season} {x:Scene} (h:Vg s.land) (hx:x.yields.length=s.land.wells.length):Vg (Ug s x):=by
 refine ⟨?_,h.2.1,h.2.2⟩
 simp only [Ug];rw [Zey hx];exact h.1
theorem Zh6 (l:List Well) (hL:l.length<=1000) (k:Bool):CtM Try.prog 63 [] 0 [.sl k 9 (l.map Zg)] (fun o=>o=⟨false,.mr 0 0,[(0,.row 0 9 (l.map Zg) 72)],1⟩):=by
 refine mw63 (by simp [hpb]) (fun o ho=>by subst ho;simp [KX,KXL,KXP,KXH,Za,KFL,KF,Zg]) ?_
 dsimp only [cw63,rw63,go_sem,rA,rM,rS]
 intro b hb
 dsimp only [go_sem,rA,rM,rS]
 cases b with
 | true =>
  have hl:l=[]:=by simpa using hb rfl
  subst hl
  refine Zt rfl ?_
  dsimp only [go_sem,rA,rM,rS]
  refine ⟨_,rfl,?_⟩
  refine VF (Yv (YM 0 9 72 rfl rfl) ?_) (fun _ _ _ e=>by cases e)
  (refine Zl ?_ ?_ ?_ rfl rfl<;>dsimp only [Zg,id,go_sem,rA,rM,rS]<;>simp [Zg,Za,Zf,KFR,KFL,KF,Zc,mtO,nbr])
 | false =>
  refine Zv rfl ?_
  dsimp only [go_sem,rA,rM,rS]
  refine ⟨by simp;omega,?_⟩
  dsimp only [go_sem,rA,rM,rS]
  refine ⟨_,rfl,?_⟩
  (refine Z5 ?_ ?_ ?_ rfl<;>dsimp only [Zg,id,go_sem,rA,rM,rS]<;>simp [Zg,Za,Zf,KFR,KFL,KF,Zc,mtO,nbr])
theorem Zqb (s:Season) (hs:SmallS s) (k:Nat) (hk:k < s.scenes.length) (hy:s.scenes[k].yields.length=s.land.wells.length) (st:Stop):Ct Try.prog 44 [.agg (Yi s k),.agg (ZN st)] (I (ZcB s s.scenes[k] st)):=by
 have hw:=hs.land.1
 refine tw44.1 (by simp [Yi,ZN,Zm,Zg,Zo,Zh,Zd,Zp,Za,KFL,KF]) (by simp [KFL,KF]) ?_
 dsimp only [cw44,rw44,Yi,ZN,go_sem,rA,rM,rS]
 refine Zax [] (Zh6 s.land.wells hw false) rfl rfl rfl ?_ ?_ ?_
 . exact Zc (by simp [Za,Zg,KFL,KF])
 . trivial
 dsimp only [go_sem,rA,rM,rS]
 simp only [List.length_map]
 have hz:=Zey hy
 refine Ui [2,3,4,5,19,20] rfl (fun q:Nat=>[(20,I q)]) (fun q=>[(3,.row 0 9 ((VH s.land.wells (ZgA s.land.wells s.scenes[k].yields) q).map Zg) 72)])
  (fun q=>q<=s.land.wells.length) (fun q=>s.land.wells.length - q) 0 (Nat.zero_le _) ?_ ?_
 . (refine Zl ?_ ?_ ?_ rfl rfl<;>dsimp only [Zg,Zo,Zh,Zm,Zd,Zp,VH,id,go_sem,rA,rM,rS]<;>simp [Zg,Zo,Zh,Zm,Zd,Zp,VH,Za,Zf,KFR,KFL,KF,Zc,mtO,nbr])
 intro q hq
 dsimp only [go_sem,rA,rM,rS]
 by_cases hlt:q < s.land.wells.length
 . refine Zt (by simpa using hlt) ?_
   dsimp only [go_sem,rA,rM,rS]
   refine call (ZjZ s k hk) ?_
   dsimp only [Zm,go_sem,rA,rM,rS]
   refine Zs q (by omega) rfl ?_
   dsimp only [Zd,go_sem,rA,rM,rS]
   refine Zfj q rfl (by simp [Zc9 hz hq];omega) ?_
   dsimp only [go_sem,rA,rM,rS]
   have hq2:q < (VH s.land.wells (ZgA s.land.wells s.scenes[k].yields) q).length:=by rw [Zc9 hz hq];exact hlt
   have hq3:q < (ZgA s.land.wells s.scenes[k].yields).length:=by omega
   refine Zw6 ((ZgA s.land.wells s.scenes[k].yields)[q]) hq2 (by rw [Zc3 hz hlt];simp [Zg]) (by rw [Zc3 hz hlt,Zo5 hlt (by omega)];simp [Zg,splice]) ?_
   rw [Zjz hz hlt hq3]
   dsimp only [go_sem,rA,rM,rS]
   rw [Zi (n:=(q:Int)+1) (by omega) (by omega)]
   refine ⟨q+1,by omega,by omega,?_⟩
   (refine Zl ?_ ?_ ?_ rfl rfl<;>dsimp only [Zg,Zo,Zh,Zm,Zd,Zp,id,go_sem,rA,rM,rS]<;>simp [Zg,Zo,Zh,Zm,Zd,Zp,Za,Zf,KFR,KFL,KF,Zc,mtO,nbr])
 refine Zv (by simp;omega) ?_
 dsimp only [go_sem,rA,rM,rS]
 have hq':VH s.land.wells (ZgA s.land.wells s.scenes[k].yields) q=ZgA s.land.wells s.scenes[k].yields:=by
  simp only [VH];rw [List.take_of_length_le (by omega),List.drop_eq_nil_of_le (by omega),List.append_nil]
 rw [hq']
 have hwa:=(ZpD (Ug s s.scenes[k]) (ZcT hs.land hy) st.well st.arrives.lo [] (by simp)).args (args0:=[.agg (YB (Ug s s.scenes[k])),I st.well,.v (.slice none 0 0),I st.arrives.lo]) (by simp [YB,Zg,Zo,Zh,Za,KFL,KF]) (ZL (fun _ _ _ _ _ h=>h) (ZL (fun _ _ _ _ _ h=>h) (ZL Yr XF)))
 refine Zc5 (by simp [FLT,ZuP,Zl0,Zd]) (res:=Zl0 (Wn (Ug s s.scenes[k]) st.well [] st.arrives.lo)) ?_ ?_
 . dsimp only [go_sem,rA,rM,rS]
   exact hwa
 dsimp only [Zl0,Zd,go_sem,rA,rM,rS]
 rfl
end Go.Proofs.Ytiigiflofnjilaa
namespace Go.Sx
open Go Go.RowKit
theorem XY {l l':List SV} (h:∀ (w:World) (E:Env) (n ok:Nat->Prop) (ys:List Value),RL w E n ok l ys->RL w E n ok l' ys):Z6 (.agg l) (.agg l'):=fun w E n ok y hy=>by
 simp only [R] at hy ⊢
 obtain ⟨cs,h1,h2⟩:=hy
 exact ⟨cs,h1,h _ _ _ _ _ h2⟩
end Go.Sx
namespace Go.Azalai
open Go.Sx
def Zb6 (b:Breed) (c:Camel):Camel:={ c with water:=⟨b.full,b.full⟩ }
def goG (s:Season) (x:Scene) (slabs:Int):List Stop->Nat->Camel->List (Int × Int)->Int × Int × List (Int × Int)
 | [],_,_,acc=>(0,0,acc)
 | st :: r,i,c,acc =>
  if (XB s x (XP s.land st.leg s.pace).1 slabs c).2≠0 then ((XB s x (XP s.land st.leg s.pace).1 slabs c).2,i,acc)
  else goG s x slabs r (i+1) (Zb6 s.breed (XB s x (XP s.land st.leg s.pace).1 slabs c).1)
   (if r=[] then acc else acc ++ [(s.breed.full - (XB s x (XP s.land st.leg s.pace).1 slabs c).1.water.lo,ZcB s x st)])
def goF (s:Season) (x:Scene) (slabs:Int) (l:List Stop):Int × Int × List (Int × Int) :=
 if l=[] then (if slabs * s.slab > (ZgF s.breed s.camel).lo then 2 else 0,0,[]) else goG s x slabs l 0 s.camel []
theorem Zd5 {lo hi:Int} {a b:Span} (ha:Yt lo hi a=true) (hb:Yt lo hi b=true):Yt lo hi (Zi9 a b)=true:=by
 simp only [Yt,decide_eq_true_eq] at ha hb
 show decide (lo<=min a.lo b.lo/\min a.lo b.lo<=max a.hi b.hi/\max a.hi b.hi<=hi)=true
 rw [decide_eq_true_eq];omega
theorem ZjJ {b:Breed} {c:Camel} {m:March} (hb:ZG b=true) (hc:ZB b c=true) (he:(Xo b c m).2.2=0):ZB b (Xo b c m).1=true:=by
 unfold Xo at he ⊢
 rw [if_neg (by rw [Go.Proofs.Ytiigiflofnjilaa.Cm.errC_0.2 ⟨hb,hc⟩];simp)] at he ⊢
 split
 . rename_i h;rw [if_pos h] at he;simp at he
 . rename_i h
   rw [if_neg h] at he
   split
   . rename_i h2;rw [if_pos h2] at he;simp at he
   . rename_i h2
     exact Go.Azalai.after_ok hb hc (by simpa using h) h2
theorem Zb0 {b:Breed} (hb:ZG b=true):ZB b Xa=true:=by
 have:=Go.Proofs.Ytiigiflofnjilaa.Cm.breed_bd hb
 simp [ZB,Xa,Yt];omega
theorem ZcL {b:Breed} {m:March} {lo:Int} (hb:ZG b=true):∀ {j n:Nat} {c out:Camel},ZB b c=true->ZB b out=true->ZB b (ZaF b m lo j n c out).1=true
 | 0,_,_,_,_,ho=>ho
 | j+1,n,c,out,hc,ho=>by
  simp only [ZaF]
  split
  . exact Zb0 hb
  split
  . exact Zb0 hb
  rename_i h1 h2
  have ha:=ZjJ (m:=m) hb hc (by omega)
  refine ZcL hb ha ?_
  split
  . exact ha
  split
  . simp only [ZB,Bool.and_eq_true] at ha ho ⊢
    exact ⟨⟨Zd5 ho.1.1 ha.1.1,Zd5 ho.1.2 ha.1.2⟩,Zd5 ho.2 ha.2⟩
  . exact ho
theorem ZcS {s:Season} {x:Scene} {d:Span} {slabs:Int} {c:Camel} (hb:ZG s.breed=true) (hc:ZB s.breed c=true):ZB s.breed (XB s x d slabs c).1=true:=ZcL hb hc (Zb0 hb)
theorem ZbT {b:Breed} {c:Camel} (hb:ZG b=true) (hc:ZB b c=true):ZB b (Zb6 b c)=true:=by
 have:=Go.Proofs.Ytiigiflofnjilaa.Cm.breed_bd hb
 simp only [ZB,Zb6,Bool.and_eq_true] at hc ⊢
 exact ⟨⟨by simp only [Yt,decide_eq_true_eq];omega,hc.1.2⟩,hc.2⟩
theorem Zlb {l:Land} {p:Span} {leg:Int} (hg:OkLP l p):(XP l leg p).1.hi<=1000000000:=by
 unfold XP
 split
 . simp
 split
 . simp
 split
 . rename_i x hx
   have:=Go.Azalai.day_bd (hg.leg hx) hg.pace
   simp only;omega
 . simp
theorem ZeR {b:Breed} {c:Camel} (hb:ZG b=true) (hc:ZB b c=true):0<=c.water.lo/\c.water.lo<=b.full/\1<=b.full/\b.full<=1000000:=by
 have h1:=Go.Proofs.Ytiigiflofnjilaa.Cm.breed_bd hb
 have h2:=Go.Proofs.Ytiigiflofnjilaa.Cm.camel_bd hb hc
 omega
end Go.Azalai
namespace Go.Proofs.Ytiigiflofnjilaa
open Go Go.Sx Go.Azalai
theorem ZtU (s:Season) (h:OkS s) (leg:Int):Ct Try.prog 75 [.agg (YB s.land),I leg,.agg (Zd s.pace)] (sres (XP s.land leg s.pace)):=Zmc s.land h.small.land leg s.pace
end Go.Proofs.Ytiigiflofnjilaa
namespace Go.Azalai
open Go.Sx
def Zbq (n:Int):List (Int × Int)->Nat->Option Nat
 | [],_=>none
 | p :: r,i=>if n * p.1 > p.2 then some i else Zbq n r (i+1)
def Zbn (n:Int) (g:Int × Int × List (Int × Int)):Int × Int :=
 match Zbq n g.2.2 0 with
 | some i=>(4,i)
 | none=>(g.1,g.2.1)
def WC (s:Season) (p:Plan) (x:Scene):Int × Int :=
 if ZaU s p.legs=false then (1,0) else if p.animals=0 then (0,0) else Zbn p.animals (goF s x p.slabs (Ya s p.legs))
def VT (s:Season) (p:Plan):List Scene->Nat->Int × Int × Int × Int
 | [],_=>(0,0,0,0)
 | x :: r,i=>if (WC s p x).1≠0 then ((WC s p x).1,i,(WC s p x).2,0) else VT s p r (i+1)
def Yc (s:Season) (p:Plan):Int × Int × Int × Int :=
 if ZQ s=false then (0,0,0,90) else if X4 s p=false then (0,0,0,91) else VT s p s.scenes 0
theorem Zia {s:Season} {x:Scene} {slabs:Int} (hb:ZG s.breed=true):∀ {l:List Stop} {i:Nat} {c:Camel} {acc:List (Int × Int)},ZB s.breed c=true->(∀ q ∈ acc,0<=q.1/\q.1<=1000000) ->
 (∀ q ∈ (goG s x slabs l i c acc).2.2,0<=q.1/\q.1<=1000000)/\(goG s x slabs l i c acc).2.2.length<=acc.length+l.length
 | [],_,_,acc,_,ha=>⟨ha,by simp [goG]⟩
 | st :: r,i,c,acc,hc,ha=>by
  simp only [goG]
  split
  . exact ⟨ha,by simp only;omega⟩
  have hbo:=ZcS (x:=x) (d:=(XP s.land st.leg s.pace).1) (slabs:=slabs) hb hc
  have hw:=ZeR hb hbo
  split
  . obtain ⟨h1,h2⟩:=Zia (s:=s) (x:=x) (slabs:=slabs) hb (l:=r) (i:=i+1) (acc:=acc) (ZbT hb hbo) ha
    exact ⟨h1,by simp only [List.length_cons];omega⟩
  . obtain ⟨h1,h2⟩:=Zia (s:=s) (x:=x) (slabs:=slabs) hb (l:=r) (i:=i+1) (acc:=acc ++ [(s.breed.full - (XB s x (XP s.land st.leg s.pace).1 slabs c).1.water.lo,ZcB s x st)]) (ZbT hb hbo) (fun q hq=>by
     rcases List.mem_append.1 hq with hq | hq
     . exact ha q hq
     . simp only [List.mem_singleton] at hq;subst hq;simp only;omega)
    exact ⟨h1,by simp only [List.length_cons,List.length_append,List.length_nil] at h2 ⊢;omega⟩
theorem ZvT {s:Season} {x:Scene} {slabs:Int} {l:List Stop} (hb:ZG s.breed=true) (hc:ZB s.breed s.camel=true):(∀ q ∈ (goF s x slabs l).2.2,0<=q.1/\q.1<=1000000)/\(goF s x slabs l).2.2.length<=l.length:=by
 unfold goF
 split
 . simp
 . obtain ⟨h1,h2⟩:=Zia (x:=x) (slabs:=slabs) hb (l:=l) (i:=0) (acc:=[]) hc (by simp)
   exact ⟨h1,by simpa using h2⟩
end Go.Azalai
namespace Go.Proofs.Ytiigiflofnjilaa
open Go Go.Sx Go.Azalai
theorem VM {s:Season} {p:Plan} (h:X4 s p=true):(∃ v,Xi s.land s.start [s.start] p.legs=some v)/\0<=p.animals/\p.animals<=s.herd/\0<=p.slabs/\p.slabs<=12:=by
 simp only [X4,inR,Bool.and_eq_true,decide_eq_true_eq,Option.isSome_iff_exists] at h
 exact ⟨h.1.1,by omega⟩
def Vv (r:Int × Int × Int × Int):SV:=.tup [U8 r.1,I r.2.1,I r.2.2.1,I r.2.2.2]
end Go.Proofs.Ytiigiflofnjilaa
namespace Go.Azalai
open Go.Sx
def Zab (n:Int) (st:Stop) (p:Int × Int):Draw:=⟨st.well,st.arrives.lo,n * p.1⟩
def WX (n:Int) (l:List Stop) (g:List (Int × Int)):List Draw:=List.zipWith (Zab n) l g
def XA (s:Season) (x:Scene) (n slabs:Int) (l:List Stop):List Draw :=
 if l=[] then [] else if n=0 then l.dropLast.map fun st=>⟨st.well,st.arrives.lo,0⟩ else WX n l (goF s x slabs l).2.2
def ZfI (s:Season) (x:Scene) (n slabs:Int) (l:List Stop):Int × Int:=if n=0 then (0,0) else Zbn n (goF s x slabs l)
theorem Zel {s:Season} {x:Scene} {slabs:Int}:∀ {l:List Stop} {i:Nat} {c:Camel} {acc:List (Int × Int)},∃ more,(goG s x slabs l i c acc).2.2=acc ++ more
 | [],_,_,acc=>⟨[],by simp [goG]⟩
 | st :: r,i,c,acc=>by
  simp only [goG]
  split
  . exact ⟨[],by simp⟩
  split
  . exact Zel
  . obtain ⟨m,hm⟩:=Zel (s:=s) (x:=x) (slabs:=slabs) (l:=r) (i:=i+1) (c:=Zb6 s.breed (XB s x (XP s.land st.leg s.pace).1 slabs c).1) (acc:=acc ++ [(s.breed.full - (XB s x (XP s.land st.leg s.pace).1 slabs c).1.water.lo,ZcB s x st)])
    exact ⟨_,by rw [hm,List.append_assoc]⟩
theorem ZaQ {n:Int}:∀ {a b:List (Int × Int)} {i:Nat},Zbq n a i=none->Zbq n (a ++ b) i=Zbq n b (i+a.length)
 | [],_,_,_=>by simp
 | p :: a,b,i,h=>by
  simp only [Zbq] at h
  split at h
  . cases h
  rename_i hp
  simp only [List.cons_append,Zbq]
  rw [if_neg hp,ZaQ h,List.length_cons];congr 1;omega
theorem Zek {n:Int} {l:List Stop} {acc:List (Int × Int)} {p:Int × Int} {j:Nat} (hj:j < l.length) (ha:acc.length=j):WX n l (acc ++ [p])=WX n l acc ++ [Zab n l[j] p]:=by
 simp only [WX]
 subst ha
 have h1:l=l.take acc.length ++ l.drop acc.length:=(List.take_append_drop ..).symm
 have hlen:(l.take acc.length).length=acc.length:=by simp;omega
 have e1:List.zipWith (Zab n) l (acc ++ [p])=List.zipWith (Zab n) (l.take acc.length) acc ++ List.zipWith (Zab n) (l.drop acc.length) [p]:=by
  rw [<- List.zipWith_append hlen,<- h1]
 have e2:List.zipWith (Zab n) l acc=List.zipWith (Zab n) (l.take acc.length) acc:=by
  have:=List.zipWith_append (f:=Zab n) (l₁:=l.take acc.length) (l₁':=l.drop acc.length) (l₂:=acc) (l₂':=[]) hlen
  rw [<- h1] at this;simpa using this
 rw [e1,e2,List.drop_eq_getElem_cons hj]
 simp only [List.zipWith_cons_cons,List.zipWith_nil_right]
end Go.Azalai
namespace Go.Proofs.Ytiigiflofnjilaa
open Go Go.Sx Go.Azalai
def ZvL (s:Season) (k:Int) (l:List Stop) (slabs:Int):Ot:=⟨false,.cl 74 [.p 0 0,.p 1 0,.p 2 0],[(0,.cells (Yi s k) 63),(1,.cells [.sl false 6 (l.map ZN)] 95),(2,.cells [I slabs] 3)],3⟩
theorem ZdT (s:Season) (k:Int) (l:List Stop) (slabs:Int):CtM Try.prog 53 [] 0 [.agg (Yi s k),.sl false 6 (l.map ZN),I slabs] (fun o=>o=ZvL s k l slabs):=by
 refine m53 (by simp [hpb]) (fun o ho=>by subst ho;simp [ZvL,Yi,KX,KXL,KXP,KXH,Za,KFL,KF,Zg,Zo,Zh,Zm,Zd,Zp,ZN]) ?_
 dsimp only [c53,r53,go_sem,rA,rM,rS]
 refine ⟨_,rfl,?_⟩
 (refine Z5 ?_ ?_ ?_ rfl<;>dsimp only [ZvL,Yi,Zg,Zo,Zh,Zm,Zd,Zp,ZN,id,go_sem,rA,rM,rS]<;>simp [ZvL,Yi,Zg,Zo,Zh,Zm,Zd,Zp,ZN,Za,Zf,KFR,KFL,KF,Zc,mtO,nbr])
def Vn (w:Int × Int) (ds:List Draw):Ot:=if w.1=0 then ⟨false,.sl false 3 (ds.map ZW),[],0⟩ else Xl w.1 w.2
theorem Zpl (s:Season) (h:OkS s) (k:Nat) (hk:k < s.scenes.length) (l:List Stop) (hl:l.length<=1000) (n slabs:Int) (hn:0<=n/\n<=s.herd) (hsl:0<=slabs/\slabs<=12) :
 CtM Try.prog 34 [] 0 [.agg (Yi s k),.sl false 6 (l.map ZN),I n,I slabs] (fun o=>o=Vn (ZfI s s.scenes[k] n slabs l) (XA s s.scenes[k] n slabs l)):=by
 have hnum:=h.num
 have hx:=h.scene _ (List.getElem_mem hk)
 have hy:s.scenes[k].yields.length=s.land.wells.length:=by simp only [Xn,Bool.and_eq_true,decide_eq_true_eq] at hx;omega
 have hb:0<=slabs * s.slab/\slabs * s.slab<=12 * 1000000:=⟨Int.mul_nonneg hsl.1 (by omega),Int.mul_le_mul hsl.2 (by omega) (by omega) (by decide)⟩
 refine m34 (by simp [hpb]) (fun o ho=>by subst ho;unfold Vn;split<;>simp [Xl,KX,KXL,KXP,Za,KFL,KF,ZW]) ?_
 dsimp only [c34,r34,Yi,go_sem,rA,rM,rS]
 simp only [List.length_map]
 by_cases hl0:l=[]
 . subst hl0
   refine Zt (by simp) ?_
   dsimp only [go_sem,rA,rM,rS]
   refine call (Cm.carries_ok s.breed s.camel) ?_
   dsimp only [Cm.sres,Zd,go_sem,rA,rM,rS]
   rw [show (if ZcA s.breed s.camel=0 then Zwl s.breed s.camel else UK)=ZgF s.breed s.camel from rfl]
   repeat (refine gb ?_;dsimp only [go_sem,rA,rM,rS])
   rw [Zi (n:=slabs * s.slab) (by omega) (by omega)]
   by_cases hok:n=0\/slabs * s.slab<=(ZgF s.breed s.camel).lo
   . rw [show (n == 0 || decide (slabs * s.slab<=(ZgF s.breed s.camel).lo))=true from by simpa using hok]
     refine YI [] (VO 2 0) rfl rfl rfl ?_ ?_ ?_
     . (repeat first | dsimp only [go_sem,rA,rM,rS] | simp only [nbr])
       try simp [mtL,mtB,mtS]
     . trivial
     rintro _ rfl
     (repeat first | dsimp only [go_sem,rA,rM,rS] | simp only [nbr])
     refine ⟨_,rfl,?_⟩
     have hw:ZfI s s.scenes[k] n slabs []=(0,0):=by
      unfold ZfI
      split
      . rfl
      . rw [goF,if_pos rfl,if_neg (by omega)];rfl
     rw [hw]
     simp only [Vn,if_true,XA,List.map_nil]
     refine VF (Yv (YM 0 3 56 rfl rfl) (Yv (Zao 0 4 0 rfl rfl rfl rfl) ?_)) (fun _ _ _ e=>by cases e)
     (refine Zl ?_ ?_ ?_ rfl rfl<;>dsimp only [id,go_sem,rA,rM,rS]<;>simp [Za,Zf,KFR,KFL,KF,Zc,mtO,nbr])
   . rw [show (n == 0 || decide (slabs * s.slab<=(ZgF s.breed s.camel).lo))=false from by simpa using hok]
     refine YI [] (Zai 2 0) rfl rfl rfl ?_ ?_ ?_
     . (repeat first | dsimp only [go_sem,rA,rM,rS] | simp only [nbr])
       try simp [mtL,mtB,mtS]
     . trivial
     rintro _ rfl
     (repeat first | dsimp only [Xl,go_sem,rA,rM,rS] | simp only [nbr])
     refine ⟨_,rfl,?_⟩
     have hw:ZfI s s.scenes[k] n slabs []=(2,0):=by
      unfold ZfI
      rw [if_neg (by omega),goF,if_pos rfl,if_pos (by omega)];rfl
     rw [hw]
     simp only [Vn]
     (refine Z5 ?_ ?_ ?_ rfl<;>dsimp only [Xl,id,go_sem,rA,rM,rS]<;>simp [Xl,Za,Zf,KFR,KFL,KF,Zc,mtO,nbr])
 have hl1:l.length≠0:=fun e=>hl0 (List.length_eq_zero_iff.1 e)
 refine Zv (by simpa using hl0) ?_
 dsimp only [go_sem,rA,rM,rS]
 by_cases hn0:n=0
 . refine Zt (by simpa using hn0) ?_
   dsimp only [go_sem,rA,rM,rS]
   simp only [List.length_map]
   refine ⟨0,l.length - 1,⟨rfl,by rw [Zi (by omega) (by omega)];omega,by omega,by simp⟩,?_⟩
   rw [List.drop_zero,show (l.map ZN).take (l.length - 1)=l.dropLast.map ZN from by rw [List.dropLast_eq_take,List.map_take]]
   dsimp only [go_sem,rA,rM,rS]
   simp only [List.length_map]
   have hwF:ZfI s s.scenes[k] n slabs l=(0,0):=by simp only [ZfI,if_pos hn0]
   have hdF:XA s s.scenes[k] n slabs l=l.dropLast.map fun st=>⟨st.well,st.arrives.lo,0⟩:=by simp only [XA,if_neg hl0,if_pos hn0]
   have hdl:l.dropLast.length<=1000:=by simp;omega
   rw [hwF,hdF]
   generalize l.dropLast=m at hdl ⊢
   refine Zdb (Yv (VX [4,5,6,8,11,49,50,51] rfl) (Vz 3 0 3 56 rfl rfl)) (fun q:Nat × Nat × List Draw=>[(51,I q.1)])
    (fun q=>[(3,.cells [.mr 4 q.2.1] 47),(4,.row q.2.1 3 (q.2.2.map ZW) 56)]) (fun q=>q.1<=m.length/\q.2.2=(m.map fun st=>(⟨st.well,st.arrives.lo,0⟩:Draw)).take q.1) (fun q=>m.length - q.1) (0,0,[]) ⟨Nat.zero_le _,by simp⟩ ?_ ?_
   . (refine Zl ?_ ?_ ?_ rfl rfl<;>dsimp only [Yi,Zg,Zo,Zh,Zm,Zd,Zp,ZN,ZW,id,go_sem,rA,rM,rS]<;>simp [Yi,Zg,Zo,Zh,Zm,Zd,Zp,ZN,ZW,Za,Zf,KFR,KFL,KF,Zc,mtO,nbr])
   rintro ⟨j,v,D⟩ ⟨hj,hD⟩
   simp only at hj hD
   dsimp only [go_sem,rA,rM,rS]
   by_cases hlt:j < m.length
   . refine Zt (by simpa using hlt) ?_
     dsimp only [go_sem,rA,rM,rS]
     refine Zs j hlt rfl ?_
     dsimp only [ZN,go_sem,rA,rM,rS]
     simp only [nbr]
     dsimp only [go_sem,rA,rM,rS]
     refine ⟨(by intro c hc;simp only [List.mem_singleton] at hc;subst hc;rfl),by simp [hD];omega,?_⟩
     dsimp only [go_sem,rA,rM,rS]
     rw [Zi (n:=(j:Int)+1) (by omega) (by omega)]
     refine ⟨(j+1,v+1,D ++ [⟨m[j].well,m[j].arrives.lo,0⟩]),⟨hlt,?_⟩,by simp only;omega,?_⟩
     . simp only;rw [List.take_succ_eq_append_getElem (by simpa using hlt),<- hD,List.getElem_map]
     simp only [List.map_append,List.map_cons,List.map_nil]
     (refine Zl ?_ ?_ ?_ rfl rfl<;>dsimp only [Yi,Zg,Zo,Zh,Zm,Zd,Zp,ZN,ZW,id,go_sem,rA,rM,rS]<;>simp [Yi,Zg,Zo,Zh,Zm,Zd,Zp,ZN,ZW,Za,Zf,KFR,KFL,KF,Zc,mtO,nbr])
   refine Zv (by simp;omega) ?_
   dsimp only [go_sem,rA,rM,rS]
   rw [List.take_of_length_le (by simp;omega)] at hD
   rw [<- hD]
   refine ⟨_,rfl,?_⟩
   simp only [Vn,if_true]
   refine VF (Yv (Zao 0 4 v rfl rfl rfl rfl) ?_) (fun _ _ _ e=>by cases e)
   (refine Zl ?_ ?_ ?_ rfl rfl<;>dsimp only [ZW,id,go_sem,rA,rM,rS]<;>simp [ZW,Za,Zf,KFR,KFL,KF,Zc,mtO,nbr])
 refine Zv (by simpa using hn0) ?_
 dsimp only [go_sem,rA,rM,rS]
 refine Zax [] (ZdT s k l slabs) rfl rfl rfl ?_ ?_ ?_
 . exact Zc (by simp [Yi,Zg,Zo,Zh,Zm,Zd,Zp,ZN,Za,KFL,KF])
 . trivial
 dsimp only [ZvL,Yi,go_sem,rA,rM,rS]
 refine gh (Vz 3 0 3 56 rfl rfl) ?_
 dsimp only [go_sem,rA,rM,rS]
 refine ⟨b74,fun rec=>?_⟩
 refine y74 ?_
 dsimp only [c74,r74,go_sem,rA,rM,rS]
 have hgF:goF s s.scenes[k] slabs l=goG s s.scenes[k] slabs l 0 s.camel []:=by simp only [goF,if_neg hl0]
 have hgs:∀ (j n:Nat) (hj:j < l.length) c acc,goG s s.scenes[k] slabs (l.drop j) n c acc=if (XB s s.scenes[k] (XP s.land l[j].leg s.pace).1 slabs c).2≠0 then ((XB s s.scenes[k] (XP s.land l[j].leg s.pace).1 slabs c).2,(n:Int),acc)
  else goG s s.scenes[k] slabs (l.drop (j+1)) (n+1) (Zb6 s.breed (XB s s.scenes[k] (XP s.land l[j].leg s.pace).1 slabs c).1)
   (if l.drop (j+1)=[] then acc else acc ++ [(s.breed.full - (XB s s.scenes[k] (XP s.land l[j].leg s.pace).1 slabs c).1.water.lo,ZcB s s.scenes[k] l[j])]):=fun j n hj c acc=>by
  rw [List.drop_eq_getElem_cons hj,goG]
 have hwF:ZfI s s.scenes[k] n slabs l=Zbn n (goF s s.scenes[k] slabs l):=by simp only [ZfI,if_neg hn0]
 have hdF:XA s s.scenes[k] n slabs l=WX n l (goF s s.scenes[k] slabs l).2.2:=by simp only [XA,if_neg hl0,if_neg hn0]
 rw [hwF,hdF]
 refine Ui [0,1,2,3,5,13,14,15] rfl (fun q:Nat × Camel × List (Int × Int) × Nat=>[(15,I q.1)])
  (fun q=>[(9,.cells (Cm.camelL q.2.1) 35),(3,.cells [.mr 7 q.2.2.2] 47),(7,.row q.2.2.2 3 ((WX n l q.2.2.1).map ZW) 56)])
  (fun q=>q.1 < l.length/\goG s s.scenes[k] slabs (l.drop q.1) q.1 q.2.1 q.2.2.1=goF s s.scenes[k] slabs l/\ZB s.breed q.2.1=true/\Zbq n q.2.2.1 0=none/\q.2.2.1.length=q.1) (fun q=>l.length - q.1) (0,s.camel,[],0)
  ⟨by simp only;omega,hgF.symm,h.beast.2,rfl,rfl⟩ ?_ ?_
 . (refine Zl ?_ ?_ ?_ rfl rfl<;>dsimp only [Cm.camelL,WX,Yi,Zg,Zo,Zh,Zm,Zd,Zp,ZN,ZW,mtL,mtB,mtS,id,go_sem,rA,rM,rS]<;>simp [Cm.camelL,WX,Yi,Zg,Zo,Zh,Zm,Zd,Zp,ZN,ZW,mtL,mtB,mtS,Za,Zf,KFR,KFL,KF,Zc,mtO,nbr])
 rintro ⟨j,c,acc,v⟩ ⟨hlt,hi,hc,hdry,hal⟩
 simp only at hlt hi hc hdry hal
 dsimp only [Cm.camelL,go_sem,rA,rM,rS]
 simp only [List.length_map]
 refine Zt (by simpa using hlt) ?_
 dsimp only [go_sem,rA,rM,rS]
 refine Zs j hlt rfl ?_
 dsimp only [ZN,go_sem,rA,rM,rS]
 refine call (ZtU s h l[j].leg) ?_
 dsimp only [sres,Zd,go_sem,rA,rM,rS]
 have hm:=Zpk s k hk j c (XP s.land l[j].leg s.pace).1 slabs hsl (by omega) (Zlb h.lp)
 rw [hgs j j hlt] at hi
 have hbo:=ZcS (x:=s.scenes[k]) (d:=(XP s.land l[j].leg s.pace).1) (slabs:=slabs) h.beast.1 hc
 generalize XB s s.scenes[k] (XP s.land l[j].leg s.pace).1 slabs c=b at hi hbo hm
 have hwb:=ZeR h.beast.1 hbo
 by_cases hw:b.2=0
 case neg =>
  simp only [Zas,if_neg hw] at hm
  refine YI [] hm rfl rfl rfl ?_ ?_ ?_
  . exact Zc (by simp [Yi,Cm.camelL,Zg,Zo,Zh,Zm,Zd,Zp,ZN,Za,KFL,KF])
  . trivial
  rintro _ rfl
  (repeat first | dsimp only [Xl,go_sem,rA,rM,rS] | simp only [nbr])
  rw [if_pos hw] at hi
  rw [<- hi]
  refine ⟨_,rfl,?_⟩
  rw [show Zbn n (b.2,(j:Int),acc)=(b.2,(j:Int)) from by simp only [Zbn,hdry]]
  simp only [Vn,if_neg hw]
  (refine Z5 ?_ ?_ ?_ rfl<;>dsimp only [Xl,id,go_sem,rA,rM,rS]<;>simp [Xl,Za,Zf,KFR,KFL,KF,Zc,mtO,nbr])
 simp only [Zas,if_pos hw] at hm
 refine YI [] hm rfl rfl rfl ?_ ?_ ?_
 . exact Zc (by simp [Yi,Cm.camelL,Zg,Zo,Zh,Zm,Zd,Zp,ZN,Za,KFL,KF])
 . trivial
 rintro _ rfl
 (repeat first | dsimp only [camelL,Cm.camelL,go_sem,rA,rM,rS] | simp only [nbr])
 rw [if_neg (by simpa using hw)] at hi
 refine ⟨trivial,trivial,?_⟩
 rw [Zi (n:=(j:Int)+1) (by omega) (by omega)]
 simp only [List.length_map]
 by_cases hlast:j+1=l.length
 . refine Zt (by simp;omega) ?_
   dsimp only [go_sem,rA,rM,rS]
   refine ⟨by trivial,?_⟩
   refine Zt rfl ?_
   dsimp only [go_sem,rA,rM,rS]
   rw [if_pos (List.drop_eq_nil_of_le (by omega)),List.drop_eq_nil_of_le (by omega),goG] at hi
   rw [<- hi]
   refine ⟨_,rfl,?_⟩
   rw [show Zbn n (0,0,acc)=(0,0) from by simp only [Zbn,hdry]]
   simp only [Vn,if_true]
   refine VF (Yv (Zao 0 7 v rfl rfl rfl rfl) ?_) (fun _ _ _ e=>by cases e)
   (refine Zl ?_ ?_ ?_ rfl rfl<;>dsimp only [ZW,id,go_sem,rA,rM,rS]<;>simp [ZW,Za,Zf,KFR,KFL,KF,Zc,mtO,nbr])
 refine Zv (by simp;omega) ?_
 dsimp only [go_sem,rA,rM,rS]
 rw [if_neg (by intro e;rw [List.drop_eq_nil_iff] at e;omega)] at hi
 refine Zs j hlt rfl ?_
 dsimp only [ZN,go_sem,rA,rM,rS]
 refine Zs j hlt rfl ?_
 dsimp only [ZN,go_sem,rA,rM,rS]
 have hm2:0<=n * (s.breed.full - b.1.water.lo)/\n * (s.breed.full - b.1.water.lo)<=30 * 1000000:=⟨Int.mul_nonneg hn.1 (by omega),Int.mul_le_mul (by omega) (by omega) (by omega) (by decide)⟩
 rw [Zi (n:=s.breed.full - b.1.water.lo) (by omega) (by omega),Zi (n:=n * (s.breed.full - b.1.water.lo)) (by omega) (by omega)]
 refine Zs j hlt rfl ?_
 dsimp only [ZN,go_sem,rA,rM,rS]
 refine call (Zqb s h.small k hk hy l[j]) ?_
 dsimp only [go_sem,rA,rM,rS]
 by_cases hdr:n * (s.breed.full - b.1.water.lo)<=ZcB s s.scenes[k] l[j]
 case neg =>
  rw [show decide (n * (s.breed.full - b.1.water.lo)<=ZcB s s.scenes[k] l[j])=false from decide_eq_false hdr]
  refine YI [] (Zai 4 j) rfl rfl rfl ?_ ?_ ?_
  . (repeat first | dsimp only [go_sem,rA,rM,rS] | simp only [nbr])
    try simp [mtL,mtB,mtS]
  . trivial
  rintro _ rfl
  (repeat first | dsimp only [Xl,go_sem,rA,rM,rS] | simp only [nbr])
  refine ⟨_,rfl,?_⟩
  obtain ⟨more,hmore⟩:=Zel (s:=s) (x:=s.scenes[k]) (slabs:=slabs) (l:=l.drop (j+1)) (i:=j+1) (c:=Zb6 s.breed b.1) (acc:=acc ++ [(s.breed.full - b.1.water.lo,ZcB s s.scenes[k] l[j])])
  have hf:Zbn n (goF s s.scenes[k] slabs l)=(4,(j:Int)):=by
   rw [<- hi];simp only [Zbn]
   rw [hmore,List.append_assoc,ZaQ hdry,hal]
   simp only [List.cons_append,List.nil_append,Zbq]
   rw [if_pos (by omega)];simp
  rw [hf]
  simp only [Vn]
  (refine Z5 ?_ ?_ ?_ rfl<;>dsimp only [Xl,id,go_sem,rA,rM,rS]<;>simp [Xl,Za,Zf,KFR,KFL,KF,Zc,mtO,nbr])
 rw [show decide (n * (s.breed.full - b.1.water.lo)<=ZcB s s.scenes[k] l[j])=true from decide_eq_true hdr]
 refine YI [] (VO 4 j) rfl rfl rfl ?_ ?_ ?_
 . (repeat first | dsimp only [go_sem,rA,rM,rS] | simp only [nbr])
   try simp [mtL,mtB,mtS]
 . trivial
 rintro _ rfl
 (repeat first | dsimp only [go_sem,rA,rM,rS] | simp only [nbr])
 refine ⟨(by intro c hc;simp only [List.mem_singleton] at hc;subst hc;rfl),by simp [WX];omega,?_⟩
 dsimp only [go_sem,rA,rM,rS]
 refine ⟨by trivial,?_⟩
 refine Zv rfl ?_
 dsimp only [go_sem,rA,rM,rS]
 rw [Zi (n:=(j:Int)+1) (by omega) (by omega)]
 refine ⟨(j+1,Zb6 s.breed b.1,acc ++ [(s.breed.full - b.1.water.lo,ZcB s s.scenes[k] l[j])],v+1),⟨by simp only;omega,hi,ZbT h.beast.1 hbo,?_,by simp;omega⟩,by simp only;omega,?_⟩
 . simp only
   rw [ZaQ hdry]
   simp only [Zbq]
   rw [if_neg (by omega)]
 simp only
 rw [Zek hlt hal]
 simp only [List.map_append,List.map_cons,List.map_nil]
 (refine Zl ?_ ?_ ?_ rfl rfl<;>dsimp only [Cm.camelL,Zb6,Zab,Yi,Zg,Zo,Zh,Zm,Zd,Zp,ZN,ZW,mtL,mtB,mtS,id,go_sem,rA,rM,rS]<;>simp [Cm.camelL,Zb6,Zab,Yi,Zg,Zo,Zh,Zm,Zd,Zp,ZN,ZW,mtL,mtB,mtS,Za,Zf,KFR,KFL,KF,Zc,mtO,nbr])
def Zw2:List Ins:=[
 m1 2 5]
def Zw4:SC:=(.seq (.reg [
 m1 6 2,
 o1 7 (.raw (Go.Op.binOp Go.BinOp.neq 20 (Go.Operand.tmp 6) (Go.Operand.const Go.Value.nilIface) 20) 4)])
 (.cond (.t 7)
 (.seq (.reg [
  m1 9 2,
  o1 10 (.raw (Go.Op.typeAssert (Go.Operand.tmp 9) 20 60 Bool.true) 94),
  m1 8 10,
  o1 11 (.ext (.t 8) 0),
  o1 12 (.ext (.t 8) 1),
  o1 3 (.alloc [.int .u8 0,.int .i64 0] 60),
  ⟨none,.st (.t 3) (.t 11) 2,none,[]⟩,
  m1 4 12])
  (.seq (.seq (.reg [
  m1 13 4,
  o1 14 (.un .not (.t 13))])
  (.cond (.t 14)
  (.reg [
   m1 15 2,
   ⟨none,.raw (Go.Op.panic (Go.Operand.tmp 15)) 0,none,[]⟩])
  .skip))
  (.regd [0,1,2] [
  .hide (.t 0),
  .op (o1 16 (.ld (.t 3) 2 true))] 0 2 [
  ⟨none,.st (.t 0) (.c (.slice none 0 0)) 1,none,[]⟩,
  ⟨none,.st (.t 1) (.t 16) 2,none,[0,1]⟩])))
 .skip))
theorem qw31:RcF Try.prog 31 5 Zw2 Zw4 17:=⟨⟨Try.f31,_,_,_,_,Try.func31,rfl,rfl,by kernel_rfl,by kernel_rfl,by kernel_rfl,by kernel_rfl,by decide,rfl⟩,by kernel_rfl⟩
def cw5:SC:=(.seq (.reg [
 o1 2 (.box (.t 0) 0 38),
 o1 3 (.box (.t 1) 0 42),
 o1 4 (.mv (.c (.int .u8 0))),
 o1 5 (.mv (.c (.int .i64 0))),
 o1 6 (.mv (.c (.int .i64 0))),
 o1 7 (.mv (.c (.int .i64 0)))])
 (.seq (.seq (.reg [
 o1 12 (.ld (.t 2) 37 true),
 o1 13 (.ld (.t 3) 3 true),
 o1 14 (.call 16 [.t 12,.t 13]),
 m1 8 14])
 (.seq (.reg [
 m1 15 8,
 o1 16 (.bin .neq (.t 15) (.c (.int .i64 0)))])
 (.cond (.t 16)
 (.seq (.reg [
  m1 17 8,
  o1 4 (.mv (.c (.int .u8 0))),
  o1 5 (.mv (.c (.int .i64 0))),
  o1 6 (.mv (.c (.int .i64 0))),
  m1 7 17])
  .ret)
 .skip)))
 (.seq (.seq (.reg [
 o1 18 (.addo (.t 2) 36),
 o1 19 (.ld (.t 18) 1 false),
 o1 20 (.len (.t 19)),
 o1 21 (.mv (.c (.int .i64 0)))])
 (.block 0 (.loop (.seq (.reg [
  o1 22 (.bin .lss (.t 21) (.t 20))])
  (.seq (.cond (.t 22)
  .skip
  (.exit 0))
  (.seq (.block 1 (.seq (.reg [
   m1 23 21,
   m1 9 23])
   (.seq (.reg [
   o1 25 (.ld (.t 2) 37 true),
   m1 26 9,
   o1 27 (.build zv1 [(0,37,.t 25),(37,1,.t 26)]),
   o1 28 (.ld (.t 3) 3 true),
   o1 29 (.callm 17 [.t 27,.t 28]),
   m1 24 29,
   o1 30 (.ext (.t 24) 0),
   o1 31 (.ext (.t 24) 1),
   o1 11 (.alloc [.int .u8 0,.int .i64 0] 60),
   m1 10 30,
   ⟨none,.st (.t 11) (.t 31) 2,none,[]⟩])
   (.seq (.reg [
   o1 32 (.addo (.t 11) 0),
   o1 33 (.ld (.t 32) 1 false),
   o1 34 (.bin .neq (.t 33) (.c (.int .u8 0)))])
   (.cond (.t 34)
   (.seq (.regd [0,1,2,3,4,5,6,7,8] [
    .op (o1 35 (.addo (.t 11) 0)),
    .op ⟨some 36,.ld (.t 35) 1 false,none,[0]⟩,
    .op (m1 37 9),
    .op (o1 38 (.addo (.t 11) 1)),
    .op ⟨some 39,.ld (.t 38) 1 false,none,[3]⟩,
    .op ⟨some 4,.mv (.t 36),none,[0,1]⟩,
    .op ⟨some 5,.mv (.t 37),none,[0,1,2,5]⟩,
    .op ⟨some 6,.mv (.t 39),none,[0,1,2,3,4,5,6]⟩,
    .op ⟨some 7,.mv (.c (.int .i64 0)),none,[0,1,2,3,4,5,6,7]⟩] 0 0 [
])
 .ret)
 .skip)))))
 (.reg [
 o1 40 (.bin .add (.t 21) (.c (.int .i64 1))),
 m1 21 40])))))))
 (.seq (.reg [
 o1 4 (.mv (.c (.int .u8 0))),
 o1 5 (.mv (.c (.int .i64 0))),
 o1 6 (.mv (.c (.int .i64 0))),
 o1 7 (.mv (.c (.int .i64 0)))])
 .ret))))
def rw5:List RV:=[.tmp 4,.tmp 5,.tmp 6,.tmp 7]
theorem tw5:Qt1 Try.prog 5 cw5 rw5 41:=Yn Try.func5 rfl (by kernel_rfl) (by kernel_rfl) (by kernel_rfl) (by kernel_rfl)
def cw10:SC:=(.seq (.reg [
 o1 3 (.box (.t 0) 0 38),
 o1 4 (.box (.t 1) 0 42),
 o1 6 (.mv (.c (.slice none 0 0))),
 o1 7 (.mv (.c (.int .i64 0)))])
 (.seq (.reg [
 o1 15 (.ld (.t 3) 37 true),
 o1 16 (.ld (.t 4) 3 true),
 o1 17 (.call 5 [.t 15,.t 16]),
 m1 14 17,
 o1 18 (.ext (.t 14) 0),
 o1 19 (.ext (.t 14) 1),
 o1 20 (.ext (.t 14) 2),
 o1 21 (.ext (.t 14) 3),
 m1 8 18,
 m1 9 19,
 m1 10 20,
 m1 11 21])
 (.seq (.block 0 (.seq (.reg [
  m1 23 11,
  o1 24 (.bin .neq (.t 23) (.c (.int .i64 0))),
  m1 22 24])
  (.cond (.t 22)
  (.seq (.reg [
   m1 25 11,
   o1 6 (.mv (.c (.slice none 0 0))),
   m1 7 25])
   .ret)
  (.seq (.reg [
   m1 27 8,
   o1 28 (.bin .neq (.t 27) (.c (.int .u8 0))),
   m1 29 28,
   ⟨some 30,.addo (.t 3) 36,some (29,false),[]⟩,
   ⟨some 31,.ld (.t 30) 1 false,some (29,false),[]⟩,
   ⟨some 32,.len (.t 31),some (29,false),[]⟩,
   ⟨some 33,.bin .sub (.t 32) (.c (.int .i64 1)),some (29,false),[]⟩,
   ⟨some 34,.mv (.t 2),some (29,false),[]⟩,
   ⟨some 35,.bsl 1 3 [.t 34],some (29,false),[]⟩,
   ⟨some 36,.call 21 [.c (.int .i64 0),.t 33,.t 35],some (29,false),[]⟩,
   ⟨some 37,.un .not (.t 36),some (29,false),[]⟩,
   o1 38 (.pick (.t 29) (.c (.bool true)) (.t 37)),
   m1 26 38])
   (.cond (.t 26)
   (.seq (.reg [
    o1 6 (.mv (.c (.slice none 0 0))),
    o1 7 (.mv (.c (.int .i64 92)))])
    .ret)
   .skip)))))
 (.seq (.reg [
 o1 40 (.ld (.t 3) 37 true),
 m1 41 2,
 o1 42 (.build zv1 [(0,37,.t 40),(37,1,.t 41)]),
 o1 43 (.ld (.t 4) 3 true),
 o1 44 (.callm 17 [.t 42,.t 43]),
 m1 39 44,
 o1 45 (.ext (.t 39) 0),
 o1 46 (.ext (.t 39) 1),
 o1 13 (.alloc [.int .u8 0,.int .i64 0] 60),
 m1 12 45,
 ⟨none,.st (.t 13) (.t 46) 2,none,[]⟩])
 (.seq (.reg [
 m1 47 12,
 m1 6 47,
 o1 7 (.mv (.c (.int .i64 0)))])
 .ret)))))
def rw10:List RV:=[.tmp 6,.tmp 7]
theorem nw10:Try.f10.ntmps=48:=by kernel_rfl
theorem bw10:YE Try.prog 10=true:=by kernel_rfl
theorem Zsp:Xt Try.prog cw10 ((Try.f10.body).getD .skip)=true:=by kernel_rfl
theorem ZtH:X8 Try.prog rw10 Try.f10.results.toList=true:=by kernel_rfl
def cw24:SC:=(.seq (.reg [
 o1 3 (.box (.t 0) 0 38),
 o1 6 (.mv (.c (.int .i64 0)))])
 (.seq (.reg [
 o1 14 (.addo (.t 3) 28),
 o1 15 (.ld (.t 14) 1 false),
 m1 7 15])
 (.seq (.seq (.reg [
 o1 16 (.addo (.t 3) 36),
 o1 17 (.ld (.t 16) 1 false),
 o1 18 (.len (.t 17)),
 o1 19 (.mv (.c (.int .i64 0)))])
 (.block 0 (.loop (.seq (.reg [
  o1 20 (.bin .lss (.t 19) (.t 18))])
  (.seq (.cond (.t 20)
  .skip
  (.exit 0))
  (.seq (.block 1 (.seq (.reg [
   m1 21 19,
   m1 8 21])
   (.seq (.reg [
   o1 22 (.ld (.t 3) 37 true),
   m1 23 8,
   o1 24 (.build zv1 [(0,37,.t 22),(37,1,.t 23)]),
   o1 9 (.alloc zv1 63),
   ⟨none,.st (.t 9) (.t 24) 38,none,[]⟩])
   (.seq (.reg [
   o1 26 (.ld (.t 9) 38 true),
   m1 27 1,
   m1 28 2,
   o1 29 (.build [.slice none 0 0,.int .i64 0,.int .i64 0] [(0,1,.t 27),(1,1,.c (.int .i64 1)),(2,1,.t 28)]),
   o1 30 (.callm 17 [.t 26,.t 29]),
   m1 25 30,
   o1 31 (.ext (.t 25) 0),
   o1 32 (.ext (.t 25) 1),
   o1 11 (.alloc [.int .u8 0,.int .i64 0] 60),
   m1 10 31,
   ⟨none,.st (.t 11) (.t 32) 2,none,[]⟩])
   (.seq (.seq (.reg [
   o1 33 (.addo (.t 11) 0),
   o1 34 (.ld (.t 33) 1 false),
   o1 35 (.bin .neq (.t 34) (.c (.int .u8 0)))])
   (.cond (.t 35)
   (.seq (.reg [
    o1 6 (.mv (.c (.int .i64 0)))])
    .ret)
   .skip))
   (.seq (.reg [
   m1 36 10,
   o1 37 (.len (.t 36)),
   o1 38 (.mv (.c (.int .i64 0)))])
   (.block 2 (.loop (.seq (.reg [
    o1 39 (.bin .lss (.t 38) (.t 37))])
    (.seq (.cond (.t 39)
    .skip
    (.exit 2))
    (.seq (.block 3 (.seq (.reg [
     o1 40 (.ixs (.t 36) (.t 38) 3),
     o1 41 (.ld (.t 40) 3 true),
     o1 13 (.alloc [.int .i64 0,.int .i64 0,.int .i64 0] 56),
     ⟨none,.st (.t 13) (.t 41) 3,none,[]⟩])
     (.seq (.reg [
     o1 42 (.addo (.t 13) 2),
     o1 43 (.ld (.t 42) 1 false),
     o1 44 (.bin .gtr (.t 43) (.c (.int .i64 0)))])
     (.cond (.t 44)
     (.regd [0,1,2,3,4,5,6,7,8,9,10,11,12,13] [
      .op (m1 45 7),
      .op (o1 46 (.ld (.t 9) 38 true)),
      .op (o1 47 (.addo (.t 13) 0)),
      .op ⟨some 48,.ld (.t 47) 1 false,none,[2]⟩,
      .op (o1 49 (.addo (.t 13) 1)),
      .op ⟨some 50,.ld (.t 49) 1 false,none,[4]⟩,
      .op ⟨some 51,.build [.int .i64 0,.int .i64 0] [(0,1,.t 50)],none,[5]⟩,
      .op ⟨some 52,.build zv6 [(1,1,.t 48),(4,2,.t 51)],none,[3,6]⟩,
      .op ⟨some 53,.call 44 [.t 46,.t 52],none,[1,7]⟩,
      .op (o1 54 (.addo (.t 13) 2)),
      .op ⟨some 55,.ld (.t 54) 1 false,none,[9]⟩,
      .op ⟨some 56,.div .quo (.t 53) (.t 55),none,[8,10]⟩,
      .op ⟨some 57,.mm false [.t 45,.t 56],none,[0,11]⟩] 0 0 [
      ⟨some 7,.mv (.t 57),none,[0,1,2,3,4,5,6,7,8,9,10,11,12]⟩])
     .skip))))
    (.reg [
    o1 58 (.bin .add (.t 38) (.c (.int .i64 1))),
    m1 38 58]))))))))))))
  (.reg [
  o1 59 (.bin .add (.t 19) (.c (.int .i64 1))),
  m1 19 59])))))))
 (.seq (.reg [
 m1 60 7,
 m1 6 60])
 .ret))))
def rw24:List RV:=[.tmp 6]
theorem tw24:Qt1 Try.prog 24 cw24 rw24 61:=Yn Try.func24 rfl (by kernel_rfl) (by kernel_rfl) (by kernel_rfl) (by kernel_rfl)
end Go.Proofs.Ytiigiflofnjilaa
namespace Go.Sx
open Go Go.RowKit
section
variable {P:Program} {ty T T':TypeId} {ix jx:Operand} {σ : St} {r:KT} {K:RK} {d:Option Nat} {s:SV}
theorem ZeT {pt:TypeId} (hu:P.underlying T'=some (.interface (P.methodsAt T'))) (hi:Zbg σ ix = .ifc T s) (h:putK d (.v (.bool true)) none σ r K):RAW P d (.binOp .neq T' ix (.const .nilIface) pt) ty σ r K:=by
 intro o C E a w next Q e1 e2 e3 hS hn hq
 have hiv:=Vi hS hi (fun _ _ _=>by simp)
 simp only [R] at hiv
 obtain ⟨x,hx,hR⟩:=hiv
 have hb:=run_neq_held_nil (P:=P) w T' T x hu
 have hy:(execOp a.eval o).run P w = .ok (.value (.bool true)) w:=by
  obtain ⟨dst',op',ty',pos,after,guard⟩:=o
  simp only at e2;subst e2
  have h0:a.eval (.const .nilIface) = .nilIface:=rfl
  have hg:(eqGuard .neq T' ix (.const .nilIface) (.iface T x) .nilIface).run P w = .ok () w:=by
   simp [eqGuard,Sem.run_pure]
  simp only [execOp,Sem.run_bind,hx,h0,hg,hb,Result.andThen_ok,Sem.run_pure]
 refine Zx hy (by simp) ?_
 show next (a.put o.dst _) _
 rw [e1]
 exact WB h hS (by simp only [R]) hn
theorem Zkk {pt:TypeId} (hu:P.underlying T'=some (.interface (P.methodsAt T'))) (hi:Zbg σ ix = .v .nilIface) (h:putK d (.v (.bool false)) none σ r K):RAW P d (.binOp .neq T' ix (.const .nilIface) pt) ty σ r K:=by
 intro o C E a w next Q e1 e2 e3 hS hn hq
 have hx:=Vi hS hi (fun _ _ _=>by simp)
 simp only [R] at hx
 have hb:=run_neq_nil_nil (P:=P) w T' hu
 have hy:(execOp a.eval o).run P w = .ok (.value (.bool false)) w:=by
  obtain ⟨dst',op',ty',pos,after,guard⟩:=o
  simp only at e2;subst e2
  have h0:a.eval (.const .nilIface) = .nilIface:=rfl
  have hg:(eqGuard .neq T' ix (.const .nilIface) .nilIface .nilIface).run P w = .ok () w:=by
   simp [eqGuard,Sem.run_pure]
  simp only [execOp,Sem.run_bind,hx,h0,hg,hb,Result.andThen_ok,Sem.run_pure]
 refine Zx hy (by simp) ?_
 show next (a.put o.dst _) _
 rw [e1]
 exact WB h hS (by simp only [R]) hn
end
end Go.Sx
namespace Go.Proofs.Ytiigiflofnjilaa
open Go Go.Sx Go.Azalai
theorem Zvk {s:Season} {x:Scene} {slabs:Int}:∀ {l:List Stop} {i:Nat} {c:Camel} {acc:List (Int × Int)},(goG s x slabs l i c acc).1=0->((goG s x slabs l i c acc).1,(goG s x slabs l i c acc).2.1)=(0,0)
 | [],_,_,acc,_=>by simp [goG]
 | st :: r,i,c,acc,h=>by
  simp only [goG] at h ⊢
  split
  . rename_i hb;rw [if_pos hb] at h;exact absurd h hb
  . rename_i hb;rw [if_neg hb] at h
    exact Zvk h
theorem goF_z {s:Season} {x:Scene} {slabs:Int} {l:List Stop} (h:(goF s x slabs l).1=0):((goF s x slabs l).1,(goF s x slabs l).2.1)=(0,0):=by
 unfold goF at h ⊢
 split
 . rename_i hb;rw [if_pos hb] at h;simp only at h ⊢;rw [h]
 . rename_i hb;rw [if_neg hb] at h;exact Zvk h
theorem u20:Try.prog.underlying 20=some (.interface (Try.prog.methodsAt 20)):=by kernel_rfl
theorem ZcJ {s:Season} {p:Plan} {x:Scene}:WC s p x=if ZaU s p.legs=false then (1,0) else ZfI s x p.animals p.slabs (Ya s p.legs):=by
 unfold WC ZfI;rfl
def Wb (s:Season) (p:Plan) (x:Scene):List Draw:=if (WC s p x).1=0 then XA s x p.animals p.slabs (Ya s p.legs) else []
def Zp2 (w:Int × Int) (ds:List Draw):Ot:=⟨false,.tup [.sl false 3 (ds.map ZW),.agg [U8 w.1,I w.2]],[],0⟩
theorem Zke (s:Season) (h:OkS s) (k:Nat) (hk:k < s.scenes.length) (p:Plan) (hp:X4 s p=true) (hg:p.legs.length<=1000) :
 CtM Try.prog 17 [] 0 [.agg (Yi s k),.agg (ZD p)] (fun o=>o=Zp2 (WC s p s.scenes[k]) (Wb s p s.scenes[k])):=by
 have hnum:=h.num
 obtain ⟨_,hpl⟩:=VM hp
 refine m17 (by simp [hpb]) (fun o ho=>by subst ho;simp [Zp2,KX,KXL,KXP,Za,KFL,KF,ZW]) ?_
 dsimp only [c17,r17,Yi,ZD,go_sem,rA,rM,rS]
 refine call (Zl2 s h p.legs hg _) ?_
 dsimp only [go_sem,rA,rM,rS]
 by_cases hs:ZaU s p.legs=true
 case neg =>
  rw [Bool.eq_false_iff.2 hs]
  refine YI [] (Zai 1 0) rfl rfl rfl ?_ ?_ ?_
  . (repeat first | dsimp only [go_sem,rA,rM,rS] | simp only [nbr])
    try simp [mtL,mtB,mtS]
  . trivial
  rintro _ rfl
  (repeat first | dsimp only [Xl,go_sem,rA,rM,rS] | simp only [nbr])
  refine ⟨_,_,_,_,qw31,?_⟩
  dsimp only [Zw2,Zw4,go_sem,rA,rM,rS]
  refine ⟨rfl,?_⟩
  refine ZeT u20 rfl ?_
  dsimp only [go_sem,rA,rM,rS]
  refine Zt rfl ?_
  dsimp only [go_sem,rA,rM,rS]
  refine Zac Zb1 rfl ?_
  dsimp only [go_sem,rA,rM,rS]
  refine Zv rfl ?_
  dsimp only [go_sem,rA,rM,rS]
  refine ⟨_,rfl,?_⟩
  have hF:WC s p s.scenes[k]=(1,0):=by rw [ZcJ,if_pos (Bool.eq_false_iff.2 hs)]
  rw [Zp2,Wb,hF]
  refine VF (Yv (Zaz (s':=.tup [.sl false 3 [],.agg [U8 1,I 0]]) 0 rfl (XQ (ZL Yr XF)) (fun _ _ _ h=>by cases h)) ?_) (fun _ _ _ e=>by cases e)
  (refine Zl ?_ ?_ ?_ rfl rfl<;>dsimp only [id,go_sem,rA,rM,rS]<;>simp [Za,Zf,KFR,KFL,KF,Zc,mtO,nbr])
 rw [hs]
 refine YI [] (VO 1 0) rfl rfl rfl ?_ ?_ ?_
 . (repeat first | dsimp only [go_sem,rA,rM,rS] | simp only [nbr])
   try simp [mtL,mtB,mtS]
 . trivial
 rintro _ rfl
 (repeat first | dsimp only [go_sem,rA,rM,rS] | simp only [nbr])
 have hF:WC s p s.scenes[k]=ZfI s s.scenes[k] p.animals p.slabs (Ya s p.legs):=by rw [ZcJ,if_neg (by simp [hs])]
 have hd:=Zpl s h k hk (Ya s p.legs) (Nat.le_trans Zae hg) p.animals p.slabs ⟨hpl.1,hpl.2.1⟩ hpl.2.2
 rw [<- hF] at hd
 have hT:Wb s p s.scenes[k]=if (WC s p s.scenes[k]).1=0 then XA s s.scenes[k] p.animals p.slabs (Ya s p.legs) else []:=rfl
 rw [hT]
 have hz:(WC s p s.scenes[k]).1=0->WC s p s.scenes[k]=(0,0):=fun h0=>by
  rw [hF] at h0 ⊢
  revert h0
  unfold ZfI
  split
  . intro _;rfl
  . unfold Zbn
    split
    . intro h1;simp at h1
    . intro h1;exact goF_z h1
 generalize WC s p s.scenes[k]=w at hd hz ⊢
 generalize XA s s.scenes[k] p.animals p.slabs (Ya s p.legs)=D at hd ⊢
 by_cases hw:w.1=0
 . simp only [Vn,if_pos hw] at hd
   refine YI [] hd rfl rfl rfl ?_ ?_ ?_
   . exact Zc (by simp [Yi,Zg,Zo,Zh,Zm,Zd,Zp,ZN,Za,KFL,KF])
   . trivial
   rintro _ rfl
   (repeat first | dsimp only [go_sem,rA,rM,rS] | simp only [nbr])
   refine ⟨_,_,_,_,qw31,?_⟩
   dsimp only [Zw2,Zw4,go_sem,rA,rM,rS]
   refine ⟨rfl,?_⟩
   refine Zkk u20 rfl ?_
   dsimp only [go_sem,rA,rM,rS]
   refine Zv rfl ?_
   dsimp only [go_sem,rA,rM,rS]
   refine ⟨_,rfl,?_⟩
   rw [hz hw]
   simp only [Zp2,if_true]
   (refine Z5 ?_ ?_ ?_ rfl<;>dsimp only [ZW,id,go_sem,rA,rM,rS]<;>simp [ZW,Za,Zf,KFR,KFL,KF,Zc,mtO,nbr])
 simp only [Vn,if_neg hw] at hd
 refine YI [] hd rfl rfl rfl ?_ ?_ ?_
 . exact Zc (by simp [Yi,Zg,Zo,Zh,Zm,Zd,Zp,ZN,Za,KFL,KF])
 . trivial
 rintro _ rfl
 (repeat first | dsimp only [Xl,go_sem,rA,rM,rS] | simp only [nbr])
 refine ⟨_,_,_,_,qw31,?_⟩
 dsimp only [Zw2,Zw4,go_sem,rA,rM,rS]
 refine ⟨rfl,?_⟩
 refine ZeT u20 rfl ?_
 dsimp only [go_sem,rA,rM,rS]
 refine Zt rfl ?_
 dsimp only [go_sem,rA,rM,rS]
 refine Zac Zb1 rfl ?_
 dsimp only [go_sem,rA,rM,rS]
 refine Zv rfl ?_
 dsimp only [go_sem,rA,rM,rS]
 refine ⟨_,rfl,?_⟩
 rw [Zp2,if_neg hw]
 refine VF (Yv (Zaz (s':=.tup [.sl false 3 [],.agg [U8 w.1,I w.2]]) 0 rfl (XQ (ZL Yr XF)) (fun _ _ _ h=>by cases h)) ?_) (fun _ _ _ e=>by cases e)
 (refine Zl ?_ ?_ ?_ rfl rfl<;>dsimp only [id,go_sem,rA,rM,rS]<;>simp [Za,Zf,KFR,KFL,KF,Zc,mtO,nbr])
theorem ZjB (a b:List Int) (ha:a.length<=1000000) (hb:b.length<=1000000) (c c':Bool):Ct Try.prog 30 [.sl c 1 (a.map Zp),.sl c' 1 (b.map Zp)] (B (decide (a=b))):=by
 refine t30.1 (by simp [Za,Zp,KFL,KF]) (by simp [KFL,KF]) ?_
 dsimp only [c30,r30,go_sem,rA,rM,rS]
 simp only [List.length_map]
 by_cases hl:a.length=b.length
 case neg =>
  refine Zt (by simp;omega) ?_
  dsimp only [go_sem,rA,rM,rS]
  have:a≠b:=fun e=>hl (by rw [e])
  simp [this]
 refine Zv (by simp;omega) ?_
 dsimp only [go_sem,rA,rM,rS]
 refine XO (fun j:Nat=>[(5,I j)]) (fun _=>[]) (fun j=>j<=a.length/\a.take j=b.take j) (fun j=>a.length - j) 0 ⟨Nat.zero_le _,rfl⟩ ?_ ?_
 . (refine Zl ?_ ?_ ?_ rfl rfl<;>dsimp only [Zp,id,go_sem,rA,rM,rS]<;>simp [Zp,Za,Zf,KFR,KFL,KF,Zc,mtO,nbr])
 rintro j ⟨hj,ht⟩
 dsimp only [go_sem,rA,rM,rS]
 simp only [List.length_map]
 by_cases hlt:j < a.length
 . refine Zt (by simpa using hlt) ?_
   dsimp only [go_sem,rA,rM,rS]
   have hltb:j < b.length:=by omega
   refine Zs j hlt rfl ?_
   dsimp only [go_sem,rA,rM,rS]
   refine Zs j hltb rfl ?_
   dsimp only [Zp,go_sem,rA,rM,rS]
   by_cases he:a[j]=b[j]
   . refine Zv (by rw [he];simp [ngB]) ?_
     dsimp only [go_sem,rA,rM,rS]
     rw [Zi (n:=(j:Int)+1) (by omega) (by omega)]
     refine ⟨j+1,⟨hlt,?_⟩,by omega,?_⟩
     . rw [List.take_succ_eq_append_getElem hlt,List.take_succ_eq_append_getElem hltb,ht,he]
     (refine Zl ?_ ?_ ?_ rfl rfl<;>dsimp only [Zp,id,go_sem,rA,rM,rS]<;>simp [Zp,Za,Zf,KFR,KFL,KF,Zc,mtO,nbr])
   . refine Zt ?_ ?_
     . simpa using he
     dsimp only [go_sem,rA,rM,rS]
     have:a≠b:=fun e=>he (by subst e;rfl)
     simp [this]
 refine Zv (by simp;omega) ?_
 dsimp only [go_sem,rA,rM,rS]
 have:a=b:=by
  rw [List.take_of_length_le (by omega),List.take_of_length_le (by omega)] at ht
  exact ht
 simp [this]
theorem YW (s:Season) (hs:SmallS s) (p:Plan) (hg:p.legs.length<=1000):Ct Try.prog 5 [.agg (Zw s),.agg (ZD p)] (Vv (Yc s p)):=by
 refine tw5.1 (by simp [Zw,ZD,Zm,Zg,Zo,Zh,Zd,Zp,ZN,Za,KFL,KF]) (by simp [Vv,KFL,KF]) ?_
 dsimp only [cw5,rw5,Zw,ZD,go_sem,rA,rM,rS]
 refine call (ZpT s hs p hg) ?_
 dsimp only [go_sem,rA,rM,rS]
 by_cases ho:ZQ s=true
 case neg =>
  refine Zt (by simp [ho]) ?_
  dsimp only [go_sem,rA,rM,rS]
  simp [Vv,Yc,ho]
 by_cases hp:X4 s p=true
 case neg =>
  refine Zt (by simp [ho,hp]) ?_
  dsimp only [go_sem,rA,rM,rS]
  simp [Vv,Yc,ho,hp]
 refine Zv (by simp [ho,hp]) ?_
 dsimp only [go_sem,rA,rM,rS]
 simp only [List.length_map]
 have h:OkS s:=⟨hs,ho⟩
 have hF:Yc s p=VT s p s.scenes 0:=by simp only [Yc,ho,hp,Bool.true_eq_false,if_false]
 rw [hF]
 have hsc:=hs.sc
 refine Ui [2,3,20,21] rfl (fun q:Nat=>[(21,I q)]) (fun _=>[]) (fun q=>q<=s.scenes.length/\VT s p (s.scenes.drop q) q=VT s p s.scenes 0) (fun q=>s.scenes.length - q) 0 ⟨Nat.zero_le _,rfl⟩ ?_ ?_
 . (refine Zl ?_ ?_ ?_ rfl rfl<;>dsimp only [Zg,Zo,Zh,Zm,Zd,Zp,ZN,id,go_sem,rA,rM,rS]<;>simp [Zg,Zo,Zh,Zm,Zd,Zp,ZN,Za,Zf,KFR,KFL,KF,Zc,mtO,nbr])
 rintro j ⟨hj,hi⟩
 dsimp only [go_sem,rA,rM,rS]
 by_cases hlt:j < s.scenes.length
 case neg =>
  refine Zv (by simp;omega) ?_
  dsimp only [go_sem,rA,rM,rS]
  rw [List.drop_eq_nil_of_le (by omega),VT] at hi
  rw [<- hi];rfl
 refine Zt (by simpa using hlt) ?_
 dsimp only [go_sem,rA,rM,rS]
 have ht:=Zke s h j hlt p hp hg
 rw [List.drop_eq_getElem_cons hlt,VT] at hi
 generalize WC s p s.scenes[j]=w at ht hi
 refine YI [] ht rfl rfl rfl ?_ ?_ ?_
 . exact Zc (by simp [Yi,ZD,Zg,Zo,Zh,Zm,Zd,Zp,ZN,Za,KFL,KF])
 . trivial
 rintro _ rfl
 (repeat first | dsimp only [Zp2,go_sem,rA,rM,rS] | simp only [nbr])
 by_cases hf:w.1=0
 case neg =>
  refine Zt (by simpa using hf) ?_
  dsimp only [go_sem,rA,rM,rS]
  rw [if_pos hf] at hi
  rw [<- hi];rfl
 refine Zv (by simpa using hf) ?_
 dsimp only [go_sem,rA,rM,rS]
 rw [if_neg (by simpa using hf)] at hi
 rw [Zi (n:=(j:Int)+1) (by omega) (by omega)]
 refine ⟨j+1,⟨hlt,hi⟩,by omega,?_⟩
 (refine Zl ?_ ?_ ?_ rfl rfl<;>dsimp only [Zg,Zo,Zh,Zm,Zd,Zp,ZN,id,go_sem,rA,rM,rS]<;>simp [Zg,Zo,Zh,Zm,Zd,Zp,ZN,Za,Zf,KFR,KFL,KF,Zc,mtO,nbr])
theorem ZdP (p q:Plan) (hp:p.legs.length<=1000) (hq:q.legs.length<=1000):Ct Try.prog 15 [.agg (ZD p),.agg (ZD q)] (B (decide (p=q))):=by
 refine t15.1 (by simp [ZD,Zp,Za,KFL,KF]) (by simp [KFL,KF]) ?_
 dsimp only [c15,r15,ZD,go_sem,rA,rM,rS]
 repeat (first | (refine gb ?_;dsimp only [go_sem,rA,rM,rS]) | (refine call (ZjB p.legs q.legs (by omega) (by omega) _ _) ?_;dsimp only [go_sem,rA,rM,rS]))
 have:(p.animals == q.animals && p.slabs == q.slabs && decide (p.legs=q.legs))=decide (p=q):=by
  obtain ⟨a,b,c⟩:=p;obtain ⟨a',b',c'⟩:=q
  rw [Bool.eq_iff_iff];simp;constructor
  . rintro ⟨⟨h1,h2⟩,h3⟩;exact ⟨h3,h1,h2⟩
  . rintro ⟨h1,h2,h3⟩;exact ⟨⟨h2,h3⟩,h1⟩
 rw [this]
def c20:SC:=(.seq (.reg [
 o1 3 (.box (.t 0) 0 38),
 o1 4 (.box (.t 1) 0 42),
 o1 6 (.mv (.c (.int .i64 0)))])
 (.seq (.reg [
 o1 7 (.mv (.c (.slice none 0 0)))])
 (.seq (.seq (.reg [
 o1 10 (.addo (.t 3) 36),
 o1 11 (.ld (.t 10) 1 false),
 o1 12 (.len (.t 11)),
 o1 13 (.mv (.c (.int .i64 0)))])
 (.block 0 (.loop (.seq (.reg [
  o1 14 (.bin .lss (.t 13) (.t 12))])
  (.seq (.cond (.t 14)
  .skip
  (.exit 0))
  (.seq (.block 1 (.seq (.reg [
   o1 15 (.ixs (.t 11) (.t 13) 6),
   o1 16 (.ld (.t 15) 6 true),
   o1 9 (.alloc zv5 75),
   ⟨none,.st (.t 9) (.t 16) 6,none,[]⟩])
   (.regs [0,1,2,3,4,5,6,7,8,9,10,11,12,13,14,15,16,17,18,19,20,21,22,23,24,25,26] ⟨[
   .op (m1 17 7),
   .op (o1 18 (.addo (.t 4) 1)),
   .op ⟨some 19,.ld (.t 18) 1 false,none,[1]⟩,
   .op (o1 20 (.addo (.t 4) 2)),
   .op ⟨some 21,.ld (.t 20) 1 false,none,[3]⟩,
   .op ⟨some 22,.bin .mul (.t 19) (.t 21),none,[2,4]⟩,
   .op (o1 23 (.addo (.t 9) 5)),
   .op ⟨some 24,.ld (.t 23) 1 false,none,[6]⟩,
   .op (m1 25 2),
   .op ⟨some 26,.ixs (.t 24) (.t 25) 1,none,[7,8]⟩,
   .op ⟨some 27,.ld (.t 26) 1 false,none,[9]⟩,
   .op (o1 28 (.addo (.t 3) 31)),
   .op ⟨some 29,.ld (.t 28) 1 false,none,[11]⟩,
   .op ⟨some 30,.bin .sub (.t 27) (.t 29),none,[10,12]⟩,
   .op ⟨some 31,.bin .mul (.t 22) (.t 30),none,[5,13]⟩,
   .op (o1 32 (.addo (.t 3) 28)),
   .op ⟨some 33,.ld (.t 32) 1 false,none,[15]⟩,
   .op (o1 34 (.addo (.t 4) 1)),
   .op ⟨some 35,.ld (.t 34) 1 false,none,[17]⟩,
   .op ⟨some 36,.bin .sub (.t 33) (.t 35),none,[16,18]⟩,
   .op (o1 37 (.addo (.t 3) 32)),
   .op ⟨some 38,.ld (.t 37) 1 false,none,[20]⟩,
   .op ⟨some 39,.bin .mul (.t 36) (.t 38),none,[19,21]⟩,
   .op ⟨some 40,.bin .add (.t 31) (.t 39),none,[14,22]⟩,
   .op ⟨some 41,.bsl 1 3 [.t 40],none,[23]⟩],0,1,[
   ⟨some 42,.appm 1 8 3 (.t 17) (.t 41),none,[0,24]⟩]⟩ [⟨[
],0,1,[
 ⟨some 7,.mv (.t 42),none,[0,1,2,3,4,5,6,7,8,9,10,11,12,13,14,15,16,17,18,19,20,21,22,23,24,25]⟩]⟩])))
 (.reg [
 o1 43 (.bin .add (.t 13) (.c (.int .i64 1))),
 m1 13 43])))))))
 (.gh (.seq (.reg [
 m1 44 7,
 o1 45 (.call 29 [.t 44]),
 m1 6 45])
 .ret)))))
def r20:List RV:=[.tmp 6]
theorem t20:Qt1 Try.prog 20 c20 r20 46:=Yn Try.func20 rfl (by kernel_rfl) (by kernel_rfl) (by kernel_rfl) (by kernel_rfl)
def c9:SC:=(.seq (.reg [
 o1 2 (.box (.t 0) 0 38),
 o1 3 (.box (.t 1) 0 42),
 o1 4 (.mv (.c (.int .i64 0))),
 o1 5 (.mv (.c (.int .i64 0)))])
 (.seq (.reg [
 o1 13 (.ld (.t 2) 37 true),
 o1 14 (.ld (.t 3) 3 true),
 o1 15 (.call 5 [.t 13,.t 14]),
 m1 12 15,
 o1 16 (.ext (.t 12) 0),
 o1 17 (.ext (.t 12) 1),
 o1 18 (.ext (.t 12) 2),
 o1 19 (.ext (.t 12) 3),
 m1 6 16,
 m1 7 17,
 m1 8 18,
 m1 9 19])
 (.seq (.block 0 (.seq (.reg [
  m1 21 9,
  o1 22 (.bin .neq (.t 21) (.c (.int .i64 0))),
  m1 20 22])
  (.cond (.t 20)
  (.seq (.reg [
   m1 23 9,
   o1 4 (.mv (.c (.int .i64 0))),
   m1 5 23])
   .ret)
  (.seq (.reg [
   m1 25 6,
   o1 26 (.bin .neq (.t 25) (.c (.int .u8 0))),
   m1 24 26])
   (.cond (.t 24)
   (.seq (.reg [
    o1 4 (.mv (.c (.int .i64 0))),
    o1 5 (.mv (.c (.int .i64 92)))])
    .ret)
   .skip)))))
 (.seq (.reg [
 o1 28 (.ld (.t 2) 37 true),
 o1 29 (.addo (.t 3) 0),
 o1 30 (.ld (.t 29) 1 false),
 o1 31 (.call 19 [.t 28,.t 30]),
 m1 27 31,
 o1 32 (.ext (.t 27) 0),
 o1 33 (.ext (.t 27) 1),
 m1 10 32,
 m1 11 33])
 (.seq (.reg [
 o1 34 (.ld (.t 2) 37 true),
 o1 35 (.ld (.t 3) 3 true),
 m1 36 10,
 o1 37 (.call 20 [.t 34,.t 35,.t 36]),
 m1 4 37,
 o1 5 (.mv (.c (.int .i64 0)))])
 .ret)))))
def r9:List RV:=[.tmp 4,.tmp 5]
theorem t9:Qt1 Try.prog 9 c9 r9 38:=Yn Try.func9 rfl (by kernel_rfl) (by kernel_rfl) (by kernel_rfl) (by kernel_rfl)
def c14:SC:=(.seq (.reg [
 o1 4 (.mv (.c (.bool false)))])
 (.seq (.seq (.reg [
 m1 6 0,
 o1 7 (.len (.t 6)),
 m1 8 1,
 o1 9 (.len (.t 8)),
 o1 10 (.bin .neq (.t 7) (.t 9))])
 (.cond (.t 10)
 (.seq (.reg [
  o1 4 (.mv (.c (.bool false)))])
  .ret)
 .skip))
 (.seq (.seq (.reg [
 o1 5 (.mv (.c (.int .i64 0)))])
 (.block 0 (.loop (.seq (.seq (.reg [
  m1 11 5,
  m1 12 0,
  o1 13 (.len (.t 12)),
  o1 14 (.bin .lss (.t 11) (.t 13))])
  (.cond (.t 14)
  .skip
  (.exit 0)))
  (.seq (.block 1 (.seq (.regd [0,1,2,3,4,5,6,7,8] [
   .op (m1 17 0),
   .op (m1 18 5),
   .op ⟨some 19,.ixs (.t 17) (.t 18) 3,none,[0,1]⟩,
   .op ⟨some 20,.ld (.t 19) 3 true,none,[2]⟩,
   .op (m1 21 1),
   .op (m1 22 5),
   .op ⟨some 23,.ixs (.t 21) (.t 22) 3,none,[4,5]⟩,
   .op ⟨some 24,.ld (.t 23) 3 true,none,[6]⟩,
   .op ⟨some 25,.eqs true true [1,1,1] (.t 20) (.t 24),none,[3,7]⟩] 0 0 [
])
 (.cond (.t 25)
 (.seq (.reg [
  o1 4 (.mv (.c (.bool false)))])
  .ret)
 .skip)))
 (.reg [
 m1 15 5,
 o1 16 (.bin .add (.t 15) (.c (.int .i64 1))),
 m1 5 16]))))))
 (.seq (.reg [
 o1 4 (.mv (.c (.bool true)))])
 .ret))))
def r14:List RV:=[.tmp 4]
theorem t14:Qt1 Try.prog 14 c14 r14 26:=Yn Try.func14 rfl (by kernel_rfl) (by kernel_rfl) (by kernel_rfl) (by kernel_rfl)
end Go.Proofs.Ytiigiflofnjilaa
namespace Go.Azalai
open Go.Sx
def Ziy:List Int->Int
 | []=>0
 | x :: r=>r.foldl min x
theorem Zhp {l:List Int} {a:Int} (h:l≠[]):Ziy (l ++ [a])=min (Ziy l) a:=by
 cases l with
 | nil=>exact absurd rfl h
 | cons x r=>simp [Ziy,List.foldl_append]
def UB (s:Season) (p:Plan) (to:Int) (x:Scene):Int:=p.animals * p.slabs * ((x.prices[to.toNat]?).getD 0 - s.cost)+(s.herd - p.animals) * s.sale
def ZgJ (s:Season) (p:Plan) (to:Int):Int:=Ziy (s.scenes.map (UB s p to))
def ZaT (s:Season) (p:Plan):Int × Int :=
 if (Yc s p).2.2.2≠0 then (0,(Yc s p).2.2.2) else if (Yc s p).1≠0 then (0,92) else (ZgJ s p ((Xi s.land s.start [s.start] p.legs).getD 0),0)
theorem Zs2 {α : Type} {L:List α} {k:Nat} (hk:k≠0) (h:1<=L.length):L.take k≠[]:=fun e=>by
 rw [List.take_eq_nil_iff] at e
 rcases e with e | e
 . exact hk e
 . rw [e] at h;simp at h
theorem ZjP {A B d M:Int} (h0:0<=A) (h1:A<=B) (hM:0<=M) (hd:-M<=d/\d<=M):-(B * M)<=A * d/\A * d<=B * M:=by
 have e1:A * d<=A * M:=Int.mul_le_mul_of_nonneg_left hd.2 h0
 have e2:A * M<=B * M:=Int.mul_le_mul_of_nonneg_right h1 hM
 have e3:A * (-M)<=A * d:=Int.mul_le_mul_of_nonneg_left hd.1 h0
 rw [Int.mul_neg] at e3
 omega
theorem ZeA {s:Season} {p:Plan}:∀ {l:List Scene} {i:Nat},(VT s p l i).1=0->∀ x ∈ l,(WC s p x).1=0
 | [],_,_,x,hx=>by cases hx
 | y :: r,i,h,x,hx=>by
  simp only [VT] at h
  split at h
  . rename_i hf;exact absurd h hf
  . rename_i hf
    rcases List.mem_cons.1 hx with rfl | hx
    . simpa using hf
    . exact ZeA h x hx
theorem U6 {s:Season} {p:Plan} (h:(Yc s p).2.2.2=0):ZQ s=true/\X4 s p=true:=by
 unfold Yc at h
 split at h
 . simp at h
 rename_i h1
 split at h
 . simp at h
 rename_i h2
 exact ⟨by simpa using h1,by simpa using h2⟩
theorem ZlU {s:Season} {p:Plan} (h:(Yc s p).2.2.2=0) (h1:(Yc s p).1=0):∀ x ∈ s.scenes,(WC s p x).1=0:=by
 obtain ⟨ho,hp⟩:=U6 h
 unfold Yc at h1
 rw [if_neg (by simp [ho]),if_neg (by simp [hp])] at h1
 exact ZeA h1
def ZaP (s:Season) (p:Plan) (k:Int):List Draw × Int :=
 if (Yc s p).2.2.2≠0 then ([],(Yc s p).2.2.2) else if (Yc s p).1≠0\/inR 0 (s.scenes.length - 1) k=false then ([],92)
 else match s.scenes[k.toNat]? with
  | some x=>(XA s x p.animals p.slabs (Ya s p.legs),0)
  | none=>([],0)
end Go.Azalai
namespace Go.Proofs.Ytiigiflofnjilaa
open Go Go.Sx Go.Azalai
theorem Zj1 (L:List Int) (h1:1<=L.length) (hl:L.length<=1001) (c:Bool):Ct Try.prog 29 [.sl c 1 (L.map Zp)] (I (Ziy L)):=by
 refine t29.1 (by simp [Za,Zp,KFL,KF]) (by simp [KFL,KF]) ?_
 dsimp only [c29,r29,go_sem,rA,rM,rS]
 simp only [List.length_map]
 refine Zv (by simp;omega) ?_
 dsimp only [go_sem,rA,rM,rS]
 refine Zs 0 (by omega) rfl ?_
 dsimp only [Zp,go_sem,rA,rM,rS]
 have h0:L[0]=Ziy (L.take 1):=by
  cases L with
  | nil=>simp at h1
  | cons x r=>simp [Ziy]
 rw [h0]
 refine XO (fun k:Nat=>[(4,I (k+1)),(3,I (Ziy (L.take (k+1))))]) (fun _=>[]) (fun k=>k+1<=L.length) (fun k=>L.length - k) 0 h1 ?_ ?_
 . (refine Zl ?_ ?_ ?_ rfl rfl<;>dsimp only [Zp,id,go_sem,rA,rM,rS]<;>simp [Zp,Za,Zf,KFR,KFL,KF,Zc,mtO,nbr])
 intro k hk
 dsimp only [go_sem,rA,rM,rS]
 simp only [List.length_map]
 by_cases hlt:k+1 < L.length
 . refine Zt (by simp;omega) ?_
   dsimp only [go_sem,rA,rM,rS]
   refine Zs (k+1) hlt (by simp) ?_
   dsimp only [Zp,go_sem,rA,rM,rS]
   rw [Zi (n:=(k:Int)+1+1) (by omega) (by omega)]
   refine ⟨k+1,by omega,by omega,?_⟩
   have e:min (Ziy (L.take (k+1))) L[k+1]=Ziy (L.take (k+1+1)):=by
    rw [List.take_succ_eq_append_getElem hlt,Zhp (Zs2 (by omega) h1)]
   rw [e]
   (refine Zl ?_ ?_ ?_ rfl rfl<;>dsimp only [Zp,id,go_sem,rA,rM,rS]<;>simp [Zp,Za,Zf,KFR,KFL,KF,Zc,mtO,nbr])
 refine Zv (by simp;omega) ?_
 dsimp only [go_sem,rA,rM,rS]
 rw [List.take_of_length_le (by omega)]
theorem Zb5 {s:Season} (h:OkS s) {k:Nat} (hk:k < s.scenes.length) {m:Nat} (hm:m < s.land.wells.length):∃ hp:m < (s.scenes[k]).prices.length,0<=(s.scenes[k]).prices[m]/\(s.scenes[k]).prices[m]<=1000000:=by
 have hx:=h.scene _ (List.getElem_mem hk)
 simp only [Xn,Bool.and_eq_true,decide_eq_true_eq,List.all_eq_true] at hx
 have hp:m < (s.scenes[k]).prices.length:=by omega
 have:=hx.2 _ (List.getElem_mem hp)
 simp only [inR,decide_eq_true_eq] at this
 exact ⟨hp,this⟩
theorem ZrT {s:Season} (h:OkS s) {p:Plan} (hp:X4 s p=true) {k:Nat} (hk:k < s.scenes.length) {m:Nat} (hm:m < s.land.wells.length) (hq:m < (s.scenes[k]).prices.length) :
 IntKind.i64.wrap (IntKind.i64.wrap (IntKind.i64.wrap (p.animals * p.slabs) * IntKind.i64.wrap ((s.scenes[k]).prices[m] - s.cost))+IntKind.i64.wrap (IntKind.i64.wrap (s.herd - p.animals) * s.sale))=UB s p m s.scenes[k] /\
 -1000000000<=UB s p m s.scenes[k]/\UB s p m s.scenes[k]<=1000000000:=by
 have hnum:=h.num
 obtain ⟨_,hpl⟩:=VM hp
 obtain ⟨_,hpr⟩:=Zb5 h hk hm
 have e1:0<=p.animals * p.slabs/\p.animals * p.slabs<=30 * 12:=⟨Int.mul_nonneg hpl.1 hpl.2.2.1,Int.mul_le_mul (by omega) hpl.2.2.2 hpl.2.2.1 (by decide)⟩
 have e2:=ZjP (A:=p.animals * p.slabs) (B:=360) (d:=(s.scenes[k]).prices[m] - s.cost) (M:=1000000) e1.1 (by omega) (by decide) (by omega)
 have e3:0<=(s.herd - p.animals) * s.sale/\(s.herd - p.animals) * s.sale<=30 * 1000000:=⟨Int.mul_nonneg (by omega) (by omega),Int.mul_le_mul (by omega) (by omega) (by omega) (by decide)⟩
 have e4:UB s p m s.scenes[k]=p.animals * p.slabs * ((s.scenes[k]).prices[m] - s.cost)+(s.herd - p.animals) * s.sale:=by
  simp only [UB,Int.toNat_natCast,List.getElem?_eq_getElem hq,Option.getD_some]
 rw [Zi (n:=p.animals * p.slabs) (by omega) (by omega),Zi (n:=(s.scenes[k]).prices[m] - s.cost) (by omega) (by omega),Zi (n:=s.herd - p.animals) (by omega) (by omega),
  Zi (n:=p.animals * p.slabs * ((s.scenes[k]).prices[m] - s.cost)) (by omega) (by omega),Zi (n:=(s.herd - p.animals) * s.sale) (by omega) (by omega),Zi (by omega) (by omega),e4]
 exact ⟨rfl,by omega,by omega⟩
theorem ZeV (s:Season) (h:OkS s) (p:Plan) (hp:X4 s p=true) (m:Nat) (hm:m < s.land.wells.length):Ct Try.prog 20 [.agg (Zw s),.agg (ZD p),I m] (I (ZgJ s p m)):=by
 have hsc:=h.scs
 have hs4:=h.scs
 refine t20.1 (by simp [Zw,ZD,Zm,Zg,Zo,Zh,Zd,Zp,Za,KFL,KF]) (by simp [KFL,KF]) ?_
 dsimp only [c20,r20,Zw,ZD,go_sem,rA,rM,rS]
 simp only [List.length_map]
 obtain ⟨W,hW⟩:∃ W,W=s.scenes.map (UB s p m):=⟨_,rfl⟩
 have hWl:W.length=s.scenes.length:=by rw [hW];simp
 refine Zdb (Yv (VX [2,3,4,6,7,11,12,13] rfl) (YM 7 1 3 rfl rfl)) (fun q:Nat × Nat=>[(13,I q.1),(7,.mr 2 q.2)])
  (fun q=>[(2,.row q.2 1 ((W.take q.1).map Zp) 3)]) (fun q=>q.1<=s.scenes.length) (fun q=>s.scenes.length - q.1) (0,0) (Nat.zero_le _) ?_ ?_
 . (refine Zl ?_ ?_ ?_ rfl rfl<;>dsimp only [Zg,Zo,Zh,Zm,Zd,Zp,Z9,id,go_sem,rA,rM,rS]<;>simp [Zg,Zo,Zh,Zm,Zd,Zp,Z9,Za,Zf,KFR,KFL,KF,Zc,mtO,nbr])
 rintro ⟨j,v⟩ hj
 simp only at hj
 dsimp only [go_sem,rA,rM,rS]
 by_cases hlt:j < s.scenes.length
 . refine Zt (by simpa using hlt) ?_
   dsimp only [go_sem,rA,rM,rS]
   refine Zs j hlt rfl ?_
   dsimp only [Zm,go_sem,rA,rM,rS]
   obtain ⟨hq,_⟩:=Zb5 h hlt hm
   refine Zs m hq rfl ?_
   dsimp only [Zp,go_sem,rA,rM,rS]
   obtain ⟨hww,hwb⟩:=ZrT h hp hlt hm hq
   rw [hww]
   simp only [nbr]
   dsimp only [go_sem,rA,rM,rS]
   refine ⟨(by intro c hc;simp only [List.mem_singleton] at hc;subst hc;rfl),by simp;omega,?_⟩
   dsimp only [go_sem,rA,rM,rS]
   rw [Zi (n:=(j:Int)+1) (by omega) (by omega)]
   refine ⟨(j+1,v+1),hlt,by simp only;omega,?_⟩
   simp only
   have hWj:UB s p m s.scenes[j]=W[j]'(by omega):=by simp [hW]
   rw [hWj,List.take_succ_eq_append_getElem (by omega)]
   simp only [List.map_append,List.map_cons,List.map_nil]
   (refine Zl ?_ ?_ ?_ rfl rfl<;>dsimp only [Zg,Zo,Zh,Zm,Zd,Zp,Z9,id,go_sem,rA,rM,rS]<;>simp [Zg,Zo,Zh,Zm,Zd,Zp,Z9,Za,Zf,KFR,KFL,KF,Zc,mtO,nbr])
 refine Zv (by simp;omega) ?_
 dsimp only [go_sem,rA,rM,rS]
 rw [List.take_of_length_le (by omega)]
 refine gh (Zao 7 2 v rfl rfl rfl rfl) ?_
 dsimp only [go_sem,rA,rM,rS]
 refine call (Zj1 W (by omega) (by omega) _) ?_
 dsimp only [go_sem,rA,rM,rS]
 rw [hW];rfl
def Zce (l:Land) (p:Span) (s to day till:Int):SV:=.tup [Xu (ZbY l p s to day till) 1 ((Ut l p s to day till).map Ym),I (ZbY l p s to day till)]
theorem ZpE (l:Land) (p:Span) (s to day till:Int):KF (Zce l p s to day till):=by
 unfold Zce Xu;split<;>simp [KFL,KF,Za,Ym,ZU,Yb]
theorem ZlN (l:Land) (hs:Vg l) (s to day till:Int) (p:Span):Ct Try.prog 23 [.agg (YB l),I s,I to,I day,I till,.agg (Zd p)] (Zce l p s to day till):=by
 have hw:=hs.1
 have hleg:=hs.2.1
 refine t23.1 (by simp [YB,Zg,Zo,Zh,Zd,Za,KFL,KF]) (ZpE _ _ _ _ _ _) ?_
 dsimp only [c23,r23,YB,Zd,go_sem,rA,rM,rS]
 by_cases ha:UU l p=0
 case neg =>
  refine call (UM l hs p ha) ?_
  dsimp only [go_sem,rA,rM,rS]
  refine Zt (by simpa using ha) ?_
  dsimp only [go_sem,rA,rM,rS]
  simp [Zce,ZbY,ha,Xu]
 have hok:=ZhF ha
 refine call (Zcu l hs p ha) ?_
 dsimp only [ZF,go_sem,rA,rM,rS]
 refine Zv (by decide) ?_
 dsimp only [go_sem,rA,rM,rS]
 simp only [List.length_map]
 have h1:=Uo hok.land
 rw [Zi (n:=(l.wells.length:Int) - 1) (by omega) (by omega)]
 refine call (ZcF 0 (l.wells.length - 1) s to true) ?_
 dsimp only [go_sem,rA,rM,rS]
 repeat (first | (refine gb ?_;dsimp only [go_sem,rA,rM,rS]) | (refine call (ZcF 0 100000 day till true) ?_;dsimp only [go_sem,rA,rM,rS]))
 by_cases hr:(inR 0 (l.wells.length - 1) s && inR 0 (l.wells.length - 1) to && inR 0 100000 day && inR 0 100000 till)=true
 case neg =>
  have hb:∀ a b c d:Bool,¬ (a && b && c && d)=true->(!(a && b) || !(c && d))=true:=by decide
  refine Zt (hb _ _ _ _ hr) ?_
  dsimp only [go_sem,rA,rM,rS]
  simp [Zce,ZbY,ha,Xu,hr]
 have hb:∀ a b c d:Bool,(a && b && c && d)=true->(!(a && b) || !(c && d))=false:=by decide
 refine Zv (hb _ _ _ _ hr) ?_
 dsimp only [go_sem,rA,rM,rS]
 have he:ZbY l p s to day till=if (Ut l p s to day till).length > 200 then 9 else 0:=by simp only [ZbY,Ut,ha,hr];simp
 simp only [Bool.and_eq_true,inR,decide_eq_true_eq] at hr
 obtain ⟨⟨⟨hr1,hr3⟩,hd⟩,hu⟩:=hr
 refine Zam rfl rfl rfl ?_
 dsimp only [go_sem,rA,rM,rS]
 refine gh (Vz 5 0 1 40 rfl rfl) ?_
 dsimp only [go_sem,rA,rM,rS]
 have hlk:=ZtK l p hs hok till to (l.wells.length+1) [] s day [] [] 0 0 [] (.v (.slice none 0 0)) ZkC.start (by simp) (by omega) (by omega) (by simp;omega) (by simp) MW.nil (fun u=>by simp [Xk]) (.inr ⟨rfl,rfl⟩)
 have hW:(Xs l p to till (l.wells.length+1) [] s day).map (([]:List Nat) ++ ·)=Ut l p s to day till:=by simp [Ut]
 rw [hW] at hlk
 refine YI [2,1,5,7,4,8,9,6] hlk rfl rfl ?_ ?_ ?_ ?_
 . rfl
 . dsimp only [rho,go_sem,rA,rM,rS]
   simp [Za,Zf,KFR,KFL,KF,Zc,mtO,nbr]
 . dsimp only [rho,YA,ZF,go_sem,rA,rM,rS]
   simp [Za,Zf,KFR,KFL,KF,Zc,mtO,nbr,Zu,ZF,Zg,Zo,Zh,Ym,ZU,Yb]
 rintro o ⟨ver',clk',hM',rfl⟩
 dsimp only [YA,ZF,go_sem,rA,rM,rS]
 try simp only [List.nil_append]
 by_cases hl:(Ut l p s to day till).length<=200
 . refine Zv (by simp only [hl,decide_true];rfl) ?_
   dsimp only [go_sem,rA,rM,rS]
   simp only [nbr]
   dsimp only [go_sem,rA,rM,rS]
   rw [Zce,he,if_neg (by omega),WO (by omega)]
   simp [Xu,vwN]
 . refine Zt (by simp only [hl,decide_false];rfl) ?_
   dsimp only [go_sem,rA,rM,rS]
   rw [Zce,he,if_pos (by omega)]
   simp [Xu]
end Go.Proofs.Ytiigiflofnjilaa
namespace Go.Azalai
open Go.Sx Go.Proofs.Ytiigiflofnjilaa
structure Bst where
 legs:List Nat
 an:Int
 sl:Int
 w:Int
deriving DecidableEq
def Y2 (a:List Nat):List Int:=a.map fun n:Nat=>(n:Int)
def Bst.plan (q:Bst):Plan:=⟨Y2 q.legs,q.an,q.sl⟩
def Yh (q p:Bst):Bool :=
 if q.w≠p.w then decide (q.w > p.w) else if q.an≠p.an then decide (q.an < p.an) else if q.sl≠p.sl then decide (q.sl < p.sl)
 else if q.legs.length≠p.legs.length then decide (q.legs.length < p.legs.length) else WN q.legs p.legs
def ZgM (p q:Bst):Bst:=if Yh q p then q else p
def Xr (s:Season) (to:Int) (a:List Nat) (k n:Int):Bst:=⟨a,n,k,ZgJ s ⟨Y2 a,n,k⟩ to⟩
def ZgE (s:Season) (x:Scene):List Draw->Int->Int
 | [],n=>n
 | d :: r,n=>ZgE s x r (if d.water > 0 then min n ((ZcB s x ⟨0,d.well,⟨0,0⟩,⟨d.day,0⟩⟩).tdiv d.water) else n)
def Zqq (s:Season) (a:List Int) (k:Int):List Scene->Int->Int
 | [],n=>n
 | x :: r,n=>if (WC s ⟨a,1,k⟩ x).1≠0 then 0 else Zqq s a k r (ZgE s x (Wb s ⟨a,1,k⟩ x) n)
def Zd6 (s:Season) (a:List Int) (k:Int):Int:=Zqq s a k s.scenes s.herd
def ZdE (s:Season) (to:Int) (a:List Nat) (k:Int):Nat->Bst->Bst
 | 0,b=>b
 | n+1,b=>ZdE s to a k n (ZgM b (Xr s to a k (n+1:Nat)))
def Zno (s:Season) (to:Int) (a:List Nat) (b:Bst) (k:Nat):Bst:=ZdE s to a k (Zd6 s (Y2 a) k).toNat b
def Zw3 (s:Season) (to:Int) (b:Bst) (a:List Nat):Bst:=(List.range 13).foldl (Zno s to a) b
def Zdc (s:Season):List Nat->Bst->Option Bst
 | [],b=>some b
 | g :: r,b=>if ZbY s.land s.pace s.start g s.day s.till≠0 then none else Zdc s r ((Ut s.land s.pace s.start g s.day s.till).foldl (Zw3 s g) b)
def ZtZ (s:Season):Option Bst:=Zdc s (List.range s.land.wells.length) ⟨[],0,0,s.herd * s.sale⟩
def ZdY (s:Season):Plan × Int × Int :=
 if ZQ s=false then (⟨[],0,0⟩,0,90) else match ZtZ s with
  | none=>(⟨[],0,0⟩,0,9)
  | some b=>(b.plan,b.w,0)
def Zeb (s:Season) (x:Scene) (k:Int):List Span->Nat->Int->Int
 | [],_,e=>e
 | r :: l,i,e=>Zeb s x k l (i+1) (if r.hi<=s.till then max e (k * ((x.prices[i]?).getD 0 - s.cost)) else e)
noncomputable def Zet (s:Season):Int:=Ziy (s.scenes.map fun x=>s.herd * Zeb s x (min 12 (s.breed.strong.lo.tdiv s.slab)) (YY s.land s.pace s.start s.day) 0 s.sale)
noncomputable def ZaL (s:Season):Int × Int:=if ZQ s=false then (0,90) else (Zet s,0)
theorem ZeY {s:Season} {x:Scene}:∀ {D:List Draw} {n m:Int},(m<=ZgE s x D n↔m<=n/\∀ d ∈ D,d.water > 0->m<=(ZcB s x ⟨0,d.well,⟨0,0⟩,⟨d.day,0⟩⟩).tdiv d.water)
 | [],n,m=>by simp [ZgE]
 | d :: r,n,m=>by
  rw [ZgE,ZeY]
  simp only [List.mem_cons,forall_eq_or_imp]
  split
  . rename_i h
    constructor
    . rintro ⟨h1,h2⟩;exact ⟨by omega,fun _=>by omega,h2⟩
    . rintro ⟨h1,h2,h3⟩;exact ⟨by have:=h2 h;omega,h3⟩
  . rename_i h
    constructor
    . rintro ⟨h1,h2⟩;exact ⟨h1,fun q=>absurd q h,h2⟩
    . rintro ⟨h1,_,h3⟩;exact ⟨h1,h3⟩
theorem ZhY {s:Season} {x:Scene} (h:∀ st:Stop,0<=ZcB s x st):∀ {D:List Draw} {n:Int},0<=n->0<=ZgE s x D n
 | [],n,hn=>hn
 | d :: r,n,hn=>by
  rw [ZgE]
  refine ZhY h ?_
  split
  . have:=Int.tdiv_nonneg (h ⟨0,d.well,⟨0,0⟩,⟨d.day,0⟩⟩) (show (0:Int)<=d.water by omega)
    omega
  . exact hn
theorem Zid {s:Season} {a:List Int} {k:Int}:∀ {l:List Scene} {n:Int},0<=n->(∀ x ∈ l,∀ st:Stop,0<=ZcB s x st)->0<=Zqq s a k l n/\Zqq s a k l n<=n
 | [],n,hn,_=>⟨hn,Int.le_refl _⟩
 | x :: r,n,hn,hh=>by
  rw [Zqq]
  split
  . omega
  . have h1:=ZhY (hh x (List.mem_cons_self ..)) (D:=Wb s ⟨a,1,k⟩ x) hn
    have h2:ZgE s x (Wb s ⟨a,1,k⟩ x) n<=n:=(ZeY.1 (Int.le_refl _)).1
    have:=Zid (s:=s) (a:=a) (k:=k) h1 (fun y hy=>hh y (List.mem_cons_of_mem _ hy))
    omega
theorem ZbJ (b:Bst):Yh b b=false:=by simp [Yh,WE]
theorem ZcE {a b c:Bst} (h:Yh a b=true) (h':Yh b c=true):Yh a c=true:=by
 obtain ⟨al,aa,ak,aw⟩:=a;obtain ⟨bl,ba,bk,bw⟩:=b;obtain ⟨cl,ca,ck,cw⟩:=c
 simp only [Yh] at h h' ⊢
 by_cases e1:aw=bw
 . subst e1
   rw [if_neg (by simp)] at h
   by_cases e2:aw=cw
   . subst e2
     rw [if_neg (by simp)] at h' ⊢
     by_cases e3:aa=ba
     . subst e3
       rw [if_neg (by simp)] at h
       by_cases e4:aa=ca
       . subst e4
         rw [if_neg (by simp)] at h' ⊢
         by_cases e5:ak=bk
         . subst e5
           rw [if_neg (by simp)] at h
           by_cases e6:ak=ck
           . subst e6
             rw [if_neg (by simp)] at h' ⊢
             by_cases e7:al.length=bl.length
             . rw [if_neg (by simp [e7])] at h
               by_cases e8:al.length=cl.length
               . rw [if_neg (by omega)] at h' ⊢
                 exact Wf h h'
               . rw [if_pos (by omega)] at h' ⊢
                 rw [decide_eq_true_eq] at h' ⊢;omega
             . rw [if_pos (by omega),decide_eq_true_eq] at h
               by_cases e8:bl.length=cl.length
               . rw [if_pos (by omega),decide_eq_true_eq];omega
               . rw [if_pos (by omega),decide_eq_true_eq] at h'
                 rw [if_pos (by omega),decide_eq_true_eq];omega
           . rw [if_pos e6] at h' ⊢;exact h'
         . rw [if_pos e5,decide_eq_true_eq] at h
           by_cases e6:bk=ck
           . subst e6;rw [if_pos e5,decide_eq_true_eq];exact h
           . rw [if_pos e6,decide_eq_true_eq] at h'
             rw [if_pos (by omega),decide_eq_true_eq];omega
       . rw [if_pos e4] at h' ⊢;exact h'
     . rw [if_pos e3,decide_eq_true_eq] at h
       by_cases e4:ba=ca
       . subst e4;rw [if_pos e3,decide_eq_true_eq];exact h
       . rw [if_pos e4,decide_eq_true_eq] at h'
         rw [if_pos (by omega),decide_eq_true_eq];omega
   . rw [if_pos e2] at h' ⊢;exact h'
 . rw [if_pos e1,decide_eq_true_eq] at h
   by_cases e2:bw=cw
   . subst e2;rw [if_pos e1,decide_eq_true_eq];exact h
   . rw [if_pos e2,decide_eq_true_eq] at h'
     rw [if_pos (by omega),decide_eq_true_eq];omega
structure Top (b0:Bst) (C:Bst->Prop) (b:Bst):Prop where
 is:b=b0\/C b
 init:Yh b0 b=false
 all:∀ q,C q->Yh q b=false
theorem Top.zero {b0:Bst}:Top b0 (fun _=>False) b0:=⟨.inl rfl,ZbJ _,fun _ h=>h.elim⟩
theorem Top.congr {b0:Bst} {C C':Bst->Prop} {b:Bst} (h:Top b0 C b) (hc:∀ q,C' q↔C q):Top b0 C' b:=⟨h.is.imp id (hc b).2,h.init,fun q hq=>h.all q ((hc q).1 hq)⟩
theorem Top.take {b0:Bst} {C:Bst->Prop} {b:Bst} (h:Top b0 C b) (q:Bst):Top b0 (fun r=>C r\/r=q) (ZgM b q):=by
 unfold ZgM
 have up:∀ r,Yh r b=false->Yh q b=true->Yh r q=false:=fun r h1 h2=>by
  cases h3:Yh r q with
  | false=>rfl
  | true=>have:=ZcE h3 h2;rw [h1] at this;cases this
 cases hq:Yh q b with
 | false =>
  simp only [Bool.false_eq_true,if_false]
  exact ⟨h.is.imp id .inl,h.init,fun r hr=>hr.elim (h.all r) (fun e=>e ▸ hq)⟩
 | true =>
  simp only [if_true]
  exact ⟨.inr (.inr rfl),up _ h.init hq,fun r hr=>hr.elim (fun q=>up r (h.all r q) hq) (fun e=>e ▸ ZbJ _)⟩
theorem Top.fold {α : Type} {b0:Bst} {f:Bst->α->Bst} {P:α->Bst->Prop} (hf:∀ {C:Bst->Prop} {b:Bst} (x:α),Top b0 C b->Top b0 (fun r=>C r\/P x r) (f b x)) :
 ∀ {l:List α} {C:Bst->Prop} {b:Bst},Top b0 C b->Top b0 (fun r=>C r\/∃ x ∈ l,P x r) (l.foldl f b)
 | [],C,b,h=>h.congr fun q=>by simp
 | x :: r,C,b,h=>(Top.fold hf (l:=r) (hf x h)).congr fun q=>by
  simp only [List.mem_cons,exists_eq_or_imp,or_assoc]
structure Ready (l:Land) (p:Span):Prop where
 small:Vg l
 ok:OkLP l p
theorem Zqp {n day:Int} {o s:Gate->Int} {t:Int} (ht:t<=100000):∀ {l:List Gate} {a:Int},Zcz n day o s a l<=t↔a<=t\/∃ g ∈ l,max day (o g)+n - 1<=s g/\max day (o g)<=t
 | [],a=>by simp [Zcz]
 | g :: l,a=>by
  simp only [Zcz]
  rw [Zqp ht (l:=l)]
  simp only [List.mem_cons,exists_eq_or_imp]
  by_cases h:max day (o g)+n - 1<=s g
  . rw [if_pos h]
    constructor
    . rintro (q | q)
      . by_cases ha:a<=t
        . exact .inl ha
        . exact .inr (.inl ⟨h,by omega⟩)
      . exact .inr (.inr q)
    . rintro (q | q | q)
      . exact .inl (by omega)
      . exact .inl (by have:=q.2;omega)
      . exact .inr q
  . rw [if_neg h]
    constructor
    . rintro (q | q)
      . exact .inl q
      . exact .inr (.inr q)
    . rintro (q | q | q)
      . exact .inl q
      . exact absurd q.1 h
      . exact .inr q
def oK (k:Bool) (g:Gate):Int:=bif k then g.opens.hi else g.opens.lo
def sK (k:Bool) (g:Gate):Int:=bif k then g.shuts.lo else g.shuts.hi
theorem Zie {k:Bool} {x:Leg} {p:Span} {t u:Int} (h:GoodLeg x) (hp:Z2 p=true) (hu:u<=100000) :
 leK k x p t<=u↔∃ g ∈ x.gates,max t (oK k g)+nK k x p - 1<=sK k g/\max t (oK k g)<=u:=by
 rw [(ZaN (k:=k) (t:=t) h hp).1,Zqp hu]
 constructor
 . rintro (q | q)
   . omega
   . exact q
 . exact fun q=>.inr q
theorem Zqg {k:Bool} {x:Leg} {p:Span} {t:Int} (h:GoodLeg x) (hp:Z2 p=true) (ht:t<=100001):t<=leK k x p t/\leK k x p t<=100001:=by
 have hn:=Zme (k:=k) h hp
 obtain ⟨_,a2,a3⟩:=ZaN (k:=k) (t:=t) h hp
 have:=ZdJ (day:=t) (o:=fun g=>bif k then g.opens.hi else g.opens.lo) hn.1 a3
 refine ⟨?_,by omega⟩
 apply Classical.byContradiction
 intro q
 obtain ⟨g,hg,h1,h2⟩:=(Zie (k:=k) (t:=t) (u:=leK k x p t) h hp (by omega)).1 (Int.le_refl _)
 omega
theorem Zdn {a b:Int} (ha:1<=a) (hb:1<=b):a<=(a+b - 1).tdiv b * b/\((a+b - 1).tdiv b - 1) * b < a:=by
 rw [Int.tdiv_eq_ediv_of_nonneg (by omega)]
 have h1:=Int.emod_add_mul_ediv (a+b - 1) b
 have h2:=Int.emod_nonneg (a+b - 1) (show b≠0 by omega)
 have h3:=Int.emod_lt_of_pos (a+b - 1) (show 0 < b by omega)
 rw [Int.sub_mul,Int.mul_comm ((a+b - 1) / b) b]
 omega
theorem Zkn {x:Leg} {p:Span} (h:GoodLeg x) (hp:Z2 p=true):nK false x p<=nK true x p:=by
 simp only [Z2,Yt,decide_eq_true_eq] at hp
 obtain ⟨h1,h2,h3,_,_⟩:=h
 simp only [nK,cond_true,cond_false,Zby]
 have u:=Zdn (a:=x.long.lo) (b:=p.hi) h1 (by omega)
 have v:=Zdn (a:=x.long.hi) (b:=p.lo) (by omega) (by omega)
 have w:0<=(x.long.hi+p.lo - 1).tdiv p.lo:=Int.tdiv_nonneg (by omega) (by omega)
 generalize (x.long.lo+p.hi - 1).tdiv p.hi=A at *
 generalize (x.long.hi+p.lo - 1).tdiv p.lo=B at *
 have q:=Int.mul_le_mul_of_nonneg_left hp.2.1 w
 apply Classical.byContradiction
 intro hc
 have q2:B * p.hi<=(A - 1) * p.hi:=Int.mul_le_mul_of_nonneg_right (by omega) (by omega)
 omega
theorem ZnG {x:Leg} {p:Span} {t:Int} (h:GoodLeg x) (hp:Z2 p=true) (ht:t<=100001):leK false x p t<=leK true x p t:=by
 have b0:=Zqg (k:=false) h hp ht
 have b1:=Zqg (k:=true) h hp ht
 have hn:=Zkn h hp
 apply Classical.byContradiction
 intro q
 obtain ⟨g,hg,h1,h2⟩:=(Zie (k:=true) (t:=t) (u:=leK true x p t) h hp (by omega)).1 (Int.le_refl _)
 have hm:=Y8 h.g2 (Int.le_refl _) g hg
 simp only [oK,sK,cond_true] at h1 h2
 exact q ((Zie (k:=false) h hp (by omega)).2 ⟨g,hg,by simp only [oK,sK,cond_false];omega,by simp only [oK,cond_false];omega⟩)
end Go.Azalai
namespace Go.Proofs.Ytiigiflofnjilaa
open Go Go.Sx Go.Azalai
end Go.Proofs.Ytiigiflofnjilaa
namespace Go.Azalai
theorem Zh8 {x:Leg} {p:Span} {t t':Int} (h:GoodLeg x) (hp:Z2 p=true) (ht:t<=t') (ht':t'<=100001):ZM false x p t<=ZM true x p t':=by
 have h1:=ZaJ (k:=false) h hp ht
 have h2:=ZnG (t:=t') h hp ht'
 have h3:=Zkn h hp
 simp only [ZM] at *;omega
def Trk (l:Land) (p:Span):Int->Int->Int->List Int->List Stop->Prop
 | _,_,_,[],[]=>True
 | v,a,b,i :: r,s :: ss=>∃ (k:Nat) (x:Leg),i=k/\l.legs[k]? = some x/\0<=Zk x v/\ZM true x p b<=100000 /\
  s=⟨k,Zk x v,⟨leK false x p a,leK true x p b⟩,⟨ZM false x p a,ZM true x p b⟩⟩/\Trk l p (Zk x v) (ZM false x p a) (ZM true x p b) r ss
 | _,_,_,_,_=>False
theorem Trk.len {l:Land} {p:Span}:∀ {legs:List Int} {ss:List Stop} {v a b:Int},Trk l p v a b legs ss->ss.length=legs.length
 | [],[],_,_,_,_=>rfl
 | i :: r,s :: ss,_,_,_,h=>by obtain ⟨_,_,_,_,_,_,_,h⟩:=h;simp [h.len]
 | [],_ :: _,_,_,_,h=>h.elim
 | _ :: _,[],_,_,_,h=>h.elim
theorem Trk.at {l:Land} {p:Span} (h:OkLP l p):∀ {legs:List Int} {ss:List Stop} {v a b:Int},Trk l p v a b legs ss->a<=b->b<=100000->∀ (i:Nat) (s:Stop),ss[i]? = some s ->
 ∃ c:List Nat,c.length=i+1/\legs.take (i+1)=c.map (fun n:Nat=>(n:Int))/\goW true l p v b c=some (s.well,s.arrives.hi)/\goW false l p v a c=some (s.well,s.arrives.lo)
 | [],[],_,_,_,_,_,_,i,s,hs=>by simp at hs
 | j :: r,s0 :: ss,v,a,b,q,hab,hb,i,s,hs=>by
  obtain ⟨k,x,rfl,hx,ho,hr,rfl,q⟩:=q
  have hm:=Zh8 (h.leg hx) h.pace hab (by omega)
  cases i with
  | zero =>
   simp only [List.getElem?_cons_zero,Option.some.injEq] at hs
   subst hs
   refine ⟨[k],rfl,by simp,?_,?_⟩
   . simp only [goW,hx];rw [if_neg (by omega),if_neg (by omega)]
   . simp only [goW,hx];rw [if_neg (by omega),if_neg (by omega)]
  | succ i =>
   simp only [List.getElem?_cons_succ] at hs
   obtain ⟨c,h1,h2,h3,h4⟩:=Trk.at h q hm hr i s hs
   refine ⟨k :: c,by simp [h1],by simp [h2],?_,?_⟩
   . simp only [goW,hx];rw [if_neg (by omega),if_neg (by omega)];exact h3
   . simp only [goW,hx];rw [if_neg (by omega),if_neg (by omega)];exact h4
 | [],_ :: _,_,_,_,q,_,_,_,_,_=>q.elim
 | _ :: _,[],_,_,_,q,_,_,_,_,_=>q.elim
theorem Zkw {l:Land} {p:Span}:∀ {legs:List Int} {v a b:Int} {k:Nat} {acc ss:List Stop} {at':Int},Wa l v legs k=none->goS l p v a b legs k acc=(ss,at',0)->∃ tt,ss=acc ++ tt/\at'=0/\Trk l p v a b legs tt
 | [],v,a,b,k,acc,ss,at',_,h=>by
  simp only [goS,Prod.mk.injEq] at h
  exact ⟨[],by simp [h.1],h.2.1.symm,trivial⟩
 | i :: r,v,a,b,k,acc,ss,at',hb,h=>by
  simp only [Wa] at hb
  by_cases he:WM l i v < 0
  . rw [if_pos he] at hb;cases hb
  rw [if_neg he] at hb
  obtain ⟨n,x,rfl,hn,hx,_,e⟩:=Za5 he
  simp only [goS,Int.toNat_natCast,hx] at h
  by_cases hr:ZM true x p b > 100000
  . rw [if_pos hr] at h;simp at h
  rw [if_neg hr] at h
  rw [e] at hb he
  obtain ⟨tt,e1,e2,e3⟩:=Zkw hb h
  exact ⟨_ :: tt,by rw [e1,List.append_assoc];rfl,e2,n,x,rfl,hx,by omega,by omega,rfl,e3⟩
theorem ZnP {l:Land} {p:Span} {s day:Int} {legs:List Int} {ss:List Stop} {at':Int} (h:Y9 l p s day legs=(ss,at',0)):at'=0/\Trk l p s day day legs ss:=by
 unfold Y9 at h
 split at h
 . rename_i q;simp at h;exact absurd h.2.2 q
 split at h
 . simp at h
 split at h
 . simp at h
 split at h
 . simp at h
 . rename_i q
   obtain ⟨tt,rfl,e2,e3⟩:=Zkw q h
   exact ⟨e2,by simpa using e3⟩
theorem ZhU {l:Land} {p:Span}:∀ {c:List Nat} {v a b w u:Int} {k:Nat} {acc:List Stop},goW true l p v b c=some (w,u) ->
 Wa l v (c.map fun n:Nat=>(n:Int)) k=none/\∃ ss,goS l p v a b (c.map fun n:Nat=>(n:Int)) k acc=(ss,0,0)
 | [],v,a,b,w,u,k,acc,_=>⟨rfl,acc,rfl⟩
 | i :: c,v,a,b,w,u,k,acc,h=>by
  simp only [goW] at h
  cases hx:l.legs[i]? with
  | none=>rw [hx] at h;cases h
  | some x =>
   rw [hx] at h
   simp only at h
   by_cases ho:Zk x v < 0
   . rw [if_pos ho] at h;cases h
   rw [if_neg ho] at h
   by_cases hr:ZM true x p b > 100000
   . rw [if_pos hr] at h;cases h
   rw [if_neg hr] at h
   have hi:i < l.legs.length:=(List.getElem?_eq_some_iff.1 hx).1
   have he:WM l (i:Int) v=Zk x v:=by rw [Zcq hi,(List.getElem?_eq_some_iff.1 hx).2]
   obtain ⟨h1,_⟩:=ZhU (a:=ZM false x p a) (k:=k+1) (acc:=[]) h
   refine ⟨?_,?_⟩
   . simp only [List.map_cons,Wa,he];rw [if_neg ho];exact h1
   . obtain ⟨_,ss,h2⟩:=ZhU (a:=ZM false x p a) (k:=k+1) (acc:=acc ++ [⟨i,Zk x v,⟨leK false x p a,leK true x p b⟩,⟨ZM false x p a,ZM true x p b⟩⟩]) h
     refine ⟨ss,?_⟩
     simp only [List.map_cons,goS,Int.toNat_natCast,hx]
     rw [if_neg hr];exact h2
theorem Zt2 {l:Land} {p:Span} (h:OkLP l p) {s day:Int} (hd:0<=day) (hd':day<=100000) (h0:0<=s) (h1:s < l.wells.length) {c:List Nat} {w u:Int} (hc:c.length<=24) (hw:goW true l p s day c=some (w,u)) :
 ∃ ss,Y9 l p s day (c.map fun n:Nat=>(n:Int))=(ss,0,0):=by
 obtain ⟨e1,ss,e2⟩:=ZhU (a:=day) (k:=0) (acc:=[]) hw
 refine ⟨ss,?_⟩
 unfold Y9
 rw [if_neg (by simp [UU,h.land,h.pace]),if_neg (by simp [inR];omega),if_neg (by simp;omega),e1]
 exact e2
theorem Gr.ends {l:Land} {p:Span} {s day to best:Int} {n0:Nat} (hg:OkLP l p) (hd:0<=day) (hd':day<=100000) (h0:0<=s) (h1:s < l.wells.length) (hb:best=YK true l p s day to) (hb':best<=100000) :
 ∀ {n:Nat} {v t:Int} {out:List Nat},Gr l p s day to best n0 n v t out->∃ v' t' out',Gr l p s day to best n0 0 v' t' out'
 | 0,v,t,out,h=>⟨v,t,out,h⟩
 | n+1,v,t,out,h=>by
  obtain ⟨i,_,hf⟩:=h.ex hg hd hd' h0 h1 hb hb'
  obtain ⟨m,⟨x,g1,g2,g3,g4⟩,hm⟩:=Go.Sx.least_ex (fun i=>Fit l p to best n v t i) ⟨i,hf⟩
  exact Gr.ends hg hd hd' h0 h1 hb hb' (h.step hg hd hd' h0 h1 hb g1 g2 g3 g4 fun j hj hq=>by have:=hm j hq;omega)
open Go.Sx
def VR (l:Land) (p:Span) (to till:Int):List Int->Int->Int->List Nat->Prop
 | _,v,t,[]=>v=to/\t<=till
 | been,v,t,i :: r=>∃ x,l.legs[i]? = some x/\0<=Zk x v/\ZM true x p t<=100000/\Zk x v ∉ v :: been/\VR l p to till (v :: been) (Zk x v) (ZM true x p t) r
theorem VR.le {l:Land} {p:Span} (h:OkLP l p) {to till:Int}:∀ {a:List Nat} {been:List Int} {v t:Int},VR l p to till been v t a->t<=100001->t<=till
 | [],_,_,_,q,_=>q.2
 | i :: r,been,v,t,q,ht=>by
  obtain ⟨x,hx,ho,hr,hn,q⟩:=q
  have:=Za3 (k:=true) (h.leg hx) h.pace ht
  have:=VR.le h q (by omega)
  omega
theorem VR.nin {l:Land} {p:Span} {to till:Int}:∀ {a:List Nat} {been:List Int} {v t:Int},VR l p to till been v t a->v ∉ been->to ∉ been
 | [],_,_,_,q,hv=>by rw [<- q.1];exact hv
 | i :: r,been,v,t,q,hv=>by
  obtain ⟨x,hx,ho,hr,hn,q⟩:=q
  have:=VR.nin q hn
  exact fun h=>this (List.mem_cons_of_mem _ h)
theorem ZhK {l:Land} {p:Span} (h:OkLP l p) {to till:Int} (htill:till<=100000):∀ {f:Nat} {been:List Int} {v t:Int} {a:List Nat},ZkC l f been->v ∉ been->(0<=v/\v < l.wells.length)->t<=100001 ->
 (a ∈ Xs l p to till f been v t↔VR l p to till been v t a):=by
 intro f
 induction f with
 | zero =>
  intro been v t a hR hv hvi
  obtain ⟨g,q,_⟩:=hR.pos hv hvi
  omega
 | succ f ih =>
  intro been v t a hR hv hvi ht
  obtain ⟨g,hg,hR'⟩:=hR.pos hv hvi
  have hgf:g=f:=by omega
  subst hgf
  rw [Yx]
  by_cases h1:t > till
  . rw [if_pos h1]
    constructor
    . intro q;cases q
    . intro q;have:=q.le h ht;omega
  rw [if_neg h1]
  by_cases h2:v=to
  . rw [if_pos h2,List.mem_singleton]
    constructor
    . rintro rfl;exact ⟨h2,by omega⟩
    . intro q
      cases a with
      | nil=>rfl
      | cons i r =>
       obtain ⟨x,hx,ho,hr,hn,q⟩:=q
       have:=q.nin hn
       exact absurd (by simp [h2]) this
  rw [if_neg h2]
  simp only [Z0,List.mem_flatMap,List.mem_range]
  constructor
  . rintro ⟨i,hi,q⟩
    simp only [YU] at q
    cases hx:l.legs[i]? with
    | none=>rw [hx] at q;cases q
    | some x =>
     rw [hx] at q
     simp only at q
     by_cases hc:Zk x v < 0\/Zk x v ∈ v :: been
     . rw [if_pos hc] at q;cases q
     rw [if_neg hc] at q
     obtain ⟨r,hr,rfl⟩:=List.mem_map.1 q
     have ho:¬ Zk x v < 0:=fun z=>hc (.inl z)
     have hn:Zk x v ∉ v :: been:=fun z=>hc (.inr z)
     have ha:=Xm (k:=true) (h.leg hx) h.pace ht
     have hr':=(ih hR' hn (ZS h hx ho).1 (by omega)).1 hr
     refine ⟨x,hx,by omega,?_,hn,hr'⟩
     have:=hr'.le h (by omega)
     omega
  . intro q
    cases a with
    | nil=>exact absurd q.1 h2
    | cons i r =>
     obtain ⟨x,hx,ho,hr,hn,q⟩:=q
     refine ⟨i,(List.getElem?_eq_some_iff.1 hx).1,?_⟩
     rw [Wk hx (by omega) hn]
     exact List.mem_map.2 ⟨r,(ih hR' hn (ZS h hx (by omega)).1 (by omega)).2 q,rfl⟩
theorem VR.len {l:Land} {p:Span} (h:OkLP l p) {to till:Int}:∀ {a:List Nat} {f:Nat} {been:List Int} {v t:Int},VR l p to till been v t a->ZkC l f been->v ∉ been->(0<=v/\v < l.wells.length)->a.length+1<=f
 | [],f,been,v,t,q,hR,hv,hi=>by obtain ⟨g,hg,_⟩:=hR.pos hv hi;simp;omega
 | i :: r,f,been,v,t,q,hR,hv,hi=>by
  obtain ⟨g,hg,hR'⟩:=hR.pos hv hi
  obtain ⟨x,hx,ho,hr,hn,q⟩:=q
  have:=VR.len h q hR' hn (ZS h hx (by omega)).1
  simp;omega
theorem Zep {l:Land} {i:Nat} {v:Int}:WM l i v=match l.legs[i]? with | some x=>Zk x v | none=>-1:=by
 cases h:l.legs[i]? with
 | none=>rw [List.getElem?_eq_none_iff] at h;exact ZgW (.inr (by omega))
 | some x =>
  obtain ⟨hi,hx⟩:=List.getElem?_eq_some_iff.1 h
  rw [Zcq hi,hx]
theorem Us {l:Land} {p:Span} {to till:Int}:∀ {c:List Nat} {been:List Int} {v t:Int},
 VR l p to till been v t c↔Xi l v (v :: been) (Y2 c)=some to/\∃ u,goW true l p v t c=some (to,u)/\u<=till
 | [],been,v,t=>by
  simp only [VR,Y2,List.map_nil,Xi,Option.some.injEq,goW,Prod.mk.injEq]
  constructor
  . rintro ⟨h1,h2⟩;exact ⟨h1,t,⟨h1,rfl⟩,h2⟩
  . rintro ⟨h1,u,⟨_,rfl⟩,h2⟩;exact ⟨h1,h2⟩
 | i :: c,been,v,t=>by
  simp only [VR,Y2,List.map_cons,Xi,goW]
  rw [Zep]
  cases hx:l.legs[i]? with
  | none =>
   constructor
   . rintro ⟨x,hx',_⟩;cases hx'
   . rintro ⟨h1,_⟩;simp at h1
  | some x =>
   simp only
   constructor
   . rintro ⟨y,hy,ho,hr,hn,q⟩
     cases hy
     obtain ⟨q1,q2⟩:=(Us (c:=c)).1 q
     rw [if_neg (by omega),if_neg hn,if_neg (by omega),if_neg (by omega)]
     exact ⟨q1,q2⟩
   . rintro ⟨h1,h2⟩
     split at h1
     . cases h1
     rename_i h3
     split at h1
     . cases h1
     rename_i h4
     rw [if_neg h3] at h2
     split at h2
     . obtain ⟨u,hu,_⟩:=h2;cases hu
     rename_i h5
     exact ⟨x,rfl,by omega,by omega,h4,(Us (c:=c)).2 ⟨h1,h2⟩⟩
theorem ZcU {l:Land} {p:Span} (hg:OkLP l p):∀ {legs:List Int} {v u:Int} {been:List Int},been.Nodup->(∀ b ∈ been,0<=b/\b < l.wells.length)->Xi l v been legs=some u->legs.length+been.length<=l.wells.length
 | [],v,u,been,h1,h2,_=>by have:=Zc4 h1 h2;simpa using this
 | i :: r,v,u,been,h1,h2,h=>by
  simp only [Xi] at h
  split at h
  . cases h
  rename_i he
  split at h
  . cases h
  rename_i hn
  obtain ⟨k,x,_,_,hx,_,e⟩:=Za5 he
  have hin:=(ZS hg hx (by rw [<- e];exact he)).1
  have:=ZcU hg (List.nodup_cons.2 ⟨hn,h1⟩) (fun b hb=>(List.mem_cons.1 hb).elim (fun q=>by rw [q,e];exact hin) (h2 b)) h
  simp only [List.length_cons] at this ⊢;omega
open Go.Proofs.Ytiigiflofnjilaa
theorem ZeC:∀ {a b:List Nat},Y2 a=Y2 b->a=b
 | [],[],_=>rfl
 | x :: a,y :: b,h=>by
  simp only [Y2,List.map_cons,List.cons.injEq] at h
  rw [ZeC (a:=a) (b:=b) h.2,show x=y by omega]
 | [],_ :: _,h=>by simp [Y2] at h
 | _ :: _,[],h=>by simp [Y2] at h
theorem lenS {s:Season} (h:OkS s) {legs:List Int} {u:Int} (hg:Xi s.land s.start [s.start] legs=some u):legs.length < s.land.wells.length/\legs.length<=24:=by
 have:=ZcU h.lp (legs:=legs) (v:=s.start) (u:=u) (been:=[s.start]) (by simp) (fun b hb=>by simp only [List.mem_singleton] at hb;subst hb;exact h.start) hg
 have hw:=h.land
 simp only [Yf,inR,Bool.and_eq_true,decide_eq_true_eq] at hw
 simp only [List.length_cons,List.length_nil] at this
 omega
theorem ZeK {s:Season} (h:OkS s) {c:List Nat} (hc:c.length<=24):ZaU s (Y2 c)=true↔∃ v u,goW true s.land s.pace s.start s.day c=some (v,u)/\u<=s.till:=by
 have hn:=h.num
 have hst:=h.start
 have key:∀ {ss:List Stop} {at':Int},Y9 s.land s.pace s.start s.day (Y2 c)=(ss,at',0)->(ZaU s (Y2 c)=true↔∃ v u,goW true s.land s.pace s.start s.day c=some (v,u)/\u<=s.till):=fun {ss at'} hw=>by
  obtain ⟨_,ht⟩:=ZnP hw
  have hss:Ya s (Y2 c)=ss:=by unfold Ya;rw [hw]
  have hlen:=ht.len
  simp only [Y2,List.length_map] at hlen
  unfold ZaU
  rw [hss,hw]
  simp only [decide_true,Bool.true_and,Bool.or_eq_true,decide_eq_true_eq]
  by_cases h0:ss.length=0
  . have:c=[]:=List.eq_nil_of_length_eq_zero (by omega)
    subst this
    exact ⟨fun _=>⟨s.start,s.day,rfl,by omega⟩,fun _=>.inl h0⟩
  . obtain ⟨c',h1,h2,h3,_⟩:=ht.at h.lp (Int.le_refl _) (by omega) (ss.length - 1) (Zfh ss) (Zds h0)
    have hcc:c'=c:=by
     have e:(Y2 c).take (ss.length - 1+1)=Y2 c:=List.take_of_length_le (by simp [Y2];omega)
     rw [e] at h2
     exact ZeC h2.symm
    subst hcc
    constructor
    . rintro (q | q)
      . exact absurd q h0
      . exact ⟨_,_,h3,q⟩
    . rintro ⟨v,u,e,q⟩
      rw [h3] at e
      simp only [Option.some.injEq,Prod.mk.injEq] at e
      exact .inr (by omega)
 constructor
 . intro q
   have q':=q
   simp only [ZaU,Bool.and_eq_true,decide_eq_true_eq] at q'
   have:Y9 s.land s.pace s.start s.day (Y2 c)=((Y9 s.land s.pace s.start s.day (Y2 c)).1,(Y9 s.land s.pace s.start s.day (Y2 c)).2.1,0):=by
    rw [<- q'.1]
   exact (key this).1 q
 . rintro ⟨v,u,e,q⟩
   obtain ⟨ss,hw⟩:=Zt2 h.lp (by omega) (by omega) hst.1 hst.2 hc e
   exact (key hw).2 ⟨v,u,e,q⟩
theorem Ze6 {k:Bool} {l:Land} {p:Span} {w u to:Int}:∀ {c:List Nat} {v t:Int} {been:List Int},goW k l p v t c=some (w,u)->Xi l v been (Y2 c)=some to->w=to
 | [],v,t,been,h,h'=>by
  simp only [goW,Option.some.injEq,Prod.mk.injEq,Y2,List.map_nil,Xi] at h h'
  omega
 | i :: c,v,t,been,h,h'=>by
  simp only [goW,Y2,List.map_cons,Xi] at h h'
  rw [Zep] at h'
  cases hx:l.legs[i]? with
  | none=>rw [hx] at h;cases h
  | some x =>
   rw [hx] at h h'
   simp only at h h'
   split at h
   . cases h
   rename_i h1
   split at h
   . cases h
   rw [if_neg h1] at h'
   split at h'
   . cases h'
   exact Ze6 h h'
theorem Zl8 {s:Season} (h:OkS s) {to:Int} {c:List Nat}:c ∈ Ut s.land s.pace s.start to s.day s.till↔Xi s.land s.start [s.start] (Y2 c)=some to/\ZaU s (Y2 c)=true:=by
 have hn:=h.num
 unfold Ut
 rw [ZhK h.lp (by omega) ZkC.start (by simp) h.start (by omega),Us]
 constructor
 . rintro ⟨h1,u,h2,h3⟩
   have hl:=(lenS h h1).2
   exact ⟨h1,(ZeK h (by simpa [Y2] using hl)).2 ⟨_,_,h2,h3⟩⟩
 . rintro ⟨h1,h2⟩
   have hl:=(lenS h h1).2
   obtain ⟨v,u,h3,h4⟩:=(ZeK h (by simpa [Y2] using hl)).1 h2
   refine ⟨h1,u,?_,h4⟩
   rw [Ze6 h3 h1] at h3;exact h3
theorem Zpf {l:Land} {well day:Int}:0<=(Wn l well [] day).1.lo:=by
 unfold Wn
 split
 . exact Int.le_refl _
 rename_i h1
 split
 . exact Int.le_refl _
 rename_i h2
 split
 . exact Int.le_refl _
 split
 . exact Int.le_refl _
 split
 . rename_i w hw
   simp only [Bool.not_eq_false,Yf,Bool.and_eq_true,List.all_eq_true,inR,decide_eq_true_eq] at h1 h2
   have hwell:=h1.1.2 w (List.mem_of_getElem? hw)
   simp only [XK,Yt,inR,Bool.and_eq_true,decide_eq_true_eq] at hwell
   have:0<=(day - 1 - -1) * w.yld.lo:=Int.mul_nonneg (by omega) (by omega)
   simp only [Vk,XR]
   omega
 . exact Int.le_refl _
theorem Zp4 {s:Season} {x:Scene} (st:Stop):0<=ZcB s x st:=Zpf
theorem ZnW {s:Season} {p:Plan} {to:Int} (hto:Xi s.land s.start [s.start] p.legs=some to) (ha:0<=p.animals/\p.animals<=s.herd) (hs:0<=p.slabs/\p.slabs<=12):X4 s p=true:=by
 simp only [X4,hto,Option.isSome_some,inR,Bool.true_and,Bool.and_eq_true,decide_eq_true_eq];omega
theorem ZqQ {s:Season} (h:OkS s) {a:List Int} {k:Int}:0<=Zd6 s a k/\Zd6 s a k<=s.herd:=Zid (by have:=h.num;omega) (fun _ _=>Zp4)
end Go.Azalai
namespace Go.Proofs.Ytiigiflofnjilaa
open Go Go.Sx
def c22:SC:=(.seq (.reg [
 o1 2 (.box (.t 0) 0 42),
 o1 4 (.alloc [.int .i64 0,.int .i64 0,.int .i64 0,.int .i64 0] 81)])
 (.seq (.reg [
 m1 5 1,
 o1 6 (.addo (.t 2) 1),
 o1 7 (.ld (.t 6) 1 false),
 o1 8 (.un .neg (.t 7)),
 o1 9 (.addo (.t 2) 2),
 o1 10 (.ld (.t 9) 1 false),
 o1 11 (.un .neg (.t 10)),
 o1 12 (.addo (.t 2) 0),
 o1 13 (.ld (.t 12) 1 false),
 o1 14 (.len (.t 13)),
 o1 15 (.un .neg (.t 14)),
 o1 16 (.build [.int .i64 0,.int .i64 0,.int .i64 0,.int .i64 0] [(0,1,.t 5),(1,1,.t 8),(2,1,.t 11),(3,1,.t 15)]),
 ⟨none,.st (.t 4) (.t 16) 4,none,[]⟩])
 .ret))
def r22:List RV:=[.cell 4 4 true]
theorem t22:Qt1 Try.prog 22 c22 r22 17:=Yn Try.func22 rfl (by kernel_rfl) (by kernel_rfl) (by kernel_rfl) (by kernel_rfl)
def c25:SC:=(.seq (.reg [
 o1 4 (.box (.t 0) 0 42),
 o1 5 (.box (.t 1) 0 81),
 o1 6 (.box (.t 2) 0 42),
 o1 7 (.box (.t 3) 0 81),
 o1 8 (.mv (.c (.bool false)))])
 (.seq (.seq (.reg [
 o1 10 (.ld (.t 5) 4 true),
 o1 11 (.ld (.t 7) 4 true),
 o1 12 (.eqs false true [1,1,1,1] (.t 10) (.t 11))])
 (.cond (.t 12)
 (.seq (.reg [
  o1 13 (.addo (.t 4) 0),
  o1 14 (.ld (.t 13) 1 false),
  o1 15 (.addo (.t 6) 0),
  o1 16 (.ld (.t 15) 1 false),
  o1 17 (.call 45 [.t 14,.t 16]),
  o1 18 (.bin .lss (.t 17) (.c (.int .i64 0))),
  m1 8 18])
  .ret)
 .skip))
 (.seq (.seq (.reg [
 o1 19 (.mv (.c (.int .i64 0)))])
 (.block 0 (.loop (.seq (.reg [
  o1 20 (.bin .lss (.t 19) (.c (.int .i64 4)))])
  (.seq (.cond (.t 20)
  .skip
  (.exit 0))
  (.seq (.block 1 (.seq (.reg [
   m1 21 19,
   m1 9 21])
   (.seq (.regd [0,1,2,3,4,5,6] [
   .op (m1 22 9),
   .op ⟨some 23,.ixa (.t 5) (.t 22) 4 1,none,[0]⟩,
   .op ⟨some 24,.ld (.t 23) 1 false,none,[1]⟩,
   .op (m1 25 9),
   .op ⟨some 26,.ixa (.t 7) (.t 25) 4 1,none,[3]⟩,
   .op ⟨some 27,.ld (.t 26) 1 false,none,[4]⟩,
   .op ⟨some 28,.bin .neq (.t 24) (.t 27),none,[2,5]⟩] 0 0 [
])
 (.cond (.t 28)
 (.seq (.regd [0,1,2,3,4,5,6,7] [
  .op (m1 29 9),
  .op ⟨some 30,.ixa (.t 5) (.t 29) 4 1,none,[0]⟩,
  .op ⟨some 31,.ld (.t 30) 1 false,none,[1]⟩,
  .op (m1 32 9),
  .op ⟨some 33,.ixa (.t 7) (.t 32) 4 1,none,[3]⟩,
  .op ⟨some 34,.ld (.t 33) 1 false,none,[4]⟩,
  .op ⟨some 35,.bin .gtr (.t 31) (.t 34),none,[2,5]⟩,
  .op ⟨some 8,.mv (.t 35),none,[0,1,2,3,4,5,6]⟩] 0 0 [
])
 .ret)
 .skip))))
 (.reg [
 o1 36 (.bin .add (.t 19) (.c (.int .i64 1))),
 m1 19 36])))))))
 (.seq (.reg [
 o1 8 (.mv (.c (.bool false)))])
 .ret))))
def r25:List RV:=[.tmp 8]
theorem t25:Qt1 Try.prog 25 c25 r25 37:=Yn Try.func25 rfl (by kernel_rfl) (by kernel_rfl) (by kernel_rfl) (by kernel_rfl)
def c13:SC:=(.seq (.reg [
 o1 1 (.box (.t 0) 0 38),
 o1 2 (.mv (.c (.int .i64 0))),
 o1 3 (.mv (.c (.int .i64 0)))])
 (.seq (.seq (.reg [
 o1 14 (.ld (.t 1) 37 true),
 o1 15 (.call 12 [.t 14]),
 m1 4 15])
 (.seq (.reg [
 m1 16 4,
 o1 17 (.bin .neq (.t 16) (.c (.int .i64 0)))])
 (.cond (.t 17)
 (.seq (.reg [
  m1 18 4,
  o1 2 (.mv (.c (.int .i64 0))),
  m1 3 18])
  .ret)
 .skip)))
 (.seq (.reg [
 o1 20 (.addo (.t 1) 0),
 o1 21 (.ld (.t 20) 2 true),
 o1 22 (.addo (.t 1) 33),
 o1 23 (.ld (.t 22) 1 false),
 o1 24 (.addo (.t 1) 34),
 o1 25 (.ld (.t 24) 1 false),
 o1 26 (.addo (.t 1) 2),
 o1 27 (.ld (.t 26) 2 true),
 o1 28 (.call 26 [.t 21,.t 23,.t 25,.t 27]),
 m1 19 28,
 o1 29 (.ext (.t 19) 0),
 o1 30 (.ext (.t 19) 1),
 m1 5 29,
 m1 6 30])
 (.seq (.reg [
 o1 31 (.addo (.t 1) 4),
 o1 32 (.addo (.t 31) 15),
 o1 33 (.addo (.t 32) 0),
 o1 34 (.ld (.t 33) 1 false),
 o1 35 (.addo (.t 1) 30),
 o1 36 (.ld (.t 35) 1 false),
 o1 37 (.div .quo (.t 34) (.t 36)),
 o1 38 (.mm false [.c (.int .i64 12),.t 37]),
 m1 7 38])
 (.seq (.reg [
 o1 8 (.mv (.c (.slice none 0 0)))])
 (.seq (.seq (.reg [
 o1 39 (.addo (.t 1) 36),
 o1 40 (.ld (.t 39) 1 false),
 o1 41 (.len (.t 40)),
 o1 42 (.mv (.c (.int .i64 0)))])
 (.block 0 (.loop (.seq (.reg [
  o1 43 (.bin .lss (.t 42) (.t 41))])
  (.seq (.cond (.t 43)
  .skip
  (.exit 0))
  (.seq (.block 1 (.seq (.reg [
   o1 44 (.ixs (.t 40) (.t 42) 6),
   o1 45 (.ld (.t 44) 6 true),
   o1 10 (.alloc zv5 75),
   ⟨none,.st (.t 10) (.t 45) 6,none,[]⟩])
   (.seq (.reg [
   o1 46 (.addo (.t 1) 32),
   o1 47 (.ld (.t 46) 1 false),
   m1 11 47])
   (.seq (.seq (.reg [
   m1 48 5,
   o1 49 (.len (.t 48)),
   o1 50 (.mv (.c (.int .i64 0)))])
   (.block 2 (.loop (.seq (.reg [
    o1 51 (.bin .lss (.t 50) (.t 49))])
    (.seq (.cond (.t 51)
    .skip
    (.exit 2))
    (.seq (.block 3 (.seq (.reg [
     m1 52 50,
     o1 53 (.ixs (.t 48) (.t 50) 2),
     o1 54 (.ld (.t 53) 2 true),
     o1 13 (.alloc [.int .i64 0,.int .i64 0] 31),
     m1 12 52,
     ⟨none,.st (.t 13) (.t 54) 2,none,[]⟩])
     (.seq (.reg [
     o1 55 (.addo (.t 13) 1),
     o1 56 (.ld (.t 55) 1 false),
     o1 57 (.addo (.t 1) 35),
     o1 58 (.ld (.t 57) 1 false),
     o1 59 (.bin .leq (.t 56) (.t 58))])
     (.cond (.t 59)
     (.regd [0,1,2,3,4,5,6,7,8,9,10,11,12] [
      .op (m1 60 11),
      .op (m1 61 7),
      .op (o1 62 (.addo (.t 10) 5)),
      .op ⟨some 63,.ld (.t 62) 1 false,none,[2]⟩,
      .op (m1 64 12),
      .op ⟨some 65,.ixs (.t 63) (.t 64) 1,none,[3,4]⟩,
      .op ⟨some 66,.ld (.t 65) 1 false,none,[5]⟩,
      .op (o1 67 (.addo (.t 1) 31)),
      .op ⟨some 68,.ld (.t 67) 1 false,none,[7]⟩,
      .op ⟨some 69,.bin .sub (.t 66) (.t 68),none,[6,8]⟩,
      .op ⟨some 70,.bin .mul (.t 61) (.t 69),none,[1,9]⟩,
      .op ⟨some 71,.mm true [.t 60,.t 70],none,[0,10]⟩] 0 0 [
      ⟨some 11,.mv (.t 71),none,[0,1,2,3,4,5,6,7,8,9,10,11]⟩])
     .skip))))
    (.reg [
    o1 72 (.bin .add (.t 50) (.c (.int .i64 1))),
    m1 50 72])))))))
   (.gh (.reg [
   m1 73 8,
   o1 74 (.addo (.t 1) 28),
   o1 75 (.ld (.t 74) 1 false),
   m1 76 11,
   o1 77 (.bin .mul (.t 75) (.t 76)),
   o1 78 (.bsl 1 3 [.t 77]),
   o1 79 (.appm 1 8 3 (.t 73) (.t 78)),
   m1 8 79]))))))
  (.gh (.reg [
  o1 80 (.bin .add (.t 42) (.c (.int .i64 1))),
  m1 42 80]))))))))
 (.gh (.seq (.reg [
 m1 81 8,
 o1 82 (.call 29 [.t 81]),
 m1 2 82,
 o1 3 (.mv (.c (.int .i64 0)))])
 .ret))))))))
def r13:List RV:=[.tmp 2,.tmp 3]
theorem t13:Qt1 Try.prog 13 c13 r13 83:=Yn Try.func13 rfl (by kernel_rfl) (by kernel_rfl) (by kernel_rfl) (by kernel_rfl)
def c11:SC:=(.seq (.reg [
 o1 1 (.box (.t 0) 0 38),
 o1 2 (.alloc [.slice none 0 0,.int .i64 0,.int .i64 0] 42),
 o1 3 (.mv (.c (.int .i64 0))),
 o1 4 (.mv (.c (.int .i64 0)))])
 (.seq (.seq (.reg [
 o1 17 (.ld (.t 1) 37 true),
 o1 18 (.call 12 [.t 17]),
 m1 5 18])
 (.seq (.reg [
 m1 19 5,
 o1 20 (.bin .neq (.t 19) (.c (.int .i64 0)))])
 (.cond (.t 20)
 (.seq (.reg [
  o1 21 (.build [.slice none 0 0,.int .i64 0,.int .i64 0] []),
  m1 22 5,
  ⟨none,.st (.t 2) (.t 21) 3,none,[]⟩,
  o1 3 (.mv (.c (.int .i64 0))),
  m1 4 22])
  .ret)
 .skip)))
 (.seq (.reg [
 o1 23 (.addo (.t 1) 28),
 o1 24 (.ld (.t 23) 1 false),
 o1 25 (.addo (.t 1) 32),
 o1 26 (.ld (.t 25) 1 false),
 o1 27 (.bin .mul (.t 24) (.t 26)),
 m1 3 27])
 (.seq (.reg [
 o1 28 (.ld (.t 2) 3 true),
 m1 29 3,
 o1 30 (.call 22 [.t 28,.t 29]),
 o1 6 (.alloc [.int .i64 0,.int .i64 0,.int .i64 0,.int .i64 0] 81),
 ⟨none,.st (.t 6) (.t 30) 4,none,[]⟩])
 (.seq (.seq (.reg [
 o1 31 (.addo (.t 1) 0),
 o1 32 (.addo (.t 31) 0),
 o1 33 (.ld (.t 32) 1 false),
 o1 34 (.len (.t 33)),
 o1 35 (.mv (.c (.int .i64 0)))])
 (.block 0 (.loop (.seq (.reg [
  o1 36 (.bin .lss (.t 35) (.t 34))])
  (.seq (.cond (.t 36)
  .skip
  (.exit 0))
  (.seq (.block 1 (.seq (.reg [
   m1 37 35,
   m1 7 37])
   (.seq (.reg [
   o1 39 (.addo (.t 1) 0),
   o1 40 (.ld (.t 39) 2 true),
   o1 41 (.addo (.t 1) 33),
   o1 42 (.ld (.t 41) 1 false),
   m1 43 7,
   o1 44 (.addo (.t 1) 34),
   o1 45 (.ld (.t 44) 1 false),
   o1 46 (.addo (.t 1) 35),
   o1 47 (.ld (.t 46) 1 false),
   o1 48 (.addo (.t 1) 2),
   o1 49 (.ld (.t 48) 2 true),
   o1 50 (.call 23 [.t 40,.t 42,.t 43,.t 45,.t 47,.t 49]),
   m1 38 50,
   o1 51 (.ext (.t 38) 0),
   o1 52 (.ext (.t 38) 1),
   m1 8 51,
   m1 9 52])
   (.seq (.seq (.reg [
   m1 53 9,
   o1 54 (.bin .neq (.t 53) (.c (.int .i64 0)))])
   (.cond (.t 54)
   (.seq (.reg [
    o1 55 (.build [.slice none 0 0,.int .i64 0,.int .i64 0] []),
    ⟨none,.st (.t 2) (.t 55) 3,none,[]⟩,
    o1 3 (.mv (.c (.int .i64 0))),
    o1 4 (.mv (.c (.int .i64 9)))])
    .ret)
   .skip))
   (.seq (.reg [
   m1 56 8,
   o1 57 (.len (.t 56)),
   o1 58 (.mv (.c (.int .i64 0)))])
   (.block 2 (.loop (.seq (.reg [
    o1 59 (.bin .lss (.t 58) (.t 57))])
    (.seq (.cond (.t 59)
    .skip
    (.exit 2))
    (.seq (.block 3 (.seq (.reg [
     o1 60 (.ixs (.t 56) (.t 58) 1),
     o1 61 (.ld (.t 60) 1 false),
     m1 11 61])
     (.scope (.seq (.label 0)
     (.seq (.reg [
     o1 62 (.mv (.c (.int .i64 0)))])
     (.block 4 (.loop (.seq (.reg [
      o1 63 (.bin .lss (.t 62) (.c (.int .i64 13)))])
      (.seq (.cond (.t 63)
      .skip
      (.exit 4))
      (.seq (.block 5 (.seq (.reg [
       m1 64 62,
       m1 12 64])
       (.seq (.reg [
       o1 65 (.ld (.t 1) 37 true),
       m1 66 11,
       m1 67 12,
       o1 68 (.call 24 [.t 65,.t 66,.t 67]),
       m1 13 68])
       (.block 6 (.loop (.seq (.block 7 (.seq (.seq (.reg [
        m1 71 13,
        o1 72 (.bin .eql (.t 71) (.c (.int .i64 0)))])
        (.cond (.t 72)
        (.exit 5)
        .skip))
        (.seq (.reg [
        m1 73 11,
        m1 74 13,
        m1 75 12,
        o1 76 (.build [.slice none 0 0,.int .i64 0,.int .i64 0] [(0,1,.t 73),(1,1,.t 74),(2,1,.t 75)]),
        o1 14 (.alloc [.slice none 0 0,.int .i64 0,.int .i64 0] 42),
        ⟨none,.st (.t 14) (.t 76) 3,none,[]⟩])
        (.seq (.reg [
        o1 77 (.ld (.t 1) 37 true),
        o1 78 (.ld (.t 14) 3 true),
        m1 79 7,
        o1 80 (.call 20 [.t 77,.t 78,.t 79]),
        m1 15 80])
        (.seq (.reg [
        o1 81 (.ld (.t 14) 3 true),
        m1 82 15,
        o1 83 (.call 22 [.t 81,.t 82]),
        o1 16 (.alloc [.int .i64 0,.int .i64 0,.int .i64 0,.int .i64 0] 81),
        ⟨none,.st (.t 16) (.t 83) 4,none,[]⟩])
        (.seq (.reg [
        o1 84 (.ld (.t 14) 3 true),
        o1 85 (.ld (.t 16) 4 true),
        o1 86 (.ld (.t 2) 3 true),
        o1 87 (.ld (.t 6) 4 true),
        o1 88 (.call 25 [.t 84,.t 85,.t 86,.t 87])])
        (.cond (.t 88)
        (.regd [0,1,2,3,4,5] [
         .op (o1 89 (.ld (.t 14) 3 true)),
         .hide (.t 2),
         .op (m1 90 15),
         .op (o1 91 (.ld (.t 16) 4 true))] 0 3 [
         ⟨none,.st (.t 2) (.t 89) 3,none,[0]⟩,
         ⟨some 3,.mv (.t 90),none,[0,1,3]⟩,
         ⟨none,.st (.t 6) (.t 91) 4,none,[0,1,2,3,4]⟩])
        .skip)))))))
        (.reg [
        m1 69 13,
        o1 70 (.bin .sub (.t 69) (.c (.int .i64 1))),
        m1 13 70])))))))
      (.reg [
      o1 92 (.bin .add (.t 62) (.c (.int .i64 1))),
      m1 62 92])))))))))))
    (.reg [
    o1 93 (.bin .add (.t 58) (.c (.int .i64 1))),
    m1 58 93])))))))))))
  (.reg [
  o1 94 (.bin .add (.t 35) (.c (.int .i64 1))),
  m1 35 94])))))))
 (.seq (.reg [
 o1 95 (.ld (.t 2) 3 true),
 m1 96 3,
 ⟨none,.st (.t 2) (.t 95) 3,none,[]⟩,
 m1 3 96,
 o1 4 (.mv (.c (.int .i64 0)))])
 .ret))))))
def r11:List RV:=[.cell 2 3 true,.tmp 3,.tmp 4]
theorem n11:Try.f11.ntmps=97:=by kernel_rfl
theorem b11:YE Try.prog 11=true:=by kernel_rfl
theorem Zu2:Xt Try.prog c11 ((Try.f11.body).getD .skip)=true:=by kernel_rfl
theorem ZvV:X8 Try.prog r11 Try.f11.results.toList=true:=by kernel_rfl
def c6:SC:=(.seq (.reg [
 o1 0 (.alloc zv0 38)])
 (.seq (.reg [
 o1 1 (.mv (.f 18))])
 (.seq (.reg [
 o1 2 (.build zv4 []),
 o1 3 (.build zv4 [(5,1,.c (.int .i64 1000000))]),
 o1 4 (.build zv4 []),
 o1 5 (.bsl 9 72 [.t 2,.t 3,.t 4]),
 m1 6 1,
 o1 7 (.calv (.t 6) [.c (.int .i64 0),.c (.int .i64 1),.c (.int .i64 40000)]),
 m1 8 1,
 o1 9 (.calv (.t 8) [.c (.int .i64 1),.c (.int .i64 2),.c (.int .i64 40000)]),
 m1 10 1,
 o1 11 (.calv (.t 10) [.c (.int .i64 0),.c (.int .i64 2),.c (.int .i64 100000)]),
 o1 12 (.bsl 5 67 [.t 7,.t 9,.t 11]),
 o1 13 (.build [.slice none 0 0,.slice none 0 0] [(0,1,.t 5),(1,1,.t 12)]),
 o1 14 (.call 8 [.c (.int .i64 20000),.c (.int .i64 20000)]),
 o1 15 (.call 8 [.c (.int .i64 5000),.c (.int .i64 5000)]),
 o1 16 (.call 8 [.c (.int .i64 1000),.c (.int .i64 1000)]),
 o1 17 (.call 8 [.c (.int .i64 100),.c (.int .i64 100)]),
 o1 18 (.call 8 [.c (.int .i64 200000),.c (.int .i64 200000)]),
 o1 19 (.build [.int .i64 0,.int .i64 0,.int .i64 0,.int .i64 0,.int .i64 0,.int .i64 0,.int .i64 0,.int .i64 0,.int .i64 0,.int .i64 0,.int .i64 0,.int .i64 0,.int .i64 0,.int .i64 0,.int .i64 0,.int .i64 0,.int .i64 0] [(0,1,.c (.int .i64 100000)),(1,1,.c (.int .i64 50000)),(2,2,.t 15),(6,2,.t 16),(8,2,.t 17),(15,2,.t 18)]),
 o1 20 (.call 8 [.c (.int .i64 100000),.c (.int .i64 100000)]),
 o1 21 (.call 8 [.c (.int .i64 50000),.c (.int .i64 50000)]),
 o1 22 (.build zv3 [(0,2,.t 20),(2,2,.t 21)]),
 o1 23 (.build [.int .i64 0,.int .i64 0] []),
 o1 24 (.call 8 [.c (.int .i64 50000),.c (.int .i64 50000)]),
 o1 25 (.build [.int .i64 0,.int .i64 0] []),
 o1 26 (.bsl 2 31 [.t 23,.t 24,.t 25]),
 o1 27 (.bsl 1 3 [.c (.int .i64 10),.c (.int .i64 12),.c (.int .i64 40)]),
 o1 28 (.build zv5 [(4,1,.t 26),(5,1,.t 27)]),
 o1 29 (.bsl 6 75 [.t 28]),
 o1 30 (.build zv0 [(0,2,.t 13),(2,2,.t 14),(4,17,.t 19),(21,7,.t 22),(28,1,.c (.int .i64 10)),(29,1,.c (.int .i64 10)),(30,1,.c (.int .i64 50000)),(31,1,.c (.int .i64 10)),(32,1,.c (.int .i64 60)),(35,1,.c (.int .i64 20)),(36,1,.t 29)]),
 ⟨none,.st (.t 0) (.t 30) 37,none,[]⟩])
 .ret)))
def r6:List RV:=[.cell 0 37 true]
theorem n6:Try.f6.ntmps=31:=by kernel_rfl
theorem b6:YE Try.prog 6=true:=by kernel_rfl
theorem c6_ok:Xt Try.prog c6 ((Try.f6.body).getD .skip)=true:=by kernel_rfl
theorem r6_ok:X8 Try.prog r6 Try.f6.results.toList=true:=by kernel_rfl
def c18:SC:=(.seq (.reg [
 o1 6 (.alloc zv8 67)])
 (.seq (.reg [
 m1 7 0,
 m1 8 1,
 m1 9 2,
 m1 10 2,
 o1 11 (.call 8 [.t 9,.t 10]),
 o1 12 (.call 8 [.c (.int .i64 99),.c (.int .i64 99)]),
 o1 13 (.build [.int .i64 0,.int .i64 0,.int .i64 0,.int .i64 0] [(2,2,.t 12)]),
 o1 14 (.bsl 4 69 [.t 13]),
 o1 15 (.build zv8 [(0,1,.t 7),(1,1,.t 8),(2,2,.t 11),(4,1,.t 14)]),
 ⟨none,.st (.t 6) (.t 15) 5,none,[]⟩])
 .ret))
def r18:List RV:=[.cell 6 5 true]
theorem n18:Try.f18.ntmps=16:=by kernel_rfl
theorem b18:YE Try.prog 18=true:=by kernel_rfl
theorem ZvQ:Xt Try.prog c18 ((Try.f18.body).getD .skip)=true:=by kernel_rfl
theorem ZvE:X8 Try.prog r18 Try.f18.results.toList=true:=by kernel_rfl
def c7:SC:=(.seq (.reg [
 o1 6 (.alloc [.slice none 0 0,.int .i64 0,.int .i64 0] 42)])
 (.seq (.reg [
 m1 7 2,
 m1 8 0,
 m1 9 1,
 o1 10 (.build [.slice none 0 0,.int .i64 0,.int .i64 0] [(0,1,.t 7),(1,1,.t 8),(2,1,.t 9)]),
 ⟨none,.st (.t 6) (.t 10) 3,none,[]⟩])
 .ret))
def r7:List RV:=[.cell 6 3 true]
theorem n7:Try.f7.ntmps=11:=by kernel_rfl
theorem b7:YE Try.prog 7=true:=by kernel_rfl
theorem c7_ok:Xt Try.prog c7 ((Try.f7.body).getD .skip)=true:=by kernel_rfl
theorem r7_ok:X8 Try.prog r7 Try.f7.results.toList=true:=by kernel_rfl
def c8:SC:=(.seq (.reg [
 o1 4 (.alloc [.int .i64 0,.int .i64 0] 31)])
 (.seq (.reg [
 m1 5 0,
 m1 6 1,
 o1 7 (.build [.int .i64 0,.int .i64 0] [(0,1,.t 5),(1,1,.t 6)]),
 ⟨none,.st (.t 4) (.t 7) 2,none,[]⟩])
 .ret))
def r8:List RV:=[.cell 4 2 true]
theorem t8:Qt1 Try.prog 8 c8 r8 8:=Yn Try.func8 rfl (by kernel_rfl) (by kernel_rfl) (by kernel_rfl) (by kernel_rfl)
def c4:SC:=(.seq (.reg [
 o1 0 (.mv (.c (.bool false)))])
 (.seq (.reg [
 o1 23 (.call 6 []),
 o1 24 (.bsl 1 3 [.c (.int .i64 0),.c (.int .i64 1)]),
 o1 25 (.call 7 [.c (.int .i64 2),.c (.int .i64 2),.t 24]),
 o1 26 (.call 5 [.t 23,.t 25]),
 m1 22 26,
 o1 27 (.ext (.t 22) 0),
 o1 28 (.ext (.t 22) 1),
 o1 29 (.ext (.t 22) 2),
 o1 30 (.ext (.t 22) 3),
 m1 1 27,
 m1 2 28,
 m1 3 29,
 m1 4 30])
 (.seq (.reg [
 o1 32 (.call 6 []),
 o1 33 (.bsl 1 3 [.c (.int .i64 0),.c (.int .i64 1)]),
 o1 34 (.call 7 [.c (.int .i64 3),.c (.int .i64 2),.t 33]),
 o1 35 (.call 5 [.t 32,.t 34]),
 m1 31 35,
 o1 36 (.ext (.t 31) 0),
 o1 37 (.ext (.t 31) 1),
 o1 38 (.ext (.t 31) 2),
 o1 39 (.ext (.t 31) 3),
 m1 5 36,
 m1 6 37,
 m1 7 38,
 m1 8 39])
 (.seq (.reg [
 o1 41 (.call 6 []),
 o1 42 (.bsl 1 3 [.c (.int .i64 2)]),
 o1 43 (.call 7 [.c (.int .i64 10),.c (.int .i64 1),.t 42]),
 o1 44 (.call 5 [.t 41,.t 43]),
 m1 40 44,
 o1 45 (.ext (.t 40) 0),
 o1 46 (.ext (.t 40) 1),
 o1 47 (.ext (.t 40) 2),
 o1 48 (.ext (.t 40) 3),
 m1 9 45,
 m1 10 46,
 m1 11 47,
 m1 12 48])
 (.seq (.reg [
 o1 50 (.call 6 []),
 o1 51 (.bsl 1 3 [.c (.int .i64 0),.c (.int .i64 1)]),
 o1 52 (.call 7 [.c (.int .i64 2),.c (.int .i64 2),.t 51]),
 o1 53 (.call 9 [.t 50,.t 52]),
 m1 49 53,
 o1 54 (.ext (.t 49) 0),
 o1 55 (.ext (.t 49) 1),
 m1 13 54,
 m1 14 55])
 (.seq (.reg [
 o1 57 (.call 6 []),
 o1 58 (.bsl 1 3 [.c (.int .i64 0),.c (.int .i64 1)]),
 o1 59 (.call 7 [.c (.int .i64 2),.c (.int .i64 2),.t 58]),
 o1 60 (.call 10 [.t 57,.t 59,.c (.int .i64 0)]),
 m1 56 60,
 o1 61 (.ext (.t 56) 0),
 o1 62 (.ext (.t 56) 1),
 m1 15 61,
 m1 16 62])
 (.seq (.reg [
 o1 64 (.call 6 []),
 o1 65 (.call 11 [.t 64]),
 m1 63 65,
 o1 66 (.ext (.t 63) 0),
 o1 67 (.ext (.t 63) 1),
 o1 68 (.ext (.t 63) 2),
 o1 17 (.alloc [.slice none 0 0,.int .i64 0,.int .i64 0] 42),
 ⟨none,.st (.t 17) (.t 66) 3,none,[]⟩,
 m1 18 67,
 m1 19 68])
 (.seq (.reg [
 o1 70 (.call 6 []),
 o1 71 (.call 13 [.t 70]),
 m1 69 71,
 o1 72 (.ext (.t 69) 0),
 o1 73 (.ext (.t 69) 1),
 m1 20 72,
 m1 21 73])
 (.seq (.regd [0,1,2,3,4,5,6,7,8,9,10,11,12,13,14,15,16,17,18,19,20,21,22,23,24,25,26,27,28,29,30,31,32,33,34,35,36,37,38,39,40,41,42,43,44,45,46,47,48,49,50,51,52,53,54,55,56,57,58,59,60,61,62] [
 .op (m1 74 4),
 .op ⟨some 75,.bin .eql (.t 74) (.c (.int .i64 0)),none,[0]⟩,
 .op ⟨some 76,.mv (.t 75),none,[1]⟩,
 .op ⟨some 77,.mv (.t 1),some (76,true),[2]⟩,
 .op ⟨some 78,.bin .eql (.t 77) (.c (.int .u8 0)),some (76,true),[2,3]⟩,
 .op ⟨some 79,.pick (.t 76) (.t 78) (.c (.bool false)),none,[2,4]⟩,
 .op ⟨some 80,.mv (.t 79),none,[2,5]⟩,
 .op ⟨some 81,.mv (.t 8),some (80,true),[6]⟩,
 .op ⟨some 82,.bin .eql (.t 81) (.c (.int .i64 0)),some (80,true),[6,7]⟩,
 .op ⟨some 83,.pick (.t 80) (.t 82) (.c (.bool false)),none,[6,8]⟩,
 .op ⟨some 84,.mv (.t 83),none,[6,9]⟩,
 .op ⟨some 85,.mv (.t 5),some (84,true),[10]⟩,
 .op ⟨some 86,.bin .eql (.t 85) (.c (.int .u8 4)),some (84,true),[10,11]⟩,
 .op ⟨some 87,.pick (.t 84) (.t 86) (.c (.bool false)),none,[10,12]⟩,
 .op ⟨some 88,.mv (.t 87),none,[10,13]⟩,
 .op ⟨some 89,.mv (.t 12),some (88,true),[14]⟩,
 .op ⟨some 90,.bin .eql (.t 89) (.c (.int .i64 0)),some (88,true),[14,15]⟩,
 .op ⟨some 91,.pick (.t 88) (.t 90) (.c (.bool false)),none,[14,16]⟩,
 .op ⟨some 92,.mv (.t 91),none,[14,17]⟩,
 .op ⟨some 93,.mv (.t 9),some (92,true),[18]⟩,
 .op ⟨some 94,.bin .eql (.t 93) (.c (.int .u8 0)),some (92,true),[18,19]⟩,
 .op ⟨some 95,.pick (.t 92) (.t 94) (.c (.bool false)),none,[18,20]⟩,
 .op ⟨some 96,.mv (.t 95),none,[18,21]⟩,
 .op ⟨some 97,.mv (.t 14),some (96,true),[22]⟩,
 .op ⟨some 98,.bin .eql (.t 97) (.c (.int .i64 0)),some (96,true),[22,23]⟩,
 .op ⟨some 99,.pick (.t 96) (.t 98) (.c (.bool false)),none,[22,24]⟩,
 .op ⟨some 100,.mv (.t 99),none,[22,25]⟩,
 .op ⟨some 101,.mv (.t 13),some (100,true),[26]⟩,
 .op ⟨some 102,.bin .eql (.t 101) (.c (.int .i64 600)),some (100,true),[26,27]⟩,
 .op ⟨some 103,.pick (.t 100) (.t 102) (.c (.bool false)),none,[26,28]⟩,
 .op ⟨some 104,.mv (.t 103),none,[26,29]⟩,
 .op ⟨some 105,.mv (.t 16),some (104,true),[30]⟩,
 .op ⟨some 106,.bin .eql (.t 105) (.c (.int .i64 0)),some (104,true),[30,31]⟩,
 .op ⟨some 107,.pick (.t 104) (.t 106) (.c (.bool false)),none,[30,32]⟩,
 .op ⟨some 108,.mv (.t 107),none,[30,33]⟩,
 .op ⟨some 109,.mv (.t 15),some (108,true),[34]⟩,
 .op ⟨some 110,.build [.int .i64 0,.int .i64 0,.int .i64 0] [(0,1,.c (.int .i64 1)),(1,1,.c (.int .i64 2)),(2,1,.c (.int .i64 100000))],some (108,true),[34]⟩,
 .op ⟨some 111,.bsl 3 56 [.t 110],some (108,true),[34,36]⟩,
 .op ⟨some 112,.call 14 [.t 109,.t 111],some (108,true),[34,35,37]⟩,
 .op ⟨some 113,.pick (.t 108) (.t 112) (.c (.bool false)),none,[34,38]⟩,
 .op ⟨some 114,.mv (.t 113),none,[38,39]⟩,
 .op ⟨some 115,.mv (.t 19),some (114,true),[40]⟩,
 .op ⟨some 116,.bin .eql (.t 115) (.c (.int .i64 0)),some (114,true),[40,41]⟩,
 .op ⟨some 117,.pick (.t 114) (.t 116) (.c (.bool false)),none,[40,42]⟩,
 .op ⟨some 118,.mv (.t 117),none,[40,43]⟩,
 .op ⟨some 119,.mv (.t 18),some (118,true),[44]⟩,
 .op ⟨some 120,.bin .eql (.t 119) (.c (.int .i64 660)),some (118,true),[44,45]⟩,
 .op ⟨some 121,.pick (.t 118) (.t 120) (.c (.bool false)),none,[44,46]⟩,
 .op ⟨some 122,.mv (.t 121),none,[44,47]⟩,
 .op ⟨some 123,.ld (.t 17) 3 true,some (122,true),[48]⟩,
 .op ⟨some 124,.bsl 1 3 [.c (.int .i64 0),.c (.int .i64 1)],some (122,true),[48]⟩,
 .op ⟨some 125,.call 7 [.c (.int .i64 1),.c (.int .i64 4),.t 124],some (122,true),[48,50]⟩,
 .op ⟨some 126,.call 15 [.t 123,.t 125],some (122,true),[48,49,51]⟩,
 .op ⟨some 127,.pick (.t 122) (.t 126) (.c (.bool false)),none,[48,52]⟩,
 .op ⟨some 128,.mv (.t 127),none,[52,53]⟩,
 .op ⟨some 129,.mv (.t 21),some (128,true),[54]⟩,
 .op ⟨some 130,.bin .eql (.t 129) (.c (.int .i64 0)),some (128,true),[54,55]⟩,
 .op ⟨some 131,.pick (.t 128) (.t 130) (.c (.bool false)),none,[54,56]⟩,
 .op ⟨some 132,.mv (.t 131),none,[54,57]⟩,
 .op ⟨some 133,.mv (.t 20),some (132,true),[58]⟩,
 .op ⟨some 134,.bin .eql (.t 133) (.c (.int .i64 1200)),some (132,true),[58,59]⟩,
 .op ⟨some 135,.pick (.t 132) (.t 134) (.c (.bool false)),none,[58,60]⟩,
 .op ⟨some 0,.mv (.t 135),none,[0,1,2,3,4,5,6,7,8,9,10,11,12,13,14,15,16,17,18,19,20,21,22,23,24,25,26,27,28,29,30,31,32,33,34,35,36,37,38,39,40,41,42,43,44,45,46,47,48,49,50,51,52,53,54,55,56,57,58,59,60,61]⟩] 0 0 [
])
 .ret)))))))))
def r4:List RV:=[.tmp 0]
theorem n4:Try.f4.ntmps=136:=by kernel_rfl
theorem b4:YE Try.prog 4=true:=by kernel_rfl
theorem t4:Qt1 Try.prog 4 c4 r4 136:=Yn Try.func4 rfl b4 (by kernel_rfl) (by kernel_rfl) n4
open Go.Azalai
theorem goalN {s:Season} (h:OkS s) {p:Plan} (hp:X4 s p=true):∃ m:Nat,m < s.land.wells.length/\Xi s.land s.start [s.start] p.legs=some (m:Int):=by
 obtain ⟨⟨to,hto⟩,_⟩:=VM hp
 have:=Zfb h.lp h.start hto
 exact ⟨to.toNat,by omega,by rw [hto];congr 1;omega⟩
theorem Zde (s:Season) (hs:SmallS s) (p:Plan) (hg:p.legs.length<=1000):Ct Try.prog 9 [.agg (Zw s),.agg (ZD p)] (.tup [I (ZaT s p).1,I (ZaT s p).2]):=by
 refine t9.1 (by simp [Zw,ZD,Zm,Zg,Zo,Zh,Zd,Zp,Za,KFL,KF]) (by simp [KFL,KF]) ?_
 dsimp only [c9,r9,Zw,ZD,go_sem,rA,rM,rS]
 refine call (YW s hs p hg) ?_
 dsimp only [Vv,go_sem,rA,rM,rS]
 by_cases he:(Yc s p).2.2.2=0
 case neg =>
  refine Zt (by simpa using he) ?_
  dsimp only [go_sem,rA,rM,rS]
  simp [ZaT,he]
 refine Zv (by simpa using he) ?_
 dsimp only [go_sem,rA,rM,rS]
 by_cases hw:(Yc s p).1=0
 case neg =>
  refine Zt (by simpa using hw) ?_
  dsimp only [go_sem,rA,rM,rS]
  simp [ZaT,he,hw]
 refine Zv (by simpa using hw) ?_
 dsimp only [go_sem,rA,rM,rS]
 obtain ⟨ho,hp⟩:=U6 he
 have h:OkS s:=⟨hs,ho⟩
 obtain ⟨m,hm,hto⟩:=goalN h hp
 refine call (Zc8 s hs h.land h.pace h.start p.legs hg _) ?_
 dsimp only [go_sem,rA,rM,rS]
 rw [hto]
 simp only [Option.getD_some]
 refine call (ZeV s h p hp m hm) ?_
 dsimp only [go_sem,rA,rM,rS]
 simp [ZaT,he,hw,hto]
def Ze2 (r:List Draw × Int):SV:=.tup [.sl false 3 (r.1.map ZW),I r.2]
theorem u22 {args:List SV} {res:SV} (ka:KFL args) (kr:KF res) (h:sx Try.prog Y0 0 cw10 (st0 args 48) (Znw rw10 res)) (hA:Nat.ble args.length 48=true:=by rfl):Ct Try.prog 10 args res:=X9 Try.func10 rfl bw10 Zsp ZtH nw10 (Nat.le_of_ble_eq_true hA) ka kr h
theorem Ze1 (s:Season) (hs:SmallS s) (p:Plan) (hg:p.legs.length<=1000) (k:Int):Ct Try.prog 10 [.agg (Zw s),.agg (ZD p),I k] (Ze2 (ZaP s p k)):=by
 have hsc:=hs.sc
 refine u22 (by simp [Zw,ZD,Zm,Zg,Zo,Zh,Zd,Zp,Za,KFL,KF]) (by simp [Ze2,ZW,Za,KFL,KF]) ?_
 dsimp only [cw10,rw10,Zw,ZD,go_sem,rA,rM,rS]
 refine call (YW s hs p hg) ?_
 dsimp only [Vv,go_sem,rA,rM,rS]
 by_cases he:(Yc s p).2.2.2=0
 case neg =>
  refine Zt (by simpa using he) ?_
  dsimp only [go_sem,rA,rM,rS]
  refine ⟨_,rfl,?_⟩
  rw [ZaP,if_pos he]
  exact XQ (ZL Yr XF)
 refine Zv (by simpa using he) ?_
 dsimp only [go_sem,rA,rM,rS]
 obtain ⟨ho,hp⟩:=U6 he
 have h:OkS s:=⟨hs,ho⟩
 try simp only [List.length_map]
 repeat (first | (refine gb ?_;dsimp only [go_sem,rA,rM,rS]) | (refine call (ZeW _ _ _ _) ?_;dsimp only [go_sem,rA,rM,rS]))
 simp only [List.length_map]
 rw [Zi (n:=(s.scenes.length:Int) - 1) (by omega) (by omega)]
 by_cases hw:(Yc s p).1≠0\/inR 0 (s.scenes.length - 1) k=false
 . refine Zt (by simpa using hw) ?_
   dsimp only [go_sem,rA,rM,rS]
   refine ⟨_,rfl,?_⟩
   rw [ZaP,if_neg (by simpa using he),if_pos hw]
   exact XQ (ZL Yr XF)
 refine Zv (by simpa using hw) ?_
 dsimp only [go_sem,rA,rM,rS]
 have hw1:(Yc s p).1=0:=Classical.byContradiction fun q=>hw (.inl q)
 have hk:0<=k/\k < s.scenes.length:=by
  have:inR 0 (s.scenes.length - 1) k=true:=by cases hq:inR 0 (s.scenes.length - 1) k with | true=>rfl | false=>exact absurd (.inr hq) hw
  simp only [inR,decide_eq_true_eq] at this;omega
 obtain ⟨j,rfl⟩:∃ j:Nat,k=j:=⟨k.toNat,by omega⟩
 have hj:j < s.scenes.length:=by omega
 have ht:=Zke s h j hj p hp hg
 have hf:=ZlU he hw1 _ (List.getElem_mem hj)
 have hR:ZaP s p j=(XA s s.scenes[j] p.animals p.slabs (Ya s p.legs),0):=by
  rw [ZaP,if_neg (by simpa using he),if_neg hw]
  simp only [Int.toNat_natCast,List.getElem?_eq_getElem hj]
 rw [hR]
 have hT:Wb s p s.scenes[j]=XA s s.scenes[j] p.animals p.slabs (Ya s p.legs):=by rw [Wb,if_pos hf]
 rw [hT] at ht
 generalize XA s s.scenes[j] p.animals p.slabs (Ya s p.legs)=D at ht ⊢
 generalize WC s p s.scenes[j]=w at ht
 refine YI [] ht rfl rfl rfl ?_ ?_ ?_
 . exact Zc (by simp [Yi,ZD,Zg,Zo,Zh,Zm,Zd,Zp,ZN,Za,KFL,KF])
 . trivial
 rintro _ rfl
 (repeat first | dsimp only [Zp2,go_sem,rA,rM,rS] | simp only [nbr])
 exact ⟨_,rfl,fun _ _ _ _ _ h=>h⟩
theorem ZcZ (a b:List Draw) (ha:a.length<=1000000) (hb:b.length<=1000000) (c d:Bool):Ct Try.prog 14 [.sl c 3 (a.map ZW),.sl d 3 (b.map ZW)] (B (decide (a=b))):=by
 refine t14.1 (by simp [ZW,Za,KFL,KF]) (by simp [KFL,KF]) ?_
 dsimp only [c14,r14,go_sem,rA,rM,rS]
 simp only [List.length_map]
 by_cases hl:a.length=b.length
 case neg =>
  refine Zt (by simp;omega) ?_
  dsimp only [go_sem,rA,rM,rS]
  rw [decide_eq_false (fun e=>hl (by rw [e]))]
 refine Zv (by simp;omega) ?_
 dsimp only [go_sem,rA,rM,rS]
 refine Ui [0,1,4,5] rfl (fun k:Nat=>[(5,I k)]) (fun _=>[]) (fun k=>k<=a.length/\(a=b↔a.drop k=b.drop k)) (fun k=>a.length - k) 0 ⟨Nat.zero_le _,by simp⟩ ?_ ?_
 . (refine Zl ?_ ?_ ?_ rfl rfl<;>dsimp only [ZW,id,go_sem,rA,rM,rS]<;>simp [ZW,Za,Zf,KFR,KFL,KF,Zc,mtO,nbr])
 rintro k ⟨hk,hi⟩
 dsimp only [go_sem,rA,rM,rS]
 simp only [List.length_map]
 by_cases hlt:k < a.length
 case neg =>
  refine Zv (by simp;omega) ?_
  dsimp only [go_sem,rA,rM,rS]
  rw [List.drop_eq_nil_of_le (by omega),List.drop_eq_nil_of_le (by omega)] at hi
  rw [decide_eq_true (hi.2 rfl)]
 refine Zt (by simpa using hlt) ?_
 dsimp only [go_sem,rA,rM,rS]
 have hlb:k < b.length:=by omega
 refine Zs k hlt rfl ?_
 dsimp only [go_sem,rA,rM,rS]
 refine Zs k hlb rfl ?_
 dsimp only [ZW,go_sem,rA,rM,rS]
 rw [List.drop_eq_getElem_cons hlt,List.drop_eq_getElem_cons hlb,List.cons.injEq] at hi
 by_cases hq:a[k]=b[k]
 . refine Zv (by simp [hq]) ?_
   dsimp only [go_sem,rA,rM,rS]
   rw [Zi (n:=(k:Int)+1) (by omega) (by omega)]
   refine ⟨k+1,⟨hlt,by rw [hi];simp [hq]⟩,by omega,?_⟩
   (refine Zl ?_ ?_ ?_ rfl rfl<;>dsimp only [ZW,id,go_sem,rA,rM,rS]<;>simp [ZW,Za,Zf,KFR,KFL,KF,Zc,mtO,nbr])
 . have hne:¬ (a[k].well=b[k].well/\a[k].day=b[k].day/\a[k].water=b[k].water):=fun q=>hq (by
    revert q;generalize a[k]=x;generalize b[k]=y;intro q;cases x;cases y;simpa using q)
   refine Zt (by simp;omega) ?_
   dsimp only [go_sem,rA,rM,rS]
   rw [decide_eq_false (fun e=>hq (hi.1 e).1)]
end Go.Proofs.Ytiigiflofnjilaa
namespace Go.Azalai
open Go.Sx Go.Proofs.Ytiigiflofnjilaa
theorem ZkW {l:Land} {well day:Int}:(Wn l well [] day).1.lo<=1000000000:=by
 unfold Wn
 split
 . simp
 rename_i h1
 split
 . simp
 split
 . simp
 split
 . simp
 split
 . rename_i w hw
   simp only [Bool.not_eq_false,Yf,Bool.and_eq_true,List.all_eq_true,inR,decide_eq_true_eq] at h1
   have hwell:=h1.1.2 w (List.mem_of_getElem? hw)
   simp only [XK,Yt,inR,Bool.and_eq_true,decide_eq_true_eq] at hwell
   simp only [Vk,XR]
   omega
 . simp
theorem ZwC {s:Season} {x:Scene} (st:Stop):ZcB s x st<=1000000000:=ZkW
theorem Zee {s:Season} {p:Plan} {x:Scene} (h:OkS s) (hp:X4 s p=true):∀ d ∈ Wb s p x,0<=d.water/\d.water<=30000000:=by
 have hn:=h.num
 obtain ⟨_,hpl⟩:=VM hp
 intro d hd
 unfold Wb at hd
 split at hd
 . unfold XA at hd
   split at hd
   . cases hd
   split at hd
   . obtain ⟨st,_,rfl⟩:=List.mem_map.1 hd
     simp
   . unfold WX at hd
     obtain ⟨i,hi,rfl⟩:=List.getElem_of_mem hd
     simp only [List.length_zipWith] at hi
     rw [List.getElem_zipWith]
     have hb:=(ZvT (x:=x) (slabs:=p.slabs) (l:=Ya s p.legs) h.beast.1 h.beast.2).1 _ (List.getElem_mem (show i < _ by omega))
     simp only [Zab]
     have h1:0<=p.animals * ((goF s x p.slabs (Ya s p.legs)).2.2[i]'(by omega)).1:=Int.mul_nonneg hpl.1 hb.1
     have h2:p.animals * ((goF s x p.slabs (Ya s p.legs)).2.2[i]'(by omega)).1<=30 * 1000000:=Int.mul_le_mul (by omega) hb.2 hb.1 (by decide)
     omega
 . cases hd
theorem Zhl {s:Season} {p:Plan} {x:Scene} (hg:p.legs.length<=1000):(Wb s p x).length<=1000:=by
 have h1:(Ya s p.legs).length<=1000:=Nat.le_trans Zae hg
 unfold Wb XA
 split
 . split
   . simp
   split
   . simp;omega
   . simp only [WX,List.length_zipWith];omega
 . simp
end Go.Azalai
namespace Go.Proofs.Ytiigiflofnjilaa
open Go Go.Sx Go.Azalai
theorem Zta (s:Season) (h:OkS s) (a:List Int) (ha:(Xi s.land s.start [s.start] a).isSome=true) (hg:a.length<=1000) (k:Int) (hk:0<=k/\k<=12) :
 Ct Try.prog 24 [.agg (Zw s),.sl false 1 (a.map Zp),I k] (I (Zd6 s a k)):=by
 have hnum:=h.num
 have hsc:=h.scs
 have hp:X4 s ⟨a,1,k⟩=true:=by
  simp only [X4,ha,inR,Bool.true_and,Bool.and_eq_true,decide_eq_true_eq];omega
 refine tw24.1 (by simp [Zw,Zm,Zg,Zo,Zh,Zd,Zp,Za,KFL,KF]) (by simp [KFL,KF]) ?_
 dsimp only [cw24,rw24,Zw,go_sem,rA,rM,rS]
 simp only [List.length_map]
 refine Ui [1,2,3,7,18,19] rfl (fun q:Nat × Int=>[(19,I q.1),(7,I q.2)]) (fun _=>[])
  (fun q=>q.1<=s.scenes.length/\Zqq s a k (s.scenes.drop q.1) q.2=Zd6 s a k/\0<=q.2/\q.2<=30) (fun q=>s.scenes.length - q.1) (0,s.herd) ⟨Nat.zero_le _,rfl,by simp only;omega,by simp only;omega⟩ ?_ ?_
 . (refine Zl ?_ ?_ ?_ rfl rfl<;>dsimp only [Zg,Zo,Zh,Zm,Zd,Zp,id,go_sem,rA,rM,rS]<;>simp [Zg,Zo,Zh,Zm,Zd,Zp,Za,Zf,KFR,KFL,KF,Zc,mtO,nbr])
 rintro ⟨j,n⟩ ⟨hj,hi,hn0,hn1⟩
 simp only at hj hi hn0 hn1
 dsimp only [go_sem,rA,rM,rS]
 by_cases hlt:j < s.scenes.length
 case neg =>
  refine Zv (by simp;omega) ?_
  dsimp only [go_sem,rA,rM,rS]
  rw [List.drop_eq_nil_of_le (by omega),Zqq] at hi
  rw [hi]
 refine Zt (by simpa using hlt) ?_
 dsimp only [go_sem,rA,rM,rS]
 have ht:=Zke s h j hlt ⟨a,1,k⟩ hp hg
 have hx:=h.scene _ (List.getElem_mem hlt)
 have hy:s.scenes[j].yields.length=s.land.wells.length:=by simp only [Xn,Bool.and_eq_true,decide_eq_true_eq] at hx;omega
 have hwat:=Zee (x:=s.scenes[j]) h hp
 have hlen:=Zhl (s:=s) (p:=⟨a,1,k⟩) (x:=s.scenes[j]) hg
 rw [List.drop_eq_getElem_cons hlt,Zqq] at hi
 generalize Wb s ⟨a,1,k⟩ s.scenes[j]=D at ht hi hwat hlen
 generalize WC s ⟨a,1,k⟩ s.scenes[j]=w at ht hi
 refine YI [] ht rfl rfl rfl ?_ ?_ ?_
 . exact Zc (by simp [Yi,ZD,Zg,Zo,Zh,Zm,Zd,Zp,ZN,Za,KFL,KF])
 . trivial
 rintro _ rfl
 (repeat first | dsimp only [Zp2,go_sem,rA,rM,rS] | simp only [nbr])
 by_cases hw0:w.1=0
 case neg =>
  refine Zt (by simpa using hw0) ?_
  dsimp only [go_sem,rA,rM,rS]
  rw [if_pos hw0] at hi
  rw [<- hi]
 refine Zv (by simpa using hw0) ?_
 dsimp only [go_sem,rA,rM,rS]
 rw [if_neg (by simpa using hw0)] at hi
 simp only [List.length_map]
 refine Ui [1,2,3,7,9,18,19,36,37,38] rfl (fun q:Nat × Int=>[(38,I q.1),(7,I q.2)]) (fun _=>[])
  (fun q=>q.1<=D.length/\ZgE s s.scenes[j] (D.drop q.1) q.2=ZgE s s.scenes[j] D n/\0<=q.2/\q.2<=30) (fun q=>D.length - q.1) (0,n) ⟨Nat.zero_le _,rfl,hn0,hn1⟩ ?_ ?_
 . (refine Zl ?_ ?_ ?_ rfl rfl<;>dsimp only [Yi,Zg,Zo,Zh,Zm,Zd,Zp,ZN,ZW,id,go_sem,rA,rM,rS]<;>simp [Yi,Zg,Zo,Zh,Zm,Zd,Zp,ZN,ZW,Za,Zf,KFR,KFL,KF,Zc,mtO,nbr])
 rintro ⟨i,m⟩ ⟨hi0,hi1,hm0,hm1⟩
 simp only at hi0 hi1 hm0 hm1
 dsimp only [go_sem,rA,rM,rS]
 by_cases hilt:i < D.length
 case neg =>
  refine Zv (by simp;omega) ?_
  dsimp only [go_sem,rA,rM,rS]
  rw [List.drop_eq_nil_of_le (by omega),ZgE] at hi1
  rw [Zi (n:=(j:Int)+1) (by omega) (by omega)]
  refine ⟨(j+1,m),⟨hlt,by simp only;rw [hi1];exact hi,hm0,hm1⟩,by simp only;omega,?_⟩
  (refine Zl ?_ ?_ ?_ rfl rfl<;>dsimp only [Yi,Zg,Zo,Zh,Zm,Zd,Zp,ZN,ZW,id,go_sem,rA,rM,rS]<;>simp [Yi,Zg,Zo,Zh,Zm,Zd,Zp,ZN,ZW,Za,Zf,KFR,KFL,KF,Zc,mtO,nbr])
 refine Zt (by simpa using hilt) ?_
 dsimp only [go_sem,rA,rM,rS]
 refine Zs i hilt rfl ?_
 dsimp only [ZW,go_sem,rA,rM,rS]
 rw [List.drop_eq_getElem_cons hilt,ZgE] at hi1
 have hw:=hwat _ (List.getElem_mem hilt)
 have hnext:IntKind.i64.wrap ((i:Int)+1)=((i+1:Nat):Int):=by rw [Zi (by omega) (by omega)];omega
 by_cases hpos:D[i].water > 0
 . refine Zt (by simpa using hpos) ?_
   dsimp only [go_sem,rA,rM,rS]
   refine call (Zqb s h.small j hlt hy ⟨0,D[i].well,⟨0,0⟩,⟨D[i].day,0⟩⟩) ?_
   dsimp only [go_sem,rA,rM,rS]
   refine Zqw (by omega) ?_
   have h1:=Zp4 (s:=s) (x:=s.scenes[j]) ⟨0,D[i].well,⟨0,0⟩,⟨D[i].day,0⟩⟩
   have h2:=ZwC (s:=s) (x:=s.scenes[j]) ⟨0,D[i].well,⟨0,0⟩,⟨D[i].day,0⟩⟩
   have h3:=XZ (d:=D[i].water) h1 h2 (by omega)
   dsimp only [go_sem,rA,rM,rS]
   rw [Zi (n:=(ZcB s s.scenes[j] ⟨0,D[i].well,⟨0,0⟩,⟨D[i].day,0⟩⟩).tdiv D[i].water) (by omega) (by omega),hnext]
   rw [if_pos hpos] at hi1
   refine ⟨(i+1,min m ((ZcB s s.scenes[j] ⟨0,D[i].well,⟨0,0⟩,⟨D[i].day,0⟩⟩).tdiv D[i].water)),⟨hilt,hi1,by simp only;omega,by simp only;omega⟩,by simp only;omega,?_⟩
   (refine Zl ?_ ?_ ?_ rfl rfl<;>dsimp only [Yi,Zg,Zo,Zh,Zm,Zd,Zp,ZN,ZW,id,go_sem,rA,rM,rS]<;>simp [Yi,Zg,Zo,Zh,Zm,Zd,Zp,ZN,ZW,Za,Zf,KFR,KFL,KF,Zc,mtO,nbr])
 . refine Zv (by simpa using hpos) ?_
   dsimp only [go_sem,rA,rM,rS]
   rw [hnext]
   rw [if_neg hpos] at hi1
   refine ⟨(i+1,m),⟨hilt,hi1,hm0,hm1⟩,by simp only;omega,?_⟩
   (refine Zl ?_ ?_ ?_ rfl rfl<;>dsimp only [Yi,Zg,Zo,Zh,Zm,Zd,Zp,ZN,ZW,id,go_sem,rA,rM,rS]<;>simp [Yi,Zg,Zo,Zh,Zm,Zd,Zp,ZN,ZW,Za,Zf,KFR,KFL,KF,Zc,mtO,nbr])
def WQ (b:Bst):List SV:=[I b.w,I (-b.an),I (-b.sl),I (-(b.legs.length:Int))]
theorem mapW (a:List Nat):(Y2 a).map Zp=a.map Yb:=by simp [Y2,Yb,Zp]
theorem Ze5 (a:List Nat):(Y2 a).length=a.length:=by simp [Y2]
structure SmB (b:Bst):Prop where
 len:b.legs.length<=1000
 an:0<=b.an/\b.an<=30
 sl:0<=b.sl/\b.sl<=12
theorem Zdg (b:Bst) (hb:SmB b):Ct Try.prog 22 [.agg (ZD b.plan),I b.w] (.agg (WQ b)):=by
 obtain ⟨h1,h2,h3⟩:=hb
 refine t22.1 (by simp [ZD,Bst.plan,Zp,Za,KFL,KF]) (by simp [WQ,KFL,KF]) ?_
 dsimp only [c22,r22,ZD,Bst.plan,WQ,go_sem,rA,rM,rS]
 simp only [List.length_map,Ze5]
 rw [Int.zero_sub,Int.zero_sub,Int.zero_sub,Zi (n:=-b.an) (by omega) (by omega),Zi (n:=-b.sl) (by omega) (by omega),Zi (n:=-(b.legs.length:Int)) (by omega) (by omega)]
theorem ZgO (q p:Bst) (hq:SmB q) (hp:SmB p):Ct Try.prog 25 [.agg (ZD q.plan),.agg (WQ q),.agg (ZD p.plan),.agg (WQ p)] (B (Yh q p)):=by
 have hq1:=hq.len
 have hp1:=hp.len
 refine t25.1 (by simp [ZD,Bst.plan,Zp,Za,WQ,KFL,KF]) (by simp [KFL,KF]) ?_
 dsimp only [c25,r25,ZD,Bst.plan,WQ,go_sem,rA,rM,rS]
 by_cases e:q.w=p.w/\q.an=p.an/\q.sl=p.sl/\q.legs.length=p.legs.length
 . obtain ⟨e1,e2,e3,e4⟩:=e
   refine Zt (by simp [e1,e2,e3,e4]) ?_
   dsimp only [go_sem,rA,rM,rS]
   have hc:=Zfe q.legs p.legs (by omega) (by omega)
   simp only [ZU,<- mapW] at hc
   refine call hc ?_
   dsimp only [go_sem,rA,rM,rS]
   rw [ZeD]
   simp [Yh,e1,e2,e3,e4]
 refine Zv (by simp;omega) ?_
 dsimp only [go_sem,rA,rM,rS]
 refine Y4 5 ?_
 dsimp only [Zb,go_sem,rA,rM,rS]
 refine Zt (by decide) ?_
 dsimp only [Zb,go_sem,rA,rM,rS]
 repeat (refine ixa 0 rfl (by decide) ?_;dsimp only [Zb,go_sem,rA,rM,rS])
 by_cases e1:q.w=p.w
 case neg =>
  refine Zt (by simpa using e1) ?_
  dsimp only [Zb,go_sem,rA,rM,rS]
  repeat (refine ixa 0 rfl (by decide) ?_;dsimp only [Zb,go_sem,rA,rM,rS])
  simp [Yh,e1]
 refine Zv (by simpa using e1) ?_
 dsimp only [Zb,go_sem,rA,rM,rS]
 refine Zt (by decide) ?_
 dsimp only [Zb,go_sem,rA,rM,rS]
 repeat (refine ixa 1 rfl (by decide) ?_;dsimp only [Zb,go_sem,rA,rM,rS])
 by_cases e2:q.an=p.an
 case neg =>
  refine Zt (by simp;omega) ?_
  dsimp only [Zb,go_sem,rA,rM,rS]
  repeat (refine ixa 1 rfl (by decide) ?_;dsimp only [Zb,go_sem,rA,rM,rS])
  have:decide (-q.an > -p.an)=decide (q.an < p.an):=by rw [decide_eq_decide];omega
  simp [Yh,e1,e2]
 refine Zv (by simp;omega) ?_
 dsimp only [Zb,go_sem,rA,rM,rS]
 refine Zt (by decide) ?_
 dsimp only [Zb,go_sem,rA,rM,rS]
 repeat (refine ixa 2 rfl (by decide) ?_;dsimp only [Zb,go_sem,rA,rM,rS])
 by_cases e3:q.sl=p.sl
 case neg =>
  refine Zt (by simp;omega) ?_
  dsimp only [Zb,go_sem,rA,rM,rS]
  repeat (refine ixa 2 rfl (by decide) ?_;dsimp only [Zb,go_sem,rA,rM,rS])
  simp [Yh,e1,e2,e3]
 refine Zv (by simp;omega) ?_
 dsimp only [Zb,go_sem,rA,rM,rS]
 refine Zt (by decide) ?_
 dsimp only [Zb,go_sem,rA,rM,rS]
 repeat (refine ixa 3 rfl (by decide) ?_;dsimp only [Zb,go_sem,rA,rM,rS])
 have e4:¬ q.legs.length=p.legs.length:=fun e4=>e ⟨e1,e2,e3,e4⟩
 refine Zt (by simp;omega) ?_
 dsimp only [Zb,go_sem,rA,rM,rS]
 repeat (refine ixa 3 rfl (by decide) ?_;dsimp only [Zb,go_sem,rA,rM,rS])
 simp [Yh,e1,e2,e3,e4]
end Go.Proofs.Ytiigiflofnjilaa
namespace Go.Sx
open Go Go.RowKit
theorem ZiW {m:Nat} {σ : St} (k:Nat) {l l':List SV} {T':TypeId} (hk:lkh k σ.hp = .cells l T') (hw:∀ (w:World) (E:Env) (n ok:Nat->Prop) (ys:List Value),RL w E n ok l ys->RL w E n ok l' ys) :
 Ent m σ ⟨σ.fr,(k,.cells l' T') :: σ.hp,σ.n,σ.N,σ.gs⟩:=fun C E a w _ h=>by
 have hocc:∀ b,occ E k (.cells l' T') b↔occ E k (lkh k σ.hp) b:=fun b=>by rw [hk];rfl
 obtain ⟨h6,h7⟩:=Ws (hb:=.cells l' T') (B:=E.β k) h.hs hocc (by rw [hk];rfl) ⟨rfl,rfl,rfl,rfl,fun _ _=>rfl⟩ (fun hst=>by
  have hb:=h.hs.bk k
  rw [hk] at hb
  simp only [Z1] at hb ⊢
  obtain ⟨cs,e1,e2⟩:=hb
  exact ⟨cs,e1,hw _ _ _ _ _ (Zz hst (fun _ _=>Ele.rfl) (fun _ h=>h) _ _ e2)⟩)
 exact ⟨E,fun u=>Y5 h7 (fun _ _=>Ele.rfl) (fun _ h=>h) (fun _ _ _ _=>Iff.rfl) (h.fr u),h.sz,XJ h7 h.df,h.gs,h6⟩
end Go.Sx
namespace Go.Proofs.Ytiigiflofnjilaa
open Go Go.Sx Go.Azalai
def Zlk (r:Plan × Int × Int):SV:=.tup [.agg (ZD r.1),I r.2.1,I r.2.2]
theorem Zr7 (w:Int):Ct Try.prog 22 [.agg [.v (.slice none 0 0),I 0,I 0],I w] (.agg [I w,I 0,I 0,I 0]) :=
 (Zdg ⟨[],0,0,w⟩ ⟨by simp,by simp,by simp⟩).args (by simp [KFL,KF]) (ZL (XY (ZL Yr XF)) XF)
theorem Ztq {s:Season} {to:Int} {a:List Nat} {k n:Int} (ha:a.length<=1000) (hn:0<=n/\n<=30) (hk:0<=k/\k<=12):SmB (Xr s to a k n):=⟨ha,hn,hk⟩
theorem u25 {args:List SV} {res:SV} (ka:KFL args) (kr:KF res) (h:sx Try.prog Y0 0 c11 (st0 args 97) (Znw r11 res)) (hA:Nat.ble args.length 97=true:=by rfl):Ct Try.prog 11 args res:=X9 Try.func11 rfl b11 Zu2 ZvV n11 (Nat.le_of_ble_eq_true hA) ka kr h
theorem Zjn (s:Season) (hs:SmallS s):Ct Try.prog 11 [.agg (Zw s)] (Zlk (ZdY s)):=by
 refine u25 (by simp [Zw,Zm,Zg,Zo,Zh,Zd,Zp,Za,KFL,KF]) (by simp [Zlk,ZD,Zp,Za,KFL,KF]) ?_
 dsimp only [c11,r11,Zw,go_sem,rA,rM,rS]
 refine call (VU s hs) ?_
 dsimp only [go_sem,rA,rM,rS]
 by_cases ho:ZQ s=true
 case neg =>
  refine Zt (by simp [ho]) ?_
  dsimp only [go_sem,rA,rM,rS]
  refine ⟨_,rfl,?_⟩
  rw [show ZdY s=(⟨[],0,0⟩,0,90) from by unfold ZdY;exact if_pos (by simpa using ho),if_neg ho]
  exact XQ (ZL (XY (ZL Yr XF)) XF)
 refine Zv (by simp [ho]) ?_
 dsimp only [go_sem,rA,rM,rS]
 have h:OkS s:=⟨hs,ho⟩
 have hn:=h.num
 have hw0:0<=s.herd * s.sale/\s.herd * s.sale<=30 * 1000000:=⟨Int.mul_nonneg (by omega) (by omega),Int.mul_le_mul (by omega) (by omega) (by omega) (by decide)⟩
 rw [Zi (n:=s.herd * s.sale) (by omega) (by omega)]
 refine call (Zr7 (s.herd * s.sale)) ?_
 dsimp only [go_sem,rA,rM,rS]
 simp only [List.length_map]
 have hR:ZdY s=match ZtZ s with | none=>(⟨[],0,0⟩,0,9) | some b=>(b.plan,b.w,0):=by unfold ZdY;exact if_neg (by simp [ho])
 have hwl:=h.land
 simp only [Yf,inR,Bool.and_eq_true,decide_eq_true_eq] at hwl
 refine Zdb (Yv (VX [1,2,3,6,34,35] rfl) (ZiW 1 (l':=ZD ⟨[],0,0⟩) rfl (ZL Yr XF)))
  (fun q:Nat × Bst=>[(35,I q.1),(3,I q.2.w)]) (fun q=>[(1,.cells (ZD q.2.plan) 42),(2,.cells (WQ q.2) 81)])
  (fun q=>q.1<=s.land.wells.length/\Zdc s ((List.range s.land.wells.length).drop q.1) q.2=ZtZ s/\SmB q.2) (fun q=>s.land.wells.length - q.1) (0,⟨[],0,0,s.herd * s.sale⟩)
  ⟨Nat.zero_le _,rfl,⟨by simp,by simp,by simp⟩⟩ ?_ ?_
 . (refine Zl ?_ ?_ ?_ rfl rfl<;>dsimp only [ZD,WQ,Bst.plan,Y2,Zg,Zo,Zh,Zm,Zd,Zp,id,go_sem,rA,rM,rS]<;>simp [ZD,WQ,Bst.plan,Y2,Zg,Zo,Zh,Zm,Zd,Zp,Za,Zf,KFR,KFL,KF,Zc,mtO,nbr])
 rintro ⟨g,b⟩ ⟨hg,hi,hb⟩
 simp only at hg hi hb
 dsimp only [ZD,WQ,go_sem,rA,rM,rS]
 by_cases hlt:g < s.land.wells.length
 case neg =>
  refine Zv (by simp;omega) ?_
  dsimp only [go_sem,rA,rM,rS]
  rw [List.drop_eq_nil_of_le (by simp;omega),Zdc] at hi
  rw [hR,<- hi]
  exact ⟨_,rfl,fun _ _ _ _ _ h=>h⟩
 refine Zt (by simpa using hlt) ?_
 dsimp only [go_sem,rA,rM,rS]
 have hwy:=ZlN s.land hs.land s.start g s.day s.till s.pace
 rw [List.drop_eq_getElem_cons (by simpa using hlt),List.getElem_range,Zdc] at hi
 by_cases hE:ZbY s.land s.pace s.start g s.day s.till=0
 case neg =>
  simp only [Zce,Xu,if_neg hE] at hwy
  refine call hwy ?_
  dsimp only [go_sem,rA,rM,rS]
  refine Zt (by simpa using hE) ?_
  dsimp only [go_sem,rA,rM,rS]
  rw [if_pos hE] at hi
  rw [hR,<- hi]
  refine ⟨_,rfl,?_⟩
  exact XQ (ZL (XY (ZL Yr XF)) XF)
 simp only [Zce,Xu,if_pos hE] at hwy
 refine call hwy ?_
 dsimp only [go_sem,rA,rM,rS]
 refine Zv (by simpa using hE) ?_
 dsimp only [go_sem,rA,rM,rS]
 rw [if_neg (by simpa using hE)] at hi
 simp only [List.length_map]
 have hmem:∀ a ∈ Ut s.land s.pace s.start g s.day s.till,Xi s.land s.start [s.start] (Y2 a)=some (g:Int)/\a.length<=24:=fun a ha=>by
  have h1:=((Zl8 h).1 ha).1
  exact ⟨h1,by simpa [Y2] using (lenS h h1).2⟩
 have hwlen:(Ut s.land s.pace s.start g s.day s.till).length<=1000:=by
  unfold ZbY at hE
  split at hE
  . rename_i q;exact absurd hE q
  split at hE
  . simp at hE
  split at hE
  . simp at hE
  . rename_i q;unfold Ut;omega
 generalize Ut s.land s.pace s.start g s.day s.till=W at hi hmem hwlen ⊢
 refine Ui [1,2,3,6,7,34,35,56,57,58] rfl (fun q:Nat × Bst=>[(58,I q.1),(3,I q.2.w)]) (fun q=>[(1,.cells (ZD q.2.plan) 42),(2,.cells (WQ q.2) 81)])
  (fun q=>q.1<=W.length/\(W.drop q.1).foldl (Zw3 s g) q.2=W.foldl (Zw3 s g) b/\SmB q.2) (fun q=>W.length - q.1) (0,b) ⟨Nat.zero_le _,rfl,hb⟩ ?_ ?_
 . (refine Zl ?_ ?_ ?_ rfl rfl<;>dsimp only [ZD,Bst.plan,WQ,Xr,Ym,ZU,Yb,Y2,Zg,Zo,Zh,Zm,Zd,Zp,id,go_sem,rA,rM,rS]<;>simp [ZD,Bst.plan,WQ,Xr,Ym,ZU,Yb,Y2,Zg,Zo,Zh,Zm,Zd,Zp,Za,Zf,KFR,KFL,KF,Zc,mtO,nbr])
 rintro ⟨i,b1⟩ ⟨hi1,hf1,hb1⟩
 simp only at hi1 hf1 hb1
 dsimp only [ZD,Bst.plan,WQ,go_sem,rA,rM,rS]
 by_cases hilt:i < W.length
 case neg =>
  refine Zv (by simp;omega) ?_
  dsimp only [go_sem,rA,rM,rS]
  rw [List.drop_eq_nil_of_le (by omega),List.foldl_nil] at hf1
  rw [Zi (n:=(g:Int)+1) (by omega) (by omega)]
  refine ⟨(g+1,b1),⟨hlt,by simp only;rw [hf1];exact hi,hb1⟩,by simp only;omega,?_⟩
  (refine Zl ?_ ?_ ?_ rfl rfl<;>dsimp only [ZD,Bst.plan,WQ,Xr,Ym,ZU,Yb,Y2,Zg,Zo,Zh,Zm,Zd,Zp,id,go_sem,rA,rM,rS]<;>simp [ZD,Bst.plan,WQ,Xr,Ym,ZU,Yb,Y2,Zg,Zo,Zh,Zm,Zd,Zp,Za,Zf,KFR,KFL,KF,Zc,mtO,nbr])
 refine Zt (by simpa using hilt) ?_
 dsimp only [go_sem,rA,rM,rS]
 refine Zs i hilt rfl ?_
 rw [List.drop_eq_getElem_cons hilt,List.foldl_cons] at hf1
 obtain ⟨hto,hal⟩:=hmem _ (List.getElem_mem hilt)
 generalize W[i]=a at hf1 hto hal ⊢
 simp only [Ym,ZU,<- mapW]
 dsimp only [go_sem,rA,rM,rS]
 refine Ui [1,2,3,6,7,11,34,35,56,57,58,62] rfl (fun q:Nat × Bst=>[(62,I q.1),(3,I q.2.w)]) (fun q=>[(1,.cells (ZD q.2.plan) 42),(2,.cells (WQ q.2) 81)])
  (fun q=>q.1<=13/\((List.range 13).drop q.1).foldl (Zno s g a) q.2=Zw3 s g b1 a/\SmB q.2) (fun q=>13 - q.1) (0,b1) ⟨Nat.zero_le _,rfl,hb1⟩ ?_ ?_
 . (refine Zl ?_ ?_ ?_ rfl rfl<;>dsimp only [ZD,Bst.plan,WQ,Xr,Ym,ZU,Yb,Y2,Zg,Zo,Zh,Zm,Zd,Zp,id,go_sem,rA,rM,rS]<;>simp [ZD,Bst.plan,WQ,Xr,Ym,ZU,Yb,Y2,Zg,Zo,Zh,Zm,Zd,Zp,Za,Zf,KFR,KFL,KF,Zc,mtO,nbr])
 rintro ⟨k,b2⟩ ⟨hk1,hf2,hb2⟩
 simp only at hk1 hf2 hb2
 dsimp only [ZD,Bst.plan,WQ,go_sem,rA,rM,rS]
 by_cases hk:k < 13
 case neg =>
  refine Zv (by simp;omega) ?_
  dsimp only [go_sem,rA,rM,rS]
  rw [List.drop_eq_nil_of_le (by simp;omega),List.foldl_nil] at hf2
  rw [Zi (n:=(i:Int)+1) (by omega) (by omega)]
  refine ⟨(i+1,b2),⟨hilt,by simp only;rw [hf2];exact hf1,hb2⟩,by simp only;omega,?_⟩
  (refine Zl ?_ ?_ ?_ rfl rfl<;>dsimp only [ZD,Bst.plan,WQ,Xr,Ym,ZU,Yb,Y2,Zg,Zo,Zh,Zm,Zd,Zp,id,go_sem,rA,rM,rS]<;>simp [ZD,Bst.plan,WQ,Xr,Ym,ZU,Yb,Y2,Zg,Zo,Zh,Zm,Zd,Zp,Za,Zf,KFR,KFL,KF,Zc,mtO,nbr])
 refine Zt (by simp;omega) ?_
 dsimp only [go_sem,rA,rM,rS]
 refine call (Zta s h (Y2 a) (by rw [hto];rfl) (by rw [Ze5];omega) k ⟨by omega,by omega⟩) ?_
 have hfb:=ZqQ h (a:=Y2 a) (k:=(k:Int))
 rw [List.drop_eq_getElem_cons (by simpa using hk),List.getElem_range,List.foldl_cons] at hf2
 obtain ⟨F,hF⟩:∃ F:Nat,Zd6 s (Y2 a) k=F:=⟨(Zd6 s (Y2 a) k).toNat,by omega⟩
 have hsl:Zno s g a b2 k=ZdE s g a k F b2:=by simp only [Zno,hF,Int.toNat_natCast]
 rw [hsl] at hf2
 rw [hF] at hfb ⊢
 dsimp only [go_sem,rA,rM,rS]
 refine Ui [1,2,3,6,7,11,12,13,34,35,56,57,58,62] rfl (fun q:Nat × Bst=>[(13,I q.1),(3,I q.2.w)]) (fun q=>[(1,.cells (ZD q.2.plan) 42),(2,.cells (WQ q.2) 81)])
  (fun q=>q.1<=F/\ZdE s g a k q.1 q.2=ZdE s g a k F b2/\SmB q.2) (fun q=>q.1) (F,b2) ⟨Nat.le_refl _,rfl,hb2⟩ ?_ ?_
 . (refine Zl ?_ ?_ ?_ rfl rfl<;>dsimp only [ZD,Bst.plan,WQ,Xr,Ym,ZU,Yb,Y2,Zg,Zo,Zh,Zm,Zd,Zp,id,go_sem,rA,rM,rS]<;>simp [ZD,Bst.plan,WQ,Xr,Ym,ZU,Yb,Y2,Zg,Zo,Zh,Zm,Zd,Zp,Za,Zf,KFR,KFL,KF,Zc,mtO,nbr])
 rintro ⟨n,b3⟩ ⟨hn1,hf3,hb3⟩
 simp only at hn1 hf3 hb3
 dsimp only [ZD,Bst.plan,WQ,go_sem,rA,rM,rS]
 by_cases h0:n=0
 . subst h0
   refine Zt (by simp) ?_
   dsimp only [go_sem,rA,rM,rS]
   rw [ZdE] at hf3
   rw [Zi (n:=(k:Int)+1) (by omega) (by omega)]
   refine ⟨(k+1,b3),⟨by simp only;omega,by simp only;rw [hf3];exact hf2,hb3⟩,by simp only;omega,?_⟩
   (refine Zl ?_ ?_ ?_ rfl rfl<;>dsimp only [ZD,Bst.plan,WQ,Xr,Ym,ZU,Yb,Y2,Zg,Zo,Zh,Zm,Zd,Zp,id,go_sem,rA,rM,rS]<;>simp [ZD,Bst.plan,WQ,Xr,Ym,ZU,Yb,Y2,Zg,Zo,Zh,Zm,Zd,Zp,Za,Zf,KFR,KFL,KF,Zc,mtO,nbr])
 obtain ⟨m,rfl⟩:∃ m,n=m+1:=⟨n - 1,by omega⟩
 refine Zv (by simp;omega) ?_
 dsimp only [go_sem,rA,rM,rS]
 have hp:X4 s ⟨Y2 a,((m+1:Nat):Int),k⟩=true:=ZnW hto ⟨by simp only;omega,by simp only;omega⟩ ⟨by simp only;omega,by simp only;omega⟩
 have hcs:SmB (Xr s g a k ((m+1:Nat):Int)):=Ztq (by omega) ⟨by omega,by omega⟩ ⟨by omega,by omega⟩
 have hwo:=ZeV s h ⟨Y2 a,((m+1:Nat):Int),k⟩ hp g hlt
 simp only [ZD] at hwo
 refine call hwo ?_
 dsimp only [go_sem,rA,rM,rS]
 have hso:=Zdg (Xr s g a k ((m+1:Nat):Int)) hcs
 simp only [ZD,Bst.plan,Xr,WQ] at hso
 refine call hso ?_
 dsimp only [go_sem,rA,rM,rS]
 have hbo:=ZgO (Xr s g a k ((m+1:Nat):Int)) b3 hcs hb3
 simp only [ZD,Bst.plan,WQ] at hbo
 refine call hbo ?_
 dsimp only [go_sem,rA,rM,rS]
 rw [ZdE] at hf3
 by_cases hbb:Yh (Xr s g a k ((m+1:Nat):Int)) b3=true
 . refine Zt (by simpa using hbb) ?_
   dsimp only [go_sem,rA,rM,rS]
   rw [ZgM,if_pos hbb] at hf3
   rw [Zi (n:=(((m+1:Nat):Int)) - 1) (by omega) (by omega),show (((m+1:Nat):Int)) - 1=(m:Int) from by omega]
   refine ⟨(m,Xr s g a k ((m+1:Nat):Int)),⟨by simp only;omega,hf3,hcs⟩,by simp only;omega,?_⟩
   (refine Zl ?_ ?_ ?_ rfl rfl<;>dsimp only [ZD,Bst.plan,WQ,Xr,Ym,ZU,Yb,Y2,Zg,Zo,Zh,Zm,Zd,Zp,id,go_sem,rA,rM,rS]<;>simp [ZD,Bst.plan,WQ,Xr,Ym,ZU,Yb,Y2,Zg,Zo,Zh,Zm,Zd,Zp,Za,Zf,KFR,KFL,KF,Zc,mtO,nbr])
 . refine Zv (by simpa using hbb) ?_
   dsimp only [go_sem,rA,rM,rS]
   rw [ZgM,if_neg hbb] at hf3
   rw [Zi (n:=(((m+1:Nat):Int)) - 1) (by omega) (by omega),show (((m+1:Nat):Int)) - 1=(m:Int) from by omega]
   refine ⟨(m,b3),⟨by simp only;omega,hf3,hb3⟩,by simp only;omega,?_⟩
   (refine Zl ?_ ?_ ?_ rfl rfl<;>dsimp only [ZD,Bst.plan,WQ,Xr,Ym,ZU,Yb,Y2,Zg,Zo,Zh,Zm,Zd,Zp,id,go_sem,rA,rM,rS]<;>simp [ZD,Bst.plan,WQ,Xr,Ym,ZU,Yb,Y2,Zg,Zo,Zh,Zm,Zd,Zp,Za,Zf,KFR,KFL,KF,Zc,mtO,nbr])
theorem ZmM (s:Season) (hs:SmallS s):Ct Try.prog 13 [.agg (Zw s)] (.tup [I (ZaL s).1,I (ZaL s).2]):=by
 refine t13.1 (by simp [Zw,Zm,Zg,Zo,Zh,Zd,Zp,Za,KFL,KF]) (by simp [KFL,KF]) ?_
 dsimp only [c13,r13,Zw,go_sem,rA,rM,rS]
 refine call (VU s hs) ?_
 dsimp only [go_sem,rA,rM,rS]
 by_cases ho:ZQ s=true
 case neg =>
  refine Zt (by simp [ho]) ?_
  dsimp only [go_sem,rA,rM,rS]
  simp [ZaL,ho]
 refine Zv (by simp [ho]) ?_
 dsimp only [go_sem,rA,rM,rS]
 have h:OkS s:=⟨hs,ho⟩
 have hn:=h.num
 have hst:=h.start
 have hs4:=h.scs
 have hbr:=Cm.breed_bd h.beast.1
 have hE:XX s.land s.pace s.start s.day=0:=Zje.2 ⟨h.land,h.pace,by simp only [inR,decide_eq_true_eq];omega,by simp only [inR,decide_eq_true_eq];omega⟩
 have hre:=ZcI s.land hs.land s.start s.day s.pace
 rw [hE] at hre
 simp only [Xu,if_true] at hre
 refine call hre ?_
 dsimp only [go_sem,rA,rM,rS]
 refine Zqw (by omega) ?_
 dsimp only [go_sem,rA,rM,rS]
 have hk0:=XZ (a:=s.breed.strong.lo) (A:=1000000) (d:=s.slab) (by omega) (by omega) (by omega)
 rw [Zi (n:=s.breed.strong.lo.tdiv s.slab) (by omega) (by omega)]
 have hB:ZaL s=(Zet s,0):=by rw [ZaL,if_neg (by simp [ho])]
 rw [hB]
 unfold Zet
 obtain ⟨k,hk⟩:∃ k,k=min 12 (s.breed.strong.lo.tdiv s.slab):=⟨_,rfl⟩
 rw [<- hk]
 have hk1:0<=k/\k<=12:=by omega
 simp only [List.length_map]
 have hRl:(YY s.land s.pace s.start s.day).length=s.land.wells.length:=Wc
 generalize YY s.land s.pace s.start s.day=Rr at hRl ⊢
 obtain ⟨W,hW⟩:∃ W,W=s.scenes.map (fun x=>s.herd * Zeb s x k Rr 0 s.sale):=⟨_,rfl⟩
 have hWl:W.length=s.scenes.length:=by rw [hW];simp
 rw [<- hW]
 have hwl:=h.land
 simp only [Yf,inR,Bool.and_eq_true,decide_eq_true_eq] at hwl
 refine Zdb (Yv (VX [1,5,7,8,40,41,42] rfl) (YM 8 1 3 rfl rfl)) (fun q:Nat × Nat=>[(42,I q.1),(8,.mr 1 q.2)])
  (fun q=>[(1,.row q.2 1 ((W.take q.1).map Zp) 3)]) (fun q=>q.1<=s.scenes.length) (fun q=>s.scenes.length - q.1) (0,0) (Nat.zero_le _) ?_ ?_
 . (refine Zl ?_ ?_ ?_ rfl rfl<;>dsimp only [Zg,Zo,Zh,Zm,Zd,Zp,Z9,id,go_sem,rA,rM,rS]<;>simp [Zg,Zo,Zh,Zm,Zd,Zp,Z9,Za,Zf,KFR,KFL,KF,Zc,mtO,nbr])
 rintro ⟨j,v⟩ hj
 simp only at hj
 dsimp only [go_sem,rA,rM,rS]
 by_cases hlt:j < s.scenes.length
 case neg =>
  refine Zv (by simp;omega) ?_
  dsimp only [go_sem,rA,rM,rS]
  rw [List.take_of_length_le (by omega)]
  refine gh (Zao 8 1 v rfl rfl rfl rfl) ?_
  dsimp only [go_sem,rA,rM,rS]
  refine call (Zj1 W (by omega) (by omega) _) ?_
  dsimp only [go_sem,rA,rM,rS]
 refine Zt (by simpa using hlt) ?_
 dsimp only [go_sem,rA,rM,rS]
 refine Zs j hlt rfl ?_
 dsimp only [Zm,go_sem,rA,rM,rS]
 simp only [List.length_map]
 refine Ui [1,5,7,8,10,11,40,41,42,48,49,50] rfl (fun q:Nat × Int=>[(50,I q.1),(11,I q.2)]) (fun _=>[])
  (fun q=>q.1<=Rr.length/\Zeb s s.scenes[j] k (Rr.drop q.1) q.1 q.2=Zeb s s.scenes[j] k Rr 0 s.sale/\0<=q.2/\q.2<=12000000) (fun q=>Rr.length - q.1) (0,s.sale) ⟨Nat.zero_le _,rfl,by simp only;omega,by simp only;omega⟩ ?_ ?_
 . (refine Zl ?_ ?_ ?_ rfl rfl<;>dsimp only [Zg,Zo,Zh,Zm,Zd,Zp,Z9,id,go_sem,rA,rM,rS]<;>simp [Zg,Zo,Zh,Zm,Zd,Zp,Z9,Za,Zf,KFR,KFL,KF,Zc,mtO,nbr])
 rintro ⟨i,e⟩ ⟨hi0,hi1,he0,he1⟩
 simp only at hi0 hi1 he0 he1
 dsimp only [go_sem,rA,rM,rS]
 by_cases hilt:i < Rr.length
 case neg =>
  refine Zv (by simp;omega) ?_
  dsimp only [go_sem,rA,rM,rS]
  rw [List.drop_eq_nil_of_le (by omega),Zeb] at hi1
  refine gh Ww ?_
  dsimp only [go_sem,rA,rM,rS]
  have hm:0<=s.herd * e/\s.herd * e<=30 * 12000000:=⟨Int.mul_nonneg (by omega) he0,Int.mul_le_mul (by omega) he1 he0 (by decide)⟩
  rw [Zi (n:=s.herd * e) (by omega) (by omega)]
  simp only [nbr]
  dsimp only [go_sem,rA,rM,rS]
  refine ⟨(by intro c hc;simp only [List.mem_singleton] at hc;subst hc;rfl),by simp;omega,?_⟩
  dsimp only [go_sem,rA,rM,rS]
  refine gh Ww ?_
  dsimp only [go_sem,rA,rM,rS]
  rw [Zi (n:=(j:Int)+1) (by omega) (by omega)]
  refine ⟨(j+1,v+1),hlt,by simp only;omega,?_⟩
  simp only
  have hWj:s.herd * e=W[j]'(by omega):=by simp [hW,hi1]
  rw [hWj,List.take_succ_eq_append_getElem (by omega)]
  simp only [List.map_append,List.map_cons,List.map_nil]
  (refine Zl ?_ ?_ ?_ rfl rfl<;>dsimp only [Zg,Zo,Zh,Zm,Zd,Zp,Z9,id,go_sem,rA,rM,rS]<;>simp [Zg,Zo,Zh,Zm,Zd,Zp,Z9,Za,Zf,KFR,KFL,KF,Zc,mtO,nbr])
 refine Zt (by simpa using hilt) ?_
 dsimp only [go_sem,rA,rM,rS]
 refine Zs i hilt rfl ?_
 dsimp only [Zd,go_sem,rA,rM,rS]
 rw [List.drop_eq_getElem_cons hilt,Zeb] at hi1
 have hnext:IntKind.i64.wrap ((i:Int)+1)=((i+1:Nat):Int):=by rw [Zi (by omega) (by omega)];omega
 by_cases hr:Rr[i].hi<=s.till
 . refine Zt (by simpa using hr) ?_
   dsimp only [go_sem,rA,rM,rS]
   obtain ⟨hq,hpr⟩:=Zb5 h hlt (m:=i) (by omega)
   refine Zs i hq rfl ?_
   dsimp only [Zp,go_sem,rA,rM,rS]
   have hpp:=ZjP (A:=k) (B:=12) (d:=s.scenes[j].prices[i] - s.cost) (M:=1000000) hk1.1 hk1.2 (by decide) (by omega)
   rw [Zi (n:=s.scenes[j].prices[i] - s.cost) (by omega) (by omega),Zi (n:=k * (s.scenes[j].prices[i] - s.cost)) (by omega) (by omega),hnext]
   rw [if_pos hr,List.getElem?_eq_getElem hq,Option.getD_some] at hi1
   refine ⟨(i+1,max e (k * (s.scenes[j].prices[i] - s.cost))),⟨hilt,hi1,by simp only;omega,by simp only;omega⟩,by simp only;omega,?_⟩
   (refine Zl ?_ ?_ ?_ rfl rfl<;>dsimp only [Zg,Zo,Zh,Zm,Zd,Zp,Z9,id,go_sem,rA,rM,rS]<;>simp [Zg,Zo,Zh,Zm,Zd,Zp,Z9,Za,Zf,KFR,KFL,KF,Zc,mtO,nbr])
 . refine Zv (by simpa using hr) ?_
   dsimp only [go_sem,rA,rM,rS]
   rw [hnext]
   rw [if_neg hr] at hi1
   refine ⟨(i+1,e),⟨hilt,hi1,he0,he1⟩,by simp only;omega,?_⟩
   (refine Zl ?_ ?_ ?_ rfl rfl<;>dsimp only [Zg,Zo,Zh,Zm,Zd,Zp,Z9,id,go_sem,rA,rM,rS]<;>simp [Zg,Zo,Zh,Zm,Zd,Zp,Z9,Za,Zf,KFR,KFL,KF,Zc,mtO,nbr])
end Go.Proofs.Ytiigiflofnjilaa
namespace Go.Sx
open Go Go.RowKit
def RLW (l l':List SV):Prop:=∀ (w:World) (E:Env) (n ok:Nat->Prop) (ys:List Value),RL w E n ok l ys->RL w E n ok l' ys
theorem Vx {l:List SV}:RLW l l:=fun _ _ _ _ _ h=>h
theorem Zj {s s':SV} {l l':List SV} (h1:Z6 s s') (h2:RLW l l'):RLW (s :: l) (s' :: l'):=ZL h1 h2
def RRW:List (List SV)->List (List SV)->Prop
 | [],[]=>True
 | r :: xs,r' :: xs'=>RLW r r'/\r'.length=r.length/\RRW xs xs'
 | _,_=>False
theorem Zco:∀ {xs xs':List (List SV)},RRW xs xs'->xs'.length=xs.length
 | [],[],_=>rfl
 | _ :: xs,_ :: xs',h=>by simp [Zco h.2.2]
 | [],_ :: _,h=>h.elim
 | _ :: _,[],h=>h.elim
theorem Zqr {w:World} {E:Env} {n ok:Nat->Prop} {b m:Nat}:∀ {xs xs':List (List SV)} {off:Nat},RRW xs xs'->RR w E n ok b m xs off->RR w E n ok b m xs' off
 | [],[],_,_,h=>h
 | r :: xs,r' :: xs',off,hw,h=>by
  simp only [RR] at h ⊢
  obtain ⟨h0,⟨cs,h1,h2⟩,h3⟩:=h
  exact ⟨by rw [hw.2.1];exact h0,⟨cs,hw.1 _ _ _ _ _ h1,h2⟩,Zqr hw.2.2 h3⟩
 | [],_ :: _,_,h,_=>h.elim
 | _ :: _,[],_,h,_=>h.elim
theorem ZtV {c:Bool} {m:Nat} {xs xs':List (List SV)} (h:RRW xs xs'):Z6 (.sl c m xs) (.sl false m xs'):=fun w E n ok y hy=>by
 simp only [R] at hy ⊢
 obtain ⟨a,len,cap,h1,h2,h3,h4,h5⟩:=hy
 refine ⟨a,len,cap,h1,by rw [Zco h];exact h2,⟨h3.1,fun h=>by cases h⟩,by rw [Zco h];exact h4,?_⟩
 rcases h5 with h5 | ⟨b,off,h5,h6⟩
 . left
   have:=Zco h
   rw [h5] at this
   exact List.eq_nil_of_length_eq_zero this
 . exact .inr ⟨b,off,h5,Zqr h h6⟩
end Go.Sx
namespace Go.Azalai
open Go.Sx Go.Proofs.Ytiigiflofnjilaa
def Z4:Season :=
 ⟨⟨[⟨0,0,0,⟨0,0⟩,0,⟨0,0⟩,0⟩,⟨0,0,0,⟨0,0⟩,1000000,⟨0,0⟩,0⟩,⟨0,0,0,⟨0,0⟩,0,⟨0,0⟩,0⟩],
  [⟨0,1,⟨40000,40000⟩,[⟨⟨0,0⟩,⟨99,99⟩⟩]⟩,⟨1,2,⟨40000,40000⟩,[⟨⟨0,0⟩,⟨99,99⟩⟩]⟩,⟨0,2,⟨100000,100000⟩,[⟨⟨0,0⟩,⟨99,99⟩⟩]⟩]⟩,
  ⟨20000,20000⟩,⟨100000,50000,⟨5000,5000⟩,⟨0,0⟩,⟨1000,1000⟩,⟨100,100⟩,⟨0,0⟩,⟨0,0⟩,0,⟨200000,200000⟩⟩,⟨⟨100000,100000⟩,⟨50000,50000⟩,⟨0,0⟩,false⟩,
  10,10,50000,10,60,0,0,20,[⟨⟨0,0⟩,⟨0,0⟩,[⟨0,0⟩,⟨50000,50000⟩,⟨0,0⟩],[10,12,40]⟩]⟩
theorem ZY:SmallS Z4:=V3 (by decide +kernel)
theorem ZjX:ZQ Z4=true:=by decide +kernel
theorem Zm9:OkS Z4:=⟨ZY,ZjX⟩
theorem Zsb:Yc Z4 ⟨[0,1],2,2⟩=(0,0,0,0):=by decide +kernel
theorem ZqF:Yc Z4 ⟨[0,1],3,2⟩=(4,0,0,0):=by decide +kernel
theorem ZtD:Yc Z4 ⟨[2],10,1⟩=(0,0,0,0):=by decide +kernel
theorem Zft:ZaT Z4 ⟨[0,1],2,2⟩=(600,0):=by decide +kernel
theorem Zgp:ZaP Z4 ⟨[0,1],2,2⟩ 0=([⟨1,2,100000⟩],0):=by decide +kernel
theorem Zi7:ZdY Z4=(⟨[0,1],1,4⟩,660,0):=by decide +kernel
def Zld (v:Int):Int:=if v=0 then 0 else if v=1 then 2 else if v=2 then 4 else 100001
theorem Zd0 (k:Bool) (v:Int):YK k Z4.land Z4.pace 0 0 v=Zld v:=by
 refine (U0 (k:=k) (s:=0) (day:=0) Zm9.lp (by decide) (by decide) (by decide) (by decide) (d:=Zld) (by decide) ?_ ?_ ?_ v).symm
 . cases k<;>(intro x hx;simp only [Z4,List.mem_cons,List.not_mem_nil,or_false] at hx;rcases hx with rfl | rfl | rfl<;>decide)
 . intro v;unfold Zld;repeat' split
   all_goals decide
 . intro v
   unfold Zld
   split
   . rename_i h;subst h;exact .inr ⟨[],by cases k<;>decide⟩
   . split
     . rename_i h;subst h;exact .inr ⟨[0],by cases k<;>decide⟩
     . split
       . rename_i h;subst h
         exact .inr ⟨[0,1],by cases k<;>decide⟩
       . exact .inl rfl
theorem Zgh:YY Z4.land Z4.pace Z4.start Z4.day=[⟨0,0⟩,⟨2,2⟩,⟨4,4⟩]:=by
 have h:Z4.land.wells.length=3:=rfl
 show YY Z4.land Z4.pace 0 0=_
 simp only [YY,XU,h,Zd0]
 decide
theorem ZfZ:ZaL Z4=(1200,0):=by
 rw [ZaL,if_neg (by simp [ZjX]),Zet,Zgh]
 decide +kernel
end Go.Azalai
namespace Go.Proofs.Ytiigiflofnjilaa
open Go Go.Sx Go.Azalai
theorem Zah (a b:Int):Ct Try.prog 8 [I a,I b] (.agg (Zd ⟨a,b⟩)):=by
 refine t8.1 (by simp [KFR,KFL,KF]) (by simp [Zd,KFL,KF]) ?_
 dsimp only [c8,r8,go_sem,rA,rM,rS]
 rfl
theorem u119 {args:List SV} {res:SV} (ka:KFL args) (kr:KF res) (h:sx Try.prog Y0 0 c18 (st0 args 16) (Znw r18 res)) (hA:Nat.ble args.length 16=true:=by rfl):Ct Try.prog 18 args res:=X9 Try.func18 rfl b18 ZvQ ZvE n18 (Nat.le_of_ble_eq_true hA) ka kr h
theorem u73 {args:List SV} {res:SV} (ka:KFL args) (kr:KF res) (h:sx Try.prog Y0 0 c6 (st0 args 31) (Znw r6 res)) (hA:Nat.ble args.length 31=true:=by rfl):Ct Try.prog 6 args res:=X9 Try.func6 rfl b6 c6_ok r6_ok n6 (Nat.le_of_ble_eq_true hA) ka kr h
theorem u74 {args:List SV} {res:SV} (ka:KFL args) (kr:KF res) (h:sx Try.prog Y0 0 c7 (st0 args 11) (Znw r7 res)) (hA:Nat.ble args.length 11=true:=by rfl):Ct Try.prog 7 args res:=X9 Try.func7 rfl b7 c7_ok r7_ok n7 (Nat.le_of_ble_eq_true hA) ka kr h
theorem Zjw (a b c:Int):Ct Try.prog 18 [I a,I b,I c] (.agg (Zo ⟨a,b,⟨c,c⟩,[⟨⟨0,0⟩,⟨99,99⟩⟩]⟩)):=by
 refine u119 (by simp [KFR,KFL,KF]) (by simp [Zo,Zh,Zd,KFR,KFL,KF]) ?_
 dsimp only [c18,r18,go_sem,rA,rM,rS]
 repeat (refine call (Zah _ _) ?_;dsimp only [Zd,go_sem,rA,rM,rS])
 exact ⟨_,rfl,XY (Zj Z6.rfl (Zj Z6.rfl (Zj Z6.rfl (Zj Z6.rfl (Zj Zbw Vx)))))⟩
theorem V6 (an sl:Int) (legs:List Int) (c:Bool):Ct Try.prog 7 [I an,I sl,.sl c 1 (legs.map Zp)] (.agg (ZD ⟨legs,an,sl⟩)):=by
 refine u74 (by simp [Zp,Za,KFL,KF]) (by simp [ZD,Zp,Za,KFL,KF]) ?_
 dsimp only [c7,r7,go_sem,rA,rM,rS]
 exact ⟨_,rfl,XY (Zj Zbw Vx)⟩
theorem Yj:Ct Try.prog 6 [] (.agg (Zw Z4)):=by
 refine u73 (by simp [KFR,KFL,KF]) (by simp [Zw,Zm,Zg,Zo,Zh,Zd,Zp,Z4,KFR,KFL,KF]) ?_
 dsimp only [c6,r6,go_sem,rA,rM,rS]
 repeat (first | (refine call (Zah _ _) ?_;dsimp only [Zd,go_sem,rA,rM,rS]) | (refine call (Zjw _ _ _) ?_;dsimp only [Zo,go_sem,rA,rM,rS]))
 exact ⟨_,rfl,XY (Zj Zbw (Zj Zbw (Zj Z6.rfl (Zj Z6.rfl (Zj Z6.rfl (Zj Z6.rfl (Zj Z6.rfl (Zj Z6.rfl (Zj Z6.rfl (Zj Z6.rfl (Zj Z6.rfl (Zj Z6.rfl (Zj Z6.rfl (Zj Z6.rfl (Zj Z6.rfl (Zj Z6.rfl (Zj Z6.rfl (Zj Z6.rfl (Zj Z6.rfl (Zj Z6.rfl (Zj Z6.rfl (Zj Z6.rfl (Zj Z6.rfl (Zj Z6.rfl (Zj Z6.rfl (Zj Z6.rfl (Zj Z6.rfl (Zj Z6.rfl (Zj Z6.rfl (Zj Z6.rfl (Zj Z6.rfl (Zj Z6.rfl (Zj Z6.rfl (Zj Z6.rfl (Zj Z6.rfl (Zj Z6.rfl (Zj (ZtV ⟨Zj Z6.rfl (Zj Z6.rfl (Zj Z6.rfl (Zj Z6.rfl (Zj Zbw (Zj Zbw Vx))))),rfl,trivial⟩) Vx)))))))))))))))))))))))))))))))))))))⟩
end Go.Proofs.Ytiigiflofnjilaa
namespace Go.Azalai
open Go.Sx
end Go.Azalai
namespace Go.Proofs.Ytiigiflofnjilaa
open Go Go.Sx Go.Azalai
structure ReadyS (s:Season) (p:Plan):Prop where
 great:Zkd s=false
 ok:OkS s
 legs:p.legs.length<=40
 plan:X4 s p=true
 till:s.till<=2000
theorem Zlu:Ct Try.prog 4 [] (B true):=by
 have h1:=YW Z4 ZY ⟨[0,1],2,2⟩ (by decide)
 have h2:=YW Z4 ZY ⟨[0,1],3,2⟩ (by decide)
 have h3:=YW Z4 ZY ⟨[2],10,1⟩ (by decide)
 have h4:=Zde Z4 ZY ⟨[0,1],2,2⟩ (by decide)
 have h5:=Ze1 Z4 ZY ⟨[0,1],2,2⟩ (by decide) 0
 have h6:=Zjn Z4 ZY
 have h7:=ZmM Z4 ZY
 rw [Zsb] at h1
 rw [ZqF] at h2
 rw [ZtD] at h3
 rw [Zft] at h4
 rw [Zgp] at h5
 rw [Zi7] at h6
 rw [ZfZ] at h7
 refine t4.1 (by simp [KFR,KFL,KF]) (by simp [KFL,KF]) ?_
 dsimp only [c4,r4,go_sem,rA,rM,rS]
 refine call Yj ?_
 dsimp only [go_sem,rA,rM,rS]
 refine call (V6 2 2 [0,1] true) ?_
 dsimp only [go_sem,rA,rM,rS]
 refine call h1 ?_
 dsimp only [Vv,go_sem,rA,rM,rS]
 refine call Yj ?_
 dsimp only [go_sem,rA,rM,rS]
 refine call (V6 3 2 [0,1] true) ?_
 dsimp only [go_sem,rA,rM,rS]
 refine call h2 ?_
 dsimp only [Vv,go_sem,rA,rM,rS]
 refine call Yj ?_
 dsimp only [go_sem,rA,rM,rS]
 refine call (V6 10 1 [2] true) ?_
 dsimp only [go_sem,rA,rM,rS]
 refine call h3 ?_
 dsimp only [Vv,go_sem,rA,rM,rS]
 refine call Yj ?_
 dsimp only [go_sem,rA,rM,rS]
 refine call (V6 2 2 [0,1] true) ?_
 dsimp only [go_sem,rA,rM,rS]
 refine call h4 ?_
 dsimp only [go_sem,rA,rM,rS]
 refine call Yj ?_
 dsimp only [go_sem,rA,rM,rS]
 refine call (V6 2 2 [0,1] true) ?_
 dsimp only [go_sem,rA,rM,rS]
 refine call h5 ?_
 dsimp only [Ze2,go_sem,rA,rM,rS]
 refine call Yj ?_
 dsimp only [go_sem,rA,rM,rS]
 refine call h6 ?_
 dsimp only [Zlk,ZD,go_sem,rA,rM,rS]
 refine call Yj ?_
 dsimp only [go_sem,rA,rM,rS]
 refine call h7 ?_
 dsimp only [go_sem,rA,rM,rS]
 repeat (first | (refine gb ?_;dsimp only [go_sem,rA,rM,rS]) | (refine call (ZcZ [⟨1,2,100000⟩] [⟨1,2,100000⟩] (by decide) (by decide) false true) ?_;dsimp only [go_sem,rA,rM,rS]) | (refine call (V6 1 4 [0,1] true) ?_;dsimp only [ZD,go_sem,rA,rM,rS]) | (refine call (ZdP ⟨[0,1],1,4⟩ ⟨[0,1],1,4⟩ (by decide) (by decide)) ?_;dsimp only [go_sem,rA,rM,rS]))
 simp
def c3:SC:=(.seq (.reg [
 o1 0 (.mv (.c (.bool false)))])
 (.seq (.seq (.reg [
 o1 23 (.mv (.c (.bool false))),
 ⟨some 24,.call 4 [],some (23,false),[]⟩,
 ⟨some 25,.un .not (.t 24),some (23,false),[]⟩,
 o1 26 (.pick (.t 23) (.c (.bool true)) (.t 25))])
 (.cond (.t 26)
 (.seq (.reg [
  o1 0 (.mv (.c (.bool false)))])
  .ret)
 .skip))
 (.seq (.reg [
 o1 28 (.call 6 []),
 o1 29 (.bsl 1 3 [.c (.int .i64 0),.c (.int .i64 1)]),
 o1 30 (.call 7 [.c (.int .i64 10),.c (.int .i64 5),.t 29]),
 o1 31 (.call 5 [.t 28,.t 30]),
 m1 27 31,
 o1 32 (.ext (.t 27) 0),
 o1 33 (.ext (.t 27) 1),
 o1 34 (.ext (.t 27) 2),
 o1 35 (.ext (.t 27) 3),
 m1 1 32,
 m1 2 33,
 m1 3 34,
 m1 4 35])
 (.seq (.reg [
 o1 37 (.call 6 []),
 o1 38 (.bsl 1 3 [.c (.int .i64 2)]),
 o1 39 (.call 7 [.c (.int .i64 10),.c (.int .i64 2),.t 38]),
 o1 40 (.call 5 [.t 37,.t 39]),
 m1 36 40,
 o1 41 (.ext (.t 36) 0),
 o1 42 (.ext (.t 36) 1),
 o1 43 (.ext (.t 36) 2),
 o1 44 (.ext (.t 36) 3),
 m1 5 41,
 m1 6 42,
 m1 7 43,
 m1 8 44])
 (.seq (.reg [
 o1 45 (.call 6 []),
 o1 9 (.alloc zv0 38),
 ⟨none,.st (.t 9) (.t 45) 37,none,[]⟩])
 (.seq (.reg [
 o1 46 (.addo (.t 9) 35),
 ⟨none,.st (.t 46) (.c (.int .i64 3)) 1,none,[]⟩])
 (.seq (.regd [0,1,2,3,4,5,6,7,8,9,10,11,12] [
 .op (o1 48 (.ld (.t 9) 37 true)),
 .op (o1 49 (.bsl 1 3 [.c (.int .i64 0),.c (.int .i64 1)])),
 .op ⟨some 50,.call 7 [.c (.int .i64 0),.c (.int .i64 0),.t 49],none,[1]⟩,
 .op ⟨some 51,.call 5 [.t 48,.t 50],none,[0,2]⟩,
 .op ⟨some 47,.mv (.t 51),none,[3]⟩,
 .op ⟨some 52,.ext (.t 47) 0,none,[4]⟩,
 .op ⟨some 53,.ext (.t 47) 1,none,[4]⟩,
 .op ⟨some 54,.ext (.t 47) 2,none,[4]⟩,
 .op ⟨some 55,.ext (.t 47) 3,none,[4]⟩,
 .op ⟨some 10,.mv (.t 52),none,[0,1,2,3,4,5]⟩,
 .op ⟨some 11,.mv (.t 53),none,[0,1,2,3,4,5,6,9]⟩,
 .op ⟨some 12,.mv (.t 54),none,[0,1,2,3,4,5,6,7,9,10]⟩,
 .op ⟨some 13,.mv (.t 55),none,[0,1,2,3,4,5,6,7,8,9,10,11]⟩] 0 0 [
])
 (.seq (.reg [
 o1 56 (.call 6 []),
 o1 14 (.alloc zv0 38),
 ⟨none,.st (.t 14) (.t 56) 37,none,[]⟩])
 (.seq (.reg [
 o1 57 (.call 8 [.c (.int .i64 3000),.c (.int .i64 3000)]),
 o1 58 (.addo (.t 14) 4),
 o1 59 (.addo (.t 58) 8),
 ⟨none,.st (.t 59) (.t 57) 2,none,[]⟩])
 (.seq (.regd [0,1,2,3,4,5,6,7,8,9,10,11,12] [
 .op (o1 61 (.ld (.t 14) 37 true)),
 .op (o1 62 (.bsl 1 3 [.c (.int .i64 0)])),
 .op ⟨some 63,.call 7 [.c (.int .i64 1),.c (.int .i64 0),.t 62],none,[1]⟩,
 .op ⟨some 64,.call 5 [.t 61,.t 63],none,[0,2]⟩,
 .op ⟨some 60,.mv (.t 64),none,[3]⟩,
 .op ⟨some 65,.ext (.t 60) 0,none,[4]⟩,
 .op ⟨some 66,.ext (.t 60) 1,none,[4]⟩,
 .op ⟨some 67,.ext (.t 60) 2,none,[4]⟩,
 .op ⟨some 68,.ext (.t 60) 3,none,[4]⟩,
 .op ⟨some 15,.mv (.t 65),none,[0,1,2,3,4,5]⟩,
 .op ⟨some 16,.mv (.t 66),none,[0,1,2,3,4,5,6,9]⟩,
 .op ⟨some 17,.mv (.t 67),none,[0,1,2,3,4,5,6,7,9,10]⟩,
 .op ⟨some 18,.mv (.t 68),none,[0,1,2,3,4,5,6,7,8,9,10,11]⟩] 0 0 [
])
 (.seq (.seq (.reg [
 m1 69 4,
 o1 70 (.bin .neq (.t 69) (.c (.int .i64 0))),
 m1 71 70,
 ⟨some 72,.mv (.t 1),some (71,false),[]⟩,
 ⟨some 73,.bin .neq (.t 72) (.c (.int .u8 2)),some (71,false),[]⟩,
 o1 74 (.pick (.t 71) (.c (.bool true)) (.t 73)),
 m1 75 74,
 ⟨some 76,.mv (.t 3),some (75,false),[]⟩,
 ⟨some 77,.bin .neq (.t 76) (.c (.int .i64 0)),some (75,false),[]⟩,
 o1 78 (.pick (.t 75) (.c (.bool true)) (.t 77)),
 m1 79 78,
 ⟨some 80,.mv (.t 8),some (79,false),[]⟩,
 ⟨some 81,.bin .neq (.t 80) (.c (.int .i64 0)),some (79,false),[]⟩,
 o1 82 (.pick (.t 79) (.c (.bool true)) (.t 81)),
 m1 83 82,
 ⟨some 84,.mv (.t 5),some (83,false),[]⟩,
 ⟨some 85,.bin .neq (.t 84) (.c (.int .u8 2)),some (83,false),[]⟩,
 o1 86 (.pick (.t 83) (.c (.bool true)) (.t 85)),
 m1 87 86,
 ⟨some 88,.mv (.t 7),some (87,false),[]⟩,
 ⟨some 89,.bin .neq (.t 88) (.c (.int .i64 0)),some (87,false),[]⟩,
 o1 90 (.pick (.t 87) (.c (.bool true)) (.t 89)),
 m1 91 90,
 ⟨some 92,.mv (.t 13),some (91,false),[]⟩,
 ⟨some 93,.bin .neq (.t 92) (.c (.int .i64 0)),some (91,false),[]⟩,
 o1 94 (.pick (.t 91) (.c (.bool true)) (.t 93)),
 m1 95 94,
 ⟨some 96,.mv (.t 10),some (95,false),[]⟩,
 ⟨some 97,.bin .neq (.t 96) (.c (.int .u8 1)),some (95,false),[]⟩,
 o1 98 (.pick (.t 95) (.c (.bool true)) (.t 97)),
 m1 99 98,
 ⟨some 100,.mv (.t 18),some (99,false),[]⟩,
 ⟨some 101,.bin .neq (.t 100) (.c (.int .i64 0)),some (99,false),[]⟩,
 o1 102 (.pick (.t 99) (.c (.bool true)) (.t 101)),
 m1 103 102,
 ⟨some 104,.mv (.t 15),some (103,false),[]⟩,
 ⟨some 105,.bin .neq (.t 104) (.c (.int .u8 3)),some (103,false),[]⟩,
 o1 106 (.pick (.t 103) (.c (.bool true)) (.t 105))])
 (.cond (.t 106)
 (.seq (.reg [
  o1 0 (.mv (.c (.bool false)))])
  .ret)
 .skip))
 (.seq (.reg [
 o1 107 (.call 6 []),
 o1 19 (.alloc zv0 38),
 ⟨none,.st (.t 19) (.t 107) 37,none,[]⟩])
 (.seq (.reg [
 o1 108 (.addo (.t 19) 36),
 ⟨none,.st (.t 108) (.c (.slice none 0 0)) 1,none,[]⟩])
 (.seq (.reg [
 o1 110 (.call 6 []),
 o1 111 (.bsl 1 3 [.c (.int .i64 0),.c (.int .i64 0)]),
 o1 112 (.call 7 [.c (.int .i64 1),.c (.int .i64 1),.t 111]),
 o1 113 (.call 5 [.t 110,.t 112]),
 m1 109 113,
 o1 114 (.ext (.t 109) 0),
 o1 115 (.ext (.t 109) 1),
 o1 116 (.ext (.t 109) 2),
 o1 117 (.ext (.t 109) 3),
 m1 4 117])
 (.seq (.reg [
 o1 119 (.call 6 []),
 o1 120 (.call 7 [.c (.int .i64 11),.c (.int .i64 1),.c (.slice none 0 0)]),
 o1 121 (.call 5 [.t 119,.t 120]),
 m1 118 121,
 o1 122 (.ext (.t 118) 0),
 o1 123 (.ext (.t 118) 1),
 o1 124 (.ext (.t 118) 2),
 o1 125 (.ext (.t 118) 3),
 m1 8 125])
 (.seq (.reg [
 o1 127 (.call 6 []),
 o1 128 (.bsl 1 3 [.c (.int .i64 0),.c (.int .i64 1)]),
 o1 129 (.call 7 [.c (.int .i64 3),.c (.int .i64 2),.t 128]),
 o1 130 (.call 9 [.t 127,.t 129]),
 m1 126 130,
 o1 131 (.ext (.t 126) 0),
 o1 132 (.ext (.t 126) 1),
 m1 13 132])
 (.seq (.reg [
 o1 134 (.call 6 []),
 o1 135 (.bsl 1 3 [.c (.int .i64 0),.c (.int .i64 1)]),
 o1 136 (.call 7 [.c (.int .i64 2),.c (.int .i64 2),.t 135]),
 o1 137 (.call 10 [.t 134,.t 136,.c (.int .i64 1)]),
 m1 133 137,
 o1 138 (.ext (.t 133) 0),
 o1 139 (.ext (.t 133) 1),
 m1 18 139])
 (.seq (.reg [
 o1 141 (.ld (.t 19) 37 true),
 o1 142 (.call 11 [.t 141]),
 m1 140 142,
 o1 143 (.ext (.t 140) 0),
 o1 144 (.ext (.t 140) 1),
 o1 145 (.ext (.t 140) 2),
 o1 20 (.alloc [.slice none 0 0,.int .i64 0,.int .i64 0] 42),
 ⟨none,.st (.t 20) (.t 143) 3,none,[]⟩,
 m1 21 144,
 m1 22 145])
 (.seq (.reg [
 o1 146 (.ld (.t 19) 37 true),
 o1 147 (.call 12 [.t 146]),
 o1 148 (.bin .eql (.t 147) (.c (.int .i64 90))),
 m1 149 148,
 ⟨some 150,.mv (.t 4),some (149,true),[]⟩,
 ⟨some 151,.bin .eql (.t 150) (.c (.int .i64 91)),some (149,true),[]⟩,
 o1 152 (.pick (.t 149) (.t 151) (.c (.bool false))),
 m1 153 152,
 ⟨some 154,.mv (.t 8),some (153,true),[]⟩,
 ⟨some 155,.bin .eql (.t 154) (.c (.int .i64 91)),some (153,true),[]⟩,
 o1 156 (.pick (.t 153) (.t 155) (.c (.bool false))),
 m1 157 156,
 ⟨some 158,.mv (.t 13),some (157,true),[]⟩,
 ⟨some 159,.bin .eql (.t 158) (.c (.int .i64 92)),some (157,true),[]⟩,
 o1 160 (.pick (.t 157) (.t 159) (.c (.bool false))),
 m1 161 160,
 ⟨some 162,.mv (.t 18),some (161,true),[]⟩,
 ⟨some 163,.bin .eql (.t 162) (.c (.int .i64 92)),some (161,true),[]⟩,
 o1 164 (.pick (.t 161) (.t 163) (.c (.bool false))),
 m1 165 164,
 ⟨some 166,.mv (.t 22),some (165,true),[]⟩,
 ⟨some 167,.bin .eql (.t 166) (.c (.int .i64 90)),some (165,true),[]⟩,
 o1 168 (.pick (.t 165) (.t 167) (.c (.bool false))),
 m1 0 168])
 .ret)))))))))))))))))))
def r3:List RV:=[.tmp 0]
theorem n3:Try.f3.ntmps=169:=by kernel_rfl
theorem b3:YE Try.prog 3=true:=by kernel_rfl
theorem t3:Qt1 Try.prog 3 c3 r3 169:=Yn Try.func3 rfl b3 (by kernel_rfl) (by kernel_rfl) n3
end Go.Proofs.Ytiigiflofnjilaa
namespace Go.Azalai
open Go.Sx Go.Proofs.Ytiigiflofnjilaa
def Zs9:Season:={ Z4 with till:=3 }
def ZtF:Season:={ Z4 with breed:={ Z4.breed with burn:=⟨3000,3000⟩ } }
def Zfz:Season:={ Z4 with scenes:=[] }
theorem Zfp:SmallS Zs9:=V3 (by decide +kernel)
theorem Zgj:SmallS ZtF:=V3 (by decide +kernel)
theorem ZbK:SmallS Zfz:=V3 (by decide +kernel)
theorem ex_a:Yc Z4 ⟨[0,1],10,5⟩=(2,0,0,0):=by decide +kernel
theorem ex_b:Yc Z4 ⟨[2],10,2⟩=(2,0,0,0):=by decide +kernel
theorem ex_c:Yc Zs9 ⟨[0,1],0,0⟩=(1,0,0,0):=by decide +kernel
theorem ex_d:Yc ZtF ⟨[0],1,0⟩=(3,0,0,0):=by decide +kernel
theorem ex_e:Yc Z4 ⟨[0,0],1,1⟩=(0,0,0,91):=by decide +kernel
theorem ex_f:Yc Z4 ⟨[],11,1⟩=(0,0,0,91):=by decide +kernel
theorem ex_g:ZaT Z4 ⟨[0,1],3,2⟩=(0,92):=by decide +kernel
theorem ex_h:ZaP Z4 ⟨[0,1],2,2⟩ 1=([],92):=by decide +kernel
theorem ex_i:ZdY Zfz=(⟨[],0,0⟩,0,90):=by decide +kernel
theorem ex_k:ZQ Zfz=false:=by decide +kernel
end Go.Azalai
namespace Go.Proofs.Ytiigiflofnjilaa
open Go Go.Sx Go.Azalai
theorem Zvy (an sl:Int):Ct Try.prog 7 [I an,I sl,.v (.slice none 0 0)] (.agg (ZD ⟨[],an,sl⟩)) :=
 (V6 an sl [] false).args (by simp [KFL,KF]) (ZL (fun _ _ _ _ _ h=>h) (ZL (fun _ _ _ _ _ h=>h) (ZL Yr XF)))
def Zjb:List SV:=(Zw Z4).take 36 ++ [.v (.slice none 0 0)]
theorem ZdH:Ct Try.prog 3 [] (B true):=by
 have ha:=YW Z4 ZY ⟨[0,1],10,5⟩ (by decide)
 have hb:=YW Z4 ZY ⟨[2],10,2⟩ (by decide)
 have hc:=YW Zs9 Zfp ⟨[0,1],0,0⟩ (by decide)
 have hd:=YW ZtF Zgj ⟨[0],1,0⟩ (by decide)
 have he:=YW Z4 ZY ⟨[0,0],1,1⟩ (by decide)
 have hf:=YW Z4 ZY ⟨[],11,1⟩ (by decide)
 have hg:=Zde Z4 ZY ⟨[0,1],3,2⟩ (by decide)
 have hh:=Ze1 Z4 ZY ⟨[0,1],2,2⟩ (by decide) 1
 have hi:=Zjn Zfz ZbK
 have hk:=VU Zfz ZbK
 rw [ex_a] at ha
 rw [ex_b] at hb
 rw [ex_c] at hc
 rw [ex_d] at hd
 rw [ex_e] at he
 rw [ex_f] at hf
 rw [ex_g] at hg
 rw [ex_h] at hh
 rw [ex_i] at hi
 rw [ex_k] at hk
 have hw:RLW Zjb (Zw Zfz):=Zj Z6.rfl (Zj Z6.rfl (Zj Z6.rfl (Zj Z6.rfl (Zj Z6.rfl (Zj Z6.rfl (Zj Z6.rfl (Zj Z6.rfl (Zj Z6.rfl (Zj Z6.rfl (Zj Z6.rfl (Zj Z6.rfl (Zj Z6.rfl (Zj Z6.rfl (Zj Z6.rfl (Zj Z6.rfl (Zj Z6.rfl (Zj Z6.rfl (Zj Z6.rfl (Zj Z6.rfl (Zj Z6.rfl (Zj Z6.rfl (Zj Z6.rfl (Zj Z6.rfl (Zj Z6.rfl (Zj Z6.rfl (Zj Z6.rfl (Zj Z6.rfl (Zj Z6.rfl (Zj Z6.rfl (Zj Z6.rfl (Zj Z6.rfl (Zj Z6.rfl (Zj Z6.rfl (Zj Z6.rfl (Zj Z6.rfl (Zj Yr Vx))))))))))))))))))))))))))))))))))))
 have hi':=hi.args (args0:=[.agg Zjb]) (by simp [Zjb,Zw,Zm,Zg,Zo,Zh,Zd,Zp,Z4,KFR,KFL,KF]) (Zj (XY hw) Vx)
 have hk':=hk.args (args0:=[.agg Zjb]) (by simp [Zjb,Zw,Zm,Zg,Zo,Zh,Zd,Zp,Z4,KFR,KFL,KF]) (Zj (XY hw) Vx)
 refine t3.1 (by simp [KFR,KFL,KF]) (by simp [KFL,KF]) ?_
 dsimp only [c3,r3,go_sem,rA,rM,rS]
 refine YH rfl ?_
 dsimp only [go_sem,rA,rM,rS]
 refine call Zlu ?_
 dsimp only [go_sem,rA,rM,rS]
 refine YH rfl ?_
 dsimp only [go_sem,rA,rM,rS]
 refine Zv rfl ?_
 dsimp only [go_sem,rA,rM,rS]
 refine call Yj ?_
 dsimp only [go_sem,rA,rM,rS]
 refine call (V6 10 5 [0,1] true) ?_
 dsimp only [go_sem,rA,rM,rS]
 refine call ha ?_
 dsimp only [Vv,go_sem,rA,rM,rS]
 refine call Yj ?_
 dsimp only [go_sem,rA,rM,rS]
 refine call (V6 10 2 [2] true) ?_
 dsimp only [go_sem,rA,rM,rS]
 refine call hb ?_
 dsimp only [Vv,go_sem,rA,rM,rS]
 refine call Yj ?_
 dsimp only [Zw,go_sem,rA,rM,rS]
 refine call (V6 0 0 [0,1] true) ?_
 dsimp only [go_sem,rA,rM,rS]
 refine call hc ?_
 dsimp only [Vv,go_sem,rA,rM,rS]
 refine call Yj ?_
 dsimp only [Zw,go_sem,rA,rM,rS]
 refine call (Zah 3000 3000) ?_
 dsimp only [Zd,go_sem,rA,rM,rS]
 refine call (V6 1 0 [0] true) ?_
 dsimp only [go_sem,rA,rM,rS]
 refine call hd ?_
 dsimp only [Vv,go_sem,rA,rM,rS]
 repeat (refine gb ?_;dsimp only [go_sem,rA,rM,rS])
 refine Zv (by decide) ?_
 dsimp only [go_sem,rA,rM,rS]
 refine call Yj ?_
 dsimp only [Zw,go_sem,rA,rM,rS]
 refine call Yj ?_
 dsimp only [go_sem,rA,rM,rS]
 refine call (V6 1 1 [0,0] true) ?_
 dsimp only [go_sem,rA,rM,rS]
 refine call he ?_
 dsimp only [Vv,go_sem,rA,rM,rS]
 refine call Yj ?_
 dsimp only [go_sem,rA,rM,rS]
 refine call (Zvy 11 1) ?_
 dsimp only [go_sem,rA,rM,rS]
 refine call hf ?_
 dsimp only [Vv,go_sem,rA,rM,rS]
 refine call Yj ?_
 dsimp only [go_sem,rA,rM,rS]
 refine call (V6 3 2 [0,1] true) ?_
 dsimp only [go_sem,rA,rM,rS]
 refine call hg ?_
 dsimp only [go_sem,rA,rM,rS]
 refine call Yj ?_
 dsimp only [go_sem,rA,rM,rS]
 refine call (V6 2 2 [0,1] true) ?_
 dsimp only [go_sem,rA,rM,rS]
 refine call hh ?_
 dsimp only [Ze2,go_sem,rA,rM,rS]
 refine call hi' ?_
 dsimp only [Zlk,ZD,go_sem,rA,rM,rS]
 refine call hk' ?_
 dsimp only [go_sem,rA,rM,rS]
 repeat (refine gb ?_;dsimp only [go_sem,rA,rM,rS])
 rfl
end Go.Proofs.Ytiigiflofnjilaa
