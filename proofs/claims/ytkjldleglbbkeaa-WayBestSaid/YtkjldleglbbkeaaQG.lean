/- Walks and plain laws that lead to the given statement, part 7 of 8. -/
import Derived.Test.YtkjldleglbbkeaaQF
import Derived.Test.YtkjldleglbbkeaaProg
set_option maxRecDepth 100000
set_option maxHeartbeats 16000000
set_option linter.all false
open Nat renaming reduceAdd->rA,reduceMul->rM,reduceSub->rS,beq_refl->nbr
namespace Go.Azalai
open Go.Sx
theorem YR {l:Land} {p:Span} {to till:Int} {f:Nat} {been:List Int} {v t:Int} {j:Nat}:∀ (k:Nat),∃ R,Z3 l p to till f been v t (j+k)=Z3 l p to till f been v t j ++ R
 | 0=>⟨[],by simp⟩
 | k+1=>by
  obtain ⟨R,h⟩:=YR k
  exact ⟨R ++ YO l p to till f been v t (j+k),by rw [<- Nat.add_assoc,ZW,h,List.append_assoc]⟩
theorem XP {l:Land} {p:Span} {to till:Int} {f:Nat} {been:List Int} {v t:Int} {j:Nat} {x:Leg} (hx:l.legs[j]? = some x) (h:Zk x v < 0\/Zk x v ∈ v :: been):YO l p to till f been v t j=[]:=by
 simp only [YO,hx];rw [if_pos h]
theorem WH {l:Land} {p:Span} {to till:Int} {f:Nat} {been:List Int} {v t:Int} {j:Nat} {x:Leg} (hx:l.legs[j]? = some x) (h0:¬ Zk x v < 0) (h:Zk x v ∉ v :: been) :
 YO l p to till f been v t j=(Xr l p to till f (v :: been) (Zk x v) (ZF true x p t)).map (j :: ·):=by
 simp only [YO,hx];rw [if_neg (fun q=>q.elim h0 h)]
end Go.Azalai
namespace Go.Proofs.Ytkjldleglbbkeaa
open Go Go.Sx Go.Azalai
def Yn (w:List Nat):List SV:=[ZH w]
def Ys (l:Land) (p:Span) (till to:Int) (all:List (List Nat)) (ver:Nat) (L:List (Nat × Int × Bool)) (clk:Nat):List (Nat × HB) :=
 [(0,.cells [I till] 3),(1,.cells [I to] 3),(2,.cells [.mr 6 ver] 53),(3,.cells [.mp 7] 99),(4,.cells (Zu l p) 119),(5,.cells [.cl 77 [.p 0 0,.p 1 0,.p 2 0,.p 3 0,.p 4 0,.p 5 0]] 134),(6,.row ver 1 (all.map Yn) 59),(7,.map (mpS kI B L) clk)]
def lookP (l:Land) (p:Span) (till to:Int) (all:List (List Nat)) (L:List (Nat × Int × Bool)) (W:List (List Nat)):Ot->Prop:=fun o =>
 ∃ ver clk,MW L clk/\o=⟨false,B (decide ((all ++ W).length<=200)),Ys l p till to (cap (all ++ W)) ver L clk,8⟩
def ZqD (been:List Int) (L:List (Nat × Int × Bool)):Prop:=∀ u:Int,YC u L=if u ∈ been then some true else none
theorem Zd8 {L:List (Nat × Int × Bool)} {c:Nat} {v:Int} {b:Bool} (h:YC v L=none):Vz v (W0 c v b L)=L:=by
 rw [UU h]
 have key:∀ (L:List (Nat × Int × Bool)),YC v L=none->Vz v (L ++ [(c,v,b)])=L:=by
  intro L
  induction L with
  | nil=>intro _;simp [Vz]
  | cons e L ih =>
   intro h
   have hne:e.2.1≠v:=Y9.1 h e (by simp)
   have hL:YC v L=none:=Y9.2 fun x hx=>Y9.1 h x (by simp [hx])
   have:=ih hL
   obtain ⟨e1,e2,e3⟩:=e
   simp only at hne
   simp only [List.cons_append,Vz]
   rw [this]
   simp [hne,Ne.symm hne]
 exact key L h
theorem ZsR (l:Land) (p:Span) (hs:Xy l) (hok:OkLP l p) (till to:Int):∀ (f:Nat) (been:List Int) (v t:Int) (way:List Nat) (all:List (List Nat)) (ver clk:Nat) (L:List (Nat × Int × Bool)) (s1:SV),ZrQ l f been->v ∉ been->(0<=v/\v < l.wells.length)->(0<=t/\t<=100001) ->
 way.length+f<=1000->all.length<=200->MW L clk->ZqD been L->(s1=ZH way\/s1 = .v (.slice none 0 0)/\way=[]) ->
 CtM Try.prog 77 (Ys l p till to all ver L clk) 8 [.agg [I v,I t],s1,.p 0 0,.p 1 0,.p 2 0,.p 3 0,.p 4 0,.p 5 0] (lookP l p till to all L ((Xr l p to till f been v t).map (way ++ ·))):=by
 intro f
 induction f with
 | zero =>
  intro been v t way all ver clk L s1 hR hv hvi
  obtain ⟨g,h,_⟩:=hR.pos hv hvi
  omega
 | succ f ih =>
 intro been v t way all ver clk L s1 hR hv hvi ht hlen hall hM hbL hs1
 obtain ⟨g,hg,hR'⟩:=hR.pos hv hvi
 have hgf:g=f:=by omega
 subst hgf
 have hleg:=hs.2.1
 refine m77 (by simp [hpb,Ys]) (fun o ho=>?_) ?_
 . obtain ⟨ver',clk',_,rfl⟩:=ho
   simp [Ys,KX,KXL,KXP,KXH,Za,KFL,KF,Zu,Zc,Zj,Zd,Yn,ZH,ZS,Zm,Zl]
 dsimp only [c77,r77,Ys,go_sem,rA,rM,rS]
 rcases hs1 with rfl | ⟨rfl,hw0⟩
 . refine gh Yw ?_
   dsimp only [ZH,go_sem,rA,rM,rS]
   refine br ?_ ?_
   . intro hlate
     have hlate:t > till:=of_decide_eq_true hlate
     dsimp only [go_sem,rA,rM,rS]
     refine ⟨_,⟨ver,clk,hM,rfl⟩,?_⟩
     rw [Za8 hlate,List.map_nil,List.append_nil,Ws (by omega),decide_eq_true hall]
     (refine Xe ?_ ?_ ?_ rfl<;>dsimp only [Zu,Zc,Zj,Zd,Yn,ZH,ZS,Zn,Zm,Zl,Za,Ys,id,go_sem,rA,rM,rS]<;>simp [Zu,Zc,Zj,Zd,Yn,ZH,ZS,Zn,Zm,Zl,Za,Ys,Za,Zf,KFR,KFL,KF,Zb,mtO,nbr])
   intro hlate
   have hlate:¬ t > till:=of_decide_eq_false hlate
   dsimp only [go_sem,rA,rM,rS]
   refine br ?_ ?_
   . intro hto
     have hto:v=to:=by simpa using hto
     dsimp only [go_sem,rA,rM,rS]
     refine call (ZaM way (by omega)) ?_
     dsimp only [ZH,go_sem,rA,rM,rS]
     simp only [nbr]
     dsimp only [go_sem,rA,rM,rS]
     refine ⟨(by intro c hc;simp only [List.mem_singleton] at hc;subst hc;rfl),by simp;omega,?_⟩
     dsimp only [go_sem,rA,rM,rS]
     simp only [nbr]
     dsimp only [go_sem,rA,rM,rS]
     have e:all.map Yn ++ [[SV.sl false 1 (way.map ZS)]]=(all ++ [way]).map Yn:=by simp [Yn,ZH]
     rw [e]
     refine ⟨_,⟨ver+1,clk,hM,rfl⟩,?_⟩
     rw [Yv,if_neg hlate,if_pos hto]
     simp only [List.map_cons,List.map_nil,List.append_nil,List.length_map]
     rw [Ws (by simp;omega)]
     have hd:decide (((all ++ [way]).length:Int)<=200)=decide ((all ++ [way]).length<=200):=by simp;omega
     rw [hd]
     (refine Xe ?_ ?_ ?_ rfl<;>dsimp only [Zu,Zc,Zj,Zd,Yn,ZH,ZS,Zn,Zm,Zl,Za,Ys,id,go_sem,rA,rM,rS]<;>simp [Zu,Zc,Zj,Zd,Yn,ZH,ZS,Zn,Zm,Zl,Za,Ys,Za,Zf,KFR,KFL,KF,Zb,mtO,nbr])
   intro hto
   have hto:¬ v=to:=by simpa using hto
   dsimp only [go_sem,rA,rM,rS]
   refine Zde (ins:=false) (key:=kI) (val:=B) (L:=L) (k:=v) (v:=true) rfl rfl u99 ZcO rfl rfl (by simp) ?_
   dsimp only [go_sem,rA,rM,rS]
   refine ⟨rfl,?_⟩
   have hvL:YC v L=none:=by rw [hbL,if_neg hv]
   have hM1:=hM.set (k:=v) true
   have hL1:ZqD (v :: been) (W0 clk v true L):=fun u=>by
    rw [XB]
    by_cases hu:u=v
    . simp [hu]
    . rw [if_neg hu,hbL]
      simp [hu]
   have hdel:=Zd8 (L:=L) (c:=clk) (b:=true) hvL
   generalize W0 clk v true L=L1 at hM1 hL1 hdel ⊢
   generalize ZaU clk v L=clk1 at hM1 ⊢
   refine YV [] (Vm l p v) rfl rfl rfl ?_ ?_ ?_
   . exact Zb (by simp [Zu,Zc,Zj,Zd,Za,KFL,KF])
   . trivial
   dsimp only [Ut,Zu,go_sem,rA,rM,rS]
   refine gh Yw ?_
   dsimp only [go_sem,rA,rM,rS]
   refine ⟨b97,fun rec=>?_⟩
   refine y97 ?_
   dsimp only [c97,r97,go_sem,rA,rM,rS]
   refine YB (fun q:Nat × List (List Nat) × Nat × Nat=>[(10,I q.1)]) (fun q=>[(2,.cells [.mr 6 q.2.2.1] 53),(6,.row q.2.2.1 1 (q.2.1.map Yn) 59),(7,.map (mpS kI B L1) q.2.2.2)])
    (fun q=>q.1<=l.legs.length/\MW L1 q.2.2.2/\q.2.1=all ++ (Z3 l p to till g been v t q.1).map (way ++ ·)/\q.2.1.length<=200) (fun q=>l.legs.length - q.1) (0,all,ver,clk1) ⟨Nat.zero_le _,hM1,by simp [Zb3],hall⟩ ?_ ?_
   . (refine Zi ?_ ?_ ?_ rfl rfl<;>dsimp only [Zu,Zc,Zj,Zd,Yn,ZH,ZS,Zn,Zm,Zl,Za,id,go_sem,rA,rM,rS]<;>simp [Zu,Zc,Zj,Zd,Yn,ZH,ZS,Zn,Zm,Zl,Za,Za,Zf,KFR,KFL,KF,Zb,mtO,nbr])
   rintro ⟨j,allj,ver,clk⟩ ⟨hj,hMj,hallj,hlenj⟩
   simp only at hj hMj hallj hlenj
   dsimp only [go_sem,rA,rM,rS]
   simp only [List.length_map]
   by_cases hlt:j < l.legs.length
   . refine ZV (by simpa using hlt) ?_
     dsimp only [go_sem,rA,rM,rS]
     refine Zt j hlt rfl ?_
     dsimp only [Zj,go_sem,rA,rM,rS]
     have hgl:GoodLeg l.legs[j]:=Yj hok.land _ (List.getElem_mem _)
     have hends:=hok.ends (List.getElem_mem hlt)
     have hxj:l.legs[j]? = some l.legs[j]:=List.getElem?_eq_getElem hlt
     have hin:inR 0 100001 t=true:=by simp only [inR,decide_eq_true_eq];omega
     have hab:=YF (k:=true) (t:=t) hgl hok.pace (by omega)
     by_cases hca:v=l.legs[j].a
     . refine ZV (by simpa using hca) ?_
       have hoth:Zk l.legs[j] v=l.legs[j].b:=by rw [Zk,if_pos hca.symm]
       dsimp only [go_sem,rA,rM,rS]
       refine ⟨rfl,rfl,?_⟩
       refine Vi (key:=kI) (sv:=sI) (val:=B) (L:=L1) (k:=l.legs[j].b) (z:=.bool false) (zs:=B false) rfl rfl u99 ZcO rfl (by kernel_rfl) (fun w E n ok=>by simp only [R]) ?_ ?_
       . intro b hget
         have hb:b=true/\Zk l.legs[j] v ∈ v :: been:=by
          have h:=hL1 l.legs[j].b
          rw [hget] at h
          rw [hoth]
          split at h
          . rename_i hm;exact ⟨Option.some.inj h,hm⟩
          . cases h
         obtain ⟨rfl,hmem⟩:=hb
         dsimp only [Bool.not_true,go_sem,rA,rM,rS]
         repeat (refine Ua (by decide) ?_;dsimp only [go_sem,rA,rM,rS])
         refine ZJ (by decide) ?_
         dsimp only [go_sem,rA,rM,rS]
         refine ⟨rfl,?_⟩
         refine ZJ (by decide) ?_
         dsimp only [go_sem,rA,rM,rS]
         rw [Zo (n:=(j:Int)+1) (by omega) (by omega)]
         refine ⟨(j+1,allj,ver,clk),⟨hlt,hMj,by rw [ZW,XP hxj (.inr hmem),List.append_nil];exact hallj,hlenj⟩,by simp only;omega,?_⟩
         (refine Zi ?_ ?_ ?_ rfl rfl<;>dsimp only [Zu,Zc,Zj,Zd,Yn,ZH,ZS,Zn,Zm,Zl,Za,id,go_sem,rA,rM,rS]<;>simp [Zu,Zc,Zj,Zd,Yn,ZH,ZS,Zn,Zm,Zl,Za,Za,Zf,KFR,KFL,KF,Zb,mtO,nbr])
       intro hget
       have hnb:Zk l.legs[j] v ∉ v :: been:=fun hm=>by
        have h:=hL1 l.legs[j].b
        rw [hoth] at hm
        rw [hget,if_pos hm] at h;cases h
       have hn0:¬ Zk l.legs[j] v < 0:=by rw [hoth];omega
       dsimp only [Bool.not_false,go_sem,rA,rM,rS]
       iterate 10 (refine Z5 rfl ?_;dsimp only [go_sem,rA,rM,rS])
       refine call (YP l p j hlt t t hgl hok.pace hin hin) ?_
       dsimp only [go_sem,rA,rM,rS]
       refine Z5 rfl ?_
       dsimp only [go_sem,rA,rM,rS]
       refine ixa 1 rfl (by decide) ?_
       dsimp only [go_sem,rA,rM,rS]
       iterate 4 (refine Z5 rfl ?_;dsimp only [go_sem,rA,rM,rS])
       refine call (VW way j (by omega)) ?_
       dsimp only [ZH,go_sem,rA,rM,rS]
       refine Z5 rfl ?_
       dsimp only [go_sem,rA,rM,rS]
       have hot:=Yg hok hxj hn0
       have hih:=ih (v :: been) (Zk l.legs[j] v) (ZF true l.legs[j] p t) (way ++ [j]) allj ver clk L1 (ZH (way ++ [j])) hR' hnb hot.1 (by omega) (by simp;omega) hlenj hMj hL1 (.inl rfl)
       have hWj:(Xr l p to till g (v :: been) (Zk l.legs[j] v) (ZF true l.legs[j] p t)).map (way ++ [j] ++ ·)=(YO l p to till g been v t j).map (way ++ ·):=by
        rw [WH hxj hn0 hnb,List.map_map]
        simp [Function.comp_def]
       rw [hWj,hoth] at hih
       refine Zco [0,1,2,3,4,5,6,7] hih rfl rfl ?_ ?_ ?_ ?_
       . rfl
       . dsimp only [rho,ZH,go_sem,rA,rM,rS]
         simp [Za,Zf,KFR,KFL,KF,Zb,mtO,nbr,Zu,Zc,Zj,Zd,Yn,ZH,ZS,Zm,Zl]
       . dsimp only [rho,Ys,Zu,go_sem,rA,rM,rS]
         simp [Za,Zf,KFR,KFL,KF,Zb,mtO,nbr,Zu,Zc,Zj,Zd,Yn,ZH,ZS,Zm,Zl]
       rintro o ⟨ver',clk',hM',rfl⟩
       dsimp only [Ys,Zu,go_sem,rA,rM,rS]
       refine Z5 rfl ?_
       dsimp only [Bool.not_false,go_sem,rA,rM,rS]
       have hnext:all ++ (Z3 l p to till g been v t (j+1)).map (way ++ ·)=allj ++ (YO l p to till g been v t j).map (way ++ ·):=by
        rw [ZW,List.map_append,<- List.append_assoc,<- hallj]
       generalize hWW:(YO l p to till g been v t j).map (way ++ ·)=Wj at hnext ⊢
       by_cases hsm:(allj ++ Wj).length<=200
       . refine ZJ (by simp only [hsm,decide_true];rfl) ?_
         dsimp only [go_sem,rA,rM,rS]
         refine ⟨rfl,?_⟩
         refine ZJ (by decide) ?_
         dsimp only [go_sem,rA,rM,rS]
         rw [Zo (n:=(j:Int)+1) (by omega) (by omega),Ws (by omega)]
         rw [<- hnext] at hsm ⊢
         refine ⟨(j+1,_,ver',clk'),⟨hlt,hM',rfl,hsm⟩,by simp only;omega,?_⟩
         generalize all ++ (Z3 l p to till g been v t (j+1)).map (way ++ ·)=alln
         (refine Zi ?_ ?_ ?_ rfl rfl<;>dsimp only [Zu,Zc,Zj,Zd,Yn,ZH,ZS,Zn,Zm,Zl,Za,id,go_sem,rA,rM,rS]<;>simp [Zu,Zc,Zj,Zd,Yn,ZH,ZS,Zn,Zm,Zl,Za,Za,Zf,KFR,KFL,KF,Zb,mtO,nbr])
       . refine ZV (by simp only [hsm,decide_false];rfl) ?_
         dsimp only [go_sem,rA,rM,rS]
         refine ⟨rfl,?_⟩
         refine ZV rfl ?_
         dsimp only [go_sem,rA,rM,rS]
         have hWs:Xr l p to till (g+1) been v t=Z3 l p to till g been v t l.legs.length:=by rw [Yv,if_neg hlate,if_neg hto]
         obtain ⟨R,hRs⟩:=YR (l:=l) (p:=p) (to:=to) (till:=till) (f:=g) (been:=been) (v:=v) (t:=t) (j:=j+1) (l.legs.length - (j+1))
         rw [show j+1+(l.legs.length - (j+1))=l.legs.length by omega] at hRs
         have hall2:all ++ (Xr l p to till (g+1) been v t).map (way ++ ·)=allj ++ Wj ++ R.map (way ++ ·):=by
          rw [hWs,hRs,List.map_append,<- List.append_assoc,hnext]
         have hlong:¬ (allj ++ Wj ++ R.map (way ++ ·)).length<=200:=by rw [List.length_append];omega
         refine ⟨_,ZtH (key:=kI) (val:=B) (sv:=sI) (L:=L1) (k:=v) u99 ZcO,?_⟩
         rw [hdel]
         have hMf:MW L clk':=by have:=hM'.del (k:=v);rw [hdel] at this;exact this
         refine ⟨_,⟨ver',clk',hMf,rfl⟩,?_⟩
         have hc2:cap (allj ++ Wj ++ R.map (way ++ ·))=cap (allj ++ Wj):=Zbv (by omega)
         rw [hall2,hc2,decide_eq_false hlong]
         generalize cap (allj ++ Wj)=alln
         (refine Xe ?_ ?_ ?_ rfl<;>dsimp only [Zu,Zc,Zj,Zd,Yn,ZH,ZS,Zn,Zm,Zl,Za,Ys,id,go_sem,rA,rM,rS]<;>simp [Zu,Zc,Zj,Zd,Yn,ZH,ZS,Zn,Zm,Zl,Za,Ys,Za,Zf,KFR,KFL,KF,Zb,mtO,nbr])
     refine ZJ (by simpa using hca) ?_
     dsimp only [go_sem,rA,rM,rS]
     by_cases hcb:v=l.legs[j].b
     . refine ZV (by simpa using hcb) ?_
       have hoth:Zk l.legs[j] v=l.legs[j].a:=by rw [Zk,if_neg (fun h=>hca h.symm),if_pos hcb.symm]
       dsimp only [go_sem,rA,rM,rS]
       refine ⟨rfl,rfl,?_⟩
       refine Vi (key:=kI) (sv:=sI) (val:=B) (L:=L1) (k:=l.legs[j].a) (z:=.bool false) (zs:=B false) rfl rfl u99 ZcO rfl (by kernel_rfl) (fun w E n ok=>by simp only [R]) ?_ ?_
       . intro b hget
         have hb:b=true/\Zk l.legs[j] v ∈ v :: been:=by
          have h:=hL1 l.legs[j].a
          rw [hget] at h
          rw [hoth]
          split at h
          . rename_i hm;exact ⟨Option.some.inj h,hm⟩
          . cases h
         obtain ⟨rfl,hmem⟩:=hb
         dsimp only [Bool.not_true,go_sem,rA,rM,rS]
         repeat (refine Ua (by decide) ?_;dsimp only [go_sem,rA,rM,rS])
         refine ZJ (by decide) ?_
         dsimp only [go_sem,rA,rM,rS]
         refine ⟨rfl,?_⟩
         refine ZJ (by decide) ?_
         dsimp only [go_sem,rA,rM,rS]
         rw [Zo (n:=(j:Int)+1) (by omega) (by omega)]
         refine ⟨(j+1,allj,ver,clk),⟨hlt,hMj,by rw [ZW,XP hxj (.inr hmem),List.append_nil];exact hallj,hlenj⟩,by simp only;omega,?_⟩
         (refine Zi ?_ ?_ ?_ rfl rfl<;>dsimp only [Zu,Zc,Zj,Zd,Yn,ZH,ZS,Zn,Zm,Zl,Za,id,go_sem,rA,rM,rS]<;>simp [Zu,Zc,Zj,Zd,Yn,ZH,ZS,Zn,Zm,Zl,Za,Za,Zf,KFR,KFL,KF,Zb,mtO,nbr])
       intro hget
       have hnb:Zk l.legs[j] v ∉ v :: been:=fun hm=>by
        have h:=hL1 l.legs[j].a
        rw [hoth] at hm
        rw [hget,if_pos hm] at h;cases h
       have hn0:¬ Zk l.legs[j] v < 0:=by rw [hoth];omega
       dsimp only [Bool.not_false,go_sem,rA,rM,rS]
       iterate 10 (refine Z5 rfl ?_;dsimp only [go_sem,rA,rM,rS])
       refine call (YP l p j hlt t t hgl hok.pace hin hin) ?_
       dsimp only [go_sem,rA,rM,rS]
       refine Z5 rfl ?_
       dsimp only [go_sem,rA,rM,rS]
       refine ixa 1 rfl (by decide) ?_
       dsimp only [go_sem,rA,rM,rS]
       iterate 4 (refine Z5 rfl ?_;dsimp only [go_sem,rA,rM,rS])
       refine call (VW way j (by omega)) ?_
       dsimp only [ZH,go_sem,rA,rM,rS]
       refine Z5 rfl ?_
       dsimp only [go_sem,rA,rM,rS]
       have hot:=Yg hok hxj hn0
       have hih:=ih (v :: been) (Zk l.legs[j] v) (ZF true l.legs[j] p t) (way ++ [j]) allj ver clk L1 (ZH (way ++ [j])) hR' hnb hot.1 (by omega) (by simp;omega) hlenj hMj hL1 (.inl rfl)
       have hWj:(Xr l p to till g (v :: been) (Zk l.legs[j] v) (ZF true l.legs[j] p t)).map (way ++ [j] ++ ·)=(YO l p to till g been v t j).map (way ++ ·):=by
        rw [WH hxj hn0 hnb,List.map_map]
        simp [Function.comp_def]
       rw [hWj,hoth] at hih
       refine Zco [0,1,2,3,4,5,6,7] hih rfl rfl ?_ ?_ ?_ ?_
       . rfl
       . dsimp only [rho,ZH,go_sem,rA,rM,rS]
         simp [Za,Zf,KFR,KFL,KF,Zb,mtO,nbr,Zu,Zc,Zj,Zd,Yn,ZH,ZS,Zm,Zl]
       . dsimp only [rho,Ys,Zu,go_sem,rA,rM,rS]
         simp [Za,Zf,KFR,KFL,KF,Zb,mtO,nbr,Zu,Zc,Zj,Zd,Yn,ZH,ZS,Zm,Zl]
       rintro o ⟨ver',clk',hM',rfl⟩
       dsimp only [Ys,Zu,go_sem,rA,rM,rS]
       refine Z5 rfl ?_
       dsimp only [Bool.not_false,go_sem,rA,rM,rS]
       have hnext:all ++ (Z3 l p to till g been v t (j+1)).map (way ++ ·)=allj ++ (YO l p to till g been v t j).map (way ++ ·):=by
        rw [ZW,List.map_append,<- List.append_assoc,<- hallj]
       generalize hWW:(YO l p to till g been v t j).map (way ++ ·)=Wj at hnext ⊢
       by_cases hsm:(allj ++ Wj).length<=200
       . refine ZJ (by simp only [hsm,decide_true];rfl) ?_
         dsimp only [go_sem,rA,rM,rS]
         refine ⟨rfl,?_⟩
         refine ZJ (by decide) ?_
         dsimp only [go_sem,rA,rM,rS]
         rw [Zo (n:=(j:Int)+1) (by omega) (by omega),Ws (by omega)]
         rw [<- hnext] at hsm ⊢
         refine ⟨(j+1,_,ver',clk'),⟨hlt,hM',rfl,hsm⟩,by simp only;omega,?_⟩
         generalize all ++ (Z3 l p to till g been v t (j+1)).map (way ++ ·)=alln
         (refine Zi ?_ ?_ ?_ rfl rfl<;>dsimp only [Zu,Zc,Zj,Zd,Yn,ZH,ZS,Zn,Zm,Zl,Za,id,go_sem,rA,rM,rS]<;>simp [Zu,Zc,Zj,Zd,Yn,ZH,ZS,Zn,Zm,Zl,Za,Za,Zf,KFR,KFL,KF,Zb,mtO,nbr])
       . refine ZV (by simp only [hsm,decide_false];rfl) ?_
         dsimp only [go_sem,rA,rM,rS]
         refine ⟨rfl,?_⟩
         refine ZV rfl ?_
         dsimp only [go_sem,rA,rM,rS]
         have hWs:Xr l p to till (g+1) been v t=Z3 l p to till g been v t l.legs.length:=by rw [Yv,if_neg hlate,if_neg hto]
         obtain ⟨R,hRs⟩:=YR (l:=l) (p:=p) (to:=to) (till:=till) (f:=g) (been:=been) (v:=v) (t:=t) (j:=j+1) (l.legs.length - (j+1))
         rw [show j+1+(l.legs.length - (j+1))=l.legs.length by omega] at hRs
         have hall2:all ++ (Xr l p to till (g+1) been v t).map (way ++ ·)=allj ++ Wj ++ R.map (way ++ ·):=by
          rw [hWs,hRs,List.map_append,<- List.append_assoc,hnext]
         have hlong:¬ (allj ++ Wj ++ R.map (way ++ ·)).length<=200:=by rw [List.length_append];omega
         refine ⟨_,ZtH (key:=kI) (val:=B) (sv:=sI) (L:=L1) (k:=v) u99 ZcO,?_⟩
         rw [hdel]
         have hMf:MW L clk':=by have:=hM'.del (k:=v);rw [hdel] at this;exact this
         refine ⟨_,⟨ver',clk',hMf,rfl⟩,?_⟩
         have hc2:cap (allj ++ Wj ++ R.map (way ++ ·))=cap (allj ++ Wj):=Zbv (by omega)
         rw [hall2,hc2,decide_eq_false hlong]
         generalize cap (allj ++ Wj)=alln
         (refine Xe ?_ ?_ ?_ rfl<;>dsimp only [Zu,Zc,Zj,Zd,Yn,ZH,ZS,Zn,Zm,Zl,Za,Ys,id,go_sem,rA,rM,rS]<;>simp [Zu,Zc,Zj,Zd,Yn,ZH,ZS,Zn,Zm,Zl,Za,Ys,Za,Zf,KFR,KFL,KF,Zb,mtO,nbr])
     refine ZJ (by simpa using hcb) ?_
     dsimp only [go_sem,rA,rM,rS]
     rw [Zo (n:=(j:Int)+1) (by omega) (by omega)]
     have hoth:Zk l.legs[j] v = -1:=by rw [Zk,if_neg (fun h=>hca h.symm),if_neg (fun h=>hcb h.symm)]
     refine ⟨(j+1,allj,ver,clk),⟨hlt,hMj,by rw [ZW,XP hxj (.inl (by omega)),List.append_nil];exact hallj,hlenj⟩,by simp only;omega,?_⟩
     (refine Zi ?_ ?_ ?_ rfl rfl<;>dsimp only [Zu,Zc,Zj,Zd,Yn,ZH,ZS,Zn,Zm,Zl,Za,id,go_sem,rA,rM,rS]<;>simp [Zu,Zc,Zj,Zd,Yn,ZH,ZS,Zn,Zm,Zl,Za,Za,Zf,KFR,KFL,KF,Zb,mtO,nbr])
   refine ZJ (by simp;omega) ?_
   dsimp only [go_sem,rA,rM,rS]
   have hje:j=l.legs.length:=by omega
   subst hje
   have hWs:Xr l p to till (g+1) been v t=Z3 l p to till g been v t l.legs.length:=by rw [Yv,if_neg hlate,if_neg hto]
   refine ⟨_,ZtH (key:=kI) (val:=B) (sv:=sI) (L:=L1) (k:=v) u99 ZcO,?_⟩
   rw [hdel]
   have hMf:MW L clk:=by have:=hMj.del (k:=v);rw [hdel] at this;exact this
   refine ⟨_,⟨ver,clk,hMf,rfl⟩,?_⟩
   rw [hWs,<- hallj,Ws (by omega),decide_eq_true hlenj]
   (refine Xe ?_ ?_ ?_ rfl<;>dsimp only [Zu,Zc,Zj,Zd,Yn,ZH,ZS,Zn,Zm,Zl,Za,Ys,id,go_sem,rA,rM,rS]<;>simp [Zu,Zc,Zj,Zd,Yn,ZH,ZS,Zn,Zm,Zl,Za,Ys,Za,Zf,KFR,KFL,KF,Zb,mtO,nbr])
 . refine gh (ZgC (s':=.sl false 1 (way.map ZS)) 1 rfl (by subst hw0;exact WC) (fun _ _ _ h=>by cases h)) ?_
   dsimp only [ZH,go_sem,rA,rM,rS]
   refine br ?_ ?_
   . intro hlate
     have hlate:t > till:=of_decide_eq_true hlate
     dsimp only [go_sem,rA,rM,rS]
     refine ⟨_,⟨ver,clk,hM,rfl⟩,?_⟩
     rw [Za8 hlate,List.map_nil,List.append_nil,Ws (by omega),decide_eq_true hall]
     (refine Xe ?_ ?_ ?_ rfl<;>dsimp only [Zu,Zc,Zj,Zd,Yn,ZH,ZS,Zn,Zm,Zl,Za,Ys,id,go_sem,rA,rM,rS]<;>simp [Zu,Zc,Zj,Zd,Yn,ZH,ZS,Zn,Zm,Zl,Za,Ys,Za,Zf,KFR,KFL,KF,Zb,mtO,nbr])
   intro hlate
   have hlate:¬ t > till:=of_decide_eq_false hlate
   dsimp only [go_sem,rA,rM,rS]
   refine br ?_ ?_
   . intro hto
     have hto:v=to:=by simpa using hto
     dsimp only [go_sem,rA,rM,rS]
     refine call (ZaM way (by omega)) ?_
     dsimp only [ZH,go_sem,rA,rM,rS]
     simp only [nbr]
     dsimp only [go_sem,rA,rM,rS]
     refine ⟨(by intro c hc;simp only [List.mem_singleton] at hc;subst hc;rfl),by simp;omega,?_⟩
     dsimp only [go_sem,rA,rM,rS]
     simp only [nbr]
     dsimp only [go_sem,rA,rM,rS]
     have e:all.map Yn ++ [[SV.sl false 1 (way.map ZS)]]=(all ++ [way]).map Yn:=by simp [Yn,ZH]
     rw [e]
     refine ⟨_,⟨ver+1,clk,hM,rfl⟩,?_⟩
     rw [Yv,if_neg hlate,if_pos hto]
     simp only [List.map_cons,List.map_nil,List.append_nil,List.length_map]
     rw [Ws (by simp;omega)]
     have hd:decide (((all ++ [way]).length:Int)<=200)=decide ((all ++ [way]).length<=200):=by simp;omega
     rw [hd]
     (refine Xe ?_ ?_ ?_ rfl<;>dsimp only [Zu,Zc,Zj,Zd,Yn,ZH,ZS,Zn,Zm,Zl,Za,Ys,id,go_sem,rA,rM,rS]<;>simp [Zu,Zc,Zj,Zd,Yn,ZH,ZS,Zn,Zm,Zl,Za,Ys,Za,Zf,KFR,KFL,KF,Zb,mtO,nbr])
   intro hto
   have hto:¬ v=to:=by simpa using hto
   dsimp only [go_sem,rA,rM,rS]
   refine Zde (ins:=false) (key:=kI) (val:=B) (L:=L) (k:=v) (v:=true) rfl rfl u99 ZcO rfl rfl (by simp) ?_
   dsimp only [go_sem,rA,rM,rS]
   refine ⟨rfl,?_⟩
   have hvL:YC v L=none:=by rw [hbL,if_neg hv]
   have hM1:=hM.set (k:=v) true
   have hL1:ZqD (v :: been) (W0 clk v true L):=fun u=>by
    rw [XB]
    by_cases hu:u=v
    . simp [hu]
    . rw [if_neg hu,hbL]
      simp [hu]
   have hdel:=Zd8 (L:=L) (c:=clk) (b:=true) hvL
   generalize W0 clk v true L=L1 at hM1 hL1 hdel ⊢
   generalize ZaU clk v L=clk1 at hM1 ⊢
   refine YV [] (Vm l p v) rfl rfl rfl ?_ ?_ ?_
   . exact Zb (by simp [Zu,Zc,Zj,Zd,Za,KFL,KF])
   . trivial
   dsimp only [Ut,Zu,go_sem,rA,rM,rS]
   refine gh Yw ?_
   dsimp only [go_sem,rA,rM,rS]
   refine ⟨b97,fun rec=>?_⟩
   refine y97 ?_
   dsimp only [c97,r97,go_sem,rA,rM,rS]
   refine YB (fun q:Nat × List (List Nat) × Nat × Nat=>[(10,I q.1)]) (fun q=>[(2,.cells [.mr 6 q.2.2.1] 53),(6,.row q.2.2.1 1 (q.2.1.map Yn) 59),(7,.map (mpS kI B L1) q.2.2.2)])
    (fun q=>q.1<=l.legs.length/\MW L1 q.2.2.2/\q.2.1=all ++ (Z3 l p to till g been v t q.1).map (way ++ ·)/\q.2.1.length<=200) (fun q=>l.legs.length - q.1) (0,all,ver,clk1) ⟨Nat.zero_le _,hM1,by simp [Zb3],hall⟩ ?_ ?_
   . (refine Zi ?_ ?_ ?_ rfl rfl<;>dsimp only [Zu,Zc,Zj,Zd,Yn,ZH,ZS,Zn,Zm,Zl,Za,id,go_sem,rA,rM,rS]<;>simp [Zu,Zc,Zj,Zd,Yn,ZH,ZS,Zn,Zm,Zl,Za,Za,Zf,KFR,KFL,KF,Zb,mtO,nbr])
   rintro ⟨j,allj,ver,clk⟩ ⟨hj,hMj,hallj,hlenj⟩
   simp only at hj hMj hallj hlenj
   dsimp only [go_sem,rA,rM,rS]
   simp only [List.length_map]
   by_cases hlt:j < l.legs.length
   . refine ZV (by simpa using hlt) ?_
     dsimp only [go_sem,rA,rM,rS]
     refine Zt j hlt rfl ?_
     dsimp only [Zj,go_sem,rA,rM,rS]
     have hgl:GoodLeg l.legs[j]:=Yj hok.land _ (List.getElem_mem _)
     have hends:=hok.ends (List.getElem_mem hlt)
     have hxj:l.legs[j]? = some l.legs[j]:=List.getElem?_eq_getElem hlt
     have hin:inR 0 100001 t=true:=by simp only [inR,decide_eq_true_eq];omega
     have hab:=YF (k:=true) (t:=t) hgl hok.pace (by omega)
     by_cases hca:v=l.legs[j].a
     . refine ZV (by simpa using hca) ?_
       have hoth:Zk l.legs[j] v=l.legs[j].b:=by rw [Zk,if_pos hca.symm]
       dsimp only [go_sem,rA,rM,rS]
       refine ⟨rfl,rfl,?_⟩
       refine Vi (key:=kI) (sv:=sI) (val:=B) (L:=L1) (k:=l.legs[j].b) (z:=.bool false) (zs:=B false) rfl rfl u99 ZcO rfl (by kernel_rfl) (fun w E n ok=>by simp only [R]) ?_ ?_
       . intro b hget
         have hb:b=true/\Zk l.legs[j] v ∈ v :: been:=by
          have h:=hL1 l.legs[j].b
          rw [hget] at h
          rw [hoth]
          split at h
          . rename_i hm;exact ⟨Option.some.inj h,hm⟩
          . cases h
         obtain ⟨rfl,hmem⟩:=hb
         dsimp only [Bool.not_true,go_sem,rA,rM,rS]
         repeat (refine Ua (by decide) ?_;dsimp only [go_sem,rA,rM,rS])
         refine ZJ (by decide) ?_
         dsimp only [go_sem,rA,rM,rS]
         refine ⟨rfl,?_⟩
         refine ZJ (by decide) ?_
         dsimp only [go_sem,rA,rM,rS]
         rw [Zo (n:=(j:Int)+1) (by omega) (by omega)]
         refine ⟨(j+1,allj,ver,clk),⟨hlt,hMj,by rw [ZW,XP hxj (.inr hmem),List.append_nil];exact hallj,hlenj⟩,by simp only;omega,?_⟩
         (refine Zi ?_ ?_ ?_ rfl rfl<;>dsimp only [Zu,Zc,Zj,Zd,Yn,ZH,ZS,Zn,Zm,Zl,Za,id,go_sem,rA,rM,rS]<;>simp [Zu,Zc,Zj,Zd,Yn,ZH,ZS,Zn,Zm,Zl,Za,Za,Zf,KFR,KFL,KF,Zb,mtO,nbr])
       intro hget
       have hnb:Zk l.legs[j] v ∉ v :: been:=fun hm=>by
        have h:=hL1 l.legs[j].b
        rw [hoth] at hm
        rw [hget,if_pos hm] at h;cases h
       have hn0:¬ Zk l.legs[j] v < 0:=by rw [hoth];omega
       dsimp only [Bool.not_false,go_sem,rA,rM,rS]
       iterate 10 (refine Z5 rfl ?_;dsimp only [go_sem,rA,rM,rS])
       refine call (YP l p j hlt t t hgl hok.pace hin hin) ?_
       dsimp only [go_sem,rA,rM,rS]
       refine Z5 rfl ?_
       dsimp only [go_sem,rA,rM,rS]
       refine ixa 1 rfl (by decide) ?_
       dsimp only [go_sem,rA,rM,rS]
       iterate 4 (refine Z5 rfl ?_;dsimp only [go_sem,rA,rM,rS])
       refine call (VW way j (by omega)) ?_
       dsimp only [ZH,go_sem,rA,rM,rS]
       refine Z5 rfl ?_
       dsimp only [go_sem,rA,rM,rS]
       have hot:=Yg hok hxj hn0
       have hih:=ih (v :: been) (Zk l.legs[j] v) (ZF true l.legs[j] p t) (way ++ [j]) allj ver clk L1 (ZH (way ++ [j])) hR' hnb hot.1 (by omega) (by simp;omega) hlenj hMj hL1 (.inl rfl)
       have hWj:(Xr l p to till g (v :: been) (Zk l.legs[j] v) (ZF true l.legs[j] p t)).map (way ++ [j] ++ ·)=(YO l p to till g been v t j).map (way ++ ·):=by
        rw [WH hxj hn0 hnb,List.map_map]
        simp [Function.comp_def]
       rw [hWj,hoth] at hih
       refine Zco [0,1,2,3,4,5,6,7] hih rfl rfl ?_ ?_ ?_ ?_
       . rfl
       . dsimp only [rho,ZH,go_sem,rA,rM,rS]
         simp [Za,Zf,KFR,KFL,KF,Zb,mtO,nbr,Zu,Zc,Zj,Zd,Yn,ZH,ZS,Zm,Zl]
       . dsimp only [rho,Ys,Zu,go_sem,rA,rM,rS]
         simp [Za,Zf,KFR,KFL,KF,Zb,mtO,nbr,Zu,Zc,Zj,Zd,Yn,ZH,ZS,Zm,Zl]
       rintro o ⟨ver',clk',hM',rfl⟩
       dsimp only [Ys,Zu,go_sem,rA,rM,rS]
       refine Z5 rfl ?_
       dsimp only [Bool.not_false,go_sem,rA,rM,rS]
       have hnext:all ++ (Z3 l p to till g been v t (j+1)).map (way ++ ·)=allj ++ (YO l p to till g been v t j).map (way ++ ·):=by
        rw [ZW,List.map_append,<- List.append_assoc,<- hallj]
       generalize hWW:(YO l p to till g been v t j).map (way ++ ·)=Wj at hnext ⊢
       by_cases hsm:(allj ++ Wj).length<=200
       . refine ZJ (by simp only [hsm,decide_true];rfl) ?_
         dsimp only [go_sem,rA,rM,rS]
         refine ⟨rfl,?_⟩
         refine ZJ (by decide) ?_
         dsimp only [go_sem,rA,rM,rS]
         rw [Zo (n:=(j:Int)+1) (by omega) (by omega),Ws (by omega)]
         rw [<- hnext] at hsm ⊢
         refine ⟨(j+1,_,ver',clk'),⟨hlt,hM',rfl,hsm⟩,by simp only;omega,?_⟩
         generalize all ++ (Z3 l p to till g been v t (j+1)).map (way ++ ·)=alln
         (refine Zi ?_ ?_ ?_ rfl rfl<;>dsimp only [Zu,Zc,Zj,Zd,Yn,ZH,ZS,Zn,Zm,Zl,Za,id,go_sem,rA,rM,rS]<;>simp [Zu,Zc,Zj,Zd,Yn,ZH,ZS,Zn,Zm,Zl,Za,Za,Zf,KFR,KFL,KF,Zb,mtO,nbr])
       . refine ZV (by simp only [hsm,decide_false];rfl) ?_
         dsimp only [go_sem,rA,rM,rS]
         refine ⟨rfl,?_⟩
         refine ZV rfl ?_
         dsimp only [go_sem,rA,rM,rS]
         have hWs:Xr l p to till (g+1) been v t=Z3 l p to till g been v t l.legs.length:=by rw [Yv,if_neg hlate,if_neg hto]
         obtain ⟨R,hRs⟩:=YR (l:=l) (p:=p) (to:=to) (till:=till) (f:=g) (been:=been) (v:=v) (t:=t) (j:=j+1) (l.legs.length - (j+1))
         rw [show j+1+(l.legs.length - (j+1))=l.legs.length by omega] at hRs
         have hall2:all ++ (Xr l p to till (g+1) been v t).map (way ++ ·)=allj ++ Wj ++ R.map (way ++ ·):=by
          rw [hWs,hRs,List.map_append,<- List.append_assoc,hnext]
         have hlong:¬ (allj ++ Wj ++ R.map (way ++ ·)).length<=200:=by rw [List.length_append];omega
         refine ⟨_,ZtH (key:=kI) (val:=B) (sv:=sI) (L:=L1) (k:=v) u99 ZcO,?_⟩
         rw [hdel]
         have hMf:MW L clk':=by have:=hM'.del (k:=v);rw [hdel] at this;exact this
         refine ⟨_,⟨ver',clk',hMf,rfl⟩,?_⟩
         have hc2:cap (allj ++ Wj ++ R.map (way ++ ·))=cap (allj ++ Wj):=Zbv (by omega)
         rw [hall2,hc2,decide_eq_false hlong]
         generalize cap (allj ++ Wj)=alln
         (refine Xe ?_ ?_ ?_ rfl<;>dsimp only [Zu,Zc,Zj,Zd,Yn,ZH,ZS,Zn,Zm,Zl,Za,Ys,id,go_sem,rA,rM,rS]<;>simp [Zu,Zc,Zj,Zd,Yn,ZH,ZS,Zn,Zm,Zl,Za,Ys,Za,Zf,KFR,KFL,KF,Zb,mtO,nbr])
     refine ZJ (by simpa using hca) ?_
     dsimp only [go_sem,rA,rM,rS]
     by_cases hcb:v=l.legs[j].b
     . refine ZV (by simpa using hcb) ?_
       have hoth:Zk l.legs[j] v=l.legs[j].a:=by rw [Zk,if_neg (fun h=>hca h.symm),if_pos hcb.symm]
       dsimp only [go_sem,rA,rM,rS]
       refine ⟨rfl,rfl,?_⟩
       refine Vi (key:=kI) (sv:=sI) (val:=B) (L:=L1) (k:=l.legs[j].a) (z:=.bool false) (zs:=B false) rfl rfl u99 ZcO rfl (by kernel_rfl) (fun w E n ok=>by simp only [R]) ?_ ?_
       . intro b hget
         have hb:b=true/\Zk l.legs[j] v ∈ v :: been:=by
          have h:=hL1 l.legs[j].a
          rw [hget] at h
          rw [hoth]
          split at h
          . rename_i hm;exact ⟨Option.some.inj h,hm⟩
          . cases h
         obtain ⟨rfl,hmem⟩:=hb
         dsimp only [Bool.not_true,go_sem,rA,rM,rS]
         repeat (refine Ua (by decide) ?_;dsimp only [go_sem,rA,rM,rS])
         refine ZJ (by decide) ?_
         dsimp only [go_sem,rA,rM,rS]
         refine ⟨rfl,?_⟩
         refine ZJ (by decide) ?_
         dsimp only [go_sem,rA,rM,rS]
         rw [Zo (n:=(j:Int)+1) (by omega) (by omega)]
         refine ⟨(j+1,allj,ver,clk),⟨hlt,hMj,by rw [ZW,XP hxj (.inr hmem),List.append_nil];exact hallj,hlenj⟩,by simp only;omega,?_⟩
         (refine Zi ?_ ?_ ?_ rfl rfl<;>dsimp only [Zu,Zc,Zj,Zd,Yn,ZH,ZS,Zn,Zm,Zl,Za,id,go_sem,rA,rM,rS]<;>simp [Zu,Zc,Zj,Zd,Yn,ZH,ZS,Zn,Zm,Zl,Za,Za,Zf,KFR,KFL,KF,Zb,mtO,nbr])
       intro hget
       have hnb:Zk l.legs[j] v ∉ v :: been:=fun hm=>by
        have h:=hL1 l.legs[j].a
        rw [hoth] at hm
        rw [hget,if_pos hm] at h;cases h
       have hn0:¬ Zk l.legs[j] v < 0:=by rw [hoth];omega
       dsimp only [Bool.not_false,go_sem,rA,rM,rS]
       iterate 10 (refine Z5 rfl ?_;dsimp only [go_sem,rA,rM,rS])
       refine call (YP l p j hlt t t hgl hok.pace hin hin) ?_
       dsimp only [go_sem,rA,rM,rS]
       refine Z5 rfl ?_
       dsimp only [go_sem,rA,rM,rS]
       refine ixa 1 rfl (by decide) ?_
       dsimp only [go_sem,rA,rM,rS]
       iterate 4 (refine Z5 rfl ?_;dsimp only [go_sem,rA,rM,rS])
       refine call (VW way j (by omega)) ?_
       dsimp only [ZH,go_sem,rA,rM,rS]
       refine Z5 rfl ?_
       dsimp only [go_sem,rA,rM,rS]
       have hot:=Yg hok hxj hn0
       have hih:=ih (v :: been) (Zk l.legs[j] v) (ZF true l.legs[j] p t) (way ++ [j]) allj ver clk L1 (ZH (way ++ [j])) hR' hnb hot.1 (by omega) (by simp;omega) hlenj hMj hL1 (.inl rfl)
       have hWj:(Xr l p to till g (v :: been) (Zk l.legs[j] v) (ZF true l.legs[j] p t)).map (way ++ [j] ++ ·)=(YO l p to till g been v t j).map (way ++ ·):=by
        rw [WH hxj hn0 hnb,List.map_map]
        simp [Function.comp_def]
       rw [hWj,hoth] at hih
       refine Zco [0,1,2,3,4,5,6,7] hih rfl rfl ?_ ?_ ?_ ?_
       . rfl
       . dsimp only [rho,ZH,go_sem,rA,rM,rS]
         simp [Za,Zf,KFR,KFL,KF,Zb,mtO,nbr,Zu,Zc,Zj,Zd,Yn,ZH,ZS,Zm,Zl]
       . dsimp only [rho,Ys,Zu,go_sem,rA,rM,rS]
         simp [Za,Zf,KFR,KFL,KF,Zb,mtO,nbr,Zu,Zc,Zj,Zd,Yn,ZH,ZS,Zm,Zl]
       rintro o ⟨ver',clk',hM',rfl⟩
       dsimp only [Ys,Zu,go_sem,rA,rM,rS]
       refine Z5 rfl ?_
       dsimp only [Bool.not_false,go_sem,rA,rM,rS]
       have hnext:all ++ (Z3 l p to till g been v t (j+1)).map (way ++ ·)=allj ++ (YO l p to till g been v t j).map (way ++ ·):=by
        rw [ZW,List.map_append,<- List.append_assoc,<- hallj]
       generalize hWW:(YO l p to till g been v t j).map (way ++ ·)=Wj at hnext ⊢
       by_cases hsm:(allj ++ Wj).length<=200
       . refine ZJ (by simp only [hsm,decide_true];rfl) ?_
         dsimp only [go_sem,rA,rM,rS]
         refine ⟨rfl,?_⟩
         refine ZJ (by decide) ?_
         dsimp only [go_sem,rA,rM,rS]
         rw [Zo (n:=(j:Int)+1) (by omega) (by omega),Ws (by omega)]
         rw [<- hnext] at hsm ⊢
         refine ⟨(j+1,_,ver',clk'),⟨hlt,hM',rfl,hsm⟩,by simp only;omega,?_⟩
         generalize all ++ (Z3 l p to till g been v t (j+1)).map (way ++ ·)=alln
         (refine Zi ?_ ?_ ?_ rfl rfl<;>dsimp only [Zu,Zc,Zj,Zd,Yn,ZH,ZS,Zn,Zm,Zl,Za,id,go_sem,rA,rM,rS]<;>simp [Zu,Zc,Zj,Zd,Yn,ZH,ZS,Zn,Zm,Zl,Za,Za,Zf,KFR,KFL,KF,Zb,mtO,nbr])
       . refine ZV (by simp only [hsm,decide_false];rfl) ?_
         dsimp only [go_sem,rA,rM,rS]
         refine ⟨rfl,?_⟩
         refine ZV rfl ?_
         dsimp only [go_sem,rA,rM,rS]
         have hWs:Xr l p to till (g+1) been v t=Z3 l p to till g been v t l.legs.length:=by rw [Yv,if_neg hlate,if_neg hto]
         obtain ⟨R,hRs⟩:=YR (l:=l) (p:=p) (to:=to) (till:=till) (f:=g) (been:=been) (v:=v) (t:=t) (j:=j+1) (l.legs.length - (j+1))
         rw [show j+1+(l.legs.length - (j+1))=l.legs.length by omega] at hRs
         have hall2:all ++ (Xr l p to till (g+1) been v t).map (way ++ ·)=allj ++ Wj ++ R.map (way ++ ·):=by
          rw [hWs,hRs,List.map_append,<- List.append_assoc,hnext]
         have hlong:¬ (allj ++ Wj ++ R.map (way ++ ·)).length<=200:=by rw [List.length_append];omega
         refine ⟨_,ZtH (key:=kI) (val:=B) (sv:=sI) (L:=L1) (k:=v) u99 ZcO,?_⟩
         rw [hdel]
         have hMf:MW L clk':=by have:=hM'.del (k:=v);rw [hdel] at this;exact this
         refine ⟨_,⟨ver',clk',hMf,rfl⟩,?_⟩
         have hc2:cap (allj ++ Wj ++ R.map (way ++ ·))=cap (allj ++ Wj):=Zbv (by omega)
         rw [hall2,hc2,decide_eq_false hlong]
         generalize cap (allj ++ Wj)=alln
         (refine Xe ?_ ?_ ?_ rfl<;>dsimp only [Zu,Zc,Zj,Zd,Yn,ZH,ZS,Zn,Zm,Zl,Za,Ys,id,go_sem,rA,rM,rS]<;>simp [Zu,Zc,Zj,Zd,Yn,ZH,ZS,Zn,Zm,Zl,Za,Ys,Za,Zf,KFR,KFL,KF,Zb,mtO,nbr])
     refine ZJ (by simpa using hcb) ?_
     dsimp only [go_sem,rA,rM,rS]
     rw [Zo (n:=(j:Int)+1) (by omega) (by omega)]
     have hoth:Zk l.legs[j] v = -1:=by rw [Zk,if_neg (fun h=>hca h.symm),if_neg (fun h=>hcb h.symm)]
     refine ⟨(j+1,allj,ver,clk),⟨hlt,hMj,by rw [ZW,XP hxj (.inl (by omega)),List.append_nil];exact hallj,hlenj⟩,by simp only;omega,?_⟩
     (refine Zi ?_ ?_ ?_ rfl rfl<;>dsimp only [Zu,Zc,Zj,Zd,Yn,ZH,ZS,Zn,Zm,Zl,Za,id,go_sem,rA,rM,rS]<;>simp [Zu,Zc,Zj,Zd,Yn,ZH,ZS,Zn,Zm,Zl,Za,Za,Zf,KFR,KFL,KF,Zb,mtO,nbr])
   refine ZJ (by simp;omega) ?_
   dsimp only [go_sem,rA,rM,rS]
   have hje:j=l.legs.length:=by omega
   subst hje
   have hWs:Xr l p to till (g+1) been v t=Z3 l p to till g been v t l.legs.length:=by rw [Yv,if_neg hlate,if_neg hto]
   refine ⟨_,ZtH (key:=kI) (val:=B) (sv:=sI) (L:=L1) (k:=v) u99 ZcO,?_⟩
   rw [hdel]
   have hMf:MW L clk:=by have:=hMj.del (k:=v);rw [hdel] at this;exact this
   refine ⟨_,⟨ver,clk,hMf,rfl⟩,?_⟩
   rw [hWs,<- hallj,Ws (by omega),decide_eq_true hlenj]
   (refine Xe ?_ ?_ ?_ rfl<;>dsimp only [Zu,Zc,Zj,Zd,Yn,ZH,ZS,Zn,Zm,Zl,Za,Ys,id,go_sem,rA,rM,rS]<;>simp [Zu,Zc,Zj,Zd,Yn,ZH,ZS,Zn,Zm,Zl,Za,Ys,Za,Zf,KFR,KFL,KF,Zb,mtO,nbr])
def Zb4 (l:Land) (p:Span) (s to day till:Int):SV:=.tup [YG (Zdg l p s to day till) 1 ((Zdd l p s to day till).map Yn),I (Zdg l p s to day till)]
theorem Znr (l:Land) (p:Span) (s to day till:Int):KF (Zb4 l p s to day till):=by
 unfold Zb4 YG;split<;>simp [KFL,KF,Za,Yn,ZH,ZS]
theorem Zoi (l:Land) (hs:Xy l) (s to day till:Int) (p:Span):Ct Try.prog 29 [.agg (Zh l),I s,I to,I day,I till,.agg (Ze p)] (Zb4 l p s to day till):=by
 have hw:=hs.1
 have hleg:=hs.2.1
 refine t29.1 (by simp [Zh,Zc,Zj,Zd,Ze,Za,KFL,KF]) (Znr _ _ _ _ _ _) ?_
 dsimp only [c29,r29,Zh,Ze,go_sem,rA,rM,rS]
 by_cases ha:Vk l p=0
 case neg =>
  refine call (WL l hs p ha) ?_
  dsimp only [go_sem,rA,rM,rS]
  refine ZV (by simpa using ha) ?_
  dsimp only [go_sem,rA,rM,rS]
  simp [Zb4,Zdg,ha,YG]
 have hok:=Zdy ha
 refine call (VY l hs p ha) ?_
 dsimp only [Zu,go_sem,rA,rM,rS]
 refine ZJ (by decide) ?_
 dsimp only [go_sem,rA,rM,rS]
 simp only [List.length_map]
 have h1:=YY hok.land
 rw [Zo (n:=(l.wells.length:Int) - 1) (by omega) (by omega)]
 refine call (Zey 0 (l.wells.length - 1) s to true) ?_
 dsimp only [go_sem,rA,rM,rS]
 repeat (first | (refine gb ?_;dsimp only [go_sem,rA,rM,rS]) | (refine call (Zey 0 100000 day till true) ?_;dsimp only [go_sem,rA,rM,rS]))
 by_cases hr:(inR 0 (l.wells.length - 1) s && inR 0 (l.wells.length - 1) to && inR 0 100000 day && inR 0 100000 till)=true
 case neg =>
  have hb:∀ a b c d:Bool,¬ (a && b && c && d)=true->(!(a && b) || !(c && d))=true:=by decide
  refine ZV (hb _ _ _ _ hr) ?_
  dsimp only [go_sem,rA,rM,rS]
  simp [Zb4,Zdg,ha,YG,hr]
 have hb:∀ a b c d:Bool,(a && b && c && d)=true->(!(a && b) || !(c && d))=false:=by decide
 refine ZJ (hb _ _ _ _ hr) ?_
 dsimp only [go_sem,rA,rM,rS]
 have he:Zdg l p s to day till=if (Zdd l p s to day till).length > 200 then 9 else 0:=by simp only [Zdg,Zdd,ha,hr];simp
 simp only [Bool.and_eq_true,inR,decide_eq_true_eq] at hr
 obtain ⟨⟨⟨hr1,hr3⟩,hd⟩,hu⟩:=hr
 refine Vw rfl rfl rfl ?_
 dsimp only [go_sem,rA,rM,rS]
 refine gh (ZcT 5 0 1 59 rfl rfl) ?_
 dsimp only [go_sem,rA,rM,rS]
 have hlk:=ZsR l p hs hok till to (l.wells.length+1) [] s day [] [] 0 0 [] (.v (.slice none 0 0)) ZrQ.start (by simp) (by omega) (by omega) (by simp;omega) (by simp) MW.nil (fun u=>by simp [YC]) (.inr ⟨rfl,rfl⟩)
 have hW:(Xr l p to till (l.wells.length+1) [] s day).map (([]:List Nat) ++ ·)=Zdd l p s to day till:=by simp [Zdd]
 rw [hW] at hlk
 refine Zco [2,1,5,7,4,8,9,6] hlk rfl rfl ?_ ?_ ?_ ?_
 . rfl
 . dsimp only [rho,go_sem,rA,rM,rS]
   simp [Za,Zf,KFR,KFL,KF,Zb,mtO,nbr]
 . dsimp only [rho,Ys,Zu,go_sem,rA,rM,rS]
   simp [Za,Zf,KFR,KFL,KF,Zb,mtO,nbr,Zn,Zu,Zc,Zj,Zd,Yn,ZH,ZS]
 rintro o ⟨ver',clk',hM',rfl⟩
 dsimp only [Ys,Zu,go_sem,rA,rM,rS]
 try simp only [List.nil_append]
 by_cases hl:(Zdd l p s to day till).length<=200
 . refine ZJ (by simp only [hl,decide_true];rfl) ?_
   dsimp only [go_sem,rA,rM,rS]
   simp only [nbr]
   dsimp only [go_sem,rA,rM,rS]
   rw [Zb4,he,if_neg (by omega),Ws (by omega)]
   simp [YG,vwN]
 . refine ZV (by simp only [hl,decide_false];rfl) ?_
   dsimp only [go_sem,rA,rM,rS]
   rw [Zb4,he,if_pos (by omega)]
   simp [YG]
def c6:SC:=(.seq (.reg [
 o1 6 (.box (.t 0) 0 25),
 o1 10 (.box (.t 4) 0 29),
 o1 12 (.mv (.c (.bool false)))])
 (.seq (.seq (.reg [
 o1 29 (.ld (.t 6) 2 true),
 o1 30 (.call 16 [.t 29]),
 m1 31 30,
 ⟨some 32,.mv (.t 5),some (31,false),[]⟩,
 ⟨some 33,.len (.t 32),some (31,false),[]⟩,
 ⟨some 34,.bin .gtr (.t 33) (.c (.int .i64 40)),some (31,false),[]⟩,
 o1 35 (.pick (.t 31) (.c (.bool true)) (.t 34))])
 (.cond (.t 35)
 (.seq (.reg [
  o1 12 (.mv (.c (.bool true)))])
  .ret)
 .skip))
 (.seq (.reg [
 o1 36 (.ld (.t 6) 2 true),
 o1 37 (.call 21 [.t 36]),
 o1 38 (.bsl 1 3 []),
 m1 39 5,
 o1 40 (.app 1 8 3 (.t 38) (.t 39)),
 o1 13 (.alloc [.slice none 0 0,.slice none 0 0] 25),
 ⟨none,.st (.t 13) (.t 37) 2,none,[]⟩,
 m1 14 40])
 (.seq (.reg [
 o1 42 (.ld (.t 13) 2 true),
 m1 43 1,
 m1 44 3,
 o1 45 (.ld (.t 10) 2 true),
 o1 46 (.call 32 [.t 42,.t 43,.t 44,.t 45]),
 m1 41 46,
 o1 47 (.ext (.t 41) 0),
 o1 48 (.ext (.t 41) 1),
 m1 15 47,
 m1 16 48])
 (.seq (.reg [
 o1 50 (.ld (.t 6) 2 true),
 m1 51 1,
 m1 52 3,
 o1 53 (.ld (.t 10) 2 true),
 o1 54 (.call 33 [.t 50,.t 51,.t 52,.t 53]),
 m1 49 54,
 o1 55 (.ext (.t 49) 0),
 o1 56 (.ext (.t 49) 1),
 m1 17 55,
 m1 18 56])
 (.seq (.reg [
 o1 58 (.ld (.t 13) 2 true),
 m1 59 1,
 m1 60 3,
 o1 61 (.ld (.t 10) 2 true),
 m1 62 14,
 o1 63 (.call 34 [.t 58,.t 59,.t 60,.t 61,.t 62]),
 m1 57 63,
 o1 64 (.ext (.t 57) 0),
 o1 65 (.ext (.t 57) 1),
 o1 66 (.ext (.t 57) 2),
 m1 19 64,
 m1 20 65,
 m1 21 66])
 (.seq (.reg [
 o1 68 (.ld (.t 6) 2 true),
 m1 69 1,
 m1 70 3,
 o1 71 (.ld (.t 10) 2 true),
 m1 72 5,
 o1 73 (.call 35 [.t 68,.t 69,.t 70,.t 71,.t 72]),
 m1 67 73,
 o1 74 (.ext (.t 67) 0),
 o1 75 (.ext (.t 67) 1),
 o1 76 (.ext (.t 67) 2),
 m1 22 74,
 m1 23 75,
 m1 24 76])
 (.seq (.reg [
 o1 78 (.ld (.t 13) 2 true),
 m1 79 1,
 m1 80 2,
 m1 81 3,
 o1 82 (.ld (.t 10) 2 true),
 o1 83 (.call 36 [.t 78,.t 79,.t 80,.t 81,.t 82]),
 m1 77 83,
 o1 84 (.ext (.t 77) 0),
 o1 85 (.ext (.t 77) 1),
 m1 25 84,
 m1 26 85])
 (.seq (.reg [
 o1 87 (.ld (.t 6) 2 true),
 m1 88 1,
 m1 89 2,
 m1 90 3,
 o1 91 (.ld (.t 10) 2 true),
 o1 92 (.call 37 [.t 87,.t 88,.t 89,.t 90,.t 91]),
 m1 86 92,
 o1 93 (.ext (.t 86) 0),
 o1 94 (.ext (.t 86) 1),
 m1 27 93,
 m1 28 94])
 (.seq (.reg [
 m1 95 15,
 m1 96 17,
 o1 97 (.call 38 [.t 95,.t 96]),
 m1 98 97,
 ⟨some 99,.mv (.t 16),some (98,true),[]⟩,
 ⟨some 100,.mv (.t 18),some (98,true),[]⟩,
 ⟨some 101,.bin .eql (.t 99) (.t 100),some (98,true),[]⟩,
 o1 102 (.pick (.t 98) (.t 101) (.c (.bool false))),
 m1 103 102,
 ⟨some 104,.mv (.t 19),some (103,true),[]⟩,
 ⟨some 105,.mv (.t 22),some (103,true),[]⟩,
 ⟨some 106,.call 39 [.t 104,.t 105],some (103,true),[]⟩,
 o1 107 (.pick (.t 103) (.t 106) (.c (.bool false))),
 m1 108 107,
 ⟨some 109,.mv (.t 20),some (108,true),[]⟩,
 ⟨some 110,.mv (.t 23),some (108,true),[]⟩,
 ⟨some 111,.bin .eql (.t 109) (.t 110),some (108,true),[]⟩,
 o1 112 (.pick (.t 108) (.t 111) (.c (.bool false))),
 m1 113 112,
 ⟨some 114,.mv (.t 21),some (113,true),[]⟩,
 ⟨some 115,.mv (.t 24),some (113,true),[]⟩,
 ⟨some 116,.bin .eql (.t 114) (.t 115),some (113,true),[]⟩,
 o1 117 (.pick (.t 113) (.t 116) (.c (.bool false))),
 m1 118 117,
 ⟨some 119,.mv (.t 25),some (118,true),[]⟩,
 ⟨some 120,.mv (.t 27),some (118,true),[]⟩,
 ⟨some 121,.call 40 [.t 119,.t 120],some (118,true),[]⟩,
 o1 122 (.pick (.t 118) (.t 121) (.c (.bool false))),
 m1 123 122,
 ⟨some 124,.mv (.t 26),some (123,true),[]⟩,
 ⟨some 125,.mv (.t 28),some (123,true),[]⟩,
 ⟨some 126,.bin .eql (.t 124) (.t 125),some (123,true),[]⟩,
 o1 127 (.pick (.t 123) (.t 126) (.c (.bool false))),
 m1 128 127,
 ⟨some 129,.ld (.t 13) 2 true,some (128,true),[]⟩,
 ⟨some 130,.ld (.t 6) 2 true,some (128,true),[]⟩,
 ⟨some 131,.call 28 [.t 129,.t 130],some (128,true),[]⟩,
 o1 132 (.pick (.t 128) (.t 131) (.c (.bool false))),
 m1 133 132,
 ⟨some 134,.mv (.t 14),some (133,true),[]⟩,
 ⟨some 135,.mv (.t 5),some (133,true),[]⟩,
 ⟨some 136,.call 40 [.t 134,.t 135],some (133,true),[]⟩,
 o1 137 (.pick (.t 133) (.t 136) (.c (.bool false))),
 m1 12 137])
 .ret))))))))))
theorem Zom {a b:Span} (h1:a.lo=b.lo) (h2:a.hi=b.hi):a=b:=by
 obtain ⟨_,_⟩:=a
 obtain ⟨_,_⟩:=b
 simp_all
theorem Zj4 {a b:Stop} (h1:a.leg=b.leg) (h2:a.well=b.well) (h3:a.leaves.lo=b.leaves.lo) (h4:a.leaves.hi=b.leaves.hi) (h5:a.arrives.lo=b.arrives.lo) (h6:a.arrives.hi=b.arrives.hi):a=b:=by
 obtain ⟨_,_,⟨_,_⟩,⟨_,_⟩⟩:=a
 obtain ⟨_,_,⟨_,_⟩,⟨_,_⟩⟩:=b
 simp_all
theorem ZhF (a b:List Span) (ha:a.length<=1000000) (hb:b.length<=1000000) (c c':Bool):Ct Try.prog 38 [.sl c 2 (a.map Ze),.sl c' 2 (b.map Ze)] (B (decide (a=b))):=by
 refine t38.1 (by simp [Za,Ze,KFL,KF]) (by simp [KFL,KF]) ?_
 dsimp only [c38,r38,go_sem,rA,rM,rS]
 simp only [List.length_map]
 by_cases hl:a.length=b.length
 case neg =>
  refine ZV (by simp;omega) ?_
  dsimp only [go_sem,rA,rM,rS]
  have:a≠b:=fun e=>hl (by rw [e])
  simp [this]
 refine ZJ (by simp;omega) ?_
 dsimp only [go_sem,rA,rM,rS]
 refine YB (fun j:Nat=>[(5,I j)]) (fun _=>[]) (fun j=>j<=a.length/\a.take j=b.take j) (fun j=>a.length - j) 0 ⟨Nat.zero_le _,rfl⟩ ?_ ?_
 . (refine Zi ?_ ?_ ?_ rfl rfl<;>dsimp only [Ze,id,go_sem,rA,rM,rS]<;>simp [Ze,Za,Zf,KFR,KFL,KF,Zb,mtO,nbr])
 rintro j ⟨hj,ht⟩
 dsimp only [go_sem,rA,rM,rS]
 simp only [List.length_map]
 by_cases hlt:j < a.length
 . refine ZV (by simpa using hlt) ?_
   dsimp only [go_sem,rA,rM,rS]
   have hltb:j < b.length:=by omega
   refine Zt j hlt rfl ?_
   dsimp only [go_sem,rA,rM,rS]
   refine Zt j hltb rfl ?_
   dsimp only [Ze,go_sem,rA,rM,rS]
   by_cases he:a[j]=b[j]
   . refine ZJ (by rw [he];simp [ngB]) ?_
     dsimp only [go_sem,rA,rM,rS]
     rw [Zo (n:=(j:Int)+1) (by omega) (by omega)]
     refine ⟨j+1,⟨hlt,?_⟩,by omega,?_⟩
     . rw [List.take_succ_eq_append_getElem hlt,List.take_succ_eq_append_getElem hltb,ht,he]
     (refine Zi ?_ ?_ ?_ rfl rfl<;>dsimp only [Ze,id,go_sem,rA,rM,rS]<;>simp [Ze,Za,Zf,KFR,KFL,KF,Zb,mtO,nbr])
   . refine ZV ?_ ?_
     . apply Decidable.byContradiction;intro hq;simp at hq;exact he (Zom hq.1 hq.2)
     dsimp only [go_sem,rA,rM,rS]
     have:a≠b:=fun e=>he (by subst e;rfl)
     simp [this]
 refine ZJ (by simp;omega) ?_
 dsimp only [go_sem,rA,rM,rS]
 have:a=b:=by
  rw [List.take_of_length_le (by omega),List.take_of_length_le (by omega)] at ht
  exact ht
 simp [this]
theorem Zh4 (a b:List Stop) (ha:a.length<=1000000) (hb:b.length<=1000000) (c c':Bool):Ct Try.prog 39 [.sl c 6 (a.map Wn),.sl c' 6 (b.map Wn)] (B (decide (a=b))):=by
 refine t39.1 (by simp [Za,Wn,KFL,KF]) (by simp [KFL,KF]) ?_
 dsimp only [c39,r39,go_sem,rA,rM,rS]
 simp only [List.length_map]
 by_cases hl:a.length=b.length
 case neg =>
  refine ZV (by simp;omega) ?_
  dsimp only [go_sem,rA,rM,rS]
  have:a≠b:=fun e=>hl (by rw [e])
  simp [this]
 refine ZJ (by simp;omega) ?_
 dsimp only [go_sem,rA,rM,rS]
 refine YB (fun j:Nat=>[(5,I j)]) (fun _=>[]) (fun j=>j<=a.length/\a.take j=b.take j) (fun j=>a.length - j) 0 ⟨Nat.zero_le _,rfl⟩ ?_ ?_
 . (refine Zi ?_ ?_ ?_ rfl rfl<;>dsimp only [Wn,id,go_sem,rA,rM,rS]<;>simp [Wn,Za,Zf,KFR,KFL,KF,Zb,mtO,nbr])
 rintro j ⟨hj,ht⟩
 dsimp only [go_sem,rA,rM,rS]
 simp only [List.length_map]
 by_cases hlt:j < a.length
 . refine ZV (by simpa using hlt) ?_
   dsimp only [go_sem,rA,rM,rS]
   have hltb:j < b.length:=by omega
   refine Zt j hlt rfl ?_
   dsimp only [go_sem,rA,rM,rS]
   refine Zt j hltb rfl ?_
   dsimp only [Wn,go_sem,rA,rM,rS]
   by_cases he:a[j]=b[j]
   . refine ZJ (by rw [he];simp [ngB]) ?_
     dsimp only [go_sem,rA,rM,rS]
     rw [Zo (n:=(j:Int)+1) (by omega) (by omega)]
     refine ⟨j+1,⟨hlt,?_⟩,by omega,?_⟩
     . rw [List.take_succ_eq_append_getElem hlt,List.take_succ_eq_append_getElem hltb,ht,he]
     (refine Zi ?_ ?_ ?_ rfl rfl<;>dsimp only [Wn,id,go_sem,rA,rM,rS]<;>simp [Wn,Za,Zf,KFR,KFL,KF,Zb,mtO,nbr])
   . refine ZV ?_ ?_
     . apply Decidable.byContradiction;intro hq;simp at hq;exact he (Zj4 hq.1 hq.2.1 hq.2.2.1 hq.2.2.2.1 hq.2.2.2.2.1 hq.2.2.2.2.2)
     dsimp only [go_sem,rA,rM,rS]
     have:a≠b:=fun e=>he (by subst e;rfl)
     simp [this]
 refine ZJ (by simp;omega) ?_
 dsimp only [go_sem,rA,rM,rS]
 have:a=b:=by
  rw [List.take_of_length_le (by omega),List.take_of_length_le (by omega)] at ht
  exact ht
 simp [this]
theorem Zb6 (a b:List Int) (ha:a.length<=1000000) (hb:b.length<=1000000) (c c':Bool):Ct Try.prog 40 [.sl c 1 (a.map ZO),.sl c' 1 (b.map ZO)] (B (decide (a=b))):=by
 refine t40.1 (by simp [Za,ZO,KFL,KF]) (by simp [KFL,KF]) ?_
 dsimp only [c40,r40,go_sem,rA,rM,rS]
 simp only [List.length_map]
 by_cases hl:a.length=b.length
 case neg =>
  refine ZV (by simp;omega) ?_
  dsimp only [go_sem,rA,rM,rS]
  have:a≠b:=fun e=>hl (by rw [e])
  simp [this]
 refine ZJ (by simp;omega) ?_
 dsimp only [go_sem,rA,rM,rS]
 refine YB (fun j:Nat=>[(5,I j)]) (fun _=>[]) (fun j=>j<=a.length/\a.take j=b.take j) (fun j=>a.length - j) 0 ⟨Nat.zero_le _,rfl⟩ ?_ ?_
 . (refine Zi ?_ ?_ ?_ rfl rfl<;>dsimp only [ZO,id,go_sem,rA,rM,rS]<;>simp [ZO,Za,Zf,KFR,KFL,KF,Zb,mtO,nbr])
 rintro j ⟨hj,ht⟩
 dsimp only [go_sem,rA,rM,rS]
 simp only [List.length_map]
 by_cases hlt:j < a.length
 . refine ZV (by simpa using hlt) ?_
   dsimp only [go_sem,rA,rM,rS]
   have hltb:j < b.length:=by omega
   refine Zt j hlt rfl ?_
   dsimp only [go_sem,rA,rM,rS]
   refine Zt j hltb rfl ?_
   dsimp only [ZO,go_sem,rA,rM,rS]
   by_cases he:a[j]=b[j]
   . refine ZJ (by rw [he];simp [ngB]) ?_
     dsimp only [go_sem,rA,rM,rS]
     rw [Zo (n:=(j:Int)+1) (by omega) (by omega)]
     refine ⟨j+1,⟨hlt,?_⟩,by omega,?_⟩
     . rw [List.take_succ_eq_append_getElem hlt,List.take_succ_eq_append_getElem hltb,ht,he]
     (refine Zi ?_ ?_ ?_ rfl rfl<;>dsimp only [ZO,id,go_sem,rA,rM,rS]<;>simp [ZO,Za,Zf,KFR,KFL,KF,Zb,mtO,nbr])
   . refine ZV ?_ ?_
     . simpa using he
     dsimp only [go_sem,rA,rM,rS]
     have:a≠b:=fun e=>he (by subst e;rfl)
     simp [this]
 refine ZJ (by simp;omega) ?_
 dsimp only [go_sem,rA,rM,rS]
 have:a=b:=by
  rw [List.take_of_length_le (by omega),List.take_of_length_le (by omega)] at ht
  exact ht
 simp [this]
def c41:SC:=(.seq (.reg [
 o1 0 (.mv (.c (.bool false)))])
 (.seq (.reg [
 o1 18 (.call 56 []),
 o1 19 (.call 57 []),
 o1 20 (.call 22 [.t 18,.c (.int .i64 2),.t 19]),
 m1 17 20,
 o1 21 (.ext (.t 17) 0),
 o1 22 (.ext (.t 17) 1),
 o1 1 (.alloc [.int .i64 0,.int .i64 0] 29),
 ⟨none,.st (.t 1) (.t 21) 2,none,[]⟩,
 m1 2 22])
 (.seq (.reg [
 o1 24 (.call 56 []),
 o1 25 (.call 57 []),
 o1 26 (.call 24 [.t 24,.c (.int .i64 0),.c (.int .i64 6),.t 25]),
 m1 23 26,
 o1 27 (.ext (.t 23) 0),
 o1 28 (.ext (.t 23) 1),
 o1 3 (.alloc [.int .i64 0,.int .i64 0] 29),
 ⟨none,.st (.t 3) (.t 27) 2,none,[]⟩,
 m1 4 28])
 (.seq (.reg [
 o1 30 (.call 56 []),
 o1 31 (.call 57 []),
 o1 32 (.bsl 1 3 [.c (.int .i64 0),.c (.int .i64 1)]),
 o1 33 (.call 34 [.t 30,.c (.int .i64 0),.c (.int .i64 6),.t 31,.t 32]),
 m1 29 33,
 o1 34 (.ext (.t 29) 0),
 o1 35 (.ext (.t 29) 1),
 o1 36 (.ext (.t 29) 2),
 m1 5 34,
 m1 6 35,
 m1 7 36])
 (.seq (.reg [
 o1 38 (.call 56 []),
 o1 39 (.call 57 []),
 o1 40 (.call 32 [.t 38,.c (.int .i64 0),.c (.int .i64 6),.t 39]),
 m1 37 40,
 o1 41 (.ext (.t 37) 0),
 o1 42 (.ext (.t 37) 1),
 m1 8 41,
 m1 9 42])
 (.seq (.reg [
 o1 44 (.call 56 []),
 o1 45 (.call 57 []),
 o1 46 (.call 36 [.t 44,.c (.int .i64 0),.c (.int .i64 2),.c (.int .i64 6),.t 45]),
 m1 43 46,
 o1 47 (.ext (.t 43) 0),
 o1 48 (.ext (.t 43) 1),
 m1 10 47,
 m1 11 48])
 (.seq (.reg [
 o1 50 (.call 56 []),
 o1 51 (.call 57 []),
 o1 52 (.call 29 [.t 50,.c (.int .i64 0),.c (.int .i64 2),.c (.int .i64 6),.c (.int .i64 21),.t 51]),
 m1 49 52,
 o1 53 (.ext (.t 49) 0),
 o1 54 (.ext (.t 49) 1),
 m1 12 53,
 m1 13 54])
 (.seq (.reg [
 o1 56 (.call 56 []),
 o1 57 (.build [.int .i64 0,.int .i64 0,.int .i64 0] [(0,1,.c (.int .i64 1)),(2,1,.c (.int .i64 4000))]),
 o1 58 (.bsl 3 40 [.t 57]),
 o1 59 (.call 17 [.t 56,.c (.int .i64 1),.t 58,.c (.int .i64 2)]),
 m1 55 59,
 o1 60 (.ext (.t 55) 0),
 o1 61 (.ext (.t 55) 1),
 o1 62 (.ext (.t 55) 2),
 o1 14 (.alloc [.int .i64 0,.int .i64 0] 29),
 ⟨none,.st (.t 14) (.t 60) 2,none,[]⟩,
 m1 15 61,
 m1 16 62])
 (.seq (.regd [0,1,2,3,4,5,6,7,8,9,10,11,12,13,14,15,16,17,18,19,20,21,22,23,24,25,26,27,28,29,30,31,32,33,34,35,36,37,38,39,40,41,42,43,44,45,46,47,48,49,50,51,52,53,54,55,56,57,58,59,60,61,62,63,64,65,66,67,68,69,70,71,72] [
 .op (m1 63 2),
 .op ⟨some 64,.bin .eql (.t 63) (.c (.int .i64 0)),none,[0]⟩,
 .op ⟨some 65,.mv (.t 64),none,[1]⟩,
 .op ⟨some 66,.ld (.t 1) 2 true,some (65,true),[2]⟩,
 .op ⟨some 67,.call 50 [.c (.int .i64 7),.c (.int .i64 12)],some (65,true),[2]⟩,
 .op ⟨some 68,.eqs false true [1,1] (.t 66) (.t 67),some (65,true),[2,3,4]⟩,
 .op ⟨some 69,.pick (.t 65) (.t 68) (.c (.bool false)),none,[2,5]⟩,
 .op ⟨some 70,.mv (.t 69),none,[4,6]⟩,
 .op ⟨some 71,.mv (.t 4),some (70,true),[7]⟩,
 .op ⟨some 72,.bin .eql (.t 71) (.c (.int .i64 0)),some (70,true),[7,8]⟩,
 .op ⟨some 73,.pick (.t 70) (.t 72) (.c (.bool false)),none,[7,9]⟩,
 .op ⟨some 74,.mv (.t 73),none,[7,10]⟩,
 .op ⟨some 75,.ld (.t 3) 2 true,some (74,true),[11]⟩,
 .op ⟨some 76,.call 50 [.c (.int .i64 6),.c (.int .i64 7)],some (74,true),[11]⟩,
 .op ⟨some 77,.eqs false true [1,1] (.t 75) (.t 76),some (74,true),[11,12,13]⟩,
 .op ⟨some 78,.pick (.t 74) (.t 77) (.c (.bool false)),none,[11,14]⟩,
 .op ⟨some 79,.mv (.t 78),none,[13,15]⟩,
 .op ⟨some 80,.mv (.t 7),some (79,true),[16]⟩,
 .op ⟨some 81,.bin .eql (.t 80) (.c (.int .i64 0)),some (79,true),[16,17]⟩,
 .op ⟨some 82,.pick (.t 79) (.t 81) (.c (.bool false)),none,[16,18]⟩,
 .op ⟨some 83,.mv (.t 82),none,[16,19]⟩,
 .op ⟨some 84,.mv (.t 5),some (83,true),[20]⟩,
 .op ⟨some 85,.call 50 [.c (.int .i64 6),.c (.int .i64 7)],some (83,true),[20]⟩,
 .op ⟨some 86,.call 50 [.c (.int .i64 9),.c (.int .i64 12)],some (83,true),[20,22]⟩,
 .op ⟨some 87,.build zv2 [(0,1,.c (.int .i64 0)),(1,1,.c (.int .i64 1)),(2,2,.t 85),(4,2,.t 86)],some (83,true),[20,22,23]⟩,
 .op ⟨some 88,.call 50 [.c (.int .i64 9),.c (.int .i64 18)],some (83,true),[20,23]⟩,
 .op ⟨some 89,.call 50 [.c (.int .i64 11),.c (.int .i64 21)],some (83,true),[20,25]⟩,
 .op ⟨some 90,.build zv2 [(0,1,.c (.int .i64 1)),(1,1,.c (.int .i64 2)),(2,2,.t 88),(4,2,.t 89)],some (83,true),[20,25,26]⟩,
 .op ⟨some 91,.bsl 6 92 [.t 87,.t 90],some (83,true),[20,24,27]⟩,
 .op ⟨some 92,.call 39 [.t 84,.t 91],some (83,true),[20,21,26,28]⟩,
 .op ⟨some 93,.pick (.t 83) (.t 92) (.c (.bool false)),none,[20,29]⟩,
 .op ⟨some 94,.mv (.t 93),none,[29,30]⟩,
 .op ⟨some 95,.mv (.t 9),some (94,true),[31]⟩,
 .op ⟨some 96,.bin .eql (.t 95) (.c (.int .i64 0)),some (94,true),[31,32]⟩,
 .op ⟨some 97,.pick (.t 94) (.t 96) (.c (.bool false)),none,[31,33]⟩,
 .op ⟨some 98,.mv (.t 97),none,[31,34]⟩,
 .op ⟨some 99,.mv (.t 8),some (98,true),[35]⟩,
 .op ⟨some 100,.call 50 [.c (.int .i64 6),.c (.int .i64 6)],some (98,true),[35]⟩,
 .op ⟨some 101,.call 50 [.c (.int .i64 9),.c (.int .i64 12)],some (98,true),[35,37]⟩,
 .op ⟨some 102,.call 50 [.c (.int .i64 11),.c (.int .i64 18)],some (98,true),[35,38]⟩,
 .op ⟨some 103,.bsl 2 29 [.t 100,.t 101,.t 102],some (98,true),[35,37,38,39]⟩,
 .op ⟨some 104,.call 38 [.t 99,.t 103],some (98,true),[35,36,39,40]⟩,
 .op ⟨some 105,.pick (.t 98) (.t 104) (.c (.bool false)),none,[35,41]⟩,
 .op ⟨some 106,.mv (.t 105),none,[41,42]⟩,
 .op ⟨some 107,.mv (.t 11),some (106,true),[43]⟩,
 .op ⟨some 108,.bin .eql (.t 107) (.c (.int .i64 0)),some (106,true),[43,44]⟩,
 .op ⟨some 109,.pick (.t 106) (.t 108) (.c (.bool false)),none,[43,45]⟩,
 .op ⟨some 110,.mv (.t 109),none,[43,46]⟩,
 .op ⟨some 111,.mv (.t 10),some (110,true),[47]⟩,
 .op ⟨some 112,.bsl 1 3 [.c (.int .i64 2)],some (110,true),[47]⟩,
 .op ⟨some 113,.call 40 [.t 111,.t 112],some (110,true),[47,48,49]⟩,
 .op ⟨some 114,.pick (.t 110) (.t 113) (.c (.bool false)),none,[47,50]⟩,
 .op ⟨some 115,.mv (.t 114),none,[50,51]⟩,
 .op ⟨some 116,.mv (.t 13),some (115,true),[52]⟩,
 .op ⟨some 117,.bin .eql (.t 116) (.c (.int .i64 0)),some (115,true),[52,53]⟩,
 .op ⟨some 118,.pick (.t 115) (.t 117) (.c (.bool false)),none,[52,54]⟩,
 .op ⟨some 119,.mv (.t 118),none,[52,55]⟩,
 .op ⟨some 120,.mv (.t 12),some (119,true),[56]⟩,
 .op ⟨some 121,.bsl 1 3 [.c (.int .i64 0),.c (.int .i64 1)],some (119,true),[56]⟩,
 .op ⟨some 122,.bsl 1 3 [.c (.int .i64 2)],some (119,true),[56]⟩,
 .op ⟨some 123,.bsl 1 59 [.t 121,.t 122],some (119,true),[56,58,59]⟩,
 .op ⟨some 124,.call 31 [.t 120,.t 123],some (119,true),[56,57,60]⟩,
 .op ⟨some 125,.pick (.t 119) (.t 124) (.c (.bool false)),none,[56,61]⟩,
 .op ⟨some 126,.mv (.t 125),none,[61,62]⟩,
 .op ⟨some 127,.mv (.t 16),some (126,true),[63]⟩,
 .op ⟨some 128,.bin .eql (.t 127) (.c (.int .i64 0)),some (126,true),[63,64]⟩,
 .op ⟨some 129,.pick (.t 126) (.t 128) (.c (.bool false)),none,[63,65]⟩,
 .op ⟨some 130,.mv (.t 129),none,[63,66]⟩,
 .op ⟨some 131,.ld (.t 14) 2 true,some (130,true),[67]⟩,
 .op ⟨some 132,.call 50 [.c (.int .i64 1000),.c (.int .i64 5000)],some (130,true),[67]⟩,
 .op ⟨some 133,.eqs false true [1,1] (.t 131) (.t 132),some (130,true),[67,68,69]⟩,
 .op ⟨some 134,.pick (.t 130) (.t 133) (.c (.bool false)),none,[67,70]⟩,
 .op ⟨some 0,.mv (.t 134),none,[0,1,2,3,4,5,6,7,8,9,10,11,12,13,14,15,16,17,18,19,20,21,22,23,24,25,26,27,28,29,30,31,32,33,34,35,36,37,38,39,40,41,42,43,44,45,46,47,48,49,50,51,52,53,54,55,56,57,58,59,60,61,62,63,64,65,66,67,68,69,70,71]⟩] 0 0 [
])
 .ret)))))))))
def r41:List RV:=[.tmp 0]
theorem t41:Qt1 Try.prog 41 c41 r41 135:=YT Try.func41 rfl (by kernel_rfl) (by kernel_rfl) (by kernel_rfl) (by kernel_rfl)
def c42:SC:=(.seq (.reg [
 o1 2 (.box (.t 0) 0 25),
 o1 3 (.box (.t 1) 0 29),
 o1 4 (.mv (.c (.bool false)))])
 (.seq (.reg [
 o1 5 (.ld (.t 2) 2 true),
 o1 6 (.call 16 [.t 5]),
 o1 7 (.un .not (.t 6)),
 m1 8 7,
 ⟨some 9,.ld (.t 2) 2 true,some (8,true),[]⟩,
 ⟨some 10,.call 27 [.t 9],some (8,true),[]⟩,
 ⟨some 11,.bin .eql (.t 10) (.c (.int .i64 0)),some (8,true),[]⟩,
 o1 12 (.pick (.t 8) (.t 11) (.c (.bool false))),
 m1 13 12,
 ⟨some 14,.ld (.t 3) 2 true,some (13,true),[]⟩,
 ⟨some 15,.call 89 [.t 14],some (13,true),[]⟩,
 o1 16 (.pick (.t 13) (.t 15) (.c (.bool false))),
 m1 4 16])
 .ret))
def r42:List RV:=[.tmp 4]
theorem t42:Qt1 Try.prog 42 c42 r42 17:=YT Try.func42 rfl (by kernel_rfl) (by kernel_rfl) (by kernel_rfl) (by kernel_rfl)
def c50:SC:=(.seq (.reg [
 o1 4 (.alloc [.int .i64 0,.int .i64 0] 29)])
 (.seq (.reg [
 m1 5 0,
 m1 6 1,
 o1 7 (.build [.int .i64 0,.int .i64 0] [(0,1,.t 5),(1,1,.t 6)]),
 ⟨none,.st (.t 4) (.t 7) 2,none,[]⟩])
 .ret))
def r50:List RV:=[.cell 4 2 true]
theorem t50:Qt1 Try.prog 50 c50 r50 8:=YT Try.func50 rfl (by kernel_rfl) (by kernel_rfl) (by kernel_rfl) (by kernel_rfl)
def c56:SC:=(.seq (.reg [
 o1 0 (.alloc [.slice none 0 0,.slice none 0 0] 25)])
 (.seq (.reg [
 o1 1 (.build zv0 []),
 o1 2 (.call 50 [.c (.int .i64 1000),.c (.int .i64 2000)]),
 o1 3 (.call 50 [.c (.int .i64 3000),.c (.int .i64 5000)]),
 o1 4 (.build zv0 [(0,1,.c (.int .i64 90000)),(2,1,.c (.int .i64 20)),(3,2,.t 2),(5,1,.c (.int .i64 10000)),(6,2,.t 3)]),
 o1 5 (.build zv0 [(0,1,.c (.int .i64 140000))]),
 o1 6 (.bsl 9 109 [.t 1,.t 4,.t 5]),
 o1 7 (.call 50 [.c (.int .i64 90000),.c (.int .i64 100000)]),
 o1 8 (.call 50 [.c (.int .i64 5),.c (.int .i64 7)]),
 o1 9 (.call 50 [.c (.int .i64 20),.c (.int .i64 30)]),
 o1 10 (.build [.int .i64 0,.int .i64 0,.int .i64 0,.int .i64 0] [(0,2,.t 8),(2,2,.t 9)]),
 o1 11 (.bsl 4 95 [.t 10]),
 o1 12 (.build zv1 [(0,1,.c (.int .i64 0)),(1,1,.c (.int .i64 1)),(2,2,.t 7),(4,1,.t 11)]),
 o1 13 (.call 50 [.c (.int .i64 50000),.c (.int .i64 50000)]),
 o1 14 (.call 50 [.c (.int .i64 12),.c (.int .i64 13)]),
 o1 15 (.build [.int .i64 0,.int .i64 0,.int .i64 0,.int .i64 0] [(2,2,.t 14)]),
 o1 16 (.call 50 [.c (.int .i64 18),.c (.int .i64 18)]),
 o1 17 (.call 50 [.c (.int .i64 40),.c (.int .i64 50)]),
 o1 18 (.build [.int .i64 0,.int .i64 0,.int .i64 0,.int .i64 0] [(0,2,.t 16),(2,2,.t 17)]),
 o1 19 (.bsl 4 95 [.t 15,.t 18]),
 o1 20 (.build zv1 [(0,1,.c (.int .i64 1)),(1,1,.c (.int .i64 2)),(2,2,.t 13),(4,1,.t 19)]),
 o1 21 (.call 50 [.c (.int .i64 200000),.c (.int .i64 240000)]),
 o1 22 (.call 50 [.c (.int .i64 99),.c (.int .i64 99)]),
 o1 23 (.build [.int .i64 0,.int .i64 0,.int .i64 0,.int .i64 0] [(2,2,.t 22)]),
 o1 24 (.bsl 4 95 [.t 23]),
 o1 25 (.build zv1 [(0,1,.c (.int .i64 0)),(1,1,.c (.int .i64 2)),(2,2,.t 21),(4,1,.t 24)]),
 o1 26 (.bsl 5 86 [.t 12,.t 20,.t 25]),
 o1 27 (.build [.slice none 0 0,.slice none 0 0] [(0,1,.t 6),(1,1,.t 26)]),
 ⟨none,.st (.t 0) (.t 27) 2,none,[]⟩])
 .ret))
def r56:List RV:=[.cell 0 2 true]
theorem n56:Try.f56.ntmps=28:=by kernel_rfl
theorem b56:Xf Try.prog 56=true:=by kernel_rfl
theorem Zul:XJ Try.prog c56 ((Try.f56.body).getD .skip)=true:=by kernel_rfl
theorem Zt5:W5 Try.prog r56 Try.f56.results.toList=true:=by kernel_rfl
def c57:SC:=(.seq (.reg [
 o1 0 (.alloc [.int .i64 0,.int .i64 0] 29)])
 (.seq (.reg [
 o1 1 (.call 50 [.c (.int .i64 20000),.c (.int .i64 30000)]),
 ⟨none,.st (.t 0) (.t 1) 2,none,[]⟩])
 .ret))
def r57:List RV:=[.cell 0 2 true]
theorem t57:Qt1 Try.prog 57 c57 r57 2:=YT Try.func57 rfl (by kernel_rfl) (by kernel_rfl) (by kernel_rfl) (by kernel_rfl)
def c8:SC:=(.seq (.reg [
 o1 5 (.box (.t 0) 0 25),
 o1 6 (.box (.t 1) 0 3),
 o1 8 (.box (.t 3) 0 29),
 o1 10 (.mv (.c (.bool false)))])
 (.seq (.reg [
 o1 20 (.call 41 []),
 m1 11 20])
 (.seq (.seq (.reg [
 m1 21 11,
 o1 22 (.un .not (.t 21))])
 (.cond (.t 22)
 (.seq (.reg [
  o1 10 (.mv (.c (.bool false)))])
  .ret)
 .skip))
 (.seq (.seq (.reg [
 o1 23 (.ld (.t 5) 2 true),
 o1 24 (.ld (.t 8) 2 true),
 o1 25 (.call 42 [.t 23,.t 24]),
 o1 26 (.un .not (.t 25)),
 m1 27 26,
 ⟨some 28,.ld (.t 6) 1 false,some (27,false),[]⟩,
 ⟨some 29,.bin .lss (.t 28) (.c (.int .i64 0)),some (27,false),[]⟩,
 o1 30 (.pick (.t 27) (.c (.bool true)) (.t 29)),
 m1 31 30,
 ⟨some 32,.ld (.t 6) 1 false,some (31,false),[]⟩,
 ⟨some 33,.addo (.t 5) 1,some (31,false),[]⟩,
 ⟨some 34,.ld (.t 33) 1 false,some (31,false),[]⟩,
 ⟨some 35,.len (.t 34),some (31,false),[]⟩,
 ⟨some 36,.bin .geq (.t 32) (.t 35),some (31,false),[]⟩,
 o1 37 (.pick (.t 31) (.c (.bool true)) (.t 36)),
 m1 38 37,
 ⟨some 39,.mv (.t 2),some (38,false),[]⟩,
 ⟨some 40,.bin .lss (.t 39) (.c (.int .i64 0)),some (38,false),[]⟩,
 o1 41 (.pick (.t 38) (.c (.bool true)) (.t 40)),
 m1 42 41,
 ⟨some 43,.mv (.t 2),some (42,false),[]⟩,
 ⟨some 44,.bin .gtr (.t 43) (.c (.int .i64 100000)),some (42,false),[]⟩,
 o1 45 (.pick (.t 42) (.c (.bool true)) (.t 44))])
 (.cond (.t 45)
 (.seq (.reg [
  m1 46 11,
  m1 10 46])
  .ret)
 .skip))
 (.seq (.reg [
 o1 48 (.ld (.t 5) 2 true),
 o1 49 (.ld (.t 6) 1 false),
 m1 50 2,
 o1 51 (.ld (.t 8) 2 true),
 o1 52 (.call 24 [.t 48,.t 49,.t 50,.t 51]),
 m1 47 52,
 o1 53 (.ext (.t 47) 0),
 o1 54 (.ext (.t 47) 1),
 o1 12 (.alloc [.int .i64 0,.int .i64 0] 29),
 ⟨none,.st (.t 12) (.t 53) 2,none,[]⟩,
 m1 13 54])
 (.seq (.reg [
 o1 56 (.ld (.t 5) 2 true),
 o1 57 (.ld (.t 6) 1 false),
 o1 58 (.ld (.t 8) 2 true),
 o1 59 (.call 22 [.t 56,.t 57,.t 58]),
 m1 55 59,
 o1 60 (.ext (.t 55) 0),
 o1 61 (.ext (.t 55) 1),
 o1 14 (.alloc [.int .i64 0,.int .i64 0] 29),
 ⟨none,.st (.t 14) (.t 60) 2,none,[]⟩,
 m1 15 61])
 (.seq (.seq (.reg [
 m1 62 13,
 o1 63 (.bin .neq (.t 62) (.c (.int .i64 0))),
 m1 64 63,
 ⟨some 65,.mv (.t 15),some (64,false),[]⟩,
 ⟨some 66,.bin .neq (.t 65) (.c (.int .i64 0)),some (64,false),[]⟩,
 o1 67 (.pick (.t 64) (.c (.bool true)) (.t 66)),
 m1 68 67,
 ⟨some 69,.addo (.t 14) 0,some (68,false),[]⟩,
 ⟨some 70,.ld (.t 69) 1 false,some (68,false),[]⟩,
 ⟨some 71,.bin .lss (.t 70) (.c (.int .i64 1)),some (68,false),[]⟩,
 o1 72 (.pick (.t 68) (.c (.bool true)) (.t 71)),
 m1 73 72,
 ⟨some 74,.addo (.t 14) 0,some (73,false),[]⟩,
 ⟨some 75,.ld (.t 74) 1 false,some (73,false),[]⟩,
 ⟨some 76,.addo (.t 14) 1,some (73,false),[]⟩,
 ⟨some 77,.ld (.t 76) 1 false,some (73,false),[]⟩,
 ⟨some 78,.bin .gtr (.t 75) (.t 77),some (73,false),[]⟩,
 o1 79 (.pick (.t 73) (.c (.bool true)) (.t 78)),
 m1 80 79,
 ⟨some 81,.addo (.t 12) 0,some (80,false),[]⟩,
 ⟨some 82,.ld (.t 81) 1 false,some (80,false),[]⟩,
 ⟨some 83,.mv (.t 2),some (80,false),[]⟩,
 ⟨some 84,.bin .lss (.t 82) (.t 83),some (80,false),[]⟩,
 o1 85 (.pick (.t 80) (.c (.bool true)) (.t 84)),
 m1 86 85,
 ⟨some 87,.addo (.t 12) 0,some (86,false),[]⟩,
 ⟨some 88,.ld (.t 87) 1 false,some (86,false),[]⟩,
 ⟨some 89,.addo (.t 12) 1,some (86,false),[]⟩,
 ⟨some 90,.ld (.t 89) 1 false,some (86,false),[]⟩,
 ⟨some 91,.bin .gtr (.t 88) (.t 90),some (86,false),[]⟩,
 o1 92 (.pick (.t 86) (.c (.bool true)) (.t 91)),
 m1 93 92,
 ⟨some 94,.addo (.t 12) 1,some (93,false),[]⟩,
 ⟨some 95,.ld (.t 94) 1 false,some (93,false),[]⟩,
 ⟨some 96,.bin .gtr (.t 95) (.c (.int .i64 100001)),some (93,false),[]⟩,
 o1 97 (.pick (.t 93) (.c (.bool true)) (.t 96))])
 (.cond (.t 97)
 (.seq (.reg [
  o1 10 (.mv (.c (.bool false)))])
  .ret)
 .skip))
 (.seq (.reg [
 o1 98 (.addo (.t 5) 1),
 o1 99 (.ld (.t 98) 1 false),
 o1 100 (.ld (.t 6) 1 false),
 o1 101 (.ixs (.t 99) (.t 100) 5),
 o1 102 (.addo (.t 101) 2),
 o1 103 (.ld (.t 102) 2 true),
 o1 16 (.alloc [.int .i64 0,.int .i64 0] 29),
 ⟨none,.st (.t 16) (.t 103) 2,none,[]⟩])
 (.seq (.seq (.reg [
 o1 104 (.addo (.t 14) 0),
 o1 105 (.ld (.t 104) 1 false),
 o1 106 (.addo (.t 8) 1),
 o1 107 (.ld (.t 106) 1 false),
 o1 108 (.bin .mul (.t 105) (.t 107)),
 o1 109 (.addo (.t 16) 0),
 o1 110 (.ld (.t 109) 1 false),
 o1 111 (.bin .lss (.t 108) (.t 110)),
 m1 112 111,
 ⟨some 113,.addo (.t 14) 0,some (112,false),[]⟩,
 ⟨some 114,.ld (.t 113) 1 false,some (112,false),[]⟩,
 ⟨some 115,.bin .sub (.t 114) (.c (.int .i64 1)),some (112,false),[]⟩,
 ⟨some 116,.addo (.t 8) 1,some (112,false),[]⟩,
 ⟨some 117,.ld (.t 116) 1 false,some (112,false),[]⟩,
 ⟨some 118,.bin .mul (.t 115) (.t 117),some (112,false),[]⟩,
 ⟨some 119,.addo (.t 16) 0,some (112,false),[]⟩,
 ⟨some 120,.ld (.t 119) 1 false,some (112,false),[]⟩,
 ⟨some 121,.bin .geq (.t 118) (.t 120),some (112,false),[]⟩,
 o1 122 (.pick (.t 112) (.c (.bool true)) (.t 121)),
 m1 123 122,
 ⟨some 124,.addo (.t 14) 1,some (123,false),[]⟩,
 ⟨some 125,.ld (.t 124) 1 false,some (123,false),[]⟩,
 ⟨some 126,.addo (.t 8) 0,some (123,false),[]⟩,
 ⟨some 127,.ld (.t 126) 1 false,some (123,false),[]⟩,
 ⟨some 128,.bin .mul (.t 125) (.t 127),some (123,false),[]⟩,
 ⟨some 129,.addo (.t 16) 1,some (123,false),[]⟩,
 ⟨some 130,.ld (.t 129) 1 false,some (123,false),[]⟩,
 ⟨some 131,.bin .lss (.t 128) (.t 130),some (123,false),[]⟩,
 o1 132 (.pick (.t 123) (.c (.bool true)) (.t 131)),
 m1 133 132,
 ⟨some 134,.addo (.t 14) 1,some (133,false),[]⟩,
 ⟨some 135,.ld (.t 134) 1 false,some (133,false),[]⟩,
 ⟨some 136,.bin .sub (.t 135) (.c (.int .i64 1)),some (133,false),[]⟩,
 ⟨some 137,.addo (.t 8) 0,some (133,false),[]⟩,
 ⟨some 138,.ld (.t 137) 1 false,some (133,false),[]⟩,
 ⟨some 139,.bin .mul (.t 136) (.t 138),some (133,false),[]⟩,
 ⟨some 140,.addo (.t 16) 1,some (133,false),[]⟩,
 ⟨some 141,.ld (.t 140) 1 false,some (133,false),[]⟩,
 ⟨some 142,.bin .geq (.t 139) (.t 141),some (133,false),[]⟩,
 o1 143 (.pick (.t 133) (.c (.bool true)) (.t 142))])
 (.cond (.t 143)
 (.seq (.reg [
  o1 10 (.mv (.c (.bool false)))])
  .ret)
 .skip))
 (.seq (.reg [
 o1 144 (.mkf 48 [.t 5,.t 6,.t 14]),
 o1 145 (.mkf 49 [.t 5,.t 6,.t 14]),
 m1 17 144,
 m1 18 145])
 (.seq (.seq (.regd [0,1,2,3,4,5,6,7,8,9,10,11,12,13,14,15,16,17] [
 .op (o1 146 (.addo (.t 12) 0)),
 .op ⟨some 147,.ld (.t 146) 1 false,none,[0]⟩,
 .op ⟨some 148,.bin .lss (.t 147) (.c (.int .i64 100001)),none,[1]⟩,
 .op (m1 149 17),
 .op (o1 150 (.addo (.t 12) 0)),
 .op ⟨some 151,.ld (.t 150) 1 false,none,[4]⟩,
 .op ⟨some 152,.calv (.t 149) [.t 151],none,[3,5]⟩,
 .op ⟨some 153,.eqs true false [0] (.t 148) (.t 152),none,[2,6]⟩,
 .op ⟨some 154,.mv (.t 153),none,[6,7]⟩,
 .op ⟨some 155,.addo (.t 12) 1,some (154,false),[8]⟩,
 .op ⟨some 156,.ld (.t 155) 1 false,some (154,false),[8,9]⟩,
 .op ⟨some 157,.bin .lss (.t 156) (.c (.int .i64 100001)),some (154,false),[8,10]⟩,
 .op ⟨some 158,.mv (.t 18),some (154,false),[8]⟩,
 .op ⟨some 159,.addo (.t 12) 1,some (154,false),[8]⟩,
 .op ⟨some 160,.ld (.t 159) 1 false,some (154,false),[8,13]⟩,
 .op ⟨some 161,.calv (.t 158) [.t 160],some (154,false),[8,12,14]⟩,
 .op ⟨some 162,.eqs true false [0] (.t 157) (.t 161),some (154,false),[8,11,15]⟩,
 .op ⟨some 163,.pick (.t 154) (.c (.bool true)) (.t 162),none,[8,16]⟩] 0 0 [
])
 (.cond (.t 163)
 (.seq (.reg [
  o1 10 (.mv (.c (.bool false)))])
  .ret)
 .skip))
 (.seq (.reg [
 m1 164 2,
 m1 165 4,
 o1 166 (.conv .i64 (.t 165)),
 m1 167 2,
 o1 168 (.bin .sub (.c (.int .i64 100000)) (.t 167)),
 o1 169 (.bin .add (.t 168) (.c (.int .i64 1))),
 o1 170 (.div .rem (.t 166) (.t 169)),
 o1 171 (.bin .add (.t 164) (.t 170)),
 m1 19 171])
 (.seq (.reg [
 m1 172 11,
 m1 173 172,
 ⟨some 174,.mv (.t 19),some (173,true),[]⟩,
 ⟨some 175,.addo (.t 12) 0,some (173,true),[]⟩,
 ⟨some 176,.ld (.t 175) 1 false,some (173,true),[]⟩,
 ⟨some 177,.bin .geq (.t 174) (.t 176),some (173,true),[]⟩,
 ⟨some 178,.mv (.t 177),some (173,true),[]⟩,
 ⟨some 179,.mv (.t 17),some (178,false),[]⟩,
 ⟨some 180,.mv (.t 19),some (178,false),[]⟩,
 ⟨some 181,.calv (.t 179) [.t 180],some (178,false),[]⟩,
 ⟨some 182,.un .not (.t 181),some (178,false),[]⟩,
 ⟨some 183,.pick (.t 178) (.c (.bool true)) (.t 182),some (173,true),[]⟩,
 o1 184 (.pick (.t 173) (.t 183) (.c (.bool false))),
 m1 185 184,
 ⟨some 186,.mv (.t 19),some (185,true),[]⟩,
 ⟨some 187,.addo (.t 12) 1,some (185,true),[]⟩,
 ⟨some 188,.ld (.t 187) 1 false,some (185,true),[]⟩,
 ⟨some 189,.bin .geq (.t 186) (.t 188),some (185,true),[]⟩,
 ⟨some 190,.mv (.t 189),some (185,true),[]⟩,
 ⟨some 191,.mv (.t 18),some (190,false),[]⟩,
 ⟨some 192,.mv (.t 19),some (190,false),[]⟩,
 ⟨some 193,.calv (.t 191) [.t 192],some (190,false),[]⟩,
 ⟨some 194,.un .not (.t 193),some (190,false),[]⟩,
 ⟨some 195,.pick (.t 190) (.c (.bool true)) (.t 194),some (185,true),[]⟩,
 o1 196 (.pick (.t 185) (.t 195) (.c (.bool false))),
 m1 10 196])
 .ret)))))))))))))
end Go.Proofs.Ytkjldleglbbkeaa
namespace Go.Azalai
open Go.Sx
end Go.Azalai
namespace Go.Proofs.Ytkjldleglbbkeaa
open Go Go.Sx Go.Azalai
theorem ZdM (a:List Nat):a.map ZS=(a.map fun n:Nat=>(n:Int)).map ZO:=by simp [ZS,ZO,Function.comp_def]
end Go.Proofs.Ytkjldleglbbkeaa
namespace Go.Sx
open Go Go.RowKit
def RLW (l l':List SV):Prop:=∀ (w:World) (E:Env) (n ok:Nat->Prop) (ys:List Value),RL w E n ok l ys->RL w E n ok l' ys
theorem VZ {l:List SV}:RLW l l:=fun _ _ _ _ _ h=>h
theorem Yq {s s':SV} {l l':List SV} (h1:Zak s s') (h2:RLW l l'):RLW (s :: l) (s' :: l'):=Zgv h1 h2
theorem ZmM {l l':List SV} (h:RLW l l'):Zak (.agg l) (.agg l'):=fun w E n ok y hy=>by
 simp only [R] at hy ⊢
 obtain ⟨cs,h1,h2⟩:=hy
 exact ⟨cs,h1,h _ _ _ _ _ h2⟩
def RRW:List (List SV)->List (List SV)->Prop
 | [],[]=>True
 | r :: xs,r' :: xs'=>RLW r r'/\r'.length=r.length/\RRW xs xs'
 | _,_=>False
theorem W7:∀ {xs xs':List (List SV)},RRW xs xs'->xs'.length=xs.length
 | [],[],_=>rfl
 | _ :: xs,_ :: xs',h=>by simp [W7 h.2.2]
 | [],_ :: _,h=>h.elim
 | _ :: _,[],h=>h.elim
theorem ZiJ {w:World} {E:Env} {n ok:Nat->Prop} {b m:Nat}:∀ {xs xs':List (List SV)} {off:Nat},RRW xs xs'->RR w E n ok b m xs off->RR w E n ok b m xs' off
 | [],[],_,_,h=>h
 | r :: xs,r' :: xs',off,hw,h=>by
  simp only [RR] at h ⊢
  obtain ⟨h0,⟨cs,h1,h2⟩,h3⟩:=h
  exact ⟨by rw [hw.2.1];exact h0,⟨cs,hw.1 _ _ _ _ _ h1,h2⟩,ZiJ hw.2.2 h3⟩
 | [],_ :: _,_,h,_=>h.elim
 | _ :: _,[],_,h,_=>h.elim
theorem Zkn {c:Bool} {m:Nat} {xs xs':List (List SV)} (h:RRW xs xs'):Zak (.sl c m xs) (.sl c m xs'):=fun w E n ok y hy=>by
 simp only [R] at hy ⊢
 obtain ⟨a,len,cap,h1,h2,h3,h4,h5⟩:=hy
 refine ⟨a,len,cap,h1,by rw [W7 h];exact h2,h3,by rw [W7 h];exact h4,?_⟩
 rcases h5 with h5 | ⟨b,off,h5,h6⟩
 . left
   have:=W7 h
   rw [h5] at this
   exact List.eq_nil_of_length_eq_zero this
 . exact .inr ⟨b,off,h5,ZiJ h h6⟩
theorem ZpL {c:Bool} {m:Nat} {xs xs':List (List SV)} (h:RRW xs xs'):Zak (.sl c m xs) (.sl false m xs'):=fun w E n ok y hy=>by
 simp only [R] at hy ⊢
 obtain ⟨a,len,cap,h1,h2,h3,h4,h5⟩:=hy
 refine ⟨a,len,cap,h1,by rw [W7 h];exact h2,⟨h3.1,fun h=>by cases h⟩,by rw [W7 h];exact h4,?_⟩
 rcases h5 with h5 | ⟨b,off,h5,h6⟩
 . left
   have:=W7 h
   rw [h5] at this
   exact List.eq_nil_of_length_eq_zero this
 . exact .inr ⟨b,off,h5,ZiJ h h6⟩
end Go.Sx
namespace Go.Azalai
def Z8:Land:=⟨[⟨0,0,0,⟨0,0⟩,0,⟨0,0⟩,0⟩,⟨90000,0,20,⟨1000,2000⟩,10000,⟨3000,5000⟩,0⟩,⟨140000,0,0,⟨0,0⟩,0,⟨0,0⟩,0⟩],
 [⟨0,1,⟨90000,100000⟩,[⟨⟨5,7⟩,⟨20,30⟩⟩]⟩,⟨1,2,⟨50000,50000⟩,[⟨⟨0,0⟩,⟨12,13⟩⟩,⟨⟨18,18⟩,⟨40,50⟩⟩]⟩,⟨0,2,⟨200000,240000⟩,[⟨⟨0,0⟩,⟨99,99⟩⟩]⟩]⟩
def Yx:Span:=⟨20000,30000⟩
theorem Wc:Xy Z8:=⟨by decide,by decide,by decide⟩
theorem ex_ok:OkLP Z8 Yx:=⟨by decide,by decide⟩
theorem Zps:ZgY Z8 2 Yx=(⟨7,12⟩,0):=by decide
theorem Zkg:Zb0 Z8 0 6 Yx=(⟨6,7⟩,0):=by decide
theorem ZrD:ZbP Z8 Yx 0 6 [0,1]=([⟨0,1,⟨6,7⟩,⟨9,12⟩⟩,⟨1,2,⟨9,18⟩,⟨11,21⟩⟩],0,0):=by decide
theorem ZpH:Zdd Z8 Yx 0 2 6 21=[[0,1],[2]]:=by decide
theorem Zmf:Ui Z8 1 [⟨1,0,4000⟩] 2=(⟨1000,5000⟩,0,0):=by decide
def exD (k:Bool) (v:Int):Int:=if v=0 then 6 else if v=1 then (if k then 12 else 9) else if v=2 then (if k then 18 else 11) else 100001
theorem U6 (k:Bool) (v:Int):Zx k Z8 Yx 0 6 v=exD k v:=by
 refine (UO (k:=k) (s:=0) (day:=6) ex_ok (by decide) (by decide) (by decide) (by decide) (d:=exD k) (by cases k<;>decide) ?_ ?_ ?_ v).symm
 . cases k<;>(intro x hx;simp only [Z8,List.mem_cons,List.not_mem_nil,or_false] at hx;rcases hx with rfl | rfl | rfl<;>decide)
 . intro v;unfold exD;repeat' split
   all_goals decide
 . intro v
   unfold exD
   split
   . rename_i h;subst h;exact .inr ⟨[],by cases k<;>decide⟩
   . split
     . rename_i h;subst h;exact .inr ⟨[0],by cases k<;>decide⟩
     . split
       . rename_i h;subst h
         cases k
         . exact .inr ⟨[0,1],by decide⟩
         . exact .inr ⟨[2],by decide⟩
       . exact .inl rfl
theorem Zn2:Yh Z8 Yx 0 6=[⟨6,6⟩,⟨9,12⟩,⟨11,18⟩]:=by
 have h:Z8.wells.length=3:=rfl
 simp only [Yh,YW,h,U6]
 decide
theorem Zih:Wk Z8 Yx 0 6=0:=by decide
theorem ZsJ:Znh Z8 Yx 0 2 6=[2]:=by
 have hr:Zx true Z8 Yx 0 6 2=18:=by rw [U6];decide
 refine ZdX ⟨by rw [hr];decide,fun b hb=>?_⟩
 rw [hr] at hb
 match b,hb with
 | [],hb=>exact absurd hb (by decide)
 | [i],hb =>
  refine .inr ⟨rfl,?_⟩
  match i,hb with
  | 0,hb=>exact absurd hb (by decide)
  | 1,hb=>exact absurd hb (by decide)
  | i+2,_=>simp [Wg]
 | _ :: _ :: _,_=>exact .inl (by simp)
theorem Zlf:Zdg Z8 Yx 0 2 6 21=0:=by decide
end Go.Azalai
namespace Go.Proofs.Ytkjldleglbbkeaa
open Go Go.Sx Go.Azalai
theorem Zks:Zck Z8 Yx 0 2 6=0:=by
 have h1:Vk Z8 Yx=0:=by decide
 have hr:Zx true Z8 Yx 0 6 2=18:=by rw [U6];decide
 unfold Zck
 rw [hr,if_neg (by rw [h1];decide),if_neg (by decide),if_neg (by decide)]
theorem YZ (a b:Int):Ct Try.prog 50 [I a,I b] (.agg (Ze ⟨a,b⟩)):=by
 refine t50.1 (by simp [KFR,KFL,KF]) (by simp [Ze,KFL,KF]) ?_
 dsimp only [c50,r50,go_sem,rA,rM,rS]
 rfl
theorem V4:Ct Try.prog 57 [] (.agg (Ze Yx)):=by
 refine t57.1 (by simp [KFR,KFL,KF]) (by simp [Ze,Yx,KFL,KF]) ?_
 dsimp only [c57,r57,go_sem,rA,rM,rS]
 refine call (YZ _ _) ?_
 dsimp only [Ze,go_sem,rA,rM,rS]
 rfl
theorem u56 {args:List SV} {res:SV} (ka:KFL args) (kr:KF res) (h:sx Try.prog Y0 0 c56 (st0 args 28) (ZvO r56 res)) (hA:Nat.ble args.length 28=true:=by rfl):Ct Try.prog 56 args res:=Zcf Try.func56 rfl b56 Zul Zt5 n56 (Nat.le_of_ble_eq_true hA) ka kr h
theorem Xp:Ct Try.prog 56 [] (.agg (Zh Z8)):=by
 refine u56 (by simp [KFR,KFL,KF]) (by simp [Zh,Zc,Zj,Zd,Z8,KFR,KFL,KF]) ?_
 dsimp only [c56,r56,go_sem,rA,rM,rS]
 repeat (refine call (YZ _ _) ?_;dsimp only [Ze,go_sem,rA,rM,rS])
 refine ⟨_,rfl,ZmM (Yq ZcL (Yq (ZpL ?_) VZ))⟩
 refine ⟨?_,rfl,?_,rfl,?_,rfl,trivial⟩ <;>
  exact Yq Zak.rfl (Yq Zak.rfl (Yq Zak.rfl (Yq Zak.rfl (Yq ZcL VZ))))
theorem ZjA (a b:List (List Nat)) (ha:a.length<=1000000) (hb:b.length<=1000000) (h1:∀ x ∈ a,x.length<=1000000) (h2:∀ x ∈ b,x.length<=1000000) (c c':Bool):Ct Try.prog 31 [.sl c 1 (a.map Yn),.sl c' 1 (b.map Yn)] (B (decide (a=b))):=by
 refine t31.1 (by simp [Za,Yn,ZH,ZS,KFL,KF]) (by simp [KFL,KF]) ?_
 dsimp only [c31,r31,go_sem,rA,rM,rS]
 simp only [List.length_map]
 by_cases hl:a.length=b.length
 case neg =>
  refine ZV (by simp;omega) ?_
  dsimp only [go_sem,rA,rM,rS]
  have:a≠b:=fun e=>hl (by rw [e])
  simp [this]
 refine ZJ (by simp;omega) ?_
 dsimp only [go_sem,rA,rM,rS]
 refine YB (fun j:Nat=>[(5,I j)]) (fun _=>[]) (fun j=>j<=a.length/\a.take j=b.take j) (fun j=>a.length - j) 0 ⟨Nat.zero_le _,rfl⟩ ?_ ?_
 . (refine Zi ?_ ?_ ?_ rfl rfl<;>dsimp only [Yn,ZH,ZS,Za,id,go_sem,rA,rM,rS]<;>simp [Yn,ZH,ZS,Za,Za,Zf,KFR,KFL,KF,Zb,mtO,nbr])
 rintro j ⟨hj,ht⟩
 dsimp only [go_sem,rA,rM,rS]
 simp only [List.length_map]
 by_cases hlt:j < a.length
 . refine ZV (by simpa using hlt) ?_
   dsimp only [go_sem,rA,rM,rS]
   have hltb:j < b.length:=by omega
   refine Zt j hlt rfl ?_
   dsimp only [Yn,go_sem,rA,rM,rS]
   refine Zt j hltb rfl ?_
   dsimp only [Yn,go_sem,rA,rM,rS]
   have hc:=Zb6 (a[j].map fun n:Nat=>(n:Int)) (b[j].map fun n:Nat=>(n:Int)) (by rw [List.length_map];exact h1 _ (List.getElem_mem _)) (by rw [List.length_map];exact h2 _ (List.getElem_mem _)) false false
   rw [<- ZdM,<- ZdM] at hc
   refine call hc ?_
   dsimp only [go_sem,rA,rM,rS]
   have hinj:(a[j].map (fun n:Nat=>(n:Int))=b[j].map fun n:Nat=>(n:Int))↔a[j]=b[j]:=⟨fun h=>List.map_inj_right (fun x y h=>Int.ofNat_inj.1 h) |>.1 h,fun h=>by rw [h]⟩
   by_cases he:a[j]=b[j]
   . refine ZJ (by simp [he]) ?_
     dsimp only [go_sem,rA,rM,rS]
     rw [Zo (n:=(j:Int)+1) (by omega) (by omega)]
     refine ⟨j+1,⟨hlt,?_⟩,by omega,?_⟩
     . rw [List.take_succ_eq_append_getElem hlt,List.take_succ_eq_append_getElem hltb,ht,he]
     (refine Zi ?_ ?_ ?_ rfl rfl<;>dsimp only [Yn,ZH,ZS,Za,id,go_sem,rA,rM,rS]<;>simp [Yn,ZH,ZS,Za,Za,Zf,KFR,KFL,KF,Zb,mtO,nbr])
   . have hne:¬ (a[j].map (fun n:Nat=>(n:Int))=b[j].map fun n:Nat=>(n:Int)):=fun h=>he (hinj.1 h)
     refine ZV (by rw [decide_eq_false hne];rfl) ?_
     dsimp only [go_sem,rA,rM,rS]
     have:a≠b:=fun e=>he (by subst e;rfl)
     simp [this]
 refine ZJ (by simp;omega) ?_
 dsimp only [go_sem,rA,rM,rS]
 have:a=b:=by
  rw [List.take_of_length_le (by omega),List.take_of_length_le (by omega)] at ht
  exact ht
 simp [this]
theorem ZkR:Ct Try.prog 41 [] (B true):=by
 refine t41.1 (by simp [KFR,KFL,KF]) (by simp [KFL,KF]) ?_
 dsimp only [c41,r41,go_sem,rA,rM,rS]
 have k1:=Zme Z8 Wc 2 Yx
 have k2:=Zhd Z8 Wc 0 6 Yx
 have k3:=Zls Z8 Wc 0 6 Yx [0,1] (by decide) true
 have k4:=Vo Z8 Wc 0 6 Yx
 have k5:=Ze1 Z8 Wc 0 2 6 Yx
 have k6:=Zoi Z8 Wc 0 2 6 21 Yx
 have k7:=(ZnX Z8 Wc 1 2 [⟨1,0,4000⟩] (by decide)).args (args0:=[.agg (Zh Z8),I 1,.sl true 3 [[I 1,I 0,I 4000]],I 2]) (by simp [Zh,Zc,Zj,Zd,Z8,KFR,KFL,KF]) (Yq Zak.rfl (Yq Zak.rfl (Yq ZcL VZ)))
 rw [Zps] at k1
 rw [Zkg] at k2
 rw [ZrD] at k3
 rw [Zih,Zn2] at k4
 simp only [Zdn,Zks,ZsJ,YG,if_true] at k5
 simp only [Zb4,Zlf,ZpH,YG,if_true] at k6
 rw [Zmf] at k7
 simp only [YG,if_true,ZaV] at k3 k4
 refine call Xp ?_
 dsimp only [go_sem,rA,rM,rS]
 refine call V4 ?_
 dsimp only [go_sem,rA,rM,rS]
 refine call k1 ?_
 dsimp only [ZfR,Ze,go_sem,rA,rM,rS]
 refine call Xp ?_
 dsimp only [go_sem,rA,rM,rS]
 refine call V4 ?_
 dsimp only [go_sem,rA,rM,rS]
 refine call k2 ?_
 dsimp only [ZfR,Ze,go_sem,rA,rM,rS]
 refine call Xp ?_
 dsimp only [go_sem,rA,rM,rS]
 refine call V4 ?_
 dsimp only [go_sem,rA,rM,rS]
 refine call k3 ?_
 dsimp only [go_sem,rA,rM,rS]
 refine call Xp ?_
 dsimp only [go_sem,rA,rM,rS]
 refine call V4 ?_
 dsimp only [go_sem,rA,rM,rS]
 refine call k4 ?_
 dsimp only [go_sem,rA,rM,rS]
 refine call Xp ?_
 dsimp only [go_sem,rA,rM,rS]
 refine call V4 ?_
 dsimp only [go_sem,rA,rM,rS]
 refine call k5 ?_
 dsimp only [go_sem,rA,rM,rS]
 refine call Xp ?_
 dsimp only [go_sem,rA,rM,rS]
 refine call V4 ?_
 dsimp only [go_sem,rA,rM,rS]
 refine call k6 ?_
 dsimp only [go_sem,rA,rM,rS]
 refine call Xp ?_
 dsimp only [go_sem,rA,rM,rS]
 refine call k7 ?_
 dsimp only [ZsF,Ze,go_sem,rA,rM,rS]
 have q1:=Zh4 [⟨0,1,⟨6,7⟩,⟨9,12⟩⟩,⟨1,2,⟨9,18⟩,⟨11,21⟩⟩] [⟨0,1,⟨6,7⟩,⟨9,12⟩⟩,⟨1,2,⟨9,18⟩,⟨11,21⟩⟩] (by decide) (by decide) false true
 have q2:=ZhF [⟨6,6⟩,⟨9,12⟩,⟨11,18⟩] [⟨6,6⟩,⟨9,12⟩,⟨11,18⟩] (by decide) (by decide) false true
 have q3:=Zb6 [2] [2] (by decide) (by decide) false true
 have q4:=(ZjA [[0,1],[2]] [[0,1],[2]] (by decide) (by decide) (by decide) (by decide) false true).args (args0:=[.sl false 1 ([[0,1],[2]].map Yn),.sl true 1 [[.sl true 1 [[I 0],[I 1]]],[.sl true 1 [[I 2]]]]]) (by simp [Za,Yn,ZH,ZS,KFR,KFL,KF]) (Yq Zak.rfl (Yq (Zkn ⟨Yq ZcL VZ,rfl,Yq ZcL VZ,rfl,trivial⟩) VZ))
 simp only [decide_true] at q1 q2 q3 q4
 repeat (first | (refine gb ?_;dsimp only [go_sem,rA,rM,rS]) | (refine call (YZ _ _) ?_;dsimp only [Ze,go_sem,rA,rM,rS]) | (refine call q1 ?_;dsimp only [go_sem,rA,rM,rS]) | (refine call q2 ?_;dsimp only [go_sem,rA,rM,rS]) | (refine call q3 ?_;dsimp only [go_sem,rA,rM,rS]) | (refine call q4 ?_;dsimp only [go_sem,rA,rM,rS]))
 simp
end Go.Proofs.Ytkjldleglbbkeaa
namespace Go.Azalai
def Vv (l:Land) (p:Span):Bool:=!Ux l && ZU l && ZZ p
theorem UV {l:Land} (h:Ux l=false):Xy l:=by
 simp only [Ux,Bool.or_eq_false_iff,decide_eq_false_iff_not,List.any_eq_false,decide_eq_true_eq] at h
 exact ⟨by omega,by omega,fun x hx=>by have:=h.2 x hx;omega⟩
structure Ready (l:Land) (p:Span):Prop where
 small:Xy l
 ok:OkLP l p
theorem ZfF {l:Land} {p:Span} (h:Vv l p=true):Ready l p:=by
 simp only [Vv,Bool.and_eq_true,Bool.not_eq_true'] at h
 exact ⟨UV h.1.1,⟨h.1.2,h.2⟩⟩
theorem Zo9 {n day:Int} {o s:Gate->Int} {t:Int} (ht:t<=100000):∀ {l:List Gate} {a:Int},ZbW n day o s a l<=t↔a<=t\/∃ g ∈ l,max day (o g)+n - 1<=s g/\max day (o g)<=t
 | [],a=>by simp [ZbW]
 | g :: l,a=>by
  simp only [ZbW]
  rw [Zo9 ht (l:=l)]
  simp only [List.mem_cons,exists_eq_or_imp]
  by_cases h:max day (o g)+n - 1<=s g
  . rw [if_pos h]
    constructor
    . rintro (q | q)
      . by_cases ha:a<=t
        . exact .inl ha
        . exact .inr (.inl ⟨h,by omega⟩)
      . exact .inr (.inr q)
    . rintro (q | q | q)
      . exact .inl (by omega)
      . exact .inl (by have:=q.2;omega)
      . exact .inr q
  . rw [if_neg h]
    constructor
    . rintro (q | q)
      . exact .inl q
      . exact .inr (.inr q)
    . rintro (q | q | q)
      . exact .inl q
      . exact absurd q.1 h
      . exact .inr q
def oK (k:Bool) (g:Gate):Int:=bif k then g.opens.hi else g.opens.lo
def sK (k:Bool) (g:Gate):Int:=bif k then g.shuts.lo else g.shuts.hi
theorem ZbX {k:Bool} {x:Leg} {p:Span} {t u:Int} (h:GoodLeg x) (hp:ZZ p=true) (hu:u<=100000) :
 leK k x p t<=u↔∃ g ∈ x.gates,max t (oK k g)+nK k x p - 1<=sK k g/\max t (oK k g)<=u:=by
 rw [(U2 (k:=k) (t:=t) h hp).1,Zo9 hu]
 constructor
 . rintro (q | q)
   . omega
   . exact q
 . exact fun q=>.inr q
theorem Zpn {k:Bool} {x:Leg} {p:Span} {t:Int} (h:GoodLeg x) (hp:ZZ p=true) (ht:t<=100001):t<=leK k x p t/\leK k x p t<=100001:=by
 have hn:=ZfI (k:=k) h hp
 obtain ⟨_,a2,a3⟩:=U2 (k:=k) (t:=t) h hp
 have:=Zdc (day:=t) (o:=fun g=>bif k then g.opens.hi else g.opens.lo) hn.1 a3
 refine ⟨?_,by omega⟩
 apply Classical.byContradiction
 intro q
 obtain ⟨g,hg,h1,h2⟩:=(ZbX (k:=k) (t:=t) (u:=leK k x p t) h hp (by omega)).1 (Int.le_refl _)
 omega
theorem ZcF {a b:Int} (ha:1<=a) (hb:1<=b):a<=(a+b - 1).tdiv b * b/\((a+b - 1).tdiv b - 1) * b < a:=by
 rw [Int.tdiv_eq_ediv_of_nonneg (by omega)]
 have h1:=Int.emod_add_mul_ediv (a+b - 1) b
 have h2:=Int.emod_nonneg (a+b - 1) (show b≠0 by omega)
 have h3:=Int.emod_lt_of_pos (a+b - 1) (show 0 < b by omega)
 rw [Int.sub_mul,Int.mul_comm ((a+b - 1) / b) b]
 omega
theorem ZiN {x:Leg} {p:Span} (h:GoodLeg x) (hp:ZZ p=true):nK false x p<=nK true x p:=by
 simp only [ZZ,XR,decide_eq_true_eq] at hp
 obtain ⟨h1,h2,h3,_,_⟩:=h
 simp only [nK,cond_true,cond_false,Zbj]
 have u:=ZcF (a:=x.long.lo) (b:=p.hi) h1 (by omega)
 have v:=ZcF (a:=x.long.hi) (b:=p.lo) (by omega) (by omega)
 have w:0<=(x.long.hi+p.lo - 1).tdiv p.lo:=Int.tdiv_nonneg (by omega) (by omega)
 generalize (x.long.lo+p.hi - 1).tdiv p.hi=A at *
 generalize (x.long.hi+p.lo - 1).tdiv p.lo=B at *
 have q:=Int.mul_le_mul_of_nonneg_left hp.2.1 w
 apply Classical.byContradiction
 intro hc
 have q2:B * p.hi<=(A - 1) * p.hi:=Int.mul_le_mul_of_nonneg_right (by omega) (by omega)
 omega
theorem Znv {x:Leg} {p:Span} {t:Int} (h:GoodLeg x) (hp:ZZ p=true) (ht:t<=100001):leK false x p t<=leK true x p t:=by
 have b0:=Zpn (k:=false) h hp ht
 have b1:=Zpn (k:=true) h hp ht
 have hn:=ZiN h hp
 apply Classical.byContradiction
 intro q
 obtain ⟨g,hg,h1,h2⟩:=(ZbX (k:=true) (t:=t) (u:=leK true x p t) h hp (by omega)).1 (Int.le_refl _)
 have hm:=Y1 h.g2 (Int.le_refl _) g hg
 simp only [oK,sK,cond_true] at h1 h2
 exact q ((ZbX (k:=false) h hp (by omega)).2 ⟨g,hg,by simp only [oK,sK,cond_false];omega,by simp only [oK,cond_false];omega⟩)
end Go.Azalai
namespace Go.Proofs.Ytkjldleglbbkeaa
open Go Go.Sx Go.Azalai
theorem Zj5 (l:Land) (p:Span):Ct Try.prog 42 [.agg (Zh l),.agg (Ze p)] (B (Vv l p)):=by
 refine t42.1 (by simp [Zh,Zc,Zj,Zd,Ze,Za,KFL,KF]) (by simp [KFL,KF]) ?_
 dsimp only [c42,r42,Zh,Ze,go_sem,rA,rM,rS]
 refine call (ZmR l) ?_
 dsimp only [go_sem,rA,rM,rS]
 cases h:Ux l
 . have hs:=UV h
   refine Z5 rfl ?_
   dsimp only [go_sem,rA,rM,rS]
   refine Z5 rfl ?_
   dsimp only [go_sem,rA,rM,rS]
   refine call (ZgJ l hs) ?_
   dsimp only [go_sem,rA,rM,rS]
   refine Z5 rfl ?_
   dsimp only [go_sem,rA,rM,rS]
   cases h2:ZU l
   . rw [show Vv l p=false from by simp [Vv,h,h2]]
     simp only [Bool.false_eq_true,if_false,Bool.not_false,Bool.true_and,show ((30:Int) == 0)=false from rfl]
     repeat (refine Ua (by decide) ?_;dsimp only [go_sem,rA,rM,rS])
   . refine Z5 rfl ?_
     dsimp only [go_sem,rA,rM,rS]
     refine Z5 rfl ?_
     dsimp only [go_sem,rA,rM,rS]
     refine call (ZmA p) ?_
     dsimp only [go_sem,rA,rM,rS]
     simp [Vv,h,h2]
 . rw [show Vv l p=false from by simp [Vv,h]]
   repeat (refine Ua (by decide) ?_;dsimp only [go_sem,rA,rM,rS])
end Go.Proofs.Ytkjldleglbbkeaa
namespace Go.Azalai
theorem Zhz {x:Leg} {p:Span} {t t':Int} (h:GoodLeg x) (hp:ZZ p=true) (ht:t<=t') (ht':t'<=100001):ZF false x p t<=ZF true x p t':=by
 have h1:=Zav (k:=false) h hp ht
 have h2:=Znv (t:=t') h hp ht'
 have h3:=ZiN h hp
 simp only [ZF] at *;omega
def Trk (l:Land) (p:Span):Int->Int->Int->List Int->List Stop->Prop
 | _,_,_,[],[]=>True
 | v,a,b,i :: r,s :: ss=>∃ (k:Nat) (x:Leg),i=k/\l.legs[k]? = some x/\0<=Zk x v/\ZF true x p b<=100000 /\
  s=⟨k,Zk x v,⟨leK false x p a,leK true x p b⟩,⟨ZF false x p a,ZF true x p b⟩⟩/\Trk l p (Zk x v) (ZF false x p a) (ZF true x p b) r ss
 | _,_,_,_,_=>False
theorem Trk.len {l:Land} {p:Span}:∀ {legs:List Int} {ss:List Stop} {v a b:Int},Trk l p v a b legs ss->ss.length=legs.length
 | [],[],_,_,_,_=>rfl
 | i :: r,s :: ss,_,_,_,h=>by obtain ⟨_,_,_,_,_,_,_,h⟩:=h;simp [h.len]
 | [],_ :: _,_,_,_,h=>h.elim
 | _ :: _,[],_,_,_,h=>h.elim
theorem Trk.at {l:Land} {p:Span} (h:OkLP l p):∀ {legs:List Int} {ss:List Stop} {v a b:Int},Trk l p v a b legs ss->a<=b->b<=100000->∀ (i:Nat) (s:Stop),ss[i]? = some s ->
 ∃ c:List Nat,c.length=i+1/\legs.take (i+1)=c.map (fun n:Nat=>(n:Int))/\goW true l p v b c=some (s.well,s.arrives.hi)/\goW false l p v a c=some (s.well,s.arrives.lo)
 | [],[],_,_,_,_,_,_,i,s,hs=>by simp at hs
 | j :: r,s0 :: ss,v,a,b,q,hab,hb,i,s,hs=>by
  obtain ⟨k,x,rfl,hx,ho,hr,rfl,q⟩:=q
  have hm:=Zhz (h.leg hx) h.pace hab (by omega)
  cases i with
  | zero =>
   simp only [List.getElem?_cons_zero,Option.some.injEq] at hs
   subst hs
   refine ⟨[k],rfl,by simp,?_,?_⟩
   . simp only [goW,hx];rw [if_neg (by omega),if_neg (by omega)]
   . simp only [goW,hx];rw [if_neg (by omega),if_neg (by omega)]
  | succ i =>
   simp only [List.getElem?_cons_succ] at hs
   obtain ⟨c,h1,h2,h3,h4⟩:=Trk.at h q hm hr i s hs
   refine ⟨k :: c,by simp [h1],by simp [h2],?_,?_⟩
   . simp only [goW,hx];rw [if_neg (by omega),if_neg (by omega)];exact h3
   . simp only [goW,hx];rw [if_neg (by omega),if_neg (by omega)];exact h4
 | [],_ :: _,_,_,_,q,_,_,_,_,_=>q.elim
 | _ :: _,[],_,_,_,q,_,_,_,_,_=>q.elim
theorem Gr.ends {l:Land} {p:Span} {s day to best:Int} {n0:Nat} (hg:OkLP l p) (hd:0<=day) (hd':day<=100000) (h0:0<=s) (h1:s < l.wells.length) (hb:best=Zx true l p s day to) (hb':best<=100000) :
 ∀ {n:Nat} {v t:Int} {out:List Nat},Gr l p s day to best n0 n v t out->∃ v' t' out',Gr l p s day to best n0 0 v' t' out'
 | 0,v,t,out,h=>⟨v,t,out,h⟩
 | n+1,v,t,out,h=>by
  obtain ⟨i,_,hf⟩:=h.ex hg hd hd' h0 h1 hb hb'
  obtain ⟨m,⟨x,g1,g2,g3,g4⟩,hm⟩:=Go.Sx.least_ex (fun i=>Fit l p to best n v t i) ⟨i,hf⟩
  exact Gr.ends hg hd hd' h0 h1 hb hb' (h.step hg hd hd' h0 h1 hb g1 g2 g3 g4 fun j hj hq=>by have:=hm j hq;omega)
def ZvZ (g f:Gate):Prop:=f.opens.lo<=g.opens.lo/\g.opens.lo<=g.opens.hi/\g.opens.hi<=f.opens.hi/\f.shuts.lo<=g.shuts.lo/\g.shuts.lo<=g.shuts.hi/\g.shuts.hi<=f.shuts.hi/\g.opens.lo<=g.shuts.hi
theorem Zat:∀ {l l':List Gate} {n n':Int},ZP n l=true->n'<=n->l'.length=l.length->(∀ (i:Nat) (g f:Gate),l'[i]? = some g->l[i]? = some f->ZvZ g f)->ZP n' l'=true
 | [],[],_,_,_,_,_,_=>rfl
 | [],_ :: _,_,_,_,_,h,_=>by simp at h
 | _ :: _,[],_,_,_,_,h,_=>by simp at h
 | f :: l,g :: l',n,n',h,hn,hl,hi=>by
  have h0:=hi 0 g f rfl rfl
  unfold ZvZ at h0
  simp only [ZP,Bool.and_eq_true,XR,inR,decide_eq_true_eq] at h ⊢
  exact ⟨by omega,Zat h.2 (by omega) (by simpa using hl) (fun i=>by have:=hi (i+1);simpa using this)⟩
structure InnX (y x:Leg):Prop where
 a:y.a=x.a
 b:y.b=x.b
 lo:x.long.lo<=y.long.lo
 md:y.long.lo<=y.long.hi
 hi:y.long.hi<=x.long.hi
 len:y.gates.length=x.gates.length
 gts:∀ (i:Nat) (g f:Gate),y.gates[i]? = some g->x.gates[i]? = some f->ZvZ g f
theorem InnX.ok {y x:Leg} {n:Int} (h:InnX y x) (hx:YA n x=true):YA n y=true:=by
 obtain ⟨a,b,lo,md,hi,len,gts⟩:=h
 simp only [YA,Bool.and_eq_true,XR,decide_eq_true_eq,bne_iff_ne,ne_eq] at hx ⊢
 rw [a,b,len]
 exact ⟨⟨⟨hx.1.1.1,by omega⟩,hx.1.2⟩,Zat hx.2 (Int.le_refl _) len gts⟩
theorem InnX.gate {y x:Leg} (h:InnX y x):(∀ g ∈ y.gates,∃ f ∈ x.gates,ZvZ g f)/\∀ f ∈ x.gates,∃ g ∈ y.gates,ZvZ g f:=by
 constructor
 . intro g hg
   obtain ⟨i,hi⟩:=List.mem_iff_getElem?.1 hg
   have hl:i < x.gates.length:=by have:=(List.getElem?_eq_some_iff.1 hi).1;have:=h.len;omega
   exact ⟨x.gates[i],List.getElem_mem _,h.gts i g _ hi (List.getElem?_eq_getElem hl)⟩
 . intro f hf
   obtain ⟨i,hi⟩:=List.mem_iff_getElem?.1 hf
   have hl:i < y.gates.length:=by have:=(List.getElem?_eq_some_iff.1 hi).1;have:=h.len;omega
   exact ⟨y.gates[i],List.getElem_mem _,h.gts i _ f (List.getElem?_eq_getElem hl) hi⟩
structure InnL (m l:Land):Prop where
 wells:m.wells=l.wells
 len:m.legs.length=l.legs.length
 legs:∀ (i:Nat) (y x:Leg),m.legs[i]? = some y->l.legs[i]? = some x->InnX y x
theorem InnL.ok {m l:Land} (h:InnL m l) (hl:ZU l=true):ZU m=true:=by
 simp only [ZU,Bool.and_eq_true,List.all_eq_true,decide_eq_true_eq] at hl ⊢
 rw [h.wells,h.len]
 refine ⟨hl.1,fun y hy=>?_⟩
 obtain ⟨i,hi⟩:=List.mem_iff_getElem?.1 hy
 have hlt:i < l.legs.length:=by have:=(List.getElem?_eq_some_iff.1 hi).1;have:=h.len;omega
 exact (h.legs i y _ hi (List.getElem?_eq_getElem hlt)).ok (hl.2 _ (List.getElem_mem _))
end Go.Azalai
namespace Go.Sx
open Go Go.RowKit
section
variable {g:Option (Nat × Bool)} {k v' m0 T o m' T':Nat} {xs:List (List SV)} {inn:List (List (List SV))} {d:Option Nat} {σ : St} {r:KT} {K:RK}
theorem Zd3 {j:Int} (n:Nat) (hi:j=(n:Int)) (hn:n < xs.length) (hk:Ym d (.pr k v' m0 n 0) g σ r K) :
 ∃ i rows TT,v'=v'+i/\Yo k v' m0 xs T o m' inn T' i=some (m0,rows,TT)/\IXR g k v' m0 rows.length j d σ r K :=
 ⟨0,_,_,rfl,rfl,ZbU n hi (by rw [Y3];exact hn) hk⟩
theorem Zur {j:Int} {v:Nat} {rows:List (List SV)} (i n:Nat) (hv:v=v'+(i+1)) (hr:inn[i]? = some rows) (hi:j=(n:Int)) (hn:n < rows.length) (hk:Ym d (.pr k v m' n 0) g σ r K) :
 ∃ i rows TT,v=v'+i/\Yo k v' m0 xs T o m' inn T' i=some (m',rows,TT)/\IXR g k v m' rows.length j d σ r K :=
 ⟨i+1,rows,T',hv,by simp only [Yo,hr],ZbU n hi hn hk⟩
theorem Zt3 {i oo m:Nat} {ag:Bool} {row:List SV} (hx:xs[i]? = some row) (hi:i < inn.length) (hk:XI (Xq (row.set o (.mr k (v'+1+i))) oo m ag) d g σ r K) :
 ∃ a rows TT,v'=v'+a/\Yo k v' m0 xs T o m' inn T' a=some (m0,rows,TT)/\LDR g rows i oo m ag d σ r K :=
 ⟨0,_,_,rfl,rfl,row.set o (.mr k (v'+1+i)),ZE.2 fun _=>by rw [Xh,if_pos hi,hx];rfl,hk⟩
theorem Zug {α : Type} {l:List α} {f:α->List SV} {h:α->List (List SV)} {j oo:Nat} {c:List SV} (y:α) (hj:j < l.length) (hb:oo+c.length<=(f l[j]).length) (hc:oo+c.length<=o\/o < oo) (he:Zr (f l[j]) oo c=f y) (hh:h y=h l[j])
 (hk:r ⟨σ.fr,(k,.rws v' m0 ((l.set j y).map f) T o m' ((l.set j y).map h) T') :: σ.hp,σ.n,σ.N,σ.gs⟩ K):STW v' m0 (l.map f) T o m' (l.map h) T' v' m0 j oo k c σ r K:=by
 refine .inl ⟨rfl,rfl,f l[j],by simp [hj],hb,.inr hc,?_⟩
 rw [he,<- List.map_set]
 have e:(l.set j y).map h=l.map h:=by
  rw [List.map_set,hh]
  refine List.ext_getElem? fun i=>?_
  by_cases hi:i=j
  . subst hi;rw [List.getElem?_set_self (by simpa using hj),List.getElem?_map,List.getElem?_eq_getElem hj];rfl
  . rw [List.getElem?_set_ne (Ne.symm hi)]
 rw [e] at hk
 exact hk
theorem ZuR {α : Type} {l:List α} {f:α->List SV} {h:α->List (List SV)} {v j oo:Nat} {c row:List SV} (i:Nat) (y:α) (hv:v=v'+(i+1)) (hi:i < l.length) (hr:(h l[i])[j]? = some row) (hb:oo+c.length<=row.length) (he:h y=(h l[i]).set j (Zr row oo c)) (hf:f y=f l[i])
 (hk:r ⟨σ.fr,(k,.rws v' m0 ((l.set i y).map f) T o m' ((l.set i y).map h) T') :: σ.hp,σ.n,σ.N,σ.gs⟩ K):STW v' m0 (l.map f) T o m' (l.map h) T' v m' j oo k c σ r K:=by
 refine .inr ⟨i,h l[i],row,hv,rfl,by simp [hi],hr,hb,?_⟩
 rw [<- he,<- List.map_set]
 have e:(l.set i y).map f=l.map f:=by
  rw [List.map_set,hf]
  refine List.ext_getElem? fun q=>?_
  by_cases hq:q=i
  . subst hq;rw [List.getElem?_set_self (by simpa using hi),List.getElem?_map,List.getElem?_eq_getElem hi];rfl
  . rw [List.getElem?_set_ne (Ne.symm hq)]
 rw [e] at hk
 exact hk
end
theorem Zdx {α : Type} {f:α->List SV} {h:α->List (List SV)} (o m':Nat):∀ l:List α,Zah o m' (l.map h) (l.map f)=l.map fun x=>(f x).set o (.sl false m' (h x))
 | []=>rfl
 | x :: l=>by simp only [List.map_cons,Zah,Zdx o m' l]
theorem Zei {m:Nat} {σ : St} (kb i k:Nat) {v:Nat} {l:List SV} {T1 mm T o m' T':Nat} {xs:List (List SV)} {inn:List (List (List SV))} (hm:Nat.ble m k=true) (hkb:lkh kb σ.hp = .cells l T1) (hl:l[i]? = some (.mr k v)) (hk:lkh k σ.hp = .rws v mm xs T o m' inn T') :
 Ent m σ ⟨σ.fr,(kb,.cells (l.set i (.sl false mm (Zah o m' inn xs))) T1) :: (k,.gone) :: σ.hp,σ.n,σ.N,σ.gs⟩:=fun C E a w hmc h=>by
 obtain ⟨g1,g2⟩:=VK h.hs k
 have hne:kb≠k:=by rintro rfl;rw [hk] at hkb;cases hkb
 have hk2:lkh kb ((k,.gone) :: σ.hp) = .cells l T1:=by rw [Zp,if_neg hne];exact hkb
 have hocc:∀ b,occ E kb (.cells (l.set i (.sl false mm (Zah o m' inn xs))) T1) b↔occ E kb (lkh kb ((k,.gone) :: σ.hp)) b:=fun b=>by rw [hk2];rfl
 have hbk:=h.hs.bk k
 rw [hk] at hbk
 have hok:∀ i b,i<=inn.length->Zfh (E.hv k (v+i)) b->okS C E ((k,.gone) :: σ.hp) b:=fun i b hi hb=>by
  have hoc:occ E k (lkh k σ.hp) b:=by rw [hk];exact ⟨i,hi,hb⟩
  refine ⟨?_,fun j ho=>?_⟩
  . rcases h.hs.lo k b hoc with q | q
    . exact .inr q
    . have h1:=hmc.2 k b q;have h2:=hmc.1;have h3:=Nat.le_of_ble_eq_true hm;omega
  . rw [Zp] at ho
    split at ho
    . exact ho.elim
    . exact absurd (h.hs.dj j k b ho hoc).symm (by omega)
 have hval:=Zo0 g2 hok hbk
 obtain ⟨h6,h7⟩:=X3 (hb:=.cells (l.set i (.sl false mm (Zah o m' inn xs))) T1) (B:=E.β kb) g1 hocc (by rw [hk2];rfl) ⟨rfl,rfl,rfl,rfl,fun _ _=>rfl⟩ (fun hst=>by
  have hb:=h.hs.bk kb
  rw [hkb] at hb
  simp only [ZY] at hb ⊢
  obtain ⟨cs,e1,e2⟩:=hb
  refine ⟨cs,e1,Ug (Zdj (p:=fun s s'=>∀ y,R w E (ltn σ.n) (okS C E σ.hp) s y->R w E (ltn σ.n) (okS C E ((kb,.cells (l.set i (.sl false mm (Zah o m' inn xs))) T1) :: (k,.gone) :: σ.hp)) s' y)
   (fun s y hy=>ZI hst.c (fun _ _=>Ele.rfl) (fun _ h=>h) _ _ (ZI g2.c (fun _ _=>Ele.rfl) (fun _ h=>h) _ _ hy)) (fun y hy=>?_) hl) e2⟩
  have hy2:y=E.hv k v:=by simp only [R] at hy;exact hy.2.2.1
  rw [hy2]
  exact ZI hst.c (fun _ _=>Ele.rfl) (fun _ h=>h) _ _ hval)
 have hst:Zy w w (okS C E σ.hp) (okS C E ((kb,.cells (l.set i (.sl false mm (Zah o m' inn xs))) T1) :: (k,.gone) :: σ.hp)):=fun b hb hs=>by
  obtain ⟨q1,q2⟩:=g2 b hb hs
  exact h7 b q1 hs
 exact ⟨E,Z4 h hst (fun _ _=>Ele.rfl) (Nat.le_refl _) h6⟩
end Go.Sx
namespace Go.Proofs.Ytkjldleglbbkeaa
open Go Go.Sx
def cz21:SC:=(.seq (.reg [
 o1 1 (.box (.t 0) 0 25),
 o1 2 (.alloc [.slice none 0 0,.slice none 0 0] 25)])
 (.gh (.seq (.reg [
 o1 4 (.bsl 9 109 []),
 o1 5 (.addo (.t 1) 0),
 o1 6 (.ld (.t 5) 1 false),
 o1 7 (.app 9 72 109 (.t 4) (.t 6)),
 o1 8 (.addo (.t 1) 0),
 ⟨none,.st (.t 8) (.t 7) 1,none,[]⟩])
 (.gh (.seq (.reg [
 o1 9 (.bsl 5 86 []),
 o1 10 (.addo (.t 1) 1),
 o1 11 (.ld (.t 10) 1 false),
 o1 12 (.cln 5 56 86 (.t 9) (.t 11)),
 o1 13 (.addo (.t 1) 1),
 ⟨none,.st (.t 13) (.t 12) 1,none,[]⟩])
 (.gh (.seq (.seq (.reg [
 o1 3 (.mv (.c (.int .i64 0)))])
 (.gh (.block 0 (.loop (.seq (.seq (.reg [
  m1 14 3,
  o1 15 (.addo (.t 1) 1),
  o1 16 (.ld (.t 15) 1 false),
  o1 17 (.len (.t 16)),
  o1 18 (.bin .lss (.t 14) (.t 17))])
  (.gh (.cond (.t 18)
  .skip
  (.exit 0))))
  (.seq (.block 1 (.regd [0,1,2,3,4,5,6,7,8,9,10,11,12,13] [
   .op (o1 21 (.addo (.t 1) 1)),
   .op ⟨some 22,.ld (.t 21) 1 false,none,[0]⟩,
   .op (m1 23 3),
   .op (o1 24 (.bsl 4 95 [])),
   .op (o1 25 (.addo (.t 1) 1)),
   .op ⟨some 26,.ld (.t 25) 1 false,none,[4]⟩,
   .op (m1 27 3),
   .op ⟨some 28,.ixs (.t 26) (.t 27) 5,none,[5,6]⟩,
   .op ⟨some 29,.addo (.t 28) 4,none,[7]⟩,
   .op ⟨some 30,.ld (.t 29) 1 false,none,[8]⟩] 1 0 [
   ⟨some 31,.cln 4 32 95 (.t 24) (.t 30),none,[3,9]⟩,
   ⟨some 32,.ixs (.t 22) (.t 23) 5,none,[0,1,2,3,4,5,6,7,8,9,10]⟩,
   ⟨some 33,.addo (.t 32) 4,none,[0,1,2,3,4,5,6,7,8,9,10,11]⟩,
   ⟨none,.st (.t 33) (.t 31) 1,none,[0,1,2,3,4,5,6,7,8,9,10,12]⟩]))
  (.reg [
  m1 19 3,
  o1 20 (.bin .add (.t 19) (.c (.int .i64 1))),
  m1 3 20])))))))
 (.seq (.reg [
 o1 34 (.ld (.t 1) 2 true),
 ⟨none,.st (.t 2) (.t 34) 2,none,[]⟩])
 (.gh .ret)))))))))
def rz21:List RV:=[.cell 2 2 true]
theorem nz21:Try.f21.ntmps=35:=by kernel_rfl
theorem bz21:Xf Try.prog 21=true:=by kernel_rfl
theorem Zrg:XJ Try.prog cz21 ((Try.f21.body).getD .skip)=true:=by kernel_rfl
theorem Ztt:W5 Try.prog rz21 Try.f21.results.toList=true:=by kernel_rfl
theorem mz21 {n0:Nat} {hp0:List (Nat × HB)} {args:List SV} {Yc:Ot->Prop} (hh:hpb n0 hp0) (hx:∀ o,Yc o->KX o.res/\KXP o.hp) (h:sx Try.prog Y0 n0 cz21 ⟨Wm 0 args,hp0,n0,35,[]⟩ (ZdH rz21 fun o=>∃ o',Yc o'/\Zf2 n0 o o')) (hA:Nat.ble args.length 35=true:=by rfl):CtM Try.prog 21 hp0 n0 args Yc:=VR Try.func21 rfl bz21 Zrg Ztt nz21 (Nat.le_of_ble_eq_true hA) hh hx h
open Go.Azalai
def Zw (x:Leg):List SV:=[I x.a,I x.b,I x.long.lo,I x.long.hi,.any]
def Zv (x:Leg):List (List SV):=x.gates.map Zd
theorem XA (l:Land) (hs:Xy l):CtM Try.prog 21 [] 0 [.agg (Zh l)] (fun o=>o=⟨false,.agg [.sl false 9 (l.wells.map Zc),.mr 0 0],[(0,.rws 0 5 (l.legs.map Zw) 86 4 4 (l.legs.map Zv) 95)],1⟩):=by
 refine mz21 (by simp [hpb]) (fun o ho=>by subst ho;simp [KX,KXL,KXP,KXH,Za,KFL,KF,Zh,Zc,Zw,Zd,Zv]) ?_
 dsimp only [cz21,rz21,Zh,go_sem,rA,rM,rS]
 refine gh Yw ?_
 dsimp only [go_sem,rA,rM,rS]
 refine Zq0 (by simp;have:=hs.1;omega) ?_
 dsimp only [go_sem,rA,rM,rS]
 refine gh Yw ?_
 dsimp only [go_sem,rA,rM,rS]
 refine ⟨by simp;have:=hs.2.1;omega,?_⟩
 dsimp only [go_sem,rA,rM,rS]
 refine gh (ZfY 2 0 4 4 95 rfl rfl) ?_
 dsimp only [go_sem,rA,rM,rS]
 refine gh Yw ?_
 dsimp only [go_sem,rA,rM,rS]
 refine YB (fun k:Nat=>[(3,I k)]) (fun k=>[(2,.rws 0 5 ((l.legs.take k).map Zw ++ (l.legs.drop k).map Zj) 86 4 4 ((l.legs.take k).map Zv) 95)]) (fun k=>k<=l.legs.length) (fun k=>l.legs.length - k) 0 (Nat.zero_le _) ?_ ?_
 . (refine Zi ?_ ?_ ?_ rfl rfl<;>dsimp only [Zd,Zc,Zj,Zw,Zv,id,go_sem,rA,rM,rS]<;>simp [Zd,Zc,Zj,Zw,Zv,Za,Zf,KFR,KFL,KF,Zb,mtO,nbr])
 intro k hk
 dsimp only [go_sem,rA,rM,rS]
 refine ⟨0,5,_,_,rfl,rfl,?_⟩
 simp only [Y3,List.length_append,List.length_map,List.length_take,List.length_drop]
 refine gh Yw ?_
 dsimp only [go_sem,rA,rM,rS]
 by_cases hlt:k < l.legs.length
 . refine ZV (by simp;omega) ?_
   dsimp only [go_sem,rA,rM,rS]
   refine Zd3 k rfl (by simp;omega) ?_
   dsimp only [go_sem,rA,rM,rS]
   have hA:(l.legs.take k).map Zw ++ (l.legs.drop k).map Zj=(l.legs.take k).map Zw ++ (Zj l.legs[k] :: (l.legs.drop (k+1)).map Zj):=by rw [List.drop_eq_getElem_cons hlt];rfl
   have hlA:((l.legs.take k).map Zw).length=k:=by simp;omega
   have hx:((l.legs.take k).map Zw ++ (l.legs.drop k).map Zj)[k]? = some (Zj l.legs[k]):=by
    rw [hA,List.getElem?_append_right (by omega),hlA,Nat.sub_self];rfl
   refine ⟨0,_,_,rfl,rfl,Zj l.legs[k],ZE.2 fun _=>?_,?_⟩
   . rw [Xh,if_neg (by simp;omega),hx]
   dsimp only [Zj,go_sem,rA,rM,rS]
   refine ⟨by simp;have:=hs.2.2 _ (List.getElem_mem hlt);omega,?_⟩
   dsimp only [go_sem,rA,rM,rS]
   refine Zd3 k rfl (by simp;omega) ?_
   dsimp only [go_sem,rA,rM,rS]
   refine .inl ⟨rfl,rfl,Zj l.legs[k],hx,by simp [Zj],.inl (by simp;omega),?_⟩
   dsimp only [go_sem,rA,rM,rS]
   rw [Zo (n:=(k:Int)+1) (by omega) (by have:=hs.2.1;omega)]
   refine ⟨k+1,hlt,by omega,?_⟩
   have hlen:((l.legs.take k).map Zv).length=k:=by simp;omega
   have e0:((l.legs.take k).map Zw ++ (l.legs.drop k).map Zj).set k (Zr (Zj l.legs[k]) 4 [.mr 3 0])=(l.legs.take k).map Zw ++ ([I l.legs[k].a,I l.legs[k].b,I l.legs[k].long.lo,I l.legs[k].long.hi,.mr 3 0] :: (l.legs.drop (k+1)).map Zj):=by
    rw [hA,List.set_append_right _ _ (by omega),hlA,Nat.sub_self];rfl
   rw [e0]
   refine Vl (ZiQ 2 3 [I l.legs[k].a,I l.legs[k].b,I l.legs[k].long.lo,I l.legs[k].long.hi,.mr 3 0] rfl rfl rfl (by rw [hlen,List.getElem?_append_right (by omega),hlA,Nat.sub_self];rfl) rfl) ?_
   have e1:((l.legs.take k).map Zw ++ ([I l.legs[k].a,I l.legs[k].b,I l.legs[k].long.lo,I l.legs[k].long.hi,.mr 3 0] :: (l.legs.drop (k+1)).map Zj)).set ((l.legs.take k).map Zv).length ([I l.legs[k].a,I l.legs[k].b,I l.legs[k].long.lo,I l.legs[k].long.hi,.mr 3 0].set 4 .any)=(l.legs.take (k+1)).map Zw ++ (l.legs.drop (k+1)).map Zj:=by
    rw [hlen,List.set_append_right _ _ (by omega),hlA,Nat.sub_self,List.set_cons_zero,<- List.take_append_getElem hlt,List.map_append,List.append_assoc];rfl
   have e2:(l.legs.take k).map Zv ++ [l.legs[k].gates.map Zd]=(l.legs.take (k+1)).map Zv:=by
    rw [<- List.take_append_getElem hlt,List.map_append];rfl
   rw [e1,e2]
   clear e0 e1 e2 hx hA hlA hlen
   generalize l.legs.take (k+1)=LA
   generalize l.legs.drop (k+1)=LB
   (refine Zi ?_ ?_ ?_ rfl rfl<;>dsimp only [Zd,Zc,Zj,Zw,Zv,id,go_sem,rA,rM,rS]<;>simp [Zd,Zc,Zj,Zw,Zv,Za,Zf,KFR,KFL,KF,Zb,mtO,nbr])
 refine ZJ (by simp;omega) ?_
 dsimp only [go_sem,rA,rM,rS]
 refine gh Yw ?_
 dsimp only [go_sem,rA,rM,rS]
 rw [show k=l.legs.length from by omega,List.take_length,List.drop_length,List.map_nil,List.append_nil]
 refine ⟨_,rfl,?_⟩
 refine entO (fun _=>2) ?_ ?_ ?_ (fun i hi j hj _=>by omega) rfl (fun i hi=>absurd hi (Nat.not_lt_zero i))<;>dsimp only [go_sem,rA,rM,rS]<;>simp [Za,Zf,KFR,KFL,KF,Zb,mtO,nbr,Zc,Zw,Zd,Zv]
theorem Zaa {l:Land} {p:Span} {s day:Int} {v:Nat} (hv:v < l.wells.length):(Yh l p s day)[v]? = some ⟨Zx false l p s day v,Zx true l p s day v⟩:=by
 simp [Yh,YW,List.getElem?_zipWith,hv]
theorem Zs4 {α : Type} {R:List α} {v:Nat} {x:α} (h:v < R.length) (e:R[v]? = some x):R[v]=x:=by
 rw [List.getElem?_eq_getElem h] at e;exact Option.some.inj e
theorem Zbw {l:Land} {p:Span} (h:OkLP l p) {s day:Int} (s0:0<=s) (s1:s < l.wells.length) (h3:0<=day) (h4:day<=100000):Wk l p s day=0:=by
 have ha:Vk l p=0:=by unfold Vk;rw [h.land,h.pace];rfl
 unfold Wk
 rw [if_neg (by rw [ha];decide),if_neg (by simp [inR];omega)]
theorem ZdI {l:Land} (h:ZU l=true):Xy l:=by
 have:=YY h
 refine ⟨by omega,by omega,fun x hx=>?_⟩
 simp only [ZU,Bool.and_eq_true,List.all_eq_true] at h
 have:=h.2 x hx
 simp only [YA,Bool.and_eq_true,decide_eq_true_eq] at this
 omega
theorem m21 {n0:Nat} {hp0:List (Nat × HB)} {args:List SV} {Yc:Ot->Prop} (hh:hpb n0 hp0) (hx:∀ o,Yc o->KX o.res/\KXP o.hp) (h:sx Try.prog Y0 n0 c21 ⟨Wm 0 args,hp0,n0,35,[]⟩ (ZdH r21 fun o=>∃ o',Yc o'/\Zf2 n0 o o')) (hA:Nat.ble args.length 35=true:=by rfl):CtM Try.prog 21 hp0 n0 args Yc:=VR Try.func21 rfl b21 Zud ZvU n21 (Nat.le_of_ble_eq_true hA) hh hx h
theorem UB (l:Land) (hs:Xy l):CtM Try.prog 21 [] 0 [.agg (Zh l)] (fun o=>o=⟨false,.agg [.sl false 9 (l.wells.map Zc),.mr 0 0],[(0,.row 0 5 (l.legs.map Zj) 86)],1⟩):=by
 refine m21 (by simp [hpb]) (fun o ho=>by subst ho;simp [KX,KXL,KXP,KXH,Za,KFL,KF,Zh,Zc,Zj,Zd]) ?_
 dsimp only [c21,r21,Zh,go_sem,rA,rM,rS]
 refine Zq0 (by simp;have:=hs.1;omega) ?_
 dsimp only [go_sem,rA,rM,rS]
 refine ⟨by simp;have:=hs.2.1;omega,?_⟩
 dsimp only [go_sem,rA,rM,rS]
 refine YB (fun k:Nat=>[(3,I k)]) (fun _=>[]) (fun k=>k<=l.legs.length) (fun k=>l.legs.length - k) 0 (Nat.zero_le _) ?_ ?_
 . (refine Zi ?_ ?_ ?_ rfl rfl<;>dsimp only [Zd,Zc,Zj,id,go_sem,rA,rM,rS]<;>simp [Zd,Zc,Zj,Za,Zf,KFR,KFL,KF,Zb,mtO,nbr])
 intro k hk
 dsimp only [go_sem,rA,rM,rS]
 simp only [List.length_map]
 by_cases hlt:k < l.legs.length
 . refine ZV (by simpa using hlt) ?_
   dsimp only [go_sem,rA,rM,rS]
   refine ZbU k rfl (by simpa using hlt) ?_
   dsimp only [go_sem,rA,rM,rS]
   refine ZfQ hlt ?_
   dsimp only [Zj,go_sem,rA,rM,rS]
   refine Zq0 (by simp;have:=hs.2.2 _ (List.getElem_mem hlt);omega) ?_
   dsimp only [go_sem,rA,rM,rS]
   refine ZbU k rfl (by simpa using hlt) ?_
   dsimp only [go_sem,rA,rM,rS]
   refine ZtF l.legs[k] hlt (by simp [Zj]) (by simp [Zj,Zr]) ?_
   rw [List.set_getElem_self]
   dsimp only [go_sem,rA,rM,rS]
   rw [Zo (n:=(k:Int)+1) (by omega) (by have:=hs.2.1;omega)]
   refine ⟨k+1,hlt,by omega,?_⟩
   (refine Zi ?_ ?_ ?_ rfl rfl<;>dsimp only [Zd,Zc,Zj,id,go_sem,rA,rM,rS]<;>simp [Zd,Zc,Zj,Za,Zf,KFR,KFL,KF,Zb,mtO,nbr])
 refine ZJ (by simp;omega) ?_
 dsimp only [go_sem,rA,rM,rS]
 refine ⟨_,rfl,?_⟩
 refine entO (fun _=>2) ?_ ?_ ?_ (fun i hi j hj _=>by omega) rfl (fun i hi=>absurd hi (Nat.not_lt_zero i))<;>dsimp only [go_sem,rA,rM,rS]<;>simp [Za,Zf,KFR,KFL,KF,Zb,mtO,nbr,Zc,Zj,Zd]
def l10:List Ins:=[
 o1 59 (.ld (.t 4) 2 true),
 ⟨some 60,.callm 21 [.t 59],none,[0]⟩,
 o1 61 (.ld (.t 4) 2 true),
 ⟨some 62,.callm 21 [.t 61],none,[1,2]⟩,
 o1 12 (.alloc [.slice none 0 0,.slice none 0 0] 25),
 o1 13 (.alloc [.slice none 0 0,.slice none 0 0] 25),
 ⟨none,.st (.t 12) (.t 60) 2,none,[0,1,3,4,5]⟩,
 ⟨none,.st (.t 13) (.t 62) 2,none,[0,1,2,3,4,5,6]⟩]
def cz10:SC:=(.seq (.reg [
 o1 4 (.box (.t 0) 0 25),
 o1 7 (.box (.t 3) 0 29),
 o1 8 (.mv (.c (.bool false)))])
 (.seq (.reg [
 o1 24 (.call 41 []),
 m1 9 24])
 (.seq (.seq (.reg [
 m1 25 9,
 o1 26 (.un .not (.t 25))])
 (.cond (.t 26)
 (.seq (.reg [
  o1 8 (.mv (.c (.bool false)))])
  .ret)
 .skip))
 (.seq (.seq (.reg [
 o1 27 (.ld (.t 4) 2 true),
 o1 28 (.ld (.t 7) 2 true),
 o1 29 (.call 42 [.t 27,.t 28]),
 o1 30 (.un .not (.t 29)),
 m1 31 30,
 ⟨some 32,.mv (.t 1),some (31,false),[]⟩,
 ⟨some 33,.bin .lss (.t 32) (.c (.int .i64 0)),some (31,false),[]⟩,
 o1 34 (.pick (.t 31) (.c (.bool true)) (.t 33)),
 m1 35 34,
 ⟨some 36,.mv (.t 1),some (35,false),[]⟩,
 ⟨some 37,.addo (.t 4) 0,some (35,false),[]⟩,
 ⟨some 38,.ld (.t 37) 1 false,some (35,false),[]⟩,
 ⟨some 39,.len (.t 38),some (35,false),[]⟩,
 ⟨some 40,.bin .geq (.t 36) (.t 39),some (35,false),[]⟩,
 o1 41 (.pick (.t 35) (.c (.bool true)) (.t 40)),
 m1 42 41,
 ⟨some 43,.mv (.t 2),some (42,false),[]⟩,
 ⟨some 44,.bin .lss (.t 43) (.c (.int .i64 0)),some (42,false),[]⟩,
 o1 45 (.pick (.t 42) (.c (.bool true)) (.t 44)),
 m1 46 45,
 ⟨some 47,.mv (.t 2),some (46,false),[]⟩,
 ⟨some 48,.bin .gtr (.t 47) (.c (.int .i64 100000)),some (46,false),[]⟩,
 o1 49 (.pick (.t 46) (.c (.bool true)) (.t 48))])
 (.cond (.t 49)
 (.seq (.reg [
  m1 50 9,
  m1 8 50])
  .ret)
 .skip))
 (.seq (.reg [
 o1 52 (.ld (.t 4) 2 true),
 m1 53 1,
 m1 54 2,
 o1 55 (.ld (.t 7) 2 true),
 o1 56 (.call 32 [.t 52,.t 53,.t 54,.t 55]),
 m1 51 56,
 o1 57 (.ext (.t 51) 0),
 o1 58 (.ext (.t 51) 1),
 m1 10 57,
 m1 11 58])
 (.seq (.gh (.regl l10))
 (.seq (.seq (.reg [
 o1 63 (.addo (.t 4) 1),
 o1 64 (.ld (.t 63) 1 false),
 o1 65 (.len (.t 64)),
 o1 66 (.mv (.c (.int .i64 0)))])
 (.block 0 (.loop (.seq (.reg [
  o1 67 (.bin .lss (.t 66) (.t 65))])
  (.seq (.cond (.t 67)
  .skip
  (.exit 0))
  (.seq (.block 1 (.seq (.reg [
   m1 68 66,
   m1 14 68])
   (.seq (.reg [
   o1 69 (.addo (.t 4) 1),
   o1 70 (.ld (.t 69) 1 false),
   m1 71 14,
   o1 72 (.ixs (.t 70) (.t 71) 5),
   o1 73 (.addo (.t 72) 2),
   o1 74 (.ld (.t 73) 2 true),
   o1 15 (.alloc [.int .i64 0,.int .i64 0] 29),
   ⟨none,.st (.t 15) (.t 74) 2,none,[]⟩])
   (.seq (.regd [0,1,2,6,7,8,9,10,11,12,13,14,15,16,17,3,4,5,18,19,20,21] [
   .op (o1 75 (.addo (.t 12) 1)),
   .op ⟨some 76,.ld (.t 75) 1 false,none,[0]⟩,
   .op (m1 77 14),
   .op (o1 81 (.addo (.t 15) 0)),
   .op ⟨some 82,.ld (.t 81) 1 false,none,[6]⟩,
   .op (o1 83 (.addo (.t 15) 0)),
   .op ⟨some 84,.ld (.t 83) 1 false,none,[8]⟩,
   .op ⟨some 85,.call 50 [.t 82,.t 84],none,[7,9]⟩,
   .op (o1 86 (.addo (.t 15) 1)),
   .op ⟨some 87,.ld (.t 86) 1 false,none,[11]⟩,
   .op (o1 88 (.addo (.t 15) 1)),
   .op ⟨some 89,.ld (.t 88) 1 false,none,[13]⟩,
   .op ⟨some 90,.call 50 [.t 87,.t 89],none,[10,12,14]⟩,
   .op ⟨some 91,.ixs (.t 76) (.t 77) 5,none,[0,1,2,6,7,8,9,10,15]⟩,
   .op ⟨some 92,.addo (.t 91) 2,none,[0,1,2,6,7,8,9,10,15,16]⟩,
   .hide (.t 92),
   .op (o1 78 (.addo (.t 13) 1)),
   .op ⟨some 79,.ld (.t 78) 1 false,none,[3]⟩,
   .op (m1 80 14)] 0 1 [
   ⟨none,.st (.t 92) (.t 85) 2,none,[0,1,2,6,7,8,9,10,15,17]⟩,
   ⟨some 93,.ixs (.t 79) (.t 80) 5,none,[0,1,2,3,4,5,6,7,8,9,10,11,12,13,14,15,16,17,18]⟩,
   ⟨some 94,.addo (.t 93) 2,none,[0,1,2,3,4,5,6,7,8,9,10,11,12,13,14,15,16,17,18,19]⟩,
   ⟨none,.st (.t 94) (.t 90) 2,none,[0,1,2,3,4,5,6,7,8,9,10,11,12,13,14,15,16,17,18,20]⟩])
   (.seq (.reg [
   o1 16 (.mv (.c (.slice none 0 0)))])
   (.seq (.seq (.reg [
   o1 95 (.addo (.t 4) 1),
   o1 96 (.ld (.t 95) 1 false),
   m1 97 14,
   o1 98 (.ixs (.t 96) (.t 97) 5),
   o1 99 (.addo (.t 98) 4),
   o1 100 (.ld (.t 99) 1 false),
   o1 101 (.len (.t 100)),
   o1 102 (.mv (.c (.int .i64 0)))])
   (.block 2 (.loop (.seq (.reg [
    o1 103 (.bin .lss (.t 102) (.t 101))])
    (.seq (.cond (.t 103)
    .skip
    (.exit 2))
    (.seq (.block 3 (.seq (.reg [
     m1 104 102,
     o1 105 (.ixs (.t 100) (.t 102) 4),
     o1 106 (.ld (.t 105) 4 true),
     o1 18 (.alloc [.int .i64 0,.int .i64 0,.int .i64 0,.int .i64 0] 95),
     m1 17 104,
     ⟨none,.st (.t 18) (.t 106) 4,none,[]⟩])
     (.seq (.regd [0,1,2,3,4,5,6,7,8,9,10,11,12,13,14,15,16,17,18,19,20,21,22,23] [
     .op (o1 107 (.addo (.t 12) 1)),
     .op ⟨some 108,.ld (.t 107) 1 false,none,[0]⟩,
     .op (m1 109 14),
     .op ⟨some 110,.ixs (.t 108) (.t 109) 5,none,[1,2]⟩,
     .op ⟨some 111,.addo (.t 110) 4,none,[3]⟩,
     .op ⟨some 112,.ld (.t 111) 1 false,none,[4]⟩,
     .op (m1 113 17),
     .op (o1 114 (.addo (.t 18) 0)),
     .op ⟨some 115,.addo (.t 114) 0,none,[7]⟩,
     .op ⟨some 116,.ld (.t 115) 1 false,none,[8]⟩,
     .op (o1 117 (.addo (.t 18) 0)),
     .op ⟨some 118,.addo (.t 117) 0,none,[10]⟩,
     .op ⟨some 119,.ld (.t 118) 1 false,none,[11]⟩,
     .op ⟨some 120,.call 50 [.t 116,.t 119],none,[9,12]⟩,
     .op (o1 121 (.addo (.t 18) 2)),
     .op ⟨some 122,.addo (.t 121) 1,none,[14]⟩,
     .op ⟨some 123,.ld (.t 122) 1 false,none,[15]⟩,
     .op (o1 124 (.addo (.t 18) 2)),
     .op ⟨some 125,.addo (.t 124) 1,none,[17]⟩,
     .op ⟨some 126,.ld (.t 125) 1 false,none,[18]⟩,
     .op ⟨some 127,.call 50 [.t 123,.t 126],none,[13,16,19]⟩,
     .op ⟨some 128,.build [.int .i64 0,.int .i64 0,.int .i64 0,.int .i64 0] [(0,2,.t 120),(2,2,.t 127)],none,[13,20]⟩,
     .op ⟨some 129,.ixs (.t 112) (.t 113) 4,none,[0,1,2,3,4,5,6,7,8,9,10,11,12,13,14,15,16,17,18,19,20,21]⟩] 0 1 [
     ⟨none,.st (.t 129) (.t 128) 4,none,[0,1,2,3,4,5,6,7,8,9,10,11,12,13,14,15,16,17,18,19,20,21,22]⟩])
     (.seq (.reg [
     o1 130 (.addo (.t 18) 0),
     o1 131 (.addo (.t 130) 1),
     o1 132 (.ld (.t 131) 1 false),
     o1 133 (.addo (.t 18) 2),
     o1 134 (.addo (.t 133) 0),
     o1 135 (.ld (.t 134) 1 false),
     o1 136 (.bin .leq (.t 132) (.t 135))])
     (.cond (.t 136)
     (.regs [0,1,2,3,4,5,6,7,8,9,10,11,12,13,14,15,16,17,18] ⟨[
      .op (m1 137 16),
      .op (o1 138 (.addo (.t 18) 0)),
      .op ⟨some 139,.addo (.t 138) 1,none,[1]⟩,
      .op ⟨some 140,.ld (.t 139) 1 false,none,[2]⟩,
      .op (o1 141 (.addo (.t 18) 0)),
      .op ⟨some 142,.addo (.t 141) 1,none,[4]⟩,
      .op ⟨some 143,.ld (.t 142) 1 false,none,[5]⟩,
      .op ⟨some 144,.call 50 [.t 140,.t 143],none,[3,6]⟩,
      .op (o1 145 (.addo (.t 18) 2)),
      .op ⟨some 146,.addo (.t 145) 0,none,[8]⟩,
      .op ⟨some 147,.ld (.t 146) 1 false,none,[9]⟩,
      .op (o1 148 (.addo (.t 18) 2)),
      .op ⟨some 149,.addo (.t 148) 0,none,[11]⟩,
      .op ⟨some 150,.ld (.t 149) 1 false,none,[12]⟩,
      .op ⟨some 151,.call 50 [.t 147,.t 150],none,[7,10,13]⟩,
      .op ⟨some 152,.build [.int .i64 0,.int .i64 0,.int .i64 0,.int .i64 0] [(0,2,.t 144),(2,2,.t 151)],none,[7,14]⟩,
      .op ⟨some 153,.bsl 4 95 [.t 152],none,[15]⟩],0,1,[
      ⟨some 154,.appm 4 32 95 (.t 137) (.t 153),none,[0,14,16]⟩]⟩ [⟨[
],0,1,[
 ⟨some 16,.mv (.t 154),none,[0,1,2,3,4,5,6,7,8,9,10,11,12,13,14,15,16,17]⟩]⟩])
 .skip)))))
 (.reg [
 o1 155 (.bin .add (.t 102) (.c (.int .i64 1))),
 m1 102 155])))))))
 (.gh (.reg [
 o1 156 (.addo (.t 13) 1),
 o1 157 (.ld (.t 156) 1 false),
 m1 158 14,
 m1 159 16,
 o1 160 (.ixs (.t 157) (.t 158) 5),
 o1 161 (.addo (.t 160) 4),
 ⟨none,.st (.t 161) (.t 159) 1,none,[]⟩]))))))))
 (.gh (.reg [
 o1 162 (.bin .add (.t 66) (.c (.int .i64 1))),
 m1 66 162]))))))))
 (.gh (.seq (.regd [0,1,2,3,4,5,6,7,8,9,10,11,12,13] [
 .op (o1 164 (.ld (.t 12) 2 true)),
 .op (m1 165 1),
 .op (m1 166 2),
 .op (o1 167 (.addo (.t 7) 1)),
 .op ⟨some 168,.ld (.t 167) 1 false,none,[3]⟩,
 .op (o1 169 (.addo (.t 7) 1)),
 .op ⟨some 170,.ld (.t 169) 1 false,none,[5]⟩,
 .op ⟨some 171,.call 50 [.t 168,.t 170],none,[4,6]⟩,
 .op ⟨some 172,.call 32 [.t 164,.t 165,.t 166,.t 171],none,[0,1,2,7]⟩,
 .op ⟨some 163,.mv (.t 172),none,[8]⟩,
 .op ⟨some 173,.ext (.t 163) 0,none,[9]⟩,
 .op ⟨some 174,.ext (.t 163) 1,none,[9]⟩,
 .op ⟨some 19,.mv (.t 173),none,[0,1,2,3,4,5,6,7,8,9,10]⟩,
 .op ⟨some 20,.mv (.t 174),none,[0,1,2,3,4,5,6,7,8,9,10,11,12]⟩] 0 0 [
])
 (.seq (.regd [0,1,2,3,4,5,6,7,8,9,10,11,12,13] [
 .op (o1 176 (.ld (.t 13) 2 true)),
 .op (m1 177 1),
 .op (m1 178 2),
 .op (o1 179 (.addo (.t 7) 0)),
 .op ⟨some 180,.ld (.t 179) 1 false,none,[3]⟩,
 .op (o1 181 (.addo (.t 7) 0)),
 .op ⟨some 182,.ld (.t 181) 1 false,none,[5]⟩,
 .op ⟨some 183,.call 50 [.t 180,.t 182],none,[4,6]⟩,
 .op ⟨some 184,.call 32 [.t 176,.t 177,.t 178,.t 183],none,[0,1,2,7]⟩,
 .op ⟨some 175,.mv (.t 184),none,[8]⟩,
 .op ⟨some 185,.ext (.t 175) 0,none,[9]⟩,
 .op ⟨some 186,.ext (.t 175) 1,none,[9]⟩,
 .op ⟨some 21,.mv (.t 185),none,[0,1,2,3,4,5,6,7,8,9,10]⟩,
 .op ⟨some 22,.mv (.t 186),none,[0,1,2,3,4,5,6,7,8,9,10,11,12]⟩] 0 0 [
])
 (.seq (.seq (.reg [
 m1 187 11,
 o1 188 (.bin .neq (.t 187) (.c (.int .i64 0))),
 m1 189 188,
 ⟨some 190,.mv (.t 20),some (189,false),[]⟩,
 ⟨some 191,.bin .neq (.t 190) (.c (.int .i64 0)),some (189,false),[]⟩,
 o1 192 (.pick (.t 189) (.c (.bool true)) (.t 191)),
 m1 193 192,
 ⟨some 194,.mv (.t 22),some (193,false),[]⟩,
 ⟨some 195,.bin .neq (.t 194) (.c (.int .i64 0)),some (193,false),[]⟩,
 o1 196 (.pick (.t 193) (.c (.bool true)) (.t 195)),
 m1 197 196,
 ⟨some 198,.mv (.t 10),some (197,false),[]⟩,
 ⟨some 199,.len (.t 198),some (197,false),[]⟩,
 ⟨some 200,.mv (.t 19),some (197,false),[]⟩,
 ⟨some 201,.len (.t 200),some (197,false),[]⟩,
 ⟨some 202,.bin .neq (.t 199) (.t 201),some (197,false),[]⟩,
 o1 203 (.pick (.t 197) (.c (.bool true)) (.t 202)),
 m1 204 203,
 ⟨some 205,.mv (.t 10),some (204,false),[]⟩,
 ⟨some 206,.len (.t 205),some (204,false),[]⟩,
 ⟨some 207,.mv (.t 21),some (204,false),[]⟩,
 ⟨some 208,.len (.t 207),some (204,false),[]⟩,
 ⟨some 209,.bin .neq (.t 206) (.t 208),some (204,false),[]⟩,
 o1 210 (.pick (.t 204) (.c (.bool true)) (.t 209))])
 (.cond (.t 210)
 (.seq (.reg [
  o1 8 (.mv (.c (.bool false)))])
  .ret)
 .skip))
 (.seq (.seq (.reg [
 m1 211 10,
 o1 212 (.len (.t 211)),
 o1 213 (.mv (.c (.int .i64 0)))])
 (.block 4 (.loop (.seq (.reg [
  o1 214 (.bin .lss (.t 213) (.t 212))])
  (.seq (.cond (.t 214)
  .skip
  (.exit 4))
  (.seq (.block 5 (.seq (.reg [
   m1 215 213,
   m1 23 215])
   (.seq (.regd [0,1,2,3,4,5,6,7,8,9,10,11,12,13,14,15,16,17,18,19,20,21,22,23,24,25,26,27,28,29,30,31,32,33] [
   .op (m1 216 19),
   .op (m1 217 23),
   .op ⟨some 218,.ixs (.t 216) (.t 217) 2,none,[0,1]⟩,
   .op ⟨some 219,.ld (.t 218) 2 true,none,[2]⟩,
   .op (m1 220 10),
   .op (m1 221 23),
   .op ⟨some 222,.ixs (.t 220) (.t 221) 2,none,[4,5]⟩,
   .op ⟨some 223,.addo (.t 222) 0,none,[6]⟩,
   .op ⟨some 224,.ld (.t 223) 1 false,none,[7]⟩,
   .op (m1 225 10),
   .op (m1 226 23),
   .op ⟨some 227,.ixs (.t 225) (.t 226) 2,none,[9,10]⟩,
   .op ⟨some 228,.addo (.t 227) 0,none,[11]⟩,
   .op ⟨some 229,.ld (.t 228) 1 false,none,[12]⟩,
   .op ⟨some 230,.call 50 [.t 224,.t 229],none,[8,13]⟩,
   .op ⟨some 231,.eqs true true [1,1] (.t 219) (.t 230),none,[3,14]⟩,
   .op ⟨some 232,.mv (.t 231),none,[14,15]⟩,
   .op ⟨some 233,.mv (.t 21),some (232,false),[16]⟩,
   .op ⟨some 234,.mv (.t 23),some (232,false),[16]⟩,
   .op ⟨some 235,.ixs (.t 233) (.t 234) 2,some (232,false),[16,17,18]⟩,
   .op ⟨some 236,.ld (.t 235) 2 true,some (232,false),[16,19]⟩,
   .op ⟨some 237,.mv (.t 10),some (232,false),[16]⟩,
   .op ⟨some 238,.mv (.t 23),some (232,false),[16]⟩,
   .op ⟨some 239,.ixs (.t 237) (.t 238) 2,some (232,false),[16,21,22]⟩,
   .op ⟨some 240,.addo (.t 239) 1,some (232,false),[16,23]⟩,
   .op ⟨some 241,.ld (.t 240) 1 false,some (232,false),[16,24]⟩,
   .op ⟨some 242,.mv (.t 10),some (232,false),[16]⟩,
   .op ⟨some 243,.mv (.t 23),some (232,false),[16]⟩,
   .op ⟨some 244,.ixs (.t 242) (.t 243) 2,some (232,false),[16,26,27]⟩,
   .op ⟨some 245,.addo (.t 244) 1,some (232,false),[16,28]⟩,
   .op ⟨some 246,.ld (.t 245) 1 false,some (232,false),[16,29]⟩,
   .op ⟨some 247,.call 50 [.t 241,.t 246],some (232,false),[16,25,30]⟩,
   .op ⟨some 248,.eqs true true [1,1] (.t 236) (.t 247),some (232,false),[16,20,31]⟩,
   .op ⟨some 249,.pick (.t 232) (.c (.bool true)) (.t 248),none,[16,32]⟩] 0 0 [
])
 (.cond (.t 249)
 (.seq (.reg [
  o1 8 (.mv (.c (.bool false)))])
  .ret)
 .skip))))
 (.reg [
 o1 250 (.bin .add (.t 213) (.c (.int .i64 1))),
 m1 213 250])))))))
 (.gh (.seq (.reg [
 m1 251 9,
 m1 8 251])
 .ret))))))))))))))
def rz10:List RV:=[.tmp 8]
theorem tz10:Qt1 Try.prog 10 cz10 rz10 252:=YT Try.func10 rfl (by kernel_rfl) (by kernel_rfl) (by kernel_rfl) (by kernel_rfl)
end Go.Proofs.Ytkjldleglbbkeaa
namespace Go.Sx
open Go
def ZtR:Nat->List Ins->Nat->List (Nat × Ins)
 | _,[],_=>[]
 | i,x :: l,D=>bif !Nat.testBit D i && x.af.all (Nat.testBit D) then (i,x) :: ZtR (i+1) l D else ZtR (i+1) l D
theorem Zeg:∀ {l:List Ins} {i0 D i:Nat} {x:Ins},l[i]? = some x->Nat.testBit D (i0+i)=false->x.af.all (Nat.testBit D)=true->(i0+i,x) ∈ ZtR i0 l D
 | [],_,_,_,_,h,_,_=>by simp at h
 | y :: l,i0,D,0,x,h,hb,ha=>by
  simp only [List.getElem?_cons_zero,Option.some.injEq] at h
  subst h
  have hc:(!Nat.testBit D i0 && y.af.all (Nat.testBit D))=true:=by rw [ha,show Nat.testBit D i0=false from hb];rfl
  simp only [ZtR,hc,cond_true]
  exact List.mem_cons_self ..
 | y :: l,i0,D,i+1,x,h,hb,ha=>by
  have ih:=Zeg (l:=l) (i0:=i0+1) (D:=D) (i:=i) (x:=x) (by simpa using h) (by rw [show i0+1+i=i0+(i+1) from by omega];exact hb) ha
  rw [show i0+1+i=i0+(i+1) from by omega] at ih
  simp only [ZtR]
  cases (!Nat.testBit D i0 && y.af.all (Nat.testBit D))
  . exact ih
  . exact List.mem_cons_of_mem _ ih
def Zq3 (f:Nat->Ins->Prop):List (Nat × Ins)->Prop
 | []=>True
 | (i,x) :: r=>f i x/\Zq3 f r
theorem Zkm {f:Nat->Ins->Prop} {rs:List (Nat × Ins)}:∀ {i:Nat} {x:Ins},Zq3 f rs->(i,x) ∈ rs->f i x:=by
 induction rs with
 | nil=>intro i x _ hm;cases hm
 | cons y r ih =>
  intro i x h hm
  obtain ⟨j,z⟩:=y
  have h':f j z/\Zq3 f r:=h
  rcases List.mem_cons.1 hm with e | e
  . injection e with e1 e2;subst e1 e2;exact h'.1
  . exact ih h'.2 e
theorem Zs {f:Nat->Ins->Prop} {i:Nat} {x:Ins} {r:List (Nat × Ins)} (h:f i x) (h':Zq3 f r):Zq3 f ((i,x) :: r):=⟨h,h'⟩
theorem Yb {f:Nat->Ins->Prop}:Zq3 f []:=trivial
theorem Zz {P:Program} {Y:Hd} {m:Nat} {l:List Ins} {n D:Nat} {σ : St} {K:Ex->St->Prop} (rs:List (Nat × Ins)) (h:ZtR 0 l D=rs) (ha:Zq3 (fun i x=>st1 P Y x σ (fun σ' K'=>∃ σc,Ent m σ' σc/\LAT P Y m l n (D ||| 2 ^ i) σc K') K) rs):LAT P Y m l (n+1) D σ K:=by
 intro i x hx hb haf
 have hm:=Zeg (i0:=0) hx (by rw [Nat.zero_add];exact hb) haf
 rw [Nat.zero_add,h] at hm
 exact Zkm ha hm
theorem Zqy {l:List Nat} {n:Nat} (hn:Nat.beq l.length n=true) (hi:Uy l=true):∀ i,i < n->∀ j,j < n->rho l i=rho l j->i=j:=fun i hi' j hj e=>by
 have hn:=Nat.eq_of_beq_eq_true hn
 rw [XX l i (by omega),XX l j (by omega)] at e
 have hp:=List.pairwise_iff_getElem.1 (Y7 hi)
 rcases Nat.lt_trichotomy i j with h | h | h
 . exact absurd e (hp i j (by omega) (by omega) h)
 . exact h
 . exact absurd e.symm (hp j i (by omega) (by omega) h)
theorem ZcM {σ σ':St} (l:List Nat) (hf:mtF (rho l) σ'.n [] σ'.fr σ.fr) (hp:mtP (rho l) σ'.hp σ.hp σ'.n σ'.n) (hb:hpb σ'.n σ'.hp) (hn:Nat.beq l.length σ'.n=true) (hi:Uy l=true) (hN:Nat.beq σ'.N σ.N=true):Ent 0 σ σ' :=
 ent (rho l) hf hp hb (Zqy hn hi) hN rfl (fun i h=>absurd h (Nat.not_lt_zero i))
theorem Zru {P:Program} {Y:Hd} {r:KT} {σ : St} {K:RK}:rxT P Y [] r σ K=r σ K:=rfl
theorem ZnO {P:Program} {Y:Hd} {x:Ins} {l:List Ins} {r:KT} {σ : St} {K:RK}:rxT P Y (x :: l) r σ K=st1 P Y x σ (rxT P Y l r) K:=rfl
attribute [go_sem] Zru ZnO
end Go.Sx
namespace Go.Proofs.Ytkjldleglbbkeaa
open Go Go.Sx Go.Azalai
theorem twins (l:Land) (hs:Xy l) (s day:Int) (p:Span) (R:List Span) (K:Ex->St->Prop) (hK:K .n ⟨[(12,.p 4 0),(13,.p 5 0),(11,I 0),(10,.sl false 2 (R.map Ze)),(9,B true),(7,.p 1 0),(4,.p 0 0),(2,I day),(1,I s)],[(5,.cells [.sl false 9 (l.wells.map Zc),.mr 3 0] 25),(4,.cells [.sl false 9 (l.wells.map Zc),.mr 2 0] 25),(3,.row 0 5 (l.legs.map Zj) 86),(2,.rws 0 5 (l.legs.map Zw) 86 4 4 (l.legs.map Zv) 95),(1,.cells (Ze p) 29),(0,.cells (Zh l) 25)],6,252,[]⟩):LAT Try.prog Y0 0 l10 8 0 ⟨[(11,I 0),(10,.sl false 2 (R.map Ze)),(9,B true),(7,.p 1 0),(4,.p 0 0),(2,I day),(1,I s)],[(1,.cells (Ze p) 29),(0,.cells (Zh l) 25)],2,252,[]⟩ K:=by
 have h255:LAT Try.prog Y0 0 l10 0 255 ⟨[(12,.p 4 0),(13,.p 5 0),(11,I 0),(10,.sl false 2 (R.map Ze)),(9,B true),(7,.p 1 0),(4,.p 0 0),(2,I day),(1,I s)],[(5,.cells [.sl false 9 (l.wells.map Zc),.mr 3 0] 25),(4,.cells [.sl false 9 (l.wells.map Zc),.mr 2 0] 25),(3,.row 0 5 (l.legs.map Zj) 86),(2,.rws 0 5 (l.legs.map Zw) 86 4 4 (l.legs.map Zv) 95),(1,.cells (Ze p) 29),(0,.cells (Zh l) 25)],6,252,[]⟩ K:=hK
 have h127:LAT Try.prog Y0 0 l10 1 127 ⟨[(62,.agg [.sl false 9 (l.wells.map Zc),.mr 3 0]),(12,.p 4 0),(13,.p 5 0),(11,I 0),(10,.sl false 2 (R.map Ze)),(9,B true),(7,.p 1 0),(4,.p 0 0),(2,I day),(1,I s)],[(5,.cells [.v (.slice none 0 0),.v (.slice none 0 0)] 25),(4,.cells [.sl false 9 (l.wells.map Zc),.mr 2 0] 25),(3,.row 0 5 (l.legs.map Zj) 86),(2,.rws 0 5 (l.legs.map Zw) 86 4 4 (l.legs.map Zv) 95),(1,.cells (Ze p) 29),(0,.cells (Zh l) 25)],6,252,[]⟩ K:=by
  refine Zz [(7,⟨none,.st (.t 13) (.t 62) 2,none,[0,1,2,3,4,5,6]⟩)] (by kernel_rfl) (Zs ?_ ( Yb))<;>dsimp only [go_sem,rA,rM,rS]
  ·
   refine ⟨_,?_,h255⟩
   (refine Zi ?_ ?_ ?_ rfl rfl<;>dsimp only [Zc,Zj,Zw,Zv,Zd,Zh,Ze,id,go_sem,rA,rM,rS]<;>simp [Zc,Zj,Zw,Zv,Zd,Zh,Ze,Za,Zf,KFR,KFL,KF,Zb,mtO,nbr])
 have h63:LAT Try.prog Y0 0 l10 2 63 ⟨[(60,.agg [.sl false 9 (l.wells.map Zc),.mr 2 0]),(62,.agg [.sl false 9 (l.wells.map Zc),.mr 3 0]),(12,.p 4 0),(13,.p 5 0),(11,I 0),(10,.sl false 2 (R.map Ze)),(9,B true),(7,.p 1 0),(4,.p 0 0),(2,I day),(1,I s)],[(5,.cells [.v (.slice none 0 0),.v (.slice none 0 0)] 25),(4,.cells [.v (.slice none 0 0),.v (.slice none 0 0)] 25),(3,.row 0 5 (l.legs.map Zj) 86),(2,.rws 0 5 (l.legs.map Zw) 86 4 4 (l.legs.map Zv) 95),(1,.cells (Ze p) 29),(0,.cells (Zh l) 25)],6,252,[]⟩ K:=by
  refine Zz [(6,⟨none,.st (.t 12) (.t 60) 2,none,[0,1,3,4,5]⟩)] (by kernel_rfl) (Zs ?_ ( Yb))<;>dsimp only [go_sem,rA,rM,rS]
  ·
   refine ⟨_,?_,h127⟩
   (refine Zi ?_ ?_ ?_ rfl rfl<;>dsimp only [Zc,Zj,Zw,Zv,Zd,Zh,Ze,id,go_sem,rA,rM,rS]<;>simp [Zc,Zj,Zw,Zv,Zd,Zh,Ze,Za,Zf,KFR,KFL,KF,Zb,mtO,nbr])
 have h31:LAT Try.prog Y0 0 l10 3 31 ⟨[(60,.agg [.sl false 9 (l.wells.map Zc),.mr 2 0]),(62,.agg [.sl false 9 (l.wells.map Zc),.mr 3 0]),(12,.p 4 0),(11,I 0),(10,.sl false 2 (R.map Ze)),(9,B true),(7,.p 1 0),(4,.p 0 0),(2,I day),(1,I s)],[(4,.cells [.v (.slice none 0 0),.v (.slice none 0 0)] 25),(3,.row 0 5 (l.legs.map Zj) 86),(2,.rws 0 5 (l.legs.map Zw) 86 4 4 (l.legs.map Zv) 95),(1,.cells (Ze p) 29),(0,.cells (Zh l) 25)],5,252,[]⟩ K:=by
  refine Zz [(5,o1 13 (.alloc [.slice none 0 0,.slice none 0 0] 25))] (by kernel_rfl) (Zs ?_ ( Yb))<;>dsimp only [go_sem,rA,rM,rS]
  ·
   refine ⟨_,?_,h63⟩
   (refine Zi ?_ ?_ ?_ rfl rfl<;>dsimp only [Zc,Zj,Zw,Zv,Zd,Zh,Ze,id,go_sem,rA,rM,rS]<;>simp [Zc,Zj,Zw,Zv,Zd,Zh,Ze,Za,Zf,KFR,KFL,KF,Zb,mtO,nbr])
 have h47:LAT Try.prog Y0 0 l10 3 47 ⟨[(60,.agg [.sl false 9 (l.wells.map Zc),.mr 2 0]),(62,.agg [.sl false 9 (l.wells.map Zc),.mr 3 0]),(13,.p 4 0),(11,I 0),(10,.sl false 2 (R.map Ze)),(9,B true),(7,.p 1 0),(4,.p 0 0),(2,I day),(1,I s)],[(4,.cells [.v (.slice none 0 0),.v (.slice none 0 0)] 25),(3,.row 0 5 (l.legs.map Zj) 86),(2,.rws 0 5 (l.legs.map Zw) 86 4 4 (l.legs.map Zv) 95),(1,.cells (Ze p) 29),(0,.cells (Zh l) 25)],5,252,[]⟩ K:=by
  refine Zz [(4,o1 12 (.alloc [.slice none 0 0,.slice none 0 0] 25))] (by kernel_rfl) (Zs ?_ ( Yb))<;>dsimp only [go_sem,rA,rM,rS]
  ·
   refine ⟨_,ZcM [0,1,2,3,5,4] ?_ ?_ ?_ rfl rfl rfl,h63⟩<;>dsimp only [go_sem,rA,rM,rS]<;>simp [Zc,Zj,Zw,Zv,Zd,Zh,Ze,Za,Zf,KFR,KFL,KF,Zb,mtO,nbr]<;>repeat first | exact Zb (by simp [Zc,Zj,Zd,Ze,Za,KFR,KFL,KF]) | refine ⟨Zb (by simp [Zc,Zj,Zd,Ze,Za,KFR,KFL,KF]),?_⟩
 have h55:LAT Try.prog Y0 0 l10 3 55 ⟨[(61,.agg (Zh l)),(60,.agg [.sl false 9 (l.wells.map Zc),.mr 2 0]),(12,.p 3 0),(13,.p 4 0),(11,I 0),(10,.sl false 2 (R.map Ze)),(9,B true),(7,.p 1 0),(4,.p 0 0),(2,I day),(1,I s)],[(4,.cells [.v (.slice none 0 0),.v (.slice none 0 0)] 25),(3,.cells [.v (.slice none 0 0),.v (.slice none 0 0)] 25),(2,.rws 0 5 (l.legs.map Zw) 86 4 4 (l.legs.map Zv) 95),(1,.cells (Ze p) 29),(0,.cells (Zh l) 25)],5,252,[]⟩ K:=by
  refine Zz [(3,⟨some 62,.callm 21 [.t 61],none,[1,2]⟩)] (by kernel_rfl) (Zs ?_ ( Yb))<;>dsimp only [go_sem,rA,rM,rS]
  ·
   refine YV [] (UB l hs) rfl rfl rfl ?_ ?_ ?_
   . dsimp only [Zh,go_sem,rA,rM,rS]
     simp [Za,KFR,KFL,KF,Zc,Zj,Zd]
   . dsimp only [go_sem,rA,rM,rS]
   dsimp only [go_sem,rA,rM,rS]
   refine ⟨_,ZcM [0,1,2,5,3,4] ?_ ?_ ?_ rfl rfl rfl,h63⟩<;>dsimp only [go_sem,rA,rM,rS]<;>simp [Zc,Zj,Zw,Zv,Zd,Zh,Ze,Za,Zf,KFR,KFL,KF,Zb,mtO,nbr]<;>repeat first | exact Zb (by simp [Zc,Zj,Zd,Ze,Za,KFR,KFL,KF]) | refine ⟨Zb (by simp [Zc,Zj,Zd,Ze,Za,KFR,KFL,KF]),?_⟩
 have h15:LAT Try.prog Y0 0 l10 4 15 ⟨[(60,.agg [.sl false 9 (l.wells.map Zc),.mr 2 0]),(62,.agg [.sl false 9 (l.wells.map Zc),.mr 3 0]),(11,I 0),(10,.sl false 2 (R.map Ze)),(9,B true),(7,.p 1 0),(4,.p 0 0),(2,I day),(1,I s)],[(3,.row 0 5 (l.legs.map Zj) 86),(2,.rws 0 5 (l.legs.map Zw) 86 4 4 (l.legs.map Zv) 95),(1,.cells (Ze p) 29),(0,.cells (Zh l) 25)],4,252,[]⟩ K:=by
  refine Zz [(4,o1 12 (.alloc [.slice none 0 0,.slice none 0 0] 25)),(5,o1 13 (.alloc [.slice none 0 0,.slice none 0 0] 25))] (by kernel_rfl) (Zs ?_ ( Zs ?_ ( Yb)))<;>dsimp only [go_sem,rA,rM,rS]
  ·
   refine ⟨_,?_,h31⟩
   (refine Zi ?_ ?_ ?_ rfl rfl<;>dsimp only [Zc,Zj,Zw,Zv,Zd,Zh,Ze,id,go_sem,rA,rM,rS]<;>simp [Zc,Zj,Zw,Zv,Zd,Zh,Ze,Za,Zf,KFR,KFL,KF,Zb,mtO,nbr])
  ·
   refine ⟨_,?_,h47⟩
   (refine Zi ?_ ?_ ?_ rfl rfl<;>dsimp only [Zc,Zj,Zw,Zv,Zd,Zh,Ze,id,go_sem,rA,rM,rS]<;>simp [Zc,Zj,Zw,Zv,Zd,Zh,Ze,Za,Zf,KFR,KFL,KF,Zb,mtO,nbr])
 have h23:LAT Try.prog Y0 0 l10 4 23 ⟨[(61,.agg (Zh l)),(60,.agg [.sl false 9 (l.wells.map Zc),.mr 2 0]),(12,.p 3 0),(11,I 0),(10,.sl false 2 (R.map Ze)),(9,B true),(7,.p 1 0),(4,.p 0 0),(2,I day),(1,I s)],[(3,.cells [.v (.slice none 0 0),.v (.slice none 0 0)] 25),(2,.rws 0 5 (l.legs.map Zw) 86 4 4 (l.legs.map Zv) 95),(1,.cells (Ze p) 29),(0,.cells (Zh l) 25)],4,252,[]⟩ K:=by
  refine Zz [(3,⟨some 62,.callm 21 [.t 61],none,[1,2]⟩),(5,o1 13 (.alloc [.slice none 0 0,.slice none 0 0] 25))] (by kernel_rfl) (Zs ?_ ( Zs ?_ ( Yb)))<;>dsimp only [go_sem,rA,rM,rS]
  ·
   refine YV [] (UB l hs) rfl rfl rfl ?_ ?_ ?_
   . dsimp only [Zh,go_sem,rA,rM,rS]
     simp [Za,KFR,KFL,KF,Zc,Zj,Zd]
   . dsimp only [go_sem,rA,rM,rS]
   dsimp only [go_sem,rA,rM,rS]
   refine ⟨_,ZcM [0,1,2,4,3] ?_ ?_ ?_ rfl rfl rfl,h31⟩<;>dsimp only [go_sem,rA,rM,rS]<;>simp [Zc,Zj,Zw,Zv,Zd,Zh,Ze,Za,Zf,KFR,KFL,KF,Zb,mtO,nbr]<;>repeat first | exact Zb (by simp [Zc,Zj,Zd,Ze,Za,KFR,KFL,KF]) | refine ⟨Zb (by simp [Zc,Zj,Zd,Ze,Za,KFR,KFL,KF]),?_⟩
  ·
   refine ⟨_,?_,h55⟩
   (refine Zi ?_ ?_ ?_ rfl rfl<;>dsimp only [Zc,Zj,Zw,Zv,Zd,Zh,Ze,id,go_sem,rA,rM,rS]<;>simp [Zc,Zj,Zw,Zv,Zd,Zh,Ze,Za,Zf,KFR,KFL,KF,Zb,mtO,nbr])
 have h39:LAT Try.prog Y0 0 l10 4 39 ⟨[(61,.agg (Zh l)),(60,.agg [.sl false 9 (l.wells.map Zc),.mr 2 0]),(13,.p 3 0),(11,I 0),(10,.sl false 2 (R.map Ze)),(9,B true),(7,.p 1 0),(4,.p 0 0),(2,I day),(1,I s)],[(3,.cells [.v (.slice none 0 0),.v (.slice none 0 0)] 25),(2,.rws 0 5 (l.legs.map Zw) 86 4 4 (l.legs.map Zv) 95),(1,.cells (Ze p) 29),(0,.cells (Zh l) 25)],4,252,[]⟩ K:=by
  refine Zz [(3,⟨some 62,.callm 21 [.t 61],none,[1,2]⟩),(4,o1 12 (.alloc [.slice none 0 0,.slice none 0 0] 25))] (by kernel_rfl) (Zs ?_ ( Zs ?_ ( Yb)))<;>dsimp only [go_sem,rA,rM,rS]
  ·
   refine YV [] (UB l hs) rfl rfl rfl ?_ ?_ ?_
   . dsimp only [Zh,go_sem,rA,rM,rS]
     simp [Za,KFR,KFL,KF,Zc,Zj,Zd]
   . dsimp only [go_sem,rA,rM,rS]
   dsimp only [go_sem,rA,rM,rS]
   refine ⟨_,ZcM [0,1,2,4,3] ?_ ?_ ?_ rfl rfl rfl,h47⟩<;>dsimp only [go_sem,rA,rM,rS]<;>simp [Zc,Zj,Zw,Zv,Zd,Zh,Ze,Za,Zf,KFR,KFL,KF,Zb,mtO,nbr]<;>repeat first | exact Zb (by simp [Zc,Zj,Zd,Ze,Za,KFR,KFL,KF]) | refine ⟨Zb (by simp [Zc,Zj,Zd,Ze,Za,KFR,KFL,KF]),?_⟩
  ·
   refine ⟨_,ZcM [0,1,2,4,3] ?_ ?_ ?_ rfl rfl rfl,h55⟩<;>dsimp only [go_sem,rA,rM,rS]<;>simp [Zc,Zj,Zw,Zv,Zd,Zh,Ze,Za,Zf,KFR,KFL,KF,Zb,mtO,nbr]<;>repeat first | exact Zb (by simp [Zc,Zj,Zd,Ze,Za,KFR,KFL,KF]) | refine ⟨Zb (by simp [Zc,Zj,Zd,Ze,Za,KFR,KFL,KF]),?_⟩
 have h51:LAT Try.prog Y0 0 l10 4 51 ⟨[(60,.agg [.sl false 9 (l.wells.map Zc),.mr 2 0]),(12,.p 3 0),(13,.p 4 0),(11,I 0),(10,.sl false 2 (R.map Ze)),(9,B true),(7,.p 1 0),(4,.p 0 0),(2,I day),(1,I s)],[(4,.cells [.v (.slice none 0 0),.v (.slice none 0 0)] 25),(3,.cells [.v (.slice none 0 0),.v (.slice none 0 0)] 25),(2,.rws 0 5 (l.legs.map Zw) 86 4 4 (l.legs.map Zv) 95),(1,.cells (Ze p) 29),(0,.cells (Zh l) 25)],5,252,[]⟩ K:=by
  refine Zz [(2,o1 61 (.ld (.t 4) 2 true))] (by kernel_rfl) (Zs ?_ ( Yb))<;>dsimp only [go_sem,rA,rM,rS]
  ·
   refine ⟨_,?_,h55⟩
   (refine Zi ?_ ?_ ?_ rfl rfl<;>dsimp only [Zc,Zj,Zw,Zv,Zd,Zh,Ze,id,go_sem,rA,rM,rS]<;>simp [Zc,Zj,Zw,Zv,Zd,Zh,Ze,Za,Zf,KFR,KFL,KF,Zb,mtO,nbr])
 have h53:LAT Try.prog Y0 0 l10 4 53 ⟨[(59,.agg (Zh l)),(61,.agg (Zh l)),(12,.p 2 0),(13,.p 3 0),(11,I 0),(10,.sl false 2 (R.map Ze)),(9,B true),(7,.p 1 0),(4,.p 0 0),(2,I day),(1,I s)],[(3,.cells [.v (.slice none 0 0),.v (.slice none 0 0)] 25),(2,.cells [.v (.slice none 0 0),.v (.slice none 0 0)] 25),(1,.cells (Ze p) 29),(0,.cells (Zh l) 25)],4,252,[]⟩ K:=by
  refine Zz [(1,⟨some 60,.callm 21 [.t 59],none,[0]⟩)] (by kernel_rfl) (Zs ?_ ( Yb))<;>dsimp only [go_sem,rA,rM,rS]
  ·
   refine YV [] (XA l hs) rfl rfl rfl ?_ ?_ ?_
   . dsimp only [Zh,go_sem,rA,rM,rS]
     simp [Za,KFR,KFL,KF,Zc,Zj,Zd]
   . dsimp only [go_sem,rA,rM,rS]
   dsimp only [go_sem,rA,rM,rS]
   refine ⟨_,ZcM [0,1,4,2,3] ?_ ?_ ?_ rfl rfl rfl,h55⟩<;>dsimp only [go_sem,rA,rM,rS]<;>simp [Zc,Zj,Zw,Zv,Zd,Zh,Ze,Za,Zf,KFR,KFL,KF,Zb,mtO,nbr]<;>repeat first | exact Zb (by simp [Zc,Zj,Zd,Ze,Za,KFR,KFL,KF]) | refine ⟨Zb (by simp [Zc,Zj,Zd,Ze,Za,KFR,KFL,KF]),?_⟩
 have h7:LAT Try.prog Y0 0 l10 5 7 ⟨[(61,.agg (Zh l)),(60,.agg [.sl false 9 (l.wells.map Zc),.mr 2 0]),(11,I 0),(10,.sl false 2 (R.map Ze)),(9,B true),(7,.p 1 0),(4,.p 0 0),(2,I day),(1,I s)],[(2,.rws 0 5 (l.legs.map Zw) 86 4 4 (l.legs.map Zv) 95),(1,.cells (Ze p) 29),(0,.cells (Zh l) 25)],3,252,[]⟩ K:=by
  refine Zz [(3,⟨some 62,.callm 21 [.t 61],none,[1,2]⟩),(4,o1 12 (.alloc [.slice none 0 0,.slice none 0 0] 25)),(5,o1 13 (.alloc [.slice none 0 0,.slice none 0 0] 25))] (by kernel_rfl) (Zs ?_ ( Zs ?_ ( Zs ?_ ( Yb))))<;>dsimp only [go_sem,rA,rM,rS]
  ·
   refine YV [] (UB l hs) rfl rfl rfl ?_ ?_ ?_
   . dsimp only [Zh,go_sem,rA,rM,rS]
     simp [Za,KFR,KFL,KF,Zc,Zj,Zd]
   . dsimp only [go_sem,rA,rM,rS]
   dsimp only [go_sem,rA,rM,rS]
   refine ⟨_,?_,h15⟩
   (refine Zi ?_ ?_ ?_ rfl rfl<;>dsimp only [Zc,Zj,Zw,Zv,Zd,Zh,Ze,id,go_sem,rA,rM,rS]<;>simp [Zc,Zj,Zw,Zv,Zd,Zh,Ze,Za,Zf,KFR,KFL,KF,Zb,mtO,nbr])
  ·
   refine ⟨_,?_,h23⟩
   (refine Zi ?_ ?_ ?_ rfl rfl<;>dsimp only [Zc,Zj,Zw,Zv,Zd,Zh,Ze,id,go_sem,rA,rM,rS]<;>simp [Zc,Zj,Zw,Zv,Zd,Zh,Ze,Za,Zf,KFR,KFL,KF,Zb,mtO,nbr])
  ·
   refine ⟨_,?_,h39⟩
   (refine Zi ?_ ?_ ?_ rfl rfl<;>dsimp only [Zc,Zj,Zw,Zv,Zd,Zh,Ze,id,go_sem,rA,rM,rS]<;>simp [Zc,Zj,Zw,Zv,Zd,Zh,Ze,Za,Zf,KFR,KFL,KF,Zb,mtO,nbr])
 have h19:LAT Try.prog Y0 0 l10 5 19 ⟨[(60,.agg [.sl false 9 (l.wells.map Zc),.mr 2 0]),(12,.p 3 0),(11,I 0),(10,.sl false 2 (R.map Ze)),(9,B true),(7,.p 1 0),(4,.p 0 0),(2,I day),(1,I s)],[(3,.cells [.v (.slice none 0 0),.v (.slice none 0 0)] 25),(2,.rws 0 5 (l.legs.map Zw) 86 4 4 (l.legs.map Zv) 95),(1,.cells (Ze p) 29),(0,.cells (Zh l) 25)],4,252,[]⟩ K:=by
  refine Zz [(2,o1 61 (.ld (.t 4) 2 true)),(5,o1 13 (.alloc [.slice none 0 0,.slice none 0 0] 25))] (by kernel_rfl) (Zs ?_ ( Zs ?_ ( Yb)))<;>dsimp only [go_sem,rA,rM,rS]
  ·
   refine ⟨_,?_,h23⟩
   (refine Zi ?_ ?_ ?_ rfl rfl<;>dsimp only [Zc,Zj,Zw,Zv,Zd,Zh,Ze,id,go_sem,rA,rM,rS]<;>simp [Zc,Zj,Zw,Zv,Zd,Zh,Ze,Za,Zf,KFR,KFL,KF,Zb,mtO,nbr])
  ·
   refine ⟨_,?_,h51⟩
   (refine Zi ?_ ?_ ?_ rfl rfl<;>dsimp only [Zc,Zj,Zw,Zv,Zd,Zh,Ze,id,go_sem,rA,rM,rS]<;>simp [Zc,Zj,Zw,Zv,Zd,Zh,Ze,Za,Zf,KFR,KFL,KF,Zb,mtO,nbr])
 have h21:LAT Try.prog Y0 0 l10 5 21 ⟨[(59,.agg (Zh l)),(61,.agg (Zh l)),(12,.p 2 0),(11,I 0),(10,.sl false 2 (R.map Ze)),(9,B true),(7,.p 1 0),(4,.p 0 0),(2,I day),(1,I s)],[(2,.cells [.v (.slice none 0 0),.v (.slice none 0 0)] 25),(1,.cells (Ze p) 29),(0,.cells (Zh l) 25)],3,252,[]⟩ K:=by
  refine Zz [(1,⟨some 60,.callm 21 [.t 59],none,[0]⟩),(5,o1 13 (.alloc [.slice none 0 0,.slice none 0 0] 25))] (by kernel_rfl) (Zs ?_ ( Zs ?_ ( Yb)))<;>dsimp only [go_sem,rA,rM,rS]
  ·
   refine YV [] (XA l hs) rfl rfl rfl ?_ ?_ ?_
   . dsimp only [Zh,go_sem,rA,rM,rS]
     simp [Za,KFR,KFL,KF,Zc,Zj,Zd]
   . dsimp only [go_sem,rA,rM,rS]
   dsimp only [go_sem,rA,rM,rS]
   refine ⟨_,ZcM [0,1,3,2] ?_ ?_ ?_ rfl rfl rfl,h23⟩<;>dsimp only [go_sem,rA,rM,rS]<;>simp [Zc,Zj,Zw,Zv,Zd,Zh,Ze,Za,Zf,KFR,KFL,KF,Zb,mtO,nbr]<;>repeat first | exact Zb (by simp [Zc,Zj,Zd,Ze,Za,KFR,KFL,KF]) | refine ⟨Zb (by simp [Zc,Zj,Zd,Ze,Za,KFR,KFL,KF]),?_⟩
  ·
   refine ⟨_,?_,h53⟩
   (refine Zi ?_ ?_ ?_ rfl rfl<;>dsimp only [Zc,Zj,Zw,Zv,Zd,Zh,Ze,id,go_sem,rA,rM,rS]<;>simp [Zc,Zj,Zw,Zv,Zd,Zh,Ze,Za,Zf,KFR,KFL,KF,Zb,mtO,nbr])
 have h35:LAT Try.prog Y0 0 l10 5 35 ⟨[(60,.agg [.sl false 9 (l.wells.map Zc),.mr 2 0]),(13,.p 3 0),(11,I 0),(10,.sl false 2 (R.map Ze)),(9,B true),(7,.p 1 0),(4,.p 0 0),(2,I day),(1,I s)],[(3,.cells [.v (.slice none 0 0),.v (.slice none 0 0)] 25),(2,.rws 0 5 (l.legs.map Zw) 86 4 4 (l.legs.map Zv) 95),(1,.cells (Ze p) 29),(0,.cells (Zh l) 25)],4,252,[]⟩ K:=by
  refine Zz [(2,o1 61 (.ld (.t 4) 2 true)),(4,o1 12 (.alloc [.slice none 0 0,.slice none 0 0] 25))] (by kernel_rfl) (Zs ?_ ( Zs ?_ ( Yb)))<;>dsimp only [go_sem,rA,rM,rS]
  ·
   refine ⟨_,?_,h39⟩
   (refine Zi ?_ ?_ ?_ rfl rfl<;>dsimp only [Zc,Zj,Zw,Zv,Zd,Zh,Ze,id,go_sem,rA,rM,rS]<;>simp [Zc,Zj,Zw,Zv,Zd,Zh,Ze,Za,Zf,KFR,KFL,KF,Zb,mtO,nbr])
  ·
   refine ⟨_,ZcM [0,1,2,4,3] ?_ ?_ ?_ rfl rfl rfl,h51⟩<;>dsimp only [go_sem,rA,rM,rS]<;>simp [Zc,Zj,Zw,Zv,Zd,Zh,Ze,Za,Zf,KFR,KFL,KF,Zb,mtO,nbr]<;>repeat first | exact Zb (by simp [Zc,Zj,Zd,Ze,Za,KFR,KFL,KF]) | refine ⟨Zb (by simp [Zc,Zj,Zd,Ze,Za,KFR,KFL,KF]),?_⟩
 have h37:LAT Try.prog Y0 0 l10 5 37 ⟨[(59,.agg (Zh l)),(61,.agg (Zh l)),(13,.p 2 0),(11,I 0),(10,.sl false 2 (R.map Ze)),(9,B true),(7,.p 1 0),(4,.p 0 0),(2,I day),(1,I s)],[(2,.cells [.v (.slice none 0 0),.v (.slice none 0 0)] 25),(1,.cells (Ze p) 29),(0,.cells (Zh l) 25)],3,252,[]⟩ K:=by
  refine Zz [(1,⟨some 60,.callm 21 [.t 59],none,[0]⟩),(4,o1 12 (.alloc [.slice none 0 0,.slice none 0 0] 25))] (by kernel_rfl) (Zs ?_ ( Zs ?_ ( Yb)))<;>dsimp only [go_sem,rA,rM,rS]
  ·
   refine YV [] (XA l hs) rfl rfl rfl ?_ ?_ ?_
   . dsimp only [Zh,go_sem,rA,rM,rS]
     simp [Za,KFR,KFL,KF,Zc,Zj,Zd]
   . dsimp only [go_sem,rA,rM,rS]
   dsimp only [go_sem,rA,rM,rS]
   refine ⟨_,ZcM [0,1,3,2] ?_ ?_ ?_ rfl rfl rfl,h39⟩<;>dsimp only [go_sem,rA,rM,rS]<;>simp [Zc,Zj,Zw,Zv,Zd,Zh,Ze,Za,Zf,KFR,KFL,KF,Zb,mtO,nbr]<;>repeat first | exact Zb (by simp [Zc,Zj,Zd,Ze,Za,KFR,KFL,KF]) | refine ⟨Zb (by simp [Zc,Zj,Zd,Ze,Za,KFR,KFL,KF]),?_⟩
  ·
   refine ⟨_,ZcM [0,1,3,2] ?_ ?_ ?_ rfl rfl rfl,h53⟩<;>dsimp only [go_sem,rA,rM,rS]<;>simp [Zc,Zj,Zw,Zv,Zd,Zh,Ze,Za,Zf,KFR,KFL,KF,Zb,mtO,nbr]<;>repeat first | exact Zb (by simp [Zc,Zj,Zd,Ze,Za,KFR,KFL,KF]) | refine ⟨Zb (by simp [Zc,Zj,Zd,Ze,Za,KFR,KFL,KF]),?_⟩
 have h49:LAT Try.prog Y0 0 l10 5 49 ⟨[(59,.agg (Zh l)),(12,.p 2 0),(13,.p 3 0),(11,I 0),(10,.sl false 2 (R.map Ze)),(9,B true),(7,.p 1 0),(4,.p 0 0),(2,I day),(1,I s)],[(3,.cells [.v (.slice none 0 0),.v (.slice none 0 0)] 25),(2,.cells [.v (.slice none 0 0),.v (.slice none 0 0)] 25),(1,.cells (Ze p) 29),(0,.cells (Zh l) 25)],4,252,[]⟩ K:=by
  refine Zz [(1,⟨some 60,.callm 21 [.t 59],none,[0]⟩),(2,o1 61 (.ld (.t 4) 2 true))] (by kernel_rfl) (Zs ?_ ( Zs ?_ ( Yb)))<;>dsimp only [go_sem,rA,rM,rS]
  ·
   refine YV [] (XA l hs) rfl rfl rfl ?_ ?_ ?_
   . dsimp only [Zh,go_sem,rA,rM,rS]
     simp [Za,KFR,KFL,KF,Zc,Zj,Zd]
   . dsimp only [go_sem,rA,rM,rS]
   dsimp only [go_sem,rA,rM,rS]
   refine ⟨_,ZcM [0,1,4,2,3] ?_ ?_ ?_ rfl rfl rfl,h51⟩<;>dsimp only [go_sem,rA,rM,rS]<;>simp [Zc,Zj,Zw,Zv,Zd,Zh,Ze,Za,Zf,KFR,KFL,KF,Zb,mtO,nbr]<;>repeat first | exact Zb (by simp [Zc,Zj,Zd,Ze,Za,KFR,KFL,KF]) | refine ⟨Zb (by simp [Zc,Zj,Zd,Ze,Za,KFR,KFL,KF]),?_⟩
  ·
   refine ⟨_,?_,h53⟩
   (refine Zi ?_ ?_ ?_ rfl rfl<;>dsimp only [Zc,Zj,Zw,Zv,Zd,Zh,Ze,id,go_sem,rA,rM,rS]<;>simp [Zc,Zj,Zw,Zv,Zd,Zh,Ze,Za,Zf,KFR,KFL,KF,Zb,mtO,nbr])
 have h52:LAT Try.prog Y0 0 l10 5 52 ⟨[(61,.agg (Zh l)),(12,.p 2 0),(13,.p 3 0),(11,I 0),(10,.sl false 2 (R.map Ze)),(9,B true),(7,.p 1 0),(4,.p 0 0),(2,I day),(1,I s)],[(3,.cells [.v (.slice none 0 0),.v (.slice none 0 0)] 25),(2,.cells [.v (.slice none 0 0),.v (.slice none 0 0)] 25),(1,.cells (Ze p) 29),(0,.cells (Zh l) 25)],4,252,[]⟩ K:=by
  refine Zz [(0,o1 59 (.ld (.t 4) 2 true))] (by kernel_rfl) (Zs ?_ ( Yb))<;>dsimp only [go_sem,rA,rM,rS]
  ·
   refine ⟨_,?_,h53⟩
   (refine Zi ?_ ?_ ?_ rfl rfl<;>dsimp only [Zc,Zj,Zw,Zv,Zd,Zh,Ze,id,go_sem,rA,rM,rS]<;>simp [Zc,Zj,Zw,Zv,Zd,Zh,Ze,Za,Zf,KFR,KFL,KF,Zb,mtO,nbr])
 have h3:LAT Try.prog Y0 0 l10 6 3 ⟨[(60,.agg [.sl false 9 (l.wells.map Zc),.mr 2 0]),(11,I 0),(10,.sl false 2 (R.map Ze)),(9,B true),(7,.p 1 0),(4,.p 0 0),(2,I day),(1,I s)],[(2,.rws 0 5 (l.legs.map Zw) 86 4 4 (l.legs.map Zv) 95),(1,.cells (Ze p) 29),(0,.cells (Zh l) 25)],3,252,[]⟩ K:=by
  refine Zz [(2,o1 61 (.ld (.t 4) 2 true)),(4,o1 12 (.alloc [.slice none 0 0,.slice none 0 0] 25)),(5,o1 13 (.alloc [.slice none 0 0,.slice none 0 0] 25))] (by kernel_rfl) (Zs ?_ ( Zs ?_ ( Zs ?_ ( Yb))))<;>dsimp only [go_sem,rA,rM,rS]
  ·
   refine ⟨_,?_,h7⟩
   (refine Zi ?_ ?_ ?_ rfl rfl<;>dsimp only [Zc,Zj,Zw,Zv,Zd,Zh,Ze,id,go_sem,rA,rM,rS]<;>simp [Zc,Zj,Zw,Zv,Zd,Zh,Ze,Za,Zf,KFR,KFL,KF,Zb,mtO,nbr])
  ·
   refine ⟨_,?_,h19⟩
   (refine Zi ?_ ?_ ?_ rfl rfl<;>dsimp only [Zc,Zj,Zw,Zv,Zd,Zh,Ze,id,go_sem,rA,rM,rS]<;>simp [Zc,Zj,Zw,Zv,Zd,Zh,Ze,Za,Zf,KFR,KFL,KF,Zb,mtO,nbr])
  ·
   refine ⟨_,?_,h35⟩
   (refine Zi ?_ ?_ ?_ rfl rfl<;>dsimp only [Zc,Zj,Zw,Zv,Zd,Zh,Ze,id,go_sem,rA,rM,rS]<;>simp [Zc,Zj,Zw,Zv,Zd,Zh,Ze,Za,Zf,KFR,KFL,KF,Zb,mtO,nbr])
 have h5:LAT Try.prog Y0 0 l10 6 5 ⟨[(59,.agg (Zh l)),(61,.agg (Zh l)),(11,I 0),(10,.sl false 2 (R.map Ze)),(9,B true),(7,.p 1 0),(4,.p 0 0),(2,I day),(1,I s)],[(1,.cells (Ze p) 29),(0,.cells (Zh l) 25)],2,252,[]⟩ K:=by
  refine Zz [(1,⟨some 60,.callm 21 [.t 59],none,[0]⟩),(4,o1 12 (.alloc [.slice none 0 0,.slice none 0 0] 25)),(5,o1 13 (.alloc [.slice none 0 0,.slice none 0 0] 25))] (by kernel_rfl) (Zs ?_ ( Zs ?_ ( Zs ?_ ( Yb))))<;>dsimp only [go_sem,rA,rM,rS]
  ·
   refine YV [] (XA l hs) rfl rfl rfl ?_ ?_ ?_
   . dsimp only [Zh,go_sem,rA,rM,rS]
     simp [Za,KFR,KFL,KF,Zc,Zj,Zd]
   . dsimp only [go_sem,rA,rM,rS]
   dsimp only [go_sem,rA,rM,rS]
   refine ⟨_,?_,h7⟩
   (refine Zi ?_ ?_ ?_ rfl rfl<;>dsimp only [Zc,Zj,Zw,Zv,Zd,Zh,Ze,id,go_sem,rA,rM,rS]<;>simp [Zc,Zj,Zw,Zv,Zd,Zh,Ze,Za,Zf,KFR,KFL,KF,Zb,mtO,nbr])
  ·
   refine ⟨_,?_,h21⟩
   (refine Zi ?_ ?_ ?_ rfl rfl<;>dsimp only [Zc,Zj,Zw,Zv,Zd,Zh,Ze,id,go_sem,rA,rM,rS]<;>simp [Zc,Zj,Zw,Zv,Zd,Zh,Ze,Za,Zf,KFR,KFL,KF,Zb,mtO,nbr])
  ·
   refine ⟨_,?_,h37⟩
   (refine Zi ?_ ?_ ?_ rfl rfl<;>dsimp only [Zc,Zj,Zw,Zv,Zd,Zh,Ze,id,go_sem,rA,rM,rS]<;>simp [Zc,Zj,Zw,Zv,Zd,Zh,Ze,Za,Zf,KFR,KFL,KF,Zb,mtO,nbr])
 have h17:LAT Try.prog Y0 0 l10 6 17 ⟨[(59,.agg (Zh l)),(12,.p 2 0),(11,I 0),(10,.sl false 2 (R.map Ze)),(9,B true),(7,.p 1 0),(4,.p 0 0),(2,I day),(1,I s)],[(2,.cells [.v (.slice none 0 0),.v (.slice none 0 0)] 25),(1,.cells (Ze p) 29),(0,.cells (Zh l) 25)],3,252,[]⟩ K:=by
  refine Zz [(1,⟨some 60,.callm 21 [.t 59],none,[0]⟩),(2,o1 61 (.ld (.t 4) 2 true)),(5,o1 13 (.alloc [.slice none 0 0,.slice none 0 0] 25))] (by kernel_rfl) (Zs ?_ ( Zs ?_ ( Zs ?_ ( Yb))))<;>dsimp only [go_sem,rA,rM,rS]
  ·
   refine YV [] (XA l hs) rfl rfl rfl ?_ ?_ ?_
   . dsimp only [Zh,go_sem,rA,rM,rS]
     simp [Za,KFR,KFL,KF,Zc,Zj,Zd]
   . dsimp only [go_sem,rA,rM,rS]
   dsimp only [go_sem,rA,rM,rS]
   refine ⟨_,ZcM [0,1,3,2] ?_ ?_ ?_ rfl rfl rfl,h19⟩<;>dsimp only [go_sem,rA,rM,rS]<;>simp [Zc,Zj,Zw,Zv,Zd,Zh,Ze,Za,Zf,KFR,KFL,KF,Zb,mtO,nbr]<;>repeat first | exact Zb (by simp [Zc,Zj,Zd,Ze,Za,KFR,KFL,KF]) | refine ⟨Zb (by simp [Zc,Zj,Zd,Ze,Za,KFR,KFL,KF]),?_⟩
  ·
   refine ⟨_,?_,h21⟩
   (refine Zi ?_ ?_ ?_ rfl rfl<;>dsimp only [Zc,Zj,Zw,Zv,Zd,Zh,Ze,id,go_sem,rA,rM,rS]<;>simp [Zc,Zj,Zw,Zv,Zd,Zh,Ze,Za,Zf,KFR,KFL,KF,Zb,mtO,nbr])
  ·
   refine ⟨_,?_,h49⟩
   (refine Zi ?_ ?_ ?_ rfl rfl<;>dsimp only [Zc,Zj,Zw,Zv,Zd,Zh,Ze,id,go_sem,rA,rM,rS]<;>simp [Zc,Zj,Zw,Zv,Zd,Zh,Ze,Za,Zf,KFR,KFL,KF,Zb,mtO,nbr])
 have h20:LAT Try.prog Y0 0 l10 6 20 ⟨[(61,.agg (Zh l)),(12,.p 2 0),(11,I 0),(10,.sl false 2 (R.map Ze)),(9,B true),(7,.p 1 0),(4,.p 0 0),(2,I day),(1,I s)],[(2,.cells [.v (.slice none 0 0),.v (.slice none 0 0)] 25),(1,.cells (Ze p) 29),(0,.cells (Zh l) 25)],3,252,[]⟩ K:=by
  refine Zz [(0,o1 59 (.ld (.t 4) 2 true)),(5,o1 13 (.alloc [.slice none 0 0,.slice none 0 0] 25))] (by kernel_rfl) (Zs ?_ ( Zs ?_ ( Yb)))<;>dsimp only [go_sem,rA,rM,rS]
  ·
   refine ⟨_,?_,h21⟩
   (refine Zi ?_ ?_ ?_ rfl rfl<;>dsimp only [Zc,Zj,Zw,Zv,Zd,Zh,Ze,id,go_sem,rA,rM,rS]<;>simp [Zc,Zj,Zw,Zv,Zd,Zh,Ze,Za,Zf,KFR,KFL,KF,Zb,mtO,nbr])
  ·
   refine ⟨_,?_,h52⟩
   (refine Zi ?_ ?_ ?_ rfl rfl<;>dsimp only [Zc,Zj,Zw,Zv,Zd,Zh,Ze,id,go_sem,rA,rM,rS]<;>simp [Zc,Zj,Zw,Zv,Zd,Zh,Ze,Za,Zf,KFR,KFL,KF,Zb,mtO,nbr])
 have h33:LAT Try.prog Y0 0 l10 6 33 ⟨[(59,.agg (Zh l)),(13,.p 2 0),(11,I 0),(10,.sl false 2 (R.map Ze)),(9,B true),(7,.p 1 0),(4,.p 0 0),(2,I day),(1,I s)],[(2,.cells [.v (.slice none 0 0),.v (.slice none 0 0)] 25),(1,.cells (Ze p) 29),(0,.cells (Zh l) 25)],3,252,[]⟩ K:=by
  refine Zz [(1,⟨some 60,.callm 21 [.t 59],none,[0]⟩),(2,o1 61 (.ld (.t 4) 2 true)),(4,o1 12 (.alloc [.slice none 0 0,.slice none 0 0] 25))] (by kernel_rfl) (Zs ?_ ( Zs ?_ ( Zs ?_ ( Yb))))<;>dsimp only [go_sem,rA,rM,rS]
  ·
   refine YV [] (XA l hs) rfl rfl rfl ?_ ?_ ?_
   . dsimp only [Zh,go_sem,rA,rM,rS]
     simp [Za,KFR,KFL,KF,Zc,Zj,Zd]
   . dsimp only [go_sem,rA,rM,rS]
   dsimp only [go_sem,rA,rM,rS]
   refine ⟨_,ZcM [0,1,3,2] ?_ ?_ ?_ rfl rfl rfl,h35⟩<;>dsimp only [go_sem,rA,rM,rS]<;>simp [Zc,Zj,Zw,Zv,Zd,Zh,Ze,Za,Zf,KFR,KFL,KF,Zb,mtO,nbr]<;>repeat first | exact Zb (by simp [Zc,Zj,Zd,Ze,Za,KFR,KFL,KF]) | refine ⟨Zb (by simp [Zc,Zj,Zd,Ze,Za,KFR,KFL,KF]),?_⟩
  ·
   refine ⟨_,?_,h37⟩
   (refine Zi ?_ ?_ ?_ rfl rfl<;>dsimp only [Zc,Zj,Zw,Zv,Zd,Zh,Ze,id,go_sem,rA,rM,rS]<;>simp [Zc,Zj,Zw,Zv,Zd,Zh,Ze,Za,Zf,KFR,KFL,KF,Zb,mtO,nbr])
  ·
   refine ⟨_,ZcM [0,1,3,2] ?_ ?_ ?_ rfl rfl rfl,h49⟩<;>dsimp only [go_sem,rA,rM,rS]<;>simp [Zc,Zj,Zw,Zv,Zd,Zh,Ze,Za,Zf,KFR,KFL,KF,Zb,mtO,nbr]<;>repeat first | exact Zb (by simp [Zc,Zj,Zd,Ze,Za,KFR,KFL,KF]) | refine ⟨Zb (by simp [Zc,Zj,Zd,Ze,Za,KFR,KFL,KF]),?_⟩
 have h36:LAT Try.prog Y0 0 l10 6 36 ⟨[(61,.agg (Zh l)),(13,.p 2 0),(11,I 0),(10,.sl false 2 (R.map Ze)),(9,B true),(7,.p 1 0),(4,.p 0 0),(2,I day),(1,I s)],[(2,.cells [.v (.slice none 0 0),.v (.slice none 0 0)] 25),(1,.cells (Ze p) 29),(0,.cells (Zh l) 25)],3,252,[]⟩ K:=by
  refine Zz [(0,o1 59 (.ld (.t 4) 2 true)),(4,o1 12 (.alloc [.slice none 0 0,.slice none 0 0] 25))] (by kernel_rfl) (Zs ?_ ( Zs ?_ ( Yb)))<;>dsimp only [go_sem,rA,rM,rS]
  ·
   refine ⟨_,?_,h37⟩
   (refine Zi ?_ ?_ ?_ rfl rfl<;>dsimp only [Zc,Zj,Zw,Zv,Zd,Zh,Ze,id,go_sem,rA,rM,rS]<;>simp [Zc,Zj,Zw,Zv,Zd,Zh,Ze,Za,Zf,KFR,KFL,KF,Zb,mtO,nbr])
  ·
   refine ⟨_,ZcM [0,1,3,2] ?_ ?_ ?_ rfl rfl rfl,h52⟩<;>dsimp only [go_sem,rA,rM,rS]<;>simp [Zc,Zj,Zw,Zv,Zd,Zh,Ze,Za,Zf,KFR,KFL,KF,Zb,mtO,nbr]<;>repeat first | exact Zb (by simp [Zc,Zj,Zd,Ze,Za,KFR,KFL,KF]) | refine ⟨Zb (by simp [Zc,Zj,Zd,Ze,Za,KFR,KFL,KF]),?_⟩
 have h48:LAT Try.prog Y0 0 l10 6 48 ⟨[(12,.p 2 0),(13,.p 3 0),(11,I 0),(10,.sl false 2 (R.map Ze)),(9,B true),(7,.p 1 0),(4,.p 0 0),(2,I day),(1,I s)],[(3,.cells [.v (.slice none 0 0),.v (.slice none 0 0)] 25),(2,.cells [.v (.slice none 0 0),.v (.slice none 0 0)] 25),(1,.cells (Ze p) 29),(0,.cells (Zh l) 25)],4,252,[]⟩ K:=by
  refine Zz [(0,o1 59 (.ld (.t 4) 2 true)),(2,o1 61 (.ld (.t 4) 2 true))] (by kernel_rfl) (Zs ?_ ( Zs ?_ ( Yb)))<;>dsimp only [go_sem,rA,rM,rS]
  ·
   refine ⟨_,?_,h49⟩
   (refine Zi ?_ ?_ ?_ rfl rfl<;>dsimp only [Zc,Zj,Zw,Zv,Zd,Zh,Ze,id,go_sem,rA,rM,rS]<;>simp [Zc,Zj,Zw,Zv,Zd,Zh,Ze,Za,Zf,KFR,KFL,KF,Zb,mtO,nbr])
  ·
   refine ⟨_,?_,h52⟩
   (refine Zi ?_ ?_ ?_ rfl rfl<;>dsimp only [Zc,Zj,Zw,Zv,Zd,Zh,Ze,id,go_sem,rA,rM,rS]<;>simp [Zc,Zj,Zw,Zv,Zd,Zh,Ze,Za,Zf,KFR,KFL,KF,Zb,mtO,nbr])
 have h1:LAT Try.prog Y0 0 l10 7 1 ⟨[(59,.agg (Zh l)),(11,I 0),(10,.sl false 2 (R.map Ze)),(9,B true),(7,.p 1 0),(4,.p 0 0),(2,I day),(1,I s)],[(1,.cells (Ze p) 29),(0,.cells (Zh l) 25)],2,252,[]⟩ K:=by
  refine Zz [(1,⟨some 60,.callm 21 [.t 59],none,[0]⟩),(2,o1 61 (.ld (.t 4) 2 true)),(4,o1 12 (.alloc [.slice none 0 0,.slice none 0 0] 25)),(5,o1 13 (.alloc [.slice none 0 0,.slice none 0 0] 25))] (by kernel_rfl) (Zs ?_ ( Zs ?_ ( Zs ?_ ( Zs ?_ ( Yb)))))<;>dsimp only [go_sem,rA,rM,rS]
  ·
   refine YV [] (XA l hs) rfl rfl rfl ?_ ?_ ?_
   . dsimp only [Zh,go_sem,rA,rM,rS]
     simp [Za,KFR,KFL,KF,Zc,Zj,Zd]
   . dsimp only [go_sem,rA,rM,rS]
   dsimp only [go_sem,rA,rM,rS]
   refine ⟨_,?_,h3⟩
   (refine Zi ?_ ?_ ?_ rfl rfl<;>dsimp only [Zc,Zj,Zw,Zv,Zd,Zh,Ze,id,go_sem,rA,rM,rS]<;>simp [Zc,Zj,Zw,Zv,Zd,Zh,Ze,Za,Zf,KFR,KFL,KF,Zb,mtO,nbr])
  ·
   refine ⟨_,?_,h5⟩
   (refine Zi ?_ ?_ ?_ rfl rfl<;>dsimp only [Zc,Zj,Zw,Zv,Zd,Zh,Ze,id,go_sem,rA,rM,rS]<;>simp [Zc,Zj,Zw,Zv,Zd,Zh,Ze,Za,Zf,KFR,KFL,KF,Zb,mtO,nbr])
  ·
   refine ⟨_,?_,h17⟩
   (refine Zi ?_ ?_ ?_ rfl rfl<;>dsimp only [Zc,Zj,Zw,Zv,Zd,Zh,Ze,id,go_sem,rA,rM,rS]<;>simp [Zc,Zj,Zw,Zv,Zd,Zh,Ze,Za,Zf,KFR,KFL,KF,Zb,mtO,nbr])
  ·
   refine ⟨_,?_,h33⟩
   (refine Zi ?_ ?_ ?_ rfl rfl<;>dsimp only [Zc,Zj,Zw,Zv,Zd,Zh,Ze,id,go_sem,rA,rM,rS]<;>simp [Zc,Zj,Zw,Zv,Zd,Zh,Ze,Za,Zf,KFR,KFL,KF,Zb,mtO,nbr])
 have h4:LAT Try.prog Y0 0 l10 7 4 ⟨[(61,.agg (Zh l)),(11,I 0),(10,.sl false 2 (R.map Ze)),(9,B true),(7,.p 1 0),(4,.p 0 0),(2,I day),(1,I s)],[(1,.cells (Ze p) 29),(0,.cells (Zh l) 25)],2,252,[]⟩ K:=by
  refine Zz [(0,o1 59 (.ld (.t 4) 2 true)),(4,o1 12 (.alloc [.slice none 0 0,.slice none 0 0] 25)),(5,o1 13 (.alloc [.slice none 0 0,.slice none 0 0] 25))] (by kernel_rfl) (Zs ?_ ( Zs ?_ ( Zs ?_ ( Yb))))<;>dsimp only [go_sem,rA,rM,rS]
  ·
   refine ⟨_,?_,h5⟩
   (refine Zi ?_ ?_ ?_ rfl rfl<;>dsimp only [Zc,Zj,Zw,Zv,Zd,Zh,Ze,id,go_sem,rA,rM,rS]<;>simp [Zc,Zj,Zw,Zv,Zd,Zh,Ze,Za,Zf,KFR,KFL,KF,Zb,mtO,nbr])
  ·
   refine ⟨_,?_,h20⟩
   (refine Zi ?_ ?_ ?_ rfl rfl<;>dsimp only [Zc,Zj,Zw,Zv,Zd,Zh,Ze,id,go_sem,rA,rM,rS]<;>simp [Zc,Zj,Zw,Zv,Zd,Zh,Ze,Za,Zf,KFR,KFL,KF,Zb,mtO,nbr])
  ·
   refine ⟨_,?_,h36⟩
   (refine Zi ?_ ?_ ?_ rfl rfl<;>dsimp only [Zc,Zj,Zw,Zv,Zd,Zh,Ze,id,go_sem,rA,rM,rS]<;>simp [Zc,Zj,Zw,Zv,Zd,Zh,Ze,Za,Zf,KFR,KFL,KF,Zb,mtO,nbr])
 have h16:LAT Try.prog Y0 0 l10 7 16 ⟨[(12,.p 2 0),(11,I 0),(10,.sl false 2 (R.map Ze)),(9,B true),(7,.p 1 0),(4,.p 0 0),(2,I day),(1,I s)],[(2,.cells [.v (.slice none 0 0),.v (.slice none 0 0)] 25),(1,.cells (Ze p) 29),(0,.cells (Zh l) 25)],3,252,[]⟩ K:=by
  refine Zz [(0,o1 59 (.ld (.t 4) 2 true)),(2,o1 61 (.ld (.t 4) 2 true)),(5,o1 13 (.alloc [.slice none 0 0,.slice none 0 0] 25))] (by kernel_rfl) (Zs ?_ ( Zs ?_ ( Zs ?_ ( Yb))))<;>dsimp only [go_sem,rA,rM,rS]
  ·
   refine ⟨_,?_,h17⟩
   (refine Zi ?_ ?_ ?_ rfl rfl<;>dsimp only [Zc,Zj,Zw,Zv,Zd,Zh,Ze,id,go_sem,rA,rM,rS]<;>simp [Zc,Zj,Zw,Zv,Zd,Zh,Ze,Za,Zf,KFR,KFL,KF,Zb,mtO,nbr])
  ·
   refine ⟨_,?_,h20⟩
   (refine Zi ?_ ?_ ?_ rfl rfl<;>dsimp only [Zc,Zj,Zw,Zv,Zd,Zh,Ze,id,go_sem,rA,rM,rS]<;>simp [Zc,Zj,Zw,Zv,Zd,Zh,Ze,Za,Zf,KFR,KFL,KF,Zb,mtO,nbr])
  ·
   refine ⟨_,?_,h48⟩
   (refine Zi ?_ ?_ ?_ rfl rfl<;>dsimp only [Zc,Zj,Zw,Zv,Zd,Zh,Ze,id,go_sem,rA,rM,rS]<;>simp [Zc,Zj,Zw,Zv,Zd,Zh,Ze,Za,Zf,KFR,KFL,KF,Zb,mtO,nbr])
 have h32:LAT Try.prog Y0 0 l10 7 32 ⟨[(13,.p 2 0),(11,I 0),(10,.sl false 2 (R.map Ze)),(9,B true),(7,.p 1 0),(4,.p 0 0),(2,I day),(1,I s)],[(2,.cells [.v (.slice none 0 0),.v (.slice none 0 0)] 25),(1,.cells (Ze p) 29),(0,.cells (Zh l) 25)],3,252,[]⟩ K:=by
  refine Zz [(0,o1 59 (.ld (.t 4) 2 true)),(2,o1 61 (.ld (.t 4) 2 true)),(4,o1 12 (.alloc [.slice none 0 0,.slice none 0 0] 25))] (by kernel_rfl) (Zs ?_ ( Zs ?_ ( Zs ?_ ( Yb))))<;>dsimp only [go_sem,rA,rM,rS]
  ·
   refine ⟨_,?_,h33⟩
   (refine Zi ?_ ?_ ?_ rfl rfl<;>dsimp only [Zc,Zj,Zw,Zv,Zd,Zh,Ze,id,go_sem,rA,rM,rS]<;>simp [Zc,Zj,Zw,Zv,Zd,Zh,Ze,Za,Zf,KFR,KFL,KF,Zb,mtO,nbr])
  ·
   refine ⟨_,?_,h36⟩
   (refine Zi ?_ ?_ ?_ rfl rfl<;>dsimp only [Zc,Zj,Zw,Zv,Zd,Zh,Ze,id,go_sem,rA,rM,rS]<;>simp [Zc,Zj,Zw,Zv,Zd,Zh,Ze,Za,Zf,KFR,KFL,KF,Zb,mtO,nbr])
  ·
   refine ⟨_,ZcM [0,1,3,2] ?_ ?_ ?_ rfl rfl rfl,h48⟩<;>dsimp only [go_sem,rA,rM,rS]<;>simp [Zc,Zj,Zw,Zv,Zd,Zh,Ze,Za,Zf,KFR,KFL,KF,Zb,mtO,nbr]<;>repeat first | exact Zb (by simp [Zc,Zj,Zd,Ze,Za,KFR,KFL,KF]) | refine ⟨Zb (by simp [Zc,Zj,Zd,Ze,Za,KFR,KFL,KF]),?_⟩
 have h0:LAT Try.prog Y0 0 l10 8 0 ⟨[(11,I 0),(10,.sl false 2 (R.map Ze)),(9,B true),(7,.p 1 0),(4,.p 0 0),(2,I day),(1,I s)],[(1,.cells (Ze p) 29),(0,.cells (Zh l) 25)],2,252,[]⟩ K:=by
  refine Zz [(0,o1 59 (.ld (.t 4) 2 true)),(2,o1 61 (.ld (.t 4) 2 true)),(4,o1 12 (.alloc [.slice none 0 0,.slice none 0 0] 25)),(5,o1 13 (.alloc [.slice none 0 0,.slice none 0 0] 25))] (by kernel_rfl) (Zs ?_ ( Zs ?_ ( Zs ?_ ( Zs ?_ ( Yb)))))<;>dsimp only [go_sem,rA,rM,rS]
  ·
   refine ⟨_,?_,h1⟩
   (refine Zi ?_ ?_ ?_ rfl rfl<;>dsimp only [Zc,Zj,Zw,Zv,Zd,Zh,Ze,id,go_sem,rA,rM,rS]<;>simp [Zc,Zj,Zw,Zv,Zd,Zh,Ze,Za,Zf,KFR,KFL,KF,Zb,mtO,nbr])
  ·
   refine ⟨_,?_,h4⟩
   (refine Zi ?_ ?_ ?_ rfl rfl<;>dsimp only [Zc,Zj,Zw,Zv,Zd,Zh,Ze,id,go_sem,rA,rM,rS]<;>simp [Zc,Zj,Zw,Zv,Zd,Zh,Ze,Za,Zf,KFR,KFL,KF,Zb,mtO,nbr])
  ·
   refine ⟨_,?_,h16⟩
   (refine Zi ?_ ?_ ?_ rfl rfl<;>dsimp only [Zc,Zj,Zw,Zv,Zd,Zh,Ze,id,go_sem,rA,rM,rS]<;>simp [Zc,Zj,Zw,Zv,Zd,Zh,Ze,Za,Zf,KFR,KFL,KF,Zb,mtO,nbr])
  ·
   refine ⟨_,?_,h32⟩
   (refine Zi ?_ ?_ ?_ rfl rfl<;>dsimp only [Zc,Zj,Zw,Zv,Zd,Zh,Ze,id,go_sem,rA,rM,rS]<;>simp [Zc,Zj,Zw,Zv,Zd,Zh,Ze,Za,Zf,KFR,KFL,KF,Zb,mtO,nbr])
 exact h0
end Go.Proofs.Ytkjldleglbbkeaa
namespace Go.Azalai
theorem Zcz {k k':Bool} {l l':Land} {p p':Span} (h:OkLP l p) (h':OkLP l' p') {s day v:Int} (hd:0<=day) (hd':day<=100000) (h0:0<=s) (h1:s < l.wells.length)
 (hx:∀ x' ∈ l'.legs,∃ x ∈ l.legs,x.a=x'.a/\x.b=x'.b/\∀ t,t<=100001->ZF k x p t<=ZF k' x' p' t):Zx k l p s day v<=Zx k' l' p' s day v:=by
 have hb:=fun v=>XW (k:=k) (v:=v) h hd (by omega) h0 h1
 have hc:ZcG k' l' p' (Zx k l p s day):=fun x' hx'=>by
  obtain ⟨x,hm,e1,e2,e3⟩:=hx x' hx'
  have:=ZbT (k:=k) h hd (by omega) h0 h1 x hm
  rw [e1,e2] at this
  have q1:=e3 (Zx k l p s day x'.a) (hb _).2
  have q2:=e3 (Zx k l p s day x'.b) (hb _).2
  omega
 rcases Xv (k:=k') (l:=l') (p:=p') (s:=s) (day:=day) (v:=v) with e | ⟨a,e⟩
 . have:=hb v;omega
 . exact UZ h' hc e (by rw [Zcl h hd (by omega) h0 h1];exact Int.le_refl _)
theorem Zij {k k':Bool} {x y:Leg} {p q:Span} (hx:GoodLeg x) (hy:GoodLeg y) (hp:ZZ p=true) (hq:ZZ q=true) (hn:nK k x p<=nK k' y q) (hg:∀ g ∈ y.gates,oK k' g<=sK k' g->∃ f ∈ x.gates,oK k f<=oK k' g/\sK k' g<=sK k f) {t:Int} (ht:t<=100001):ZF k x p t<=ZF k' y q t:=by
 have b1:=YF (k:=k) hx hp ht
 have b2:=YF (k:=k') hy hq ht
 have h1:=ZfI (k:=k) hx hp
 have h2:=ZfI (k:=k') hy hq
 have key:leK k x p t<=leK k' y q t:=by
  by_cases hu:leK k' y q t<=100000
  . obtain ⟨g,hm,q1,q2⟩:=(ZbX (k:=k') (t:=t) (u:=leK k' y q t) hy hq hu).1 (Int.le_refl _)
    obtain ⟨f,hf,q3,q4⟩:=hg g hm (by omega)
    exact (ZbX hx hp hu).2 ⟨f,hf,by omega,by omega⟩
  . omega
 simp only [ZF];omega
def ZtW (g:Gate):Gate:=⟨⟨g.opens.lo,g.opens.lo⟩,⟨g.shuts.hi,g.shuts.hi⟩⟩
def Zod (g:Gate):Gate:=⟨⟨g.opens.hi,g.opens.hi⟩,⟨g.shuts.lo,g.shuts.lo⟩⟩
def WY (g:Gate):Bool:=decide (g.opens.hi<=g.shuts.lo)
def Zjr (x:Leg):Leg:=⟨x.a,x.b,⟨x.long.lo,x.long.lo⟩,x.gates.map ZtW⟩
def Zhg (x:Leg):Leg:=⟨x.a,x.b,⟨x.long.hi,x.long.hi⟩,(x.gates.filter WY).map Zod⟩
def ZkD (l:Land):Land:=⟨l.wells,l.legs.map Zjr⟩
def ZmN (l:Land):Land:=⟨l.wells,l.legs.map Zhg⟩
theorem ZaP:∀ {l:List Gate} {n:Int},ZP n l=true->ZP n (l.map ZtW)=true
 | [],_,_=>rfl
 | g :: l,n,h=>by
  simp only [ZP,List.map_cons,ZtW,Bool.and_eq_true,XR,inR,decide_eq_true_eq] at h ⊢
  exact ⟨by omega,ZaP h.2⟩
theorem Vj:∀ {l:List Gate} {n n':Int},ZP n l=true->n'<=n->ZP n' ((l.filter WY).map Zod)=true
 | [],_,_,_,_=>rfl
 | g :: l,n,n',h,hn=>by
  simp only [ZP,Bool.and_eq_true,XR,inR,decide_eq_true_eq] at h
  rw [List.filter_cons]
  split
  . rename_i ht
    simp only [WY,decide_eq_true_eq] at ht
    simp only [ZP,List.map_cons,Zod,Bool.and_eq_true,XR,inR,decide_eq_true_eq]
    exact ⟨by omega,Vj h.2 (by omega)⟩
  . exact Vj h.2 (by omega)
theorem Ztn {n:Int} {x:Leg} (h:YA n x=true):YA n (Zjr x)=true:=by
 simp only [YA,Zjr,Bool.and_eq_true,XR,decide_eq_true_eq,List.length_map] at h ⊢
 exact ⟨⟨⟨h.1.1.1,by have:=h.1.1.2;show XR 1 1000000 ⟨x.long.lo,x.long.lo⟩=true;simp only [XR,decide_eq_true_eq];omega⟩,h.1.2⟩,ZaP h.2⟩
theorem ZqF {n:Int} {x:Leg} (h:YA n x=true):YA n (Zhg x)=true:=by
 simp only [YA,Zhg,Bool.and_eq_true,XR,decide_eq_true_eq,List.length_map] at h ⊢
 exact ⟨⟨⟨h.1.1.1,by have:=h.1.1.2;show XR 1 1000000 ⟨x.long.hi,x.long.hi⟩=true;simp only [XR,decide_eq_true_eq];omega⟩,by have:=List.length_filter_le WY x.gates;omega⟩,Vj h.2 (Int.le_refl _)⟩
theorem ZiZ {l:Land} {f:Leg->Leg} (hl:ZU l=true) (hf:∀ x ∈ l.legs,YA l.wells.length x=true->YA l.wells.length (f x)=true):ZU ⟨l.wells,l.legs.map f⟩=true:=by
 simp only [ZU,Bool.and_eq_true,List.all_eq_true,decide_eq_true_eq,List.length_map] at hl ⊢
 refine ⟨hl.1,fun y hy=>?_⟩
 obtain ⟨x,hx,rfl⟩:=List.mem_map.1 hy
 exact hf x hx (hl.2 x hx)
theorem ZfT {l:Land} {p q:Span} {k0 k:Bool} {f:Leg->Leg} (hl:OkLP l p) (hm:OkLP ⟨l.wells,l.legs.map f⟩ q) (hab:∀ x,(f x).a=x.a/\(f x).b=x.b) (hn:∀ x,nK k (f x) q=nK k0 x p)
 (h1:∀ x ∈ l.legs,∀ g ∈ x.gates,oK k0 g<=sK k0 g->∃ g' ∈ (f x).gates,oK k g'=oK k0 g/\sK k g'=sK k0 g) (h2:∀ x ∈ l.legs,∀ g' ∈ (f x).gates,∃ g ∈ x.gates,oK k g'=oK k0 g/\sK k g'=sK k0 g)
 {s day v:Int} (hd:0<=day) (hd':day<=100000) (h0:0<=s) (hs:s < l.wells.length):Zx k ⟨l.wells,l.legs.map f⟩ q s day v=Zx k0 l p s day v:=by
 have hgl:∀ x ∈ l.legs,GoodLeg x:=fun x hx=>Yj hl.land x hx
 have hgm:∀ x ∈ l.legs,GoodLeg (f x):=fun x hx=>Yj hm.land _ (List.mem_map.2 ⟨x,hx,rfl⟩)
 refine Int.le_antisymm ?_ ?_
 . refine Zcz hm hl hd hd' h0 hs fun x hx=>⟨f x,List.mem_map.2 ⟨x,hx,rfl⟩,(hab x).1,(hab x).2,fun t ht=>Zij (hgm x hx) (hgl x hx) hm.pace hl.pace (by rw [hn];exact Int.le_refl _) (fun g hg hu=>?_) ht⟩
   obtain ⟨g',e1,e2,e3⟩:=h1 x hx g hg hu
   exact ⟨g',e1,by omega,by omega⟩
 . refine Zcz hl hm hd hd' h0 hs fun y hy=>?_
   obtain ⟨x,hx,rfl⟩:=List.mem_map.1 hy
   refine ⟨x,hx,(hab x).1.symm,(hab x).2.symm,fun t ht=>Zij (hgl x hx) (hgm x hx) hl.pace hm.pace (by rw [hn];exact Int.le_refl _) (fun g' hg _=>?_) ht⟩
   obtain ⟨g,e1,e2,e3⟩:=h2 x hx g' hg
   exact ⟨g,e1,by omega,by omega⟩
theorem ZoJ {l:Land} {p:Span} (hl:OkLP l p):OkLP (ZkD l) ⟨p.hi,p.hi⟩:=⟨ZiZ hl.land fun x _ h=>Ztn h,by have:=hl.pace;simp only [ZZ,XR,decide_eq_true_eq] at this ⊢;omega⟩
theorem ZoW {l:Land} {p:Span} (hl:OkLP l p):OkLP (ZmN l) ⟨p.lo,p.lo⟩:=⟨ZiZ hl.land fun x _ h=>ZqF h,by have:=hl.pace;simp only [ZZ,XR,decide_eq_true_eq] at this ⊢;omega⟩
theorem Zjc {l:Land} {p:Span} (hl:OkLP l p) {k:Bool} {s day v:Int} (hd:0<=day) (hd':day<=100000) (h0:0<=s) (hs:s < l.wells.length):Zx k (ZkD l) ⟨p.hi,p.hi⟩ s day v=Zx false l p s day v :=
 ZfT hl (ZoJ hl) (fun _=>⟨rfl,rfl⟩) (fun x=>by cases k<;>rfl) (fun x _ g hg _=>⟨ZtW g,List.mem_map.2 ⟨g,hg,rfl⟩,by cases k<;>rfl,by cases k<;>rfl⟩) (fun x _ g' hg=>by
  obtain ⟨g,hg',rfl⟩:=List.mem_map.1 hg
  exact ⟨g,hg',by cases k<;>rfl,by cases k<;>rfl⟩) hd hd' h0 hs
theorem Zge {l:Land} {p:Span} (hl:OkLP l p) {k:Bool} {s day v:Int} (hd:0<=day) (hd':day<=100000) (h0:0<=s) (hs:s < l.wells.length):Zx k (ZmN l) ⟨p.lo,p.lo⟩ s day v=Zx true l p s day v :=
 ZfT hl (ZoW hl) (fun _=>⟨rfl,rfl⟩) (fun x=>by cases k<;>rfl) (fun x _ g hg hu=>⟨Zod g,List.mem_map.2 ⟨g,List.mem_filter.2 ⟨hg,by simpa [WY,oK,sK] using hu⟩,rfl⟩,by cases k<;>rfl,by cases k<;>rfl⟩) (fun x _ g' hg=>by
  obtain ⟨g,hg',rfl⟩:=List.mem_map.1 hg
  exact ⟨g,(List.mem_filter.1 hg').1,by cases k<;>rfl,by cases k<;>rfl⟩) hd hd' h0 hs
def Zch {α : Type} (f:α->α) (i:Nat) (L:List α):List α:=(L.take i).map f ++ L.drop i
section
variable {α : Type} {f:α->α} {i:Nat} {L:List α}
theorem Zdh:(Zch f i L).length=L.length:=by simp [Zch];omega
theorem Zbx:Zch f 0 L=L:=by simp [Zch]
theorem Zbm:Zch f L.length L=L.map f:=by simp [Zch]
theorem Zdp (h:i < L.length):(Zch f i L)[i]? = some L[i]:=by
 simp only [Zch]
 rw [List.getElem?_append_right (by simp;omega)]
 simp [Nat.min_eq_left (Nat.le_of_lt h),List.getElem?_eq_getElem h]
theorem ZbF (h:i < L.length):(Zch f i L).set i (f L[i])=Zch f (i+1) L:=by
 have e:((L.take i).map f).length=i:=by simp;omega
 simp only [Zch]
 rw [List.set_append_right _ _ (by omega),e,Nat.sub_self,List.drop_eq_getElem_cons h,List.set_cons_zero,<- List.take_append_getElem h,List.map_append,List.append_assoc]
 rfl
end
def Zdr (x:Leg) (k:Nat):Leg:=⟨x.a,x.b,⟨x.long.lo,x.long.lo⟩,Zch ZtW k x.gates⟩
theorem ZfW {x:Leg}:Zdr x x.gates.length=Zjr x:=by simp only [Zdr,Zbm];rfl
def Zwk (x:Leg):Leg:=⟨x.a,x.b,⟨x.long.hi,x.long.hi⟩,x.gates⟩
def wst (x:Leg) (k:Nat):List Gate:=((x.gates.take k).filter WY).map Zod
theorem ZdD {x:Leg}:wst x 0=[]:=rfl
theorem ZmB {x:Leg}:wst x x.gates.length=(Zhg x).gates:=by simp [wst,Zhg]
theorem Zju {x:Leg} {k:Nat} (h:k < x.gates.length):wst x (k+1)=wst x k ++ (if WY x.gates[k] then [Zod x.gates[k]] else []):=by
 simp only [wst]
 rw [<- List.take_append_getElem h,List.filter_append,List.map_append,List.filter_cons]
 split<;>rfl
end Go.Azalai
namespace Go.Proofs.Ytkjldleglbbkeaa
open Go Go.Sx Go.Azalai
theorem Zlq (l:Land) (s day:Int) (p:Span):Ct Try.prog 10 [.agg (Zh l),I s,I day,.agg (Ze p)] (B true):=by
 refine tz10.1 (by simp [Zh,Zc,Zj,Zd,Ze,Za,KFL,KF]) (by simp [KFL,KF]) ?_
 dsimp only [cz10,rz10,Zh,Ze,go_sem,rA,rM,rS]
 refine call ZkR ?_
 dsimp only [go_sem,rA,rM,rS]
 refine ZJ (by simp) ?_
 dsimp only [go_sem,rA,rM,rS]
 refine call (Zj5 l p) ?_
 dsimp only [go_sem,rA,rM,rS]
 repeat (refine gb ?_;dsimp only [go_sem,rA,rM,rS])
 simp only [List.length_map]
 by_cases hr:Vv l p=true
 rotate_left
 . refine ZV (by simp [hr]) ?_
   dsimp only [go_sem,rA,rM,rS]
 by_cases h:(0<=s/\s < l.wells.length/\0<=day/\day<=100000)
 rotate_left
 . refine ZV (by simp [hr];omega) ?_
   dsimp only [go_sem,rA,rM,rS]
 obtain ⟨s0,s1,h3,h4⟩:=h
 refine ZJ (by simp [hr];omega) ?_
 dsimp only [go_sem,rA,rM,rS]
 obtain ⟨hs,hok⟩:=ZfF hr
 have hE1:Wk l p s day=0:=Zbw hok s0 s1 h3 h4
 refine call (Vo l hs s day p) ?_
 rw [hE1,show ∀ m xs,YG 0 m xs = .sl false m xs from fun _ _=>rfl]
 dsimp only [go_sem,rA,rM,rS]
 refine gh (σ1:=⟨[(11,I 0),(10,.sl false 2 ((Yh l p s day).map Ze)),(9,B true),(7,.p 1 0),(4,.p 0 0),(2,I day),(1,I s)],[(1,.cells (Ze p) 29),(0,.cells (Zh l) 25)],2,252,[]⟩) ?_ ?_
 . (refine Zi ?_ ?_ ?_ rfl rfl<;>dsimp only [Zc,Zj,Zd,Zh,Ze,id,go_sem,rA,rM,rS]<;>simp [Zc,Zj,Zd,Zh,Ze,Za,Zf,KFR,KFL,KF,Zb,mtO,nbr])
 show LAT Try.prog Y0 0 l10 8 0 _ _
 refine twins l hs s day p (Yh l p s day) _ ?_
 dsimp only [go_sem,rA,rM,rS]
 have hgood:∀ x ∈ l.legs,GoodLeg x:=fun x hx=>Yj hok.land x hx
 have hl24:l.legs.length<=24:=(YY hok.land).2.2
 have hw12:=(YY hok.land).2.1
 dsimp only [Zh,go_sem,rA,rM,rS]
 simp only [List.length_map]
 refine YB (fun i:Nat=>[(66,I i)]) (fun i=>[(3,.row 0 5 ((Zch Zhg i l.legs).map Zj) 86),(2,.rws 0 5 ((Zch Zjr i l.legs).map Zw) 86 4 4 ((Zch Zjr i l.legs).map Zv) 95)]) (fun i=>i<=l.legs.length) (fun i=>l.legs.length - i) 0 (Nat.zero_le _) ?_ ?_
 . (refine Zi ?_ ?_ ?_ rfl rfl<;>dsimp only [Zbx,Zc,Zj,Zw,Zv,Zd,Ze,Zh,id,go_sem,rA,rM,rS]<;>simp [Zbx,Zc,Zj,Zw,Zv,Zd,Ze,Zh,Za,Zf,KFR,KFL,KF,Zb,mtO,nbr])
 intro i hi
 dsimp only [go_sem,rA,rM,rS]
 by_cases hlt:i < l.legs.length
 . refine ZV (by simp;omega) ?_
   dsimp only [go_sem,rA,rM,rS]
   refine Zt i (by omega) rfl ?_
   dsimp only [Zj,go_sem,rA,rM,rS]
   have hgi:=Zdp (f:=Zjr) hlt
   have hbi:=Zdp (f:=Zhg) hlt
   have hgs:=ZbF (f:=Zjr) hlt
   have hbs:=ZbF (f:=Zhg) hlt
   have hgl:=Zdh (f:=Zjr) (i:=i) (L:=l.legs)
   have hbl:=Zdh (f:=Zhg) (i:=i) (L:=l.legs)
   have hgx:=hgood _ (List.getElem_mem hlt)
   generalize hx:l.legs[i]=x at hgi hbi hgs hbs hgx ⊢
   generalize Zch Zjr i l.legs=G at hgi hgs hgl ⊢
   generalize Zch Zhg i l.legs=Bd at hbi hbs hbl ⊢
   have hiG:i < G.length:=by omega
   have hiB:i < Bd.length:=by omega
   have hGi:G[i]=x:=by rw [List.getElem?_eq_getElem hiG] at hgi;exact Option.some.inj hgi
   have hBi:Bd[i]=x:=by rw [List.getElem?_eq_getElem hiB] at hbi;exact Option.some.inj hbi
   refine call (YZ _ _) ?_
   dsimp only [Ze,go_sem,rA,rM,rS]
   refine call (YZ _ _) ?_
   dsimp only [Ze,go_sem,rA,rM,rS]
   refine Zd3 i rfl (by simp;omega) ?_
   dsimp only [go_sem,rA,rM,rS]
   refine Zug (Zdr x 0) hiG (by simp [hGi,Zw]) (.inl (by simp)) (by rw [hGi];rfl) (by rw [hGi];simp only [Zv,Zdr,Zbx]) ?_
   dsimp only [go_sem,rA,rM,rS]
   simp only [List.length_map]
   refine ZbU i rfl (by omega) ?_
   dsimp only [go_sem,rA,rM,rS]
   refine ZtF (Zwk x) hiB (by simp [hBi,Zj]) (by rw [hBi];rfl) ?_
   dsimp only [go_sem,rA,rM,rS]
   refine Zt i (by omega) rfl ?_
   rw [hx]
   dsimp only [Zj,go_sem,rA,rM,rS]
   simp only [List.length_map]
   obtain ⟨G9,h9⟩:∃ G9:Nat->List Leg,G9=fun k=>G.set i (Zdr x k):=⟨_,rfl⟩
   have e9:∀ k,G9 k=G.set i (Zdr x k):=fun k=>by rw [h9]
   rw [<- e9]
   generalize hB9:Bd.set i (Zwk x)=B9
   refine ZkN (We 16 4 95 rfl rfl) (fun q:Nat × Nat=>[(102,I q.1),(16,.mr 7 q.2)]) (fun q=>[(2,.rws 0 5 ((G9 q.1).map Zw) 86 4 4 ((G9 q.1).map Zv) 95),(7,.row q.2 4 ((wst x q.1).map Zd) 95)]) (fun q=>q.1<=x.gates.length) (fun q=>x.gates.length - q.1) (0,0) (Nat.zero_le _) ?_ ?_
   . dsimp only [go_sem,rA,rM,rS]
     (refine Zi ?_ ?_ ?_ rfl rfl<;>dsimp only [ZdD,Zc,Zj,Zw,Zv,Zd,Ze,Zh,id,go_sem,rA,rM,rS]<;>simp [ZdD,Zc,Zj,Zw,Zv,Zd,Ze,Zh,Za,Zf,KFR,KFL,KF,Zb,mtO,nbr])
   rintro ⟨k,ver⟩ hk
   simp only at hk
   dsimp only [go_sem,rA,rM,rS]
   simp only [e9]
   by_cases hlk:k < x.gates.length
   . refine ZV (by simp;omega) ?_
     dsimp only [go_sem,rA,rM,rS]
     refine Zt k hlk rfl ?_
     dsimp only [Zd,go_sem,rA,rM,rS]
     refine Zd3 i rfl (by simp;omega) ?_
     dsimp only [go_sem,rA,rM,rS]
     refine Zt3 (row:=Zw (Zdr x k)) (by rw [List.getElem?_map,List.getElem?_set_self hiG];rfl) (by simp;omega) ?_
     dsimp only [Zw,go_sem,rA,rM,rS]
     refine call (YZ _ _) ?_
     dsimp only [Ze,go_sem,rA,rM,rS]
     refine call (YZ _ _) ?_
     dsimp only [Ze,go_sem,rA,rM,rS]
     have hgl9:∀ j,(Zv (Zdr x j)).length=x.gates.length:=fun j=>by simp [Zv,Zdr,Zdh]
     refine Zur (rows:=Zv (Zdr x k)) i k (by omega) (by rw [List.getElem?_map,List.getElem?_set_self hiG];rfl) rfl (by rw [hgl9];exact hlk) ?_
     dsimp only [go_sem,rA,rM,rS]
     have hrow:(Zv (Zdr x k))[k]? = some (Zd x.gates[k]):=by simp only [Zv,Zdr];rw [List.getElem?_map,Zdp hlk];rfl
     have hgk:=ZbF (f:=ZtW) hlk
     have hws:=Zju hlk
     generalize x.gates[k]=gg at hrow hgk hws ⊢
     refine ZuR (l:=G.set i (Zdr x k)) i (Zdr x (k+1)) (by omega) (by simpa using hiG) (by rw [List.getElem_set_self];exact hrow) (by simp [Zd]) (by rw [List.getElem_set_self];simp only [Zv,Zdr];rw [<- hgk,List.map_set];rfl) (by rw [List.getElem_set_self];rfl) ?_
     rw [List.set_set]
     dsimp only [go_sem,rA,rM,rS]
     have h6:=hgx.g1
     have hwl:(wst x k).length<=6:=by
      have:=List.length_filter_le WY (x.gates.take k)
      simp only [wst,List.length_map];simp only [List.length_take] at this;omega
     by_cases hc:gg.opens.hi<=gg.shuts.lo
     . refine ZV (by simpa using hc) ?_
       dsimp only [go_sem,rA,rM,rS]
       refine call (YZ _ _) ?_
       dsimp only [Ze,go_sem,rA,rM,rS]
       refine call (YZ _ _) ?_
       (repeat first | dsimp only [Ze,go_sem,rA,rM,rS] | simp only [nbr])
       refine ⟨fun c hc=>by simp at hc;subst hc;rfl,by simp;omega,?_⟩
       dsimp only [go_sem,rA,rM,rS]
       simp (disch:=omega) only [Zo]
       have hw1:wst x (k+1)=wst x k ++ [Zod gg]:=by rw [hws,if_pos (by simpa [WY] using hc)]
       refine ⟨(k+1,ver+1),hlk,by simp only;omega,?_⟩
       simp only
       rw [<- e9,hw1,List.map_append]
       (refine Zi ?_ ?_ ?_ rfl rfl<;>dsimp only [Zc,Zj,Zw,Zv,Zd,Ze,Zh,Zod,id,go_sem,rA,rM,rS]<;>simp [Zc,Zj,Zw,Zv,Zd,Ze,Zh,Zod,Za,Zf,KFR,KFL,KF,Zb,mtO,nbr])
     refine ZJ (by simpa using hc) ?_
     dsimp only [go_sem,rA,rM,rS]
     simp (disch:=omega) only [Zo]
     have hw1:wst x (k+1)=wst x k:=by rw [hws,if_neg (by simpa [WY] using hc),List.append_nil]
     refine ⟨(k+1,ver),hlk,by simp only;omega,?_⟩
     simp only
     rw [<- e9,hw1]
     (refine Zi ?_ ?_ ?_ rfl rfl<;>dsimp only [Zc,Zj,Zw,Zv,Zd,Ze,Zh,id,go_sem,rA,rM,rS]<;>simp [Zc,Zj,Zw,Zv,Zd,Ze,Zh,Za,Zf,KFR,KFL,KF,Zb,mtO,nbr])
   refine ZJ (by simp;omega) ?_
   dsimp only [go_sem,rA,rM,rS]
   rw [show k=x.gates.length from by omega,ZmB,ZfW,hgs]
   refine gh (Zsq 16 7 ver rfl rfl rfl rfl) ?_
   dsimp only [go_sem,rA,rM,rS]
   have hiB9:i < B9.length:=by rw [<- hB9,List.length_set];exact hiB
   have hB9i:B9[i]=Zwk x:=by simp only [<- hB9];rw [List.getElem_set_self]
   simp only [List.length_map]
   refine ZbU i rfl hiB9 ?_
   dsimp only [go_sem,rA,rM,rS]
   refine ZtF (Zhg x) hiB9 (by simp [hB9i,Zj,Zwk]) (by rw [hB9i];rfl) ?_
   rw [<- hB9,List.set_set,hbs]
   dsimp only [go_sem,rA,rM,rS]
   refine gh Yw ?_
   dsimp only [go_sem,rA,rM,rS]
   simp (disch:=omega) only [Zo]
   refine ⟨i+1,hlt,by omega,?_⟩
   (refine Zi ?_ ?_ ?_ rfl rfl<;>dsimp only [Zc,Zj,Zw,Zv,Zd,Ze,Zh,id,go_sem,rA,rM,rS]<;>simp [Zc,Zj,Zw,Zv,Zd,Ze,Zh,Za,Zf,KFR,KFL,KF,Zb,mtO,nbr])
 refine ZJ (by simp;omega) ?_
 dsimp only [go_sem,rA,rM,rS]
 refine gh (Vl (Zei 4 1 2 rfl rfl rfl rfl) (Vl (ZfY 3 0 4 4 95 rfl rfl) (Zei 5 1 3 rfl rfl rfl rfl))) ?_
 dsimp only [go_sem,rA,rM,rS]
 rw [show ∀ xs,Zah 4 4 [] xs=xs from fun _=>rfl,Zdx,show (fun x=>(Zw x).set 4 (.sl false 4 (Zv x)))=Zj from rfl,show i=l.legs.length from by omega,Zbm,Zbm]
 have hpb:1<=p.lo/\p.lo<=p.hi/\p.hi<=100000:=by have:=hok.pace;simp only [ZZ,XR,decide_eq_true_eq] at this;omega
 refine call (YZ _ _) ?_
 dsimp only [Ze,go_sem,rA,rM,rS]
 have hokg:=ZoJ hok
 have hokb:=ZoW hok
 have hlg:=fun v=>Zjc (k:=false) (s:=s) (day:=day) (v:=v) hok h3 h4 s0 s1
 have hlg':=fun v=>Zjc (k:=true) (s:=s) (day:=day) (v:=v) hok h3 h4 s0 s1
 have hlb:=fun v=>Zge (k:=false) (s:=s) (day:=day) (v:=v) hok h3 h4 s0 s1
 have hlb':=fun v=>Zge (k:=true) (s:=s) (day:=day) (v:=v) hok h3 h4 s0 s1
 have hE2:Wk (ZkD l) ⟨p.hi,p.hi⟩ s day=0:=Zbw hokg s0 s1 h3 h4
 have hE3:Wk (ZmN l) ⟨p.lo,p.lo⟩ s day=0:=Zbw hokb s0 s1 h3 h4
 have c2:=Vo (ZkD l) (ZdI hokg.land) s day ⟨p.hi,p.hi⟩
 have c3:=Vo (ZmN l) (ZdI hokb.land) s day ⟨p.lo,p.lo⟩
 rw [hE2,show ∀ m xs,YG 0 m xs = .sl false m xs from fun _ _=>rfl] at c2
 rw [hE3,show ∀ m xs,YG 0 m xs = .sl false m xs from fun _ _=>rfl] at c3
 refine call c2 ?_
 dsimp only [go_sem,rA,rM,rS]
 refine call (YZ _ _) ?_
 dsimp only [Ze,go_sem,rA,rM,rS]
 have hln1:=YX (l:=l) (p:=p) (s:=s) (day:=day)
 have hln2:=YX (l:=ZkD l) (p:=⟨p.hi,p.hi⟩) (s:=s) (day:=day)
 have hln3:=YX (l:=ZmN l) (p:=⟨p.lo,p.lo⟩) (s:=s) (day:=day)
 have g1:∀ (v:Nat),v < l.wells.length->(Yh l p s day)[v]? = some ⟨Zx false l p s day v,Zx true l p s day v⟩:=fun v hv=>Zaa hv
 have g2:∀ (v:Nat),v < l.wells.length->(Yh (ZkD l) ⟨p.hi,p.hi⟩ s day)[v]? = some ⟨Zx false l p s day v,Zx false l p s day v⟩:=fun v hv=>by rw [Zaa (l:=ZkD l) hv,hlg,hlg']
 have g3:∀ (v:Nat),v < l.wells.length->(Yh (ZmN l) ⟨p.lo,p.lo⟩ s day)[v]? = some ⟨Zx true l p s day v,Zx true l p s day v⟩:=fun v hv=>by rw [Zaa (l:=ZmN l) hv,hlb,hlb']
 refine call c3 ?_
 dsimp only [go_sem,rA,rM,rS]
 replace hln2:(Yh (ZkD l) ⟨p.hi,p.hi⟩ s day).length=l.wells.length:=hln2
 replace hln3:(Yh (ZmN l) ⟨p.lo,p.lo⟩ s day).length=l.wells.length:=hln3
 generalize Yh l p s day=R1 at hln1 g1 ⊢
 generalize Yh (ZkD l) ⟨p.hi,p.hi⟩ s day=R2 at hln2 g2 ⊢
 generalize Yh (ZmN l) ⟨p.lo,p.lo⟩ s day=R3 at hln3 g3 ⊢
 repeat (refine gb ?_;dsimp only [go_sem,rA,rM,rS])
 simp only [List.length_map,hln1,hln2,hln3]
 refine ZJ (by simp) ?_
 dsimp only [go_sem,rA,rM,rS]
 simp only [List.length_map,hln1]
 refine YB (fun v:Nat=>[(213,I v)]) (fun _=>[]) (fun v=>v<=l.wells.length) (fun v=>l.wells.length - v) 0 (Nat.zero_le _) ?_ ?_
 . (refine Zi ?_ ?_ ?_ rfl rfl<;>dsimp only [Zc,Zj,Zw,Zv,Zd,Ze,Zh,id,go_sem,rA,rM,rS]<;>simp [Zc,Zj,Zw,Zv,Zd,Ze,Zh,Za,Zf,KFR,KFL,KF,Zb,mtO,nbr])
 intro v hv
 dsimp only [go_sem,rA,rM,rS]
 by_cases hlv:v < l.wells.length
 . refine ZV (by simp;omega) ?_
   dsimp only [go_sem,rA,rM,rS]
   have e1:=Zs4 (show v < R1.length by omega) (g1 v hlv)
   have e2:=Zs4 (show v < R2.length by omega) (g2 v hlv)
   have e3:=Zs4 (show v < R3.length by omega) (g3 v hlv)
   refine Zt v (by omega) rfl ?_
   dsimp only [Ze,go_sem,rA,rM,rS]
   refine Zt v (by omega) rfl ?_
   dsimp only [Ze,go_sem,rA,rM,rS]
   refine Zt v (by omega) rfl ?_
   dsimp only [Ze,go_sem,rA,rM,rS]
   refine call (YZ _ _) ?_
   dsimp only [Ze,go_sem,rA,rM,rS]
   simp only [e1,e2,BEq.rfl,Bool.and_self,Bool.and_true,Bool.not_true]
   repeat (refine Z5 rfl ?_;dsimp only [go_sem,rA,rM,rS])
   refine Zt v (by omega) rfl ?_
   dsimp only [Ze,go_sem,rA,rM,rS]
   repeat (refine Z5 rfl ?_;dsimp only [go_sem,rA,rM,rS])
   refine Zt v (by omega) rfl ?_
   dsimp only [Ze,go_sem,rA,rM,rS]
   repeat (refine Z5 rfl ?_;dsimp only [go_sem,rA,rM,rS])
   refine Zt v (by omega) rfl ?_
   dsimp only [Ze,go_sem,rA,rM,rS]
   repeat (refine Z5 rfl ?_;dsimp only [go_sem,rA,rM,rS])
   refine call (YZ _ _) ?_
   dsimp only [Ze,go_sem,rA,rM,rS]
   simp only [e1,e3,BEq.rfl,Bool.and_self,Bool.and_true,Bool.not_true]
   repeat (refine Z5 rfl ?_;dsimp only [go_sem,rA,rM,rS])
   refine ZJ (by simp) ?_
   dsimp only [go_sem,rA,rM,rS]
   rw [Zo (n:=(v:Int)+1) (by omega) (by omega)]
   refine ⟨v+1,hlv,by omega,?_⟩
   (refine Zi ?_ ?_ ?_ rfl rfl<;>dsimp only [Zc,Zj,Zw,Zv,Zd,Ze,Zh,id,go_sem,rA,rM,rS]<;>simp [Zc,Zj,Zw,Zv,Zd,Ze,Zh,Za,Zf,KFR,KFL,KF,Zb,mtO,nbr])
 refine ZJ (by simp;omega) ?_
 dsimp only [go_sem,rA,rM,rS]
 refine gh Yw ?_
 dsimp only [go_sem,rA,rM,rS]
end Go.Proofs.Ytkjldleglbbkeaa
