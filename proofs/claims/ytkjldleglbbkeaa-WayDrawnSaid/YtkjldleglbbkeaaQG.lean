/- Walks and plain laws that lead to the given statement, part 7 of 9. -/
import Derived.Test.YtkjldleglbbkeaaQF
import Derived.Test.YtkjldleglbbkeaaProg
set_option maxRecDepth 100000
set_option maxHeartbeats 8000000
set_option linter.all false
open Nat renaming reduceAdd->rA,reduceMul->rM,reduceSub->rS,beq_refl->nbr
namespace Go.Azalai
open Go.Sx
theorem YP {l:Land} {p:Span} {to till:Int} {f:Nat} {been:List Int} {v t:Int} {j:Nat}:∀ (k:Nat),∃ R,Z3 l p to till f been v t (j+k)=Z3 l p to till f been v t j ++ R
 | 0=>⟨[],by simp⟩
 | k+1=>by
  obtain ⟨R,h⟩:=YP k
  exact ⟨R ++ YN l p to till f been v t (j+k),by rw [<- Nat.add_assoc,ZV,h,List.append_assoc]⟩
theorem XT {l:Land} {p:Span} {to till:Int} {f:Nat} {been:List Int} {v t:Int} {j:Nat} {x:Leg} (hx:l.legs[j]? = some x) (h:Zn x v < 0\/Zn x v ∈ v :: been):YN l p to till f been v t j=[]:=by
 simp only [YN,hx];rw [if_pos h]
theorem Wy {l:Land} {p:Span} {to till:Int} {f:Nat} {been:List Int} {v t:Int} {j:Nat} {x:Leg} (hx:l.legs[j]? = some x) (h0:¬ Zn x v < 0) (h:Zn x v ∉ v :: been) :
 YN l p to till f been v t j=(Xn l p to till f (v :: been) (Zn x v) (ZG true x p t)).map (j :: ·):=by
 simp only [YN,hx];rw [if_neg (fun q=>q.elim h0 h)]
end Go.Azalai
namespace Go.Proofs.Ytkjldleglbbkeaa
open Go Go.Sx Go.Azalai
def Yq (w:List Nat):List SV:=[ZE w]
def Yv (l:Land) (p:Span) (till to:Int) (all:List (List Nat)) (ver:Nat) (L:List (Nat × Int × Bool)) (clk:Nat):List (Nat × HB) :=
 [(0,.cells [I till] 3),(1,.cells [I to] 3),(2,.cells [.mr 6 ver] 53),(3,.cells [.mp 7] 99),(4,.cells (Zx l p) 119),(5,.cells [.cl 77 [.p 0 0,.p 1 0,.p 2 0,.p 3 0,.p 4 0,.p 5 0]] 134),(6,.row ver 1 (all.map Yq) 59),(7,.map (mpS kI B L) clk)]
def lookP (l:Land) (p:Span) (till to:Int) (all:List (List Nat)) (L:List (Nat × Int × Bool)) (W:List (List Nat)):Ot->Prop:=fun o =>
 ∃ ver clk,MW L clk/\o=⟨false,B (decide ((all ++ W).length<=200)),Yv l p till to (cap (all ++ W)) ver L clk,8⟩
def ZqU (been:List Int) (L:List (Nat × Int × Bool)):Prop:=∀ u:Int,YC u L=if u ∈ been then some true else none
theorem ZdO {L:List (Nat × Int × Bool)} {c:Nat} {v:Int} {b:Bool} (h:YC v L=none):VQ v (W6 c v b L)=L:=by
 rw [UI h]
 have key:∀ (L:List (Nat × Int × Bool)),YC v L=none->VQ v (L ++ [(c,v,b)])=L:=by
  intro L
  induction L with
  | nil=>intro _;simp [VQ]
  | cons e L ih =>
   intro h
   have hne:e.2.1≠v:=Xa.1 h e (by simp)
   have hL:YC v L=none:=Xa.2 fun x hx=>Xa.1 h x (by simp [hx])
   have:=ih hL
   obtain ⟨e1,e2,e3⟩:=e
   simp only at hne
   simp only [List.cons_append,VQ]
   rw [this]
   simp [hne,Ne.symm hne]
 exact key L h
theorem ZqD (l:Land) (p:Span) (hs:XE l) (hok:OkLP l p) (till to:Int):∀ (f:Nat) (been:List Int) (v t:Int) (way:List Nat) (all:List (List Nat)) (ver clk:Nat) (L:List (Nat × Int × Bool)) (s1:SV),Zts l f been->v ∉ been->(0<=v/\v < l.wells.length)->(0<=t/\t<=100001) ->
 way.length+f<=1000->all.length<=200->MW L clk->ZqU been L->(s1=ZE way\/s1 = .v (.slice none 0 0)/\way=[]) ->
 CtM Try.prog 77 (Yv l p till to all ver L clk) 8 [.agg [I v,I t],s1,.p 0 0,.p 1 0,.p 2 0,.p 3 0,.p 4 0,.p 5 0] (lookP l p till to all L ((Xn l p to till f been v t).map (way ++ ·))):=by
 intro f
 induction f with
 | zero =>
  intro been v t way all ver clk L s1 hR hv hvi
  obtain ⟨g,h,_⟩:=hR.pos hv hvi
  omega
 | succ f ih =>
 intro been v t way all ver clk L s1 hR hv hvi ht hlen hall hM hbL hs1
 obtain ⟨g,hg,hR'⟩:=hR.pos hv hvi
 have hgf:g=f:=by omega
 subst hgf
 have hleg:=hs.2.1
 refine m77 (by simp [hpb,Yv]) (fun o ho=>?_) ?_
 . obtain ⟨ver',clk',_,rfl⟩:=ho
   simp [Yv,KX,KXL,KXP,KXH,Za,KFL,KF,Zx,Zc,Zj,Zg,Yq,ZE,ZS,Zq,Zo]
 dsimp only [c77,r77,Yv,go_sem,rA,rM,rS]
 rcases hs1 with rfl | ⟨rfl,hw0⟩
 . refine gh Wd ?_
   dsimp only [ZE,go_sem,rA,rM,rS]
   refine br ?_ ?_
   . intro hlate
     have hlate:t > till:=of_decide_eq_true hlate
     dsimp only [go_sem,rA,rM,rS]
     refine ⟨_,⟨ver,clk,hM,rfl⟩,?_⟩
     rw [Za0 hlate,List.map_nil,List.append_nil,Wo (by omega),decide_eq_true hall]
     (refine Xc ?_ ?_ ?_ rfl<;>dsimp only [Zx,Zc,Zj,Zg,Yq,ZE,ZS,Zr,Zq,Zo,Za,Yv,id,go_sem,rA,rM,rS]<;>simp [Zx,Zc,Zj,Zg,Yq,ZE,ZS,Zr,Zq,Zo,Za,Yv,Za,Zd,KFR,KFL,KF,Zb,mtO,nbr])
   intro hlate
   have hlate:¬ t > till:=of_decide_eq_false hlate
   dsimp only [go_sem,rA,rM,rS]
   refine br ?_ ?_
   . intro hto
     have hto:v=to:=by simpa using hto
     dsimp only [go_sem,rA,rM,rS]
     refine call (ZaB way (by omega)) ?_
     dsimp only [ZE,go_sem,rA,rM,rS]
     simp only [nbr]
     dsimp only [go_sem,rA,rM,rS]
     refine ⟨(by intro c hc;simp only [List.mem_singleton] at hc;subst hc;rfl),by simp;omega,?_⟩
     dsimp only [go_sem,rA,rM,rS]
     simp only [nbr]
     dsimp only [go_sem,rA,rM,rS]
     have e:all.map Yq ++ [[SV.sl false 1 (way.map ZS)]]=(all ++ [way]).map Yq:=by simp [Yq,ZE]
     rw [e]
     refine ⟨_,⟨ver+1,clk,hM,rfl⟩,?_⟩
     rw [Yy,if_neg hlate,if_pos hto]
     simp only [List.map_cons,List.map_nil,List.append_nil,List.length_map]
     rw [Wo (by simp;omega)]
     have hd:decide (((all ++ [way]).length:Int)<=200)=decide ((all ++ [way]).length<=200):=by simp;omega
     rw [hd]
     (refine Xc ?_ ?_ ?_ rfl<;>dsimp only [Zx,Zc,Zj,Zg,Yq,ZE,ZS,Zr,Zq,Zo,Za,Yv,id,go_sem,rA,rM,rS]<;>simp [Zx,Zc,Zj,Zg,Yq,ZE,ZS,Zr,Zq,Zo,Za,Yv,Za,Zd,KFR,KFL,KF,Zb,mtO,nbr])
   intro hto
   have hto:¬ v=to:=by simpa using hto
   dsimp only [go_sem,rA,rM,rS]
   refine Zc5 (ins:=false) (key:=kI) (val:=B) (L:=L) (k:=v) (v:=true) rfl rfl u99 ZcS rfl rfl (by simp) ?_
   dsimp only [go_sem,rA,rM,rS]
   refine ⟨rfl,?_⟩
   have hvL:YC v L=none:=by rw [hbL,if_neg hv]
   have hM1:=hM.set (k:=v) true
   have hL1:ZqU (v :: been) (W6 clk v true L):=fun u=>by
    rw [XA]
    by_cases hu:u=v
    . simp [hu]
    . rw [if_neg hu,hbL]
      simp [hu]
   have hdel:=ZdO (L:=L) (c:=clk) (b:=true) hvL
   generalize W6 clk v true L=L1 at hM1 hL1 hdel ⊢
   generalize ZaW clk v L=clk1 at hM1 ⊢
   refine Za5 [] (VK l p v) rfl rfl rfl ?_ ?_ ?_
   . exact Zb (by simp [Zx,Zc,Zj,Zg,Za,KFL,KF])
   . trivial
   dsimp only [Ux,Zx,go_sem,rA,rM,rS]
   refine gh Wd ?_
   dsimp only [go_sem,rA,rM,rS]
   refine ⟨b97,fun rec=>?_⟩
   refine y97 ?_
   dsimp only [c97,r97,go_sem,rA,rM,rS]
   refine YR (fun q:Nat × List (List Nat) × Nat × Nat=>[(10,I q.1)]) (fun q=>[(2,.cells [.mr 6 q.2.2.1] 53),(6,.row q.2.2.1 1 (q.2.1.map Yq) 59),(7,.map (mpS kI B L1) q.2.2.2)])
    (fun q=>q.1<=l.legs.length/\MW L1 q.2.2.2/\q.2.1=all ++ (Z3 l p to till g been v t q.1).map (way ++ ·)/\q.2.1.length<=200) (fun q=>l.legs.length - q.1) (0,all,ver,clk1) ⟨Nat.zero_le _,hM1,by simp [Zcq],hall⟩ ?_ ?_
   . (refine Zi ?_ ?_ ?_ rfl rfl<;>dsimp only [Zx,Zc,Zj,Zg,Yq,ZE,ZS,Zr,Zq,Zo,Za,id,go_sem,rA,rM,rS]<;>simp [Zx,Zc,Zj,Zg,Yq,ZE,ZS,Zr,Zq,Zo,Za,Za,Zd,KFR,KFL,KF,Zb,mtO,nbr])
   rintro ⟨j,allj,ver,clk⟩ ⟨hj,hMj,hallj,hlenj⟩
   simp only at hj hMj hallj hlenj
   dsimp only [go_sem,rA,rM,rS]
   simp only [List.length_map]
   by_cases hlt:j < l.legs.length
   . refine ZP (by simpa using hlt) ?_
     dsimp only [go_sem,rA,rM,rS]
     refine Zy j hlt rfl ?_
     dsimp only [Zj,go_sem,rA,rM,rS]
     have hgl:GoodLeg l.legs[j]:=YH hok.land _ (List.getElem_mem _)
     have hends:=hok.ends (List.getElem_mem hlt)
     have hxj:l.legs[j]? = some l.legs[j]:=List.getElem?_eq_getElem hlt
     have hin:inR 0 100001 t=true:=by simp only [inR,decide_eq_true_eq];omega
     have hab:=Xb (k:=true) (t:=t) hgl hok.pace (by omega)
     by_cases hca:v=l.legs[j].a
     . refine ZP (by simpa using hca) ?_
       have hoth:Zn l.legs[j] v=l.legs[j].b:=by rw [Zn,if_pos hca.symm]
       dsimp only [go_sem,rA,rM,rS]
       refine ⟨rfl,rfl,?_⟩
       refine Vf (key:=kI) (sv:=sI) (val:=B) (L:=L1) (k:=l.legs[j].b) (z:=.bool false) (zs:=B false) rfl rfl u99 ZcS rfl (by kernel_rfl) (fun w E n ok=>by simp only [R]) ?_ ?_
       . intro b hget
         have hb:b=true/\Zn l.legs[j] v ∈ v :: been:=by
          have h:=hL1 l.legs[j].b
          rw [hget] at h
          rw [hoth]
          split at h
          . rename_i hm;exact ⟨Option.some.inj h,hm⟩
          . cases h
         obtain ⟨rfl,hmem⟩:=hb
         dsimp only [Bool.not_true,go_sem,rA,rM,rS]
         repeat (refine Xu (by decide) ?_;dsimp only [go_sem,rA,rM,rS])
         refine ZF (by decide) ?_
         dsimp only [go_sem,rA,rM,rS]
         refine ⟨rfl,?_⟩
         refine ZF (by decide) ?_
         dsimp only [go_sem,rA,rM,rS]
         rw [Zp (n:=(j:Int)+1) (by omega) (by omega)]
         refine ⟨(j+1,allj,ver,clk),⟨hlt,hMj,by rw [ZV,XT hxj (.inr hmem),List.append_nil];exact hallj,hlenj⟩,by simp only;omega,?_⟩
         (refine Zi ?_ ?_ ?_ rfl rfl<;>dsimp only [Zx,Zc,Zj,Zg,Yq,ZE,ZS,Zr,Zq,Zo,Za,id,go_sem,rA,rM,rS]<;>simp [Zx,Zc,Zj,Zg,Yq,ZE,ZS,Zr,Zq,Zo,Za,Za,Zd,KFR,KFL,KF,Zb,mtO,nbr])
       intro hget
       have hnb:Zn l.legs[j] v ∉ v :: been:=fun hm=>by
        have h:=hL1 l.legs[j].b
        rw [hoth] at hm
        rw [hget,if_pos hm] at h;cases h
       have hn0:¬ Zn l.legs[j] v < 0:=by rw [hoth];omega
       dsimp only [Bool.not_false,go_sem,rA,rM,rS]
       iterate 10 (refine ZU rfl ?_;dsimp only [go_sem,rA,rM,rS])
       refine call (YT l p j hlt t t hgl hok.pace hin hin) ?_
       dsimp only [go_sem,rA,rM,rS]
       refine ZU rfl ?_
       dsimp only [go_sem,rA,rM,rS]
       refine ixa 1 rfl (by decide) ?_
       dsimp only [go_sem,rA,rM,rS]
       iterate 4 (refine ZU rfl ?_;dsimp only [go_sem,rA,rM,rS])
       refine call (VX way j (by omega)) ?_
       dsimp only [ZE,go_sem,rA,rM,rS]
       refine ZU rfl ?_
       dsimp only [go_sem,rA,rM,rS]
       have hot:=Yg hok hxj hn0
       have hih:=ih (v :: been) (Zn l.legs[j] v) (ZG true l.legs[j] p t) (way ++ [j]) allj ver clk L1 (ZE (way ++ [j])) hR' hnb hot.1 (by omega) (by simp;omega) hlenj hMj hL1 (.inl rfl)
       have hWj:(Xn l p to till g (v :: been) (Zn l.legs[j] v) (ZG true l.legs[j] p t)).map (way ++ [j] ++ ·)=(YN l p to till g been v t j).map (way ++ ·):=by
        rw [Wy hxj hn0 hnb,List.map_map]
        simp [Function.comp_def]
       rw [hWj,hoth] at hih
       refine Zce [0,1,2,3,4,5,6,7] hih rfl rfl ?_ ?_ ?_ ?_
       . rfl
       . dsimp only [rho,ZE,go_sem,rA,rM,rS]
         simp [Za,Zd,KFR,KFL,KF,Zb,mtO,nbr,Zx,Zc,Zj,Zg,Yq,ZE,ZS,Zq,Zo]
       . dsimp only [rho,Yv,Zx,go_sem,rA,rM,rS]
         simp [Za,Zd,KFR,KFL,KF,Zb,mtO,nbr,Zx,Zc,Zj,Zg,Yq,ZE,ZS,Zq,Zo]
       rintro o ⟨ver',clk',hM',rfl⟩
       dsimp only [Yv,Zx,go_sem,rA,rM,rS]
       refine ZU rfl ?_
       dsimp only [Bool.not_false,go_sem,rA,rM,rS]
       have hnext:all ++ (Z3 l p to till g been v t (j+1)).map (way ++ ·)=allj ++ (YN l p to till g been v t j).map (way ++ ·):=by
        rw [ZV,List.map_append,<- List.append_assoc,<- hallj]
       generalize hWW:(YN l p to till g been v t j).map (way ++ ·)=Wj at hnext ⊢
       by_cases hsm:(allj ++ Wj).length<=200
       . refine ZF (by simp only [hsm,decide_true];rfl) ?_
         dsimp only [go_sem,rA,rM,rS]
         refine ⟨rfl,?_⟩
         refine ZF (by decide) ?_
         dsimp only [go_sem,rA,rM,rS]
         rw [Zp (n:=(j:Int)+1) (by omega) (by omega),Wo (by omega)]
         rw [<- hnext] at hsm ⊢
         refine ⟨(j+1,_,ver',clk'),⟨hlt,hM',rfl,hsm⟩,by simp only;omega,?_⟩
         generalize all ++ (Z3 l p to till g been v t (j+1)).map (way ++ ·)=alln
         (refine Zi ?_ ?_ ?_ rfl rfl<;>dsimp only [Zx,Zc,Zj,Zg,Yq,ZE,ZS,Zr,Zq,Zo,Za,id,go_sem,rA,rM,rS]<;>simp [Zx,Zc,Zj,Zg,Yq,ZE,ZS,Zr,Zq,Zo,Za,Za,Zd,KFR,KFL,KF,Zb,mtO,nbr])
       . refine ZP (by simp only [hsm,decide_false];rfl) ?_
         dsimp only [go_sem,rA,rM,rS]
         refine ⟨rfl,?_⟩
         refine ZP rfl ?_
         dsimp only [go_sem,rA,rM,rS]
         have hWs:Xn l p to till (g+1) been v t=Z3 l p to till g been v t l.legs.length:=by rw [Yy,if_neg hlate,if_neg hto]
         obtain ⟨R,hRs⟩:=YP (l:=l) (p:=p) (to:=to) (till:=till) (f:=g) (been:=been) (v:=v) (t:=t) (j:=j+1) (l.legs.length - (j+1))
         rw [show j+1+(l.legs.length - (j+1))=l.legs.length by omega] at hRs
         have hall2:all ++ (Xn l p to till (g+1) been v t).map (way ++ ·)=allj ++ Wj ++ R.map (way ++ ·):=by
          rw [hWs,hRs,List.map_append,<- List.append_assoc,hnext]
         have hlong:¬ (allj ++ Wj ++ R.map (way ++ ·)).length<=200:=by rw [List.length_append];omega
         refine ⟨_,Zt7 (key:=kI) (val:=B) (sv:=sI) (L:=L1) (k:=v) u99 ZcS,?_⟩
         rw [hdel]
         have hMf:MW L clk':=by have:=hM'.del (k:=v);rw [hdel] at this;exact this
         refine ⟨_,⟨ver',clk',hMf,rfl⟩,?_⟩
         have hc2:cap (allj ++ Wj ++ R.map (way ++ ·))=cap (allj ++ Wj):=ZbE (by omega)
         rw [hall2,hc2,decide_eq_false hlong]
         generalize cap (allj ++ Wj)=alln
         (refine Xc ?_ ?_ ?_ rfl<;>dsimp only [Zx,Zc,Zj,Zg,Yq,ZE,ZS,Zr,Zq,Zo,Za,Yv,id,go_sem,rA,rM,rS]<;>simp [Zx,Zc,Zj,Zg,Yq,ZE,ZS,Zr,Zq,Zo,Za,Yv,Za,Zd,KFR,KFL,KF,Zb,mtO,nbr])
     refine ZF (by simpa using hca) ?_
     dsimp only [go_sem,rA,rM,rS]
     by_cases hcb:v=l.legs[j].b
     . refine ZP (by simpa using hcb) ?_
       have hoth:Zn l.legs[j] v=l.legs[j].a:=by rw [Zn,if_neg (fun h=>hca h.symm),if_pos hcb.symm]
       dsimp only [go_sem,rA,rM,rS]
       refine ⟨rfl,rfl,?_⟩
       refine Vf (key:=kI) (sv:=sI) (val:=B) (L:=L1) (k:=l.legs[j].a) (z:=.bool false) (zs:=B false) rfl rfl u99 ZcS rfl (by kernel_rfl) (fun w E n ok=>by simp only [R]) ?_ ?_
       . intro b hget
         have hb:b=true/\Zn l.legs[j] v ∈ v :: been:=by
          have h:=hL1 l.legs[j].a
          rw [hget] at h
          rw [hoth]
          split at h
          . rename_i hm;exact ⟨Option.some.inj h,hm⟩
          . cases h
         obtain ⟨rfl,hmem⟩:=hb
         dsimp only [Bool.not_true,go_sem,rA,rM,rS]
         repeat (refine Xu (by decide) ?_;dsimp only [go_sem,rA,rM,rS])
         refine ZF (by decide) ?_
         dsimp only [go_sem,rA,rM,rS]
         refine ⟨rfl,?_⟩
         refine ZF (by decide) ?_
         dsimp only [go_sem,rA,rM,rS]
         rw [Zp (n:=(j:Int)+1) (by omega) (by omega)]
         refine ⟨(j+1,allj,ver,clk),⟨hlt,hMj,by rw [ZV,XT hxj (.inr hmem),List.append_nil];exact hallj,hlenj⟩,by simp only;omega,?_⟩
         (refine Zi ?_ ?_ ?_ rfl rfl<;>dsimp only [Zx,Zc,Zj,Zg,Yq,ZE,ZS,Zr,Zq,Zo,Za,id,go_sem,rA,rM,rS]<;>simp [Zx,Zc,Zj,Zg,Yq,ZE,ZS,Zr,Zq,Zo,Za,Za,Zd,KFR,KFL,KF,Zb,mtO,nbr])
       intro hget
       have hnb:Zn l.legs[j] v ∉ v :: been:=fun hm=>by
        have h:=hL1 l.legs[j].a
        rw [hoth] at hm
        rw [hget,if_pos hm] at h;cases h
       have hn0:¬ Zn l.legs[j] v < 0:=by rw [hoth];omega
       dsimp only [Bool.not_false,go_sem,rA,rM,rS]
       iterate 10 (refine ZU rfl ?_;dsimp only [go_sem,rA,rM,rS])
       refine call (YT l p j hlt t t hgl hok.pace hin hin) ?_
       dsimp only [go_sem,rA,rM,rS]
       refine ZU rfl ?_
       dsimp only [go_sem,rA,rM,rS]
       refine ixa 1 rfl (by decide) ?_
       dsimp only [go_sem,rA,rM,rS]
       iterate 4 (refine ZU rfl ?_;dsimp only [go_sem,rA,rM,rS])
       refine call (VX way j (by omega)) ?_
       dsimp only [ZE,go_sem,rA,rM,rS]
       refine ZU rfl ?_
       dsimp only [go_sem,rA,rM,rS]
       have hot:=Yg hok hxj hn0
       have hih:=ih (v :: been) (Zn l.legs[j] v) (ZG true l.legs[j] p t) (way ++ [j]) allj ver clk L1 (ZE (way ++ [j])) hR' hnb hot.1 (by omega) (by simp;omega) hlenj hMj hL1 (.inl rfl)
       have hWj:(Xn l p to till g (v :: been) (Zn l.legs[j] v) (ZG true l.legs[j] p t)).map (way ++ [j] ++ ·)=(YN l p to till g been v t j).map (way ++ ·):=by
        rw [Wy hxj hn0 hnb,List.map_map]
        simp [Function.comp_def]
       rw [hWj,hoth] at hih
       refine Zce [0,1,2,3,4,5,6,7] hih rfl rfl ?_ ?_ ?_ ?_
       . rfl
       . dsimp only [rho,ZE,go_sem,rA,rM,rS]
         simp [Za,Zd,KFR,KFL,KF,Zb,mtO,nbr,Zx,Zc,Zj,Zg,Yq,ZE,ZS,Zq,Zo]
       . dsimp only [rho,Yv,Zx,go_sem,rA,rM,rS]
         simp [Za,Zd,KFR,KFL,KF,Zb,mtO,nbr,Zx,Zc,Zj,Zg,Yq,ZE,ZS,Zq,Zo]
       rintro o ⟨ver',clk',hM',rfl⟩
       dsimp only [Yv,Zx,go_sem,rA,rM,rS]
       refine ZU rfl ?_
       dsimp only [Bool.not_false,go_sem,rA,rM,rS]
       have hnext:all ++ (Z3 l p to till g been v t (j+1)).map (way ++ ·)=allj ++ (YN l p to till g been v t j).map (way ++ ·):=by
        rw [ZV,List.map_append,<- List.append_assoc,<- hallj]
       generalize hWW:(YN l p to till g been v t j).map (way ++ ·)=Wj at hnext ⊢
       by_cases hsm:(allj ++ Wj).length<=200
       . refine ZF (by simp only [hsm,decide_true];rfl) ?_
         dsimp only [go_sem,rA,rM,rS]
         refine ⟨rfl,?_⟩
         refine ZF (by decide) ?_
         dsimp only [go_sem,rA,rM,rS]
         rw [Zp (n:=(j:Int)+1) (by omega) (by omega),Wo (by omega)]
         rw [<- hnext] at hsm ⊢
         refine ⟨(j+1,_,ver',clk'),⟨hlt,hM',rfl,hsm⟩,by simp only;omega,?_⟩
         generalize all ++ (Z3 l p to till g been v t (j+1)).map (way ++ ·)=alln
         (refine Zi ?_ ?_ ?_ rfl rfl<;>dsimp only [Zx,Zc,Zj,Zg,Yq,ZE,ZS,Zr,Zq,Zo,Za,id,go_sem,rA,rM,rS]<;>simp [Zx,Zc,Zj,Zg,Yq,ZE,ZS,Zr,Zq,Zo,Za,Za,Zd,KFR,KFL,KF,Zb,mtO,nbr])
       . refine ZP (by simp only [hsm,decide_false];rfl) ?_
         dsimp only [go_sem,rA,rM,rS]
         refine ⟨rfl,?_⟩
         refine ZP rfl ?_
         dsimp only [go_sem,rA,rM,rS]
         have hWs:Xn l p to till (g+1) been v t=Z3 l p to till g been v t l.legs.length:=by rw [Yy,if_neg hlate,if_neg hto]
         obtain ⟨R,hRs⟩:=YP (l:=l) (p:=p) (to:=to) (till:=till) (f:=g) (been:=been) (v:=v) (t:=t) (j:=j+1) (l.legs.length - (j+1))
         rw [show j+1+(l.legs.length - (j+1))=l.legs.length by omega] at hRs
         have hall2:all ++ (Xn l p to till (g+1) been v t).map (way ++ ·)=allj ++ Wj ++ R.map (way ++ ·):=by
          rw [hWs,hRs,List.map_append,<- List.append_assoc,hnext]
         have hlong:¬ (allj ++ Wj ++ R.map (way ++ ·)).length<=200:=by rw [List.length_append];omega
         refine ⟨_,Zt7 (key:=kI) (val:=B) (sv:=sI) (L:=L1) (k:=v) u99 ZcS,?_⟩
         rw [hdel]
         have hMf:MW L clk':=by have:=hM'.del (k:=v);rw [hdel] at this;exact this
         refine ⟨_,⟨ver',clk',hMf,rfl⟩,?_⟩
         have hc2:cap (allj ++ Wj ++ R.map (way ++ ·))=cap (allj ++ Wj):=ZbE (by omega)
         rw [hall2,hc2,decide_eq_false hlong]
         generalize cap (allj ++ Wj)=alln
         (refine Xc ?_ ?_ ?_ rfl<;>dsimp only [Zx,Zc,Zj,Zg,Yq,ZE,ZS,Zr,Zq,Zo,Za,Yv,id,go_sem,rA,rM,rS]<;>simp [Zx,Zc,Zj,Zg,Yq,ZE,ZS,Zr,Zq,Zo,Za,Yv,Za,Zd,KFR,KFL,KF,Zb,mtO,nbr])
     refine ZF (by simpa using hcb) ?_
     dsimp only [go_sem,rA,rM,rS]
     rw [Zp (n:=(j:Int)+1) (by omega) (by omega)]
     have hoth:Zn l.legs[j] v = -1:=by rw [Zn,if_neg (fun h=>hca h.symm),if_neg (fun h=>hcb h.symm)]
     refine ⟨(j+1,allj,ver,clk),⟨hlt,hMj,by rw [ZV,XT hxj (.inl (by omega)),List.append_nil];exact hallj,hlenj⟩,by simp only;omega,?_⟩
     (refine Zi ?_ ?_ ?_ rfl rfl<;>dsimp only [Zx,Zc,Zj,Zg,Yq,ZE,ZS,Zr,Zq,Zo,Za,id,go_sem,rA,rM,rS]<;>simp [Zx,Zc,Zj,Zg,Yq,ZE,ZS,Zr,Zq,Zo,Za,Za,Zd,KFR,KFL,KF,Zb,mtO,nbr])
   refine ZF (by simp;omega) ?_
   dsimp only [go_sem,rA,rM,rS]
   have hje:j=l.legs.length:=by omega
   subst hje
   have hWs:Xn l p to till (g+1) been v t=Z3 l p to till g been v t l.legs.length:=by rw [Yy,if_neg hlate,if_neg hto]
   refine ⟨_,Zt7 (key:=kI) (val:=B) (sv:=sI) (L:=L1) (k:=v) u99 ZcS,?_⟩
   rw [hdel]
   have hMf:MW L clk:=by have:=hMj.del (k:=v);rw [hdel] at this;exact this
   refine ⟨_,⟨ver,clk,hMf,rfl⟩,?_⟩
   rw [hWs,<- hallj,Wo (by omega),decide_eq_true hlenj]
   (refine Xc ?_ ?_ ?_ rfl<;>dsimp only [Zx,Zc,Zj,Zg,Yq,ZE,ZS,Zr,Zq,Zo,Za,Yv,id,go_sem,rA,rM,rS]<;>simp [Zx,Zc,Zj,Zg,Yq,ZE,ZS,Zr,Zq,Zo,Za,Yv,Za,Zd,KFR,KFL,KF,Zb,mtO,nbr])
 . refine gh (ZiV (s':=.sl false 1 (way.map ZS)) 1 rfl (by subst hw0;exact WJ) (fun _ _ _ h=>by cases h)) ?_
   dsimp only [ZE,go_sem,rA,rM,rS]
   refine br ?_ ?_
   . intro hlate
     have hlate:t > till:=of_decide_eq_true hlate
     dsimp only [go_sem,rA,rM,rS]
     refine ⟨_,⟨ver,clk,hM,rfl⟩,?_⟩
     rw [Za0 hlate,List.map_nil,List.append_nil,Wo (by omega),decide_eq_true hall]
     (refine Xc ?_ ?_ ?_ rfl<;>dsimp only [Zx,Zc,Zj,Zg,Yq,ZE,ZS,Zr,Zq,Zo,Za,Yv,id,go_sem,rA,rM,rS]<;>simp [Zx,Zc,Zj,Zg,Yq,ZE,ZS,Zr,Zq,Zo,Za,Yv,Za,Zd,KFR,KFL,KF,Zb,mtO,nbr])
   intro hlate
   have hlate:¬ t > till:=of_decide_eq_false hlate
   dsimp only [go_sem,rA,rM,rS]
   refine br ?_ ?_
   . intro hto
     have hto:v=to:=by simpa using hto
     dsimp only [go_sem,rA,rM,rS]
     refine call (ZaB way (by omega)) ?_
     dsimp only [ZE,go_sem,rA,rM,rS]
     simp only [nbr]
     dsimp only [go_sem,rA,rM,rS]
     refine ⟨(by intro c hc;simp only [List.mem_singleton] at hc;subst hc;rfl),by simp;omega,?_⟩
     dsimp only [go_sem,rA,rM,rS]
     simp only [nbr]
     dsimp only [go_sem,rA,rM,rS]
     have e:all.map Yq ++ [[SV.sl false 1 (way.map ZS)]]=(all ++ [way]).map Yq:=by simp [Yq,ZE]
     rw [e]
     refine ⟨_,⟨ver+1,clk,hM,rfl⟩,?_⟩
     rw [Yy,if_neg hlate,if_pos hto]
     simp only [List.map_cons,List.map_nil,List.append_nil,List.length_map]
     rw [Wo (by simp;omega)]
     have hd:decide (((all ++ [way]).length:Int)<=200)=decide ((all ++ [way]).length<=200):=by simp;omega
     rw [hd]
     (refine Xc ?_ ?_ ?_ rfl<;>dsimp only [Zx,Zc,Zj,Zg,Yq,ZE,ZS,Zr,Zq,Zo,Za,Yv,id,go_sem,rA,rM,rS]<;>simp [Zx,Zc,Zj,Zg,Yq,ZE,ZS,Zr,Zq,Zo,Za,Yv,Za,Zd,KFR,KFL,KF,Zb,mtO,nbr])
   intro hto
   have hto:¬ v=to:=by simpa using hto
   dsimp only [go_sem,rA,rM,rS]
   refine Zc5 (ins:=false) (key:=kI) (val:=B) (L:=L) (k:=v) (v:=true) rfl rfl u99 ZcS rfl rfl (by simp) ?_
   dsimp only [go_sem,rA,rM,rS]
   refine ⟨rfl,?_⟩
   have hvL:YC v L=none:=by rw [hbL,if_neg hv]
   have hM1:=hM.set (k:=v) true
   have hL1:ZqU (v :: been) (W6 clk v true L):=fun u=>by
    rw [XA]
    by_cases hu:u=v
    . simp [hu]
    . rw [if_neg hu,hbL]
      simp [hu]
   have hdel:=ZdO (L:=L) (c:=clk) (b:=true) hvL
   generalize W6 clk v true L=L1 at hM1 hL1 hdel ⊢
   generalize ZaW clk v L=clk1 at hM1 ⊢
   refine Za5 [] (VK l p v) rfl rfl rfl ?_ ?_ ?_
   . exact Zb (by simp [Zx,Zc,Zj,Zg,Za,KFL,KF])
   . trivial
   dsimp only [Ux,Zx,go_sem,rA,rM,rS]
   refine gh Wd ?_
   dsimp only [go_sem,rA,rM,rS]
   refine ⟨b97,fun rec=>?_⟩
   refine y97 ?_
   dsimp only [c97,r97,go_sem,rA,rM,rS]
   refine YR (fun q:Nat × List (List Nat) × Nat × Nat=>[(10,I q.1)]) (fun q=>[(2,.cells [.mr 6 q.2.2.1] 53),(6,.row q.2.2.1 1 (q.2.1.map Yq) 59),(7,.map (mpS kI B L1) q.2.2.2)])
    (fun q=>q.1<=l.legs.length/\MW L1 q.2.2.2/\q.2.1=all ++ (Z3 l p to till g been v t q.1).map (way ++ ·)/\q.2.1.length<=200) (fun q=>l.legs.length - q.1) (0,all,ver,clk1) ⟨Nat.zero_le _,hM1,by simp [Zcq],hall⟩ ?_ ?_
   . (refine Zi ?_ ?_ ?_ rfl rfl<;>dsimp only [Zx,Zc,Zj,Zg,Yq,ZE,ZS,Zr,Zq,Zo,Za,id,go_sem,rA,rM,rS]<;>simp [Zx,Zc,Zj,Zg,Yq,ZE,ZS,Zr,Zq,Zo,Za,Za,Zd,KFR,KFL,KF,Zb,mtO,nbr])
   rintro ⟨j,allj,ver,clk⟩ ⟨hj,hMj,hallj,hlenj⟩
   simp only at hj hMj hallj hlenj
   dsimp only [go_sem,rA,rM,rS]
   simp only [List.length_map]
   by_cases hlt:j < l.legs.length
   . refine ZP (by simpa using hlt) ?_
     dsimp only [go_sem,rA,rM,rS]
     refine Zy j hlt rfl ?_
     dsimp only [Zj,go_sem,rA,rM,rS]
     have hgl:GoodLeg l.legs[j]:=YH hok.land _ (List.getElem_mem _)
     have hends:=hok.ends (List.getElem_mem hlt)
     have hxj:l.legs[j]? = some l.legs[j]:=List.getElem?_eq_getElem hlt
     have hin:inR 0 100001 t=true:=by simp only [inR,decide_eq_true_eq];omega
     have hab:=Xb (k:=true) (t:=t) hgl hok.pace (by omega)
     by_cases hca:v=l.legs[j].a
     . refine ZP (by simpa using hca) ?_
       have hoth:Zn l.legs[j] v=l.legs[j].b:=by rw [Zn,if_pos hca.symm]
       dsimp only [go_sem,rA,rM,rS]
       refine ⟨rfl,rfl,?_⟩
       refine Vf (key:=kI) (sv:=sI) (val:=B) (L:=L1) (k:=l.legs[j].b) (z:=.bool false) (zs:=B false) rfl rfl u99 ZcS rfl (by kernel_rfl) (fun w E n ok=>by simp only [R]) ?_ ?_
       . intro b hget
         have hb:b=true/\Zn l.legs[j] v ∈ v :: been:=by
          have h:=hL1 l.legs[j].b
          rw [hget] at h
          rw [hoth]
          split at h
          . rename_i hm;exact ⟨Option.some.inj h,hm⟩
          . cases h
         obtain ⟨rfl,hmem⟩:=hb
         dsimp only [Bool.not_true,go_sem,rA,rM,rS]
         repeat (refine Xu (by decide) ?_;dsimp only [go_sem,rA,rM,rS])
         refine ZF (by decide) ?_
         dsimp only [go_sem,rA,rM,rS]
         refine ⟨rfl,?_⟩
         refine ZF (by decide) ?_
         dsimp only [go_sem,rA,rM,rS]
         rw [Zp (n:=(j:Int)+1) (by omega) (by omega)]
         refine ⟨(j+1,allj,ver,clk),⟨hlt,hMj,by rw [ZV,XT hxj (.inr hmem),List.append_nil];exact hallj,hlenj⟩,by simp only;omega,?_⟩
         (refine Zi ?_ ?_ ?_ rfl rfl<;>dsimp only [Zx,Zc,Zj,Zg,Yq,ZE,ZS,Zr,Zq,Zo,Za,id,go_sem,rA,rM,rS]<;>simp [Zx,Zc,Zj,Zg,Yq,ZE,ZS,Zr,Zq,Zo,Za,Za,Zd,KFR,KFL,KF,Zb,mtO,nbr])
       intro hget
       have hnb:Zn l.legs[j] v ∉ v :: been:=fun hm=>by
        have h:=hL1 l.legs[j].b
        rw [hoth] at hm
        rw [hget,if_pos hm] at h;cases h
       have hn0:¬ Zn l.legs[j] v < 0:=by rw [hoth];omega
       dsimp only [Bool.not_false,go_sem,rA,rM,rS]
       iterate 10 (refine ZU rfl ?_;dsimp only [go_sem,rA,rM,rS])
       refine call (YT l p j hlt t t hgl hok.pace hin hin) ?_
       dsimp only [go_sem,rA,rM,rS]
       refine ZU rfl ?_
       dsimp only [go_sem,rA,rM,rS]
       refine ixa 1 rfl (by decide) ?_
       dsimp only [go_sem,rA,rM,rS]
       iterate 4 (refine ZU rfl ?_;dsimp only [go_sem,rA,rM,rS])
       refine call (VX way j (by omega)) ?_
       dsimp only [ZE,go_sem,rA,rM,rS]
       refine ZU rfl ?_
       dsimp only [go_sem,rA,rM,rS]
       have hot:=Yg hok hxj hn0
       have hih:=ih (v :: been) (Zn l.legs[j] v) (ZG true l.legs[j] p t) (way ++ [j]) allj ver clk L1 (ZE (way ++ [j])) hR' hnb hot.1 (by omega) (by simp;omega) hlenj hMj hL1 (.inl rfl)
       have hWj:(Xn l p to till g (v :: been) (Zn l.legs[j] v) (ZG true l.legs[j] p t)).map (way ++ [j] ++ ·)=(YN l p to till g been v t j).map (way ++ ·):=by
        rw [Wy hxj hn0 hnb,List.map_map]
        simp [Function.comp_def]
       rw [hWj,hoth] at hih
       refine Zce [0,1,2,3,4,5,6,7] hih rfl rfl ?_ ?_ ?_ ?_
       . rfl
       . dsimp only [rho,ZE,go_sem,rA,rM,rS]
         simp [Za,Zd,KFR,KFL,KF,Zb,mtO,nbr,Zx,Zc,Zj,Zg,Yq,ZE,ZS,Zq,Zo]
       . dsimp only [rho,Yv,Zx,go_sem,rA,rM,rS]
         simp [Za,Zd,KFR,KFL,KF,Zb,mtO,nbr,Zx,Zc,Zj,Zg,Yq,ZE,ZS,Zq,Zo]
       rintro o ⟨ver',clk',hM',rfl⟩
       dsimp only [Yv,Zx,go_sem,rA,rM,rS]
       refine ZU rfl ?_
       dsimp only [Bool.not_false,go_sem,rA,rM,rS]
       have hnext:all ++ (Z3 l p to till g been v t (j+1)).map (way ++ ·)=allj ++ (YN l p to till g been v t j).map (way ++ ·):=by
        rw [ZV,List.map_append,<- List.append_assoc,<- hallj]
       generalize hWW:(YN l p to till g been v t j).map (way ++ ·)=Wj at hnext ⊢
       by_cases hsm:(allj ++ Wj).length<=200
       . refine ZF (by simp only [hsm,decide_true];rfl) ?_
         dsimp only [go_sem,rA,rM,rS]
         refine ⟨rfl,?_⟩
         refine ZF (by decide) ?_
         dsimp only [go_sem,rA,rM,rS]
         rw [Zp (n:=(j:Int)+1) (by omega) (by omega),Wo (by omega)]
         rw [<- hnext] at hsm ⊢
         refine ⟨(j+1,_,ver',clk'),⟨hlt,hM',rfl,hsm⟩,by simp only;omega,?_⟩
         generalize all ++ (Z3 l p to till g been v t (j+1)).map (way ++ ·)=alln
         (refine Zi ?_ ?_ ?_ rfl rfl<;>dsimp only [Zx,Zc,Zj,Zg,Yq,ZE,ZS,Zr,Zq,Zo,Za,id,go_sem,rA,rM,rS]<;>simp [Zx,Zc,Zj,Zg,Yq,ZE,ZS,Zr,Zq,Zo,Za,Za,Zd,KFR,KFL,KF,Zb,mtO,nbr])
       . refine ZP (by simp only [hsm,decide_false];rfl) ?_
         dsimp only [go_sem,rA,rM,rS]
         refine ⟨rfl,?_⟩
         refine ZP rfl ?_
         dsimp only [go_sem,rA,rM,rS]
         have hWs:Xn l p to till (g+1) been v t=Z3 l p to till g been v t l.legs.length:=by rw [Yy,if_neg hlate,if_neg hto]
         obtain ⟨R,hRs⟩:=YP (l:=l) (p:=p) (to:=to) (till:=till) (f:=g) (been:=been) (v:=v) (t:=t) (j:=j+1) (l.legs.length - (j+1))
         rw [show j+1+(l.legs.length - (j+1))=l.legs.length by omega] at hRs
         have hall2:all ++ (Xn l p to till (g+1) been v t).map (way ++ ·)=allj ++ Wj ++ R.map (way ++ ·):=by
          rw [hWs,hRs,List.map_append,<- List.append_assoc,hnext]
         have hlong:¬ (allj ++ Wj ++ R.map (way ++ ·)).length<=200:=by rw [List.length_append];omega
         refine ⟨_,Zt7 (key:=kI) (val:=B) (sv:=sI) (L:=L1) (k:=v) u99 ZcS,?_⟩
         rw [hdel]
         have hMf:MW L clk':=by have:=hM'.del (k:=v);rw [hdel] at this;exact this
         refine ⟨_,⟨ver',clk',hMf,rfl⟩,?_⟩
         have hc2:cap (allj ++ Wj ++ R.map (way ++ ·))=cap (allj ++ Wj):=ZbE (by omega)
         rw [hall2,hc2,decide_eq_false hlong]
         generalize cap (allj ++ Wj)=alln
         (refine Xc ?_ ?_ ?_ rfl<;>dsimp only [Zx,Zc,Zj,Zg,Yq,ZE,ZS,Zr,Zq,Zo,Za,Yv,id,go_sem,rA,rM,rS]<;>simp [Zx,Zc,Zj,Zg,Yq,ZE,ZS,Zr,Zq,Zo,Za,Yv,Za,Zd,KFR,KFL,KF,Zb,mtO,nbr])
     refine ZF (by simpa using hca) ?_
     dsimp only [go_sem,rA,rM,rS]
     by_cases hcb:v=l.legs[j].b
     . refine ZP (by simpa using hcb) ?_
       have hoth:Zn l.legs[j] v=l.legs[j].a:=by rw [Zn,if_neg (fun h=>hca h.symm),if_pos hcb.symm]
       dsimp only [go_sem,rA,rM,rS]
       refine ⟨rfl,rfl,?_⟩
       refine Vf (key:=kI) (sv:=sI) (val:=B) (L:=L1) (k:=l.legs[j].a) (z:=.bool false) (zs:=B false) rfl rfl u99 ZcS rfl (by kernel_rfl) (fun w E n ok=>by simp only [R]) ?_ ?_
       . intro b hget
         have hb:b=true/\Zn l.legs[j] v ∈ v :: been:=by
          have h:=hL1 l.legs[j].a
          rw [hget] at h
          rw [hoth]
          split at h
          . rename_i hm;exact ⟨Option.some.inj h,hm⟩
          . cases h
         obtain ⟨rfl,hmem⟩:=hb
         dsimp only [Bool.not_true,go_sem,rA,rM,rS]
         repeat (refine Xu (by decide) ?_;dsimp only [go_sem,rA,rM,rS])
         refine ZF (by decide) ?_
         dsimp only [go_sem,rA,rM,rS]
         refine ⟨rfl,?_⟩
         refine ZF (by decide) ?_
         dsimp only [go_sem,rA,rM,rS]
         rw [Zp (n:=(j:Int)+1) (by omega) (by omega)]
         refine ⟨(j+1,allj,ver,clk),⟨hlt,hMj,by rw [ZV,XT hxj (.inr hmem),List.append_nil];exact hallj,hlenj⟩,by simp only;omega,?_⟩
         (refine Zi ?_ ?_ ?_ rfl rfl<;>dsimp only [Zx,Zc,Zj,Zg,Yq,ZE,ZS,Zr,Zq,Zo,Za,id,go_sem,rA,rM,rS]<;>simp [Zx,Zc,Zj,Zg,Yq,ZE,ZS,Zr,Zq,Zo,Za,Za,Zd,KFR,KFL,KF,Zb,mtO,nbr])
       intro hget
       have hnb:Zn l.legs[j] v ∉ v :: been:=fun hm=>by
        have h:=hL1 l.legs[j].a
        rw [hoth] at hm
        rw [hget,if_pos hm] at h;cases h
       have hn0:¬ Zn l.legs[j] v < 0:=by rw [hoth];omega
       dsimp only [Bool.not_false,go_sem,rA,rM,rS]
       iterate 10 (refine ZU rfl ?_;dsimp only [go_sem,rA,rM,rS])
       refine call (YT l p j hlt t t hgl hok.pace hin hin) ?_
       dsimp only [go_sem,rA,rM,rS]
       refine ZU rfl ?_
       dsimp only [go_sem,rA,rM,rS]
       refine ixa 1 rfl (by decide) ?_
       dsimp only [go_sem,rA,rM,rS]
       iterate 4 (refine ZU rfl ?_;dsimp only [go_sem,rA,rM,rS])
       refine call (VX way j (by omega)) ?_
       dsimp only [ZE,go_sem,rA,rM,rS]
       refine ZU rfl ?_
       dsimp only [go_sem,rA,rM,rS]
       have hot:=Yg hok hxj hn0
       have hih:=ih (v :: been) (Zn l.legs[j] v) (ZG true l.legs[j] p t) (way ++ [j]) allj ver clk L1 (ZE (way ++ [j])) hR' hnb hot.1 (by omega) (by simp;omega) hlenj hMj hL1 (.inl rfl)
       have hWj:(Xn l p to till g (v :: been) (Zn l.legs[j] v) (ZG true l.legs[j] p t)).map (way ++ [j] ++ ·)=(YN l p to till g been v t j).map (way ++ ·):=by
        rw [Wy hxj hn0 hnb,List.map_map]
        simp [Function.comp_def]
       rw [hWj,hoth] at hih
       refine Zce [0,1,2,3,4,5,6,7] hih rfl rfl ?_ ?_ ?_ ?_
       . rfl
       . dsimp only [rho,ZE,go_sem,rA,rM,rS]
         simp [Za,Zd,KFR,KFL,KF,Zb,mtO,nbr,Zx,Zc,Zj,Zg,Yq,ZE,ZS,Zq,Zo]
       . dsimp only [rho,Yv,Zx,go_sem,rA,rM,rS]
         simp [Za,Zd,KFR,KFL,KF,Zb,mtO,nbr,Zx,Zc,Zj,Zg,Yq,ZE,ZS,Zq,Zo]
       rintro o ⟨ver',clk',hM',rfl⟩
       dsimp only [Yv,Zx,go_sem,rA,rM,rS]
       refine ZU rfl ?_
       dsimp only [Bool.not_false,go_sem,rA,rM,rS]
       have hnext:all ++ (Z3 l p to till g been v t (j+1)).map (way ++ ·)=allj ++ (YN l p to till g been v t j).map (way ++ ·):=by
        rw [ZV,List.map_append,<- List.append_assoc,<- hallj]
       generalize hWW:(YN l p to till g been v t j).map (way ++ ·)=Wj at hnext ⊢
       by_cases hsm:(allj ++ Wj).length<=200
       . refine ZF (by simp only [hsm,decide_true];rfl) ?_
         dsimp only [go_sem,rA,rM,rS]
         refine ⟨rfl,?_⟩
         refine ZF (by decide) ?_
         dsimp only [go_sem,rA,rM,rS]
         rw [Zp (n:=(j:Int)+1) (by omega) (by omega),Wo (by omega)]
         rw [<- hnext] at hsm ⊢
         refine ⟨(j+1,_,ver',clk'),⟨hlt,hM',rfl,hsm⟩,by simp only;omega,?_⟩
         generalize all ++ (Z3 l p to till g been v t (j+1)).map (way ++ ·)=alln
         (refine Zi ?_ ?_ ?_ rfl rfl<;>dsimp only [Zx,Zc,Zj,Zg,Yq,ZE,ZS,Zr,Zq,Zo,Za,id,go_sem,rA,rM,rS]<;>simp [Zx,Zc,Zj,Zg,Yq,ZE,ZS,Zr,Zq,Zo,Za,Za,Zd,KFR,KFL,KF,Zb,mtO,nbr])
       . refine ZP (by simp only [hsm,decide_false];rfl) ?_
         dsimp only [go_sem,rA,rM,rS]
         refine ⟨rfl,?_⟩
         refine ZP rfl ?_
         dsimp only [go_sem,rA,rM,rS]
         have hWs:Xn l p to till (g+1) been v t=Z3 l p to till g been v t l.legs.length:=by rw [Yy,if_neg hlate,if_neg hto]
         obtain ⟨R,hRs⟩:=YP (l:=l) (p:=p) (to:=to) (till:=till) (f:=g) (been:=been) (v:=v) (t:=t) (j:=j+1) (l.legs.length - (j+1))
         rw [show j+1+(l.legs.length - (j+1))=l.legs.length by omega] at hRs
         have hall2:all ++ (Xn l p to till (g+1) been v t).map (way ++ ·)=allj ++ Wj ++ R.map (way ++ ·):=by
          rw [hWs,hRs,List.map_append,<- List.append_assoc,hnext]
         have hlong:¬ (allj ++ Wj ++ R.map (way ++ ·)).length<=200:=by rw [List.length_append];omega
         refine ⟨_,Zt7 (key:=kI) (val:=B) (sv:=sI) (L:=L1) (k:=v) u99 ZcS,?_⟩
         rw [hdel]
         have hMf:MW L clk':=by have:=hM'.del (k:=v);rw [hdel] at this;exact this
         refine ⟨_,⟨ver',clk',hMf,rfl⟩,?_⟩
         have hc2:cap (allj ++ Wj ++ R.map (way ++ ·))=cap (allj ++ Wj):=ZbE (by omega)
         rw [hall2,hc2,decide_eq_false hlong]
         generalize cap (allj ++ Wj)=alln
         (refine Xc ?_ ?_ ?_ rfl<;>dsimp only [Zx,Zc,Zj,Zg,Yq,ZE,ZS,Zr,Zq,Zo,Za,Yv,id,go_sem,rA,rM,rS]<;>simp [Zx,Zc,Zj,Zg,Yq,ZE,ZS,Zr,Zq,Zo,Za,Yv,Za,Zd,KFR,KFL,KF,Zb,mtO,nbr])
     refine ZF (by simpa using hcb) ?_
     dsimp only [go_sem,rA,rM,rS]
     rw [Zp (n:=(j:Int)+1) (by omega) (by omega)]
     have hoth:Zn l.legs[j] v = -1:=by rw [Zn,if_neg (fun h=>hca h.symm),if_neg (fun h=>hcb h.symm)]
     refine ⟨(j+1,allj,ver,clk),⟨hlt,hMj,by rw [ZV,XT hxj (.inl (by omega)),List.append_nil];exact hallj,hlenj⟩,by simp only;omega,?_⟩
     (refine Zi ?_ ?_ ?_ rfl rfl<;>dsimp only [Zx,Zc,Zj,Zg,Yq,ZE,ZS,Zr,Zq,Zo,Za,id,go_sem,rA,rM,rS]<;>simp [Zx,Zc,Zj,Zg,Yq,ZE,ZS,Zr,Zq,Zo,Za,Za,Zd,KFR,KFL,KF,Zb,mtO,nbr])
   refine ZF (by simp;omega) ?_
   dsimp only [go_sem,rA,rM,rS]
   have hje:j=l.legs.length:=by omega
   subst hje
   have hWs:Xn l p to till (g+1) been v t=Z3 l p to till g been v t l.legs.length:=by rw [Yy,if_neg hlate,if_neg hto]
   refine ⟨_,Zt7 (key:=kI) (val:=B) (sv:=sI) (L:=L1) (k:=v) u99 ZcS,?_⟩
   rw [hdel]
   have hMf:MW L clk:=by have:=hMj.del (k:=v);rw [hdel] at this;exact this
   refine ⟨_,⟨ver,clk,hMf,rfl⟩,?_⟩
   rw [hWs,<- hallj,Wo (by omega),decide_eq_true hlenj]
   (refine Xc ?_ ?_ ?_ rfl<;>dsimp only [Zx,Zc,Zj,Zg,Yq,ZE,ZS,Zr,Zq,Zo,Za,Yv,id,go_sem,rA,rM,rS]<;>simp [Zx,Zc,Zj,Zg,Yq,ZE,ZS,Zr,Zq,Zo,Za,Yv,Za,Zd,KFR,KFL,KF,Zb,mtO,nbr])
def ZcI (l:Land) (p:Span) (s to day till:Int):SV:=.tup [YV (Zdb l p s to day till) 1 ((Zdc l p s to day till).map Yq),I (Zdb l p s to day till)]
theorem ZkT (l:Land) (p:Span) (s to day till:Int):KF (ZcI l p s to day till):=by
 unfold ZcI YV;split<;>simp [KFL,KF,Za,Yq,ZE,ZS]
theorem ZkH (l:Land) (hs:XE l) (s to day till:Int) (p:Span):Ct Try.prog 29 [.agg (Zf l),I s,I to,I day,I till,.agg (Ze p)] (ZcI l p s to day till):=by
 have hw:=hs.1
 have hleg:=hs.2.1
 refine t29.1 (by simp [Zf,Zc,Zj,Zg,Ze,Za,KFL,KF]) (ZkT _ _ _ _ _ _) ?_
 dsimp only [c29,r29,Zf,Ze,go_sem,rA,rM,rS]
 by_cases ha:Vz l p=0
 case neg =>
  refine call (WG l hs p ha) ?_
  dsimp only [go_sem,rA,rM,rS]
  refine ZP (by simpa using ha) ?_
  dsimp only [go_sem,rA,rM,rS]
  simp [ZcI,Zdb,ha,YV]
 have hok:=Zd4 ha
 refine call (Uj l hs p ha) ?_
 dsimp only [Zx,go_sem,rA,rM,rS]
 refine ZF (by decide) ?_
 dsimp only [go_sem,rA,rM,rS]
 simp only [List.length_map]
 have h1:=XN hok.land
 rw [Zp (n:=(l.wells.length:Int) - 1) (by omega) (by omega)]
 refine call (Zfg 0 (l.wells.length - 1) s to true) ?_
 dsimp only [go_sem,rA,rM,rS]
 repeat (first | (refine gb ?_;dsimp only [go_sem,rA,rM,rS]) | (refine call (Zfg 0 100000 day till true) ?_;dsimp only [go_sem,rA,rM,rS]))
 by_cases hr:(inR 0 (l.wells.length - 1) s && inR 0 (l.wells.length - 1) to && inR 0 100000 day && inR 0 100000 till)=true
 case neg =>
  have hb:∀ a b c d:Bool,¬ (a && b && c && d)=true->(!(a && b) || !(c && d))=true:=by decide
  refine ZP (hb _ _ _ _ hr) ?_
  dsimp only [go_sem,rA,rM,rS]
  simp [ZcI,Zdb,ha,YV,hr]
 have hb:∀ a b c d:Bool,(a && b && c && d)=true->(!(a && b) || !(c && d))=false:=by decide
 refine ZF (hb _ _ _ _ hr) ?_
 dsimp only [go_sem,rA,rM,rS]
 have he:Zdb l p s to day till=if (Zdc l p s to day till).length > 200 then 9 else 0:=by simp only [Zdb,Zdc,ha,hr];simp
 simp only [Bool.and_eq_true,inR,decide_eq_true_eq] at hr
 obtain ⟨⟨⟨hr1,hr3⟩,hd⟩,hu⟩:=hr
 refine VM rfl rfl rfl ?_
 dsimp only [go_sem,rA,rM,rS]
 refine gh (Zda 5 0 1 59 rfl rfl) ?_
 dsimp only [go_sem,rA,rM,rS]
 have hlk:=ZqD l p hs hok till to (l.wells.length+1) [] s day [] [] 0 0 [] (.v (.slice none 0 0)) Zts.start (by simp) (by omega) (by omega) (by simp;omega) (by simp) MW.nil (fun u=>by simp [YC]) (.inr ⟨rfl,rfl⟩)
 have hW:(Xn l p to till (l.wells.length+1) [] s day).map (([]:List Nat) ++ ·)=Zdc l p s to day till:=by simp [Zdc]
 rw [hW] at hlk
 refine Zce [2,1,5,7,4,8,9,6] hlk rfl rfl ?_ ?_ ?_ ?_
 . rfl
 . dsimp only [rho,go_sem,rA,rM,rS]
   simp [Za,Zd,KFR,KFL,KF,Zb,mtO,nbr]
 . dsimp only [rho,Yv,Zx,go_sem,rA,rM,rS]
   simp [Za,Zd,KFR,KFL,KF,Zb,mtO,nbr,Zr,Zx,Zc,Zj,Zg,Yq,ZE,ZS]
 rintro o ⟨ver',clk',hM',rfl⟩
 dsimp only [Yv,Zx,go_sem,rA,rM,rS]
 try simp only [List.nil_append]
 by_cases hl:(Zdc l p s to day till).length<=200
 . refine ZF (by simp only [hl,decide_true];rfl) ?_
   dsimp only [go_sem,rA,rM,rS]
   simp only [nbr]
   dsimp only [go_sem,rA,rM,rS]
   rw [ZcI,he,if_neg (by omega),Wo (by omega)]
   simp [YV,vwN]
 . refine ZP (by simp only [hl,decide_false];rfl) ?_
   dsimp only [go_sem,rA,rM,rS]
   rw [ZcI,he,if_pos (by omega)]
   simp [YV]
def c6:SC:=(sr1 [
 o1 6 (.box (.t 0) 0 25),
 o1 10 (.box (.t 4) 0 29),
 o1 12 (.mv (.c (.bool false)))]
 (.seq (sr1 [
 o1 29 (.ld (.t 6) 2 true),
 o1 30 (.call 16 [.t 29]),
 m1 31 30,
 ⟨some 32,.mv (.t 5),some (31,false),[]⟩,
 ⟨some 33,.len (.t 32),some (31,false),[]⟩,
 ⟨some 34,.bin .gtr (.t 33) (.c (.int .i64 40)),some (31,false),[]⟩,
 o1 35 (.pick (.t 31) (.c (.bool true)) (.t 34))]
 (.cond (.t 35)
 (sr1 [
  o1 12 (.mv (.c (.bool true)))]
  .ret)
 .skip))
 (sr1 [
 o1 36 (.ld (.t 6) 2 true),
 o1 37 (.call 21 [.t 36]),
 o1 38 (.bsl 1 3 []),
 m1 39 5,
 o1 40 (.app 1 8 3 (.t 38) (.t 39)),
 o1 13 (.alloc [.slice none 0 0,.slice none 0 0] 25),
 ⟨none,.st (.t 13) (.t 37) 2,none,[]⟩,
 m1 14 40]
 (sr1 [
 o1 42 (.ld (.t 13) 2 true),
 m1 43 1,
 m1 44 3,
 o1 45 (.ld (.t 10) 2 true),
 o1 46 (.call 32 [.t 42,.t 43,.t 44,.t 45]),
 m1 41 46,
 o1 47 (.ext (.t 41) 0),
 o1 48 (.ext (.t 41) 1),
 m1 15 47,
 m1 16 48]
 (sr1 [
 o1 50 (.ld (.t 6) 2 true),
 m1 51 1,
 m1 52 3,
 o1 53 (.ld (.t 10) 2 true),
 o1 54 (.call 33 [.t 50,.t 51,.t 52,.t 53]),
 m1 49 54,
 o1 55 (.ext (.t 49) 0),
 o1 56 (.ext (.t 49) 1),
 m1 17 55,
 m1 18 56]
 (sr1 [
 o1 58 (.ld (.t 13) 2 true),
 m1 59 1,
 m1 60 3,
 o1 61 (.ld (.t 10) 2 true),
 m1 62 14,
 o1 63 (.call 34 [.t 58,.t 59,.t 60,.t 61,.t 62]),
 m1 57 63,
 o1 64 (.ext (.t 57) 0),
 o1 65 (.ext (.t 57) 1),
 o1 66 (.ext (.t 57) 2),
 m1 19 64,
 m1 20 65,
 m1 21 66]
 (sr1 [
 o1 68 (.ld (.t 6) 2 true),
 m1 69 1,
 m1 70 3,
 o1 71 (.ld (.t 10) 2 true),
 m1 72 5,
 o1 73 (.call 35 [.t 68,.t 69,.t 70,.t 71,.t 72]),
 m1 67 73,
 o1 74 (.ext (.t 67) 0),
 o1 75 (.ext (.t 67) 1),
 o1 76 (.ext (.t 67) 2),
 m1 22 74,
 m1 23 75,
 m1 24 76]
 (sr1 [
 o1 78 (.ld (.t 13) 2 true),
 m1 79 1,
 m1 80 2,
 m1 81 3,
 o1 82 (.ld (.t 10) 2 true),
 o1 83 (.call 36 [.t 78,.t 79,.t 80,.t 81,.t 82]),
 m1 77 83,
 o1 84 (.ext (.t 77) 0),
 o1 85 (.ext (.t 77) 1),
 m1 25 84,
 m1 26 85]
 (sr1 [
 o1 87 (.ld (.t 6) 2 true),
 m1 88 1,
 m1 89 2,
 m1 90 3,
 o1 91 (.ld (.t 10) 2 true),
 o1 92 (.call 37 [.t 87,.t 88,.t 89,.t 90,.t 91]),
 m1 86 92,
 o1 93 (.ext (.t 86) 0),
 o1 94 (.ext (.t 86) 1),
 m1 27 93,
 m1 28 94]
 (sr1 [
 m1 95 15,
 m1 96 17,
 o1 97 (.call 38 [.t 95,.t 96]),
 m1 98 97,
 ⟨some 99,.mv (.t 16),some (98,true),[]⟩,
 ⟨some 100,.mv (.t 18),some (98,true),[]⟩,
 ⟨some 101,.bin .eql (.t 99) (.t 100),some (98,true),[]⟩,
 o1 102 (.pick (.t 98) (.t 101) (.c (.bool false))),
 m1 103 102,
 ⟨some 104,.mv (.t 19),some (103,true),[]⟩,
 ⟨some 105,.mv (.t 22),some (103,true),[]⟩,
 ⟨some 106,.call 39 [.t 104,.t 105],some (103,true),[]⟩,
 o1 107 (.pick (.t 103) (.t 106) (.c (.bool false))),
 m1 108 107,
 ⟨some 109,.mv (.t 20),some (108,true),[]⟩,
 ⟨some 110,.mv (.t 23),some (108,true),[]⟩,
 ⟨some 111,.bin .eql (.t 109) (.t 110),some (108,true),[]⟩,
 o1 112 (.pick (.t 108) (.t 111) (.c (.bool false))),
 m1 113 112,
 ⟨some 114,.mv (.t 21),some (113,true),[]⟩,
 ⟨some 115,.mv (.t 24),some (113,true),[]⟩,
 ⟨some 116,.bin .eql (.t 114) (.t 115),some (113,true),[]⟩,
 o1 117 (.pick (.t 113) (.t 116) (.c (.bool false))),
 m1 118 117,
 ⟨some 119,.mv (.t 25),some (118,true),[]⟩,
 ⟨some 120,.mv (.t 27),some (118,true),[]⟩,
 ⟨some 121,.call 40 [.t 119,.t 120],some (118,true),[]⟩,
 o1 122 (.pick (.t 118) (.t 121) (.c (.bool false))),
 m1 123 122,
 ⟨some 124,.mv (.t 26),some (123,true),[]⟩,
 ⟨some 125,.mv (.t 28),some (123,true),[]⟩,
 ⟨some 126,.bin .eql (.t 124) (.t 125),some (123,true),[]⟩,
 o1 127 (.pick (.t 123) (.t 126) (.c (.bool false))),
 m1 128 127,
 ⟨some 129,.ld (.t 13) 2 true,some (128,true),[]⟩,
 ⟨some 130,.ld (.t 6) 2 true,some (128,true),[]⟩,
 ⟨some 131,.call 28 [.t 129,.t 130],some (128,true),[]⟩,
 o1 132 (.pick (.t 128) (.t 131) (.c (.bool false))),
 m1 133 132,
 ⟨some 134,.mv (.t 14),some (133,true),[]⟩,
 ⟨some 135,.mv (.t 5),some (133,true),[]⟩,
 ⟨some 136,.call 40 [.t 134,.t 135],some (133,true),[]⟩,
 o1 137 (.pick (.t 133) (.t 136) (.c (.bool false))),
 m1 12 137]
 .ret))))))))))
theorem Zne {a b:Span} (h1:a.lo=b.lo) (h2:a.hi=b.hi):a=b:=by
 obtain ⟨_,_⟩:=a
 obtain ⟨_,_⟩:=b
 simp_all
theorem Zoe {a b:Stop} (h1:a.leg=b.leg) (h2:a.well=b.well) (h3:a.leaves.lo=b.leaves.lo) (h4:a.leaves.hi=b.leaves.hi) (h5:a.arrives.lo=b.arrives.lo) (h6:a.arrives.hi=b.arrives.hi):a=b:=by
 obtain ⟨_,_,⟨_,_⟩,⟨_,_⟩⟩:=a
 obtain ⟨_,_,⟨_,_⟩,⟨_,_⟩⟩:=b
 simp_all
theorem Zi4 (a b:List Span) (ha:a.length<=1000000) (hb:b.length<=1000000) (c c':Bool):Ct Try.prog 38 [.sl c 2 (a.map Ze),.sl c' 2 (b.map Ze)] (B (decide (a=b))):=by
 refine t38.1 (by simp [Za,Ze,KFL,KF]) (by simp [KFL,KF]) ?_
 dsimp only [c38,r38,go_sem,rA,rM,rS]
 simp only [List.length_map]
 by_cases hl:a.length=b.length
 case neg =>
  refine ZP (by simp;omega) ?_
  dsimp only [go_sem,rA,rM,rS]
  have:a≠b:=fun e=>hl (by rw [e])
  simp [this]
 refine ZF (by simp;omega) ?_
 dsimp only [go_sem,rA,rM,rS]
 refine YR (fun j:Nat=>[(5,I j)]) (fun _=>[]) (fun j=>j<=a.length/\a.take j=b.take j) (fun j=>a.length - j) 0 ⟨Nat.zero_le _,rfl⟩ ?_ ?_
 . (refine Zi ?_ ?_ ?_ rfl rfl<;>dsimp only [Ze,id,go_sem,rA,rM,rS]<;>simp [Ze,Za,Zd,KFR,KFL,KF,Zb,mtO,nbr])
 rintro j ⟨hj,ht⟩
 dsimp only [go_sem,rA,rM,rS]
 simp only [List.length_map]
 by_cases hlt:j < a.length
 . refine ZP (by simpa using hlt) ?_
   dsimp only [go_sem,rA,rM,rS]
   have hltb:j < b.length:=by omega
   refine Zy j hlt rfl ?_
   dsimp only [go_sem,rA,rM,rS]
   refine Zy j hltb rfl ?_
   dsimp only [Ze,go_sem,rA,rM,rS]
   by_cases he:a[j]=b[j]
   . refine ZF (by rw [he];simp [ngB]) ?_
     dsimp only [go_sem,rA,rM,rS]
     rw [Zp (n:=(j:Int)+1) (by omega) (by omega)]
     refine ⟨j+1,⟨hlt,?_⟩,by omega,?_⟩
     . rw [List.take_succ_eq_append_getElem hlt,List.take_succ_eq_append_getElem hltb,ht,he]
     (refine Zi ?_ ?_ ?_ rfl rfl<;>dsimp only [Ze,id,go_sem,rA,rM,rS]<;>simp [Ze,Za,Zd,KFR,KFL,KF,Zb,mtO,nbr])
   . refine ZP ?_ ?_
     . apply Decidable.byContradiction;intro hq;simp at hq;exact he (Zne hq.1 hq.2)
     dsimp only [go_sem,rA,rM,rS]
     have:a≠b:=fun e=>he (by subst e;rfl)
     simp [this]
 refine ZF (by simp;omega) ?_
 dsimp only [go_sem,rA,rM,rS]
 have:a=b:=by
  rw [List.take_of_length_le (by omega),List.take_of_length_le (by omega)] at ht
  exact ht
 simp [this]
theorem Zgy (a b:List Stop) (ha:a.length<=1000000) (hb:b.length<=1000000) (c c':Bool):Ct Try.prog 39 [.sl c 6 (a.map Wi),.sl c' 6 (b.map Wi)] (B (decide (a=b))):=by
 refine t39.1 (by simp [Za,Wi,KFL,KF]) (by simp [KFL,KF]) ?_
 dsimp only [c39,r39,go_sem,rA,rM,rS]
 simp only [List.length_map]
 by_cases hl:a.length=b.length
 case neg =>
  refine ZP (by simp;omega) ?_
  dsimp only [go_sem,rA,rM,rS]
  have:a≠b:=fun e=>hl (by rw [e])
  simp [this]
 refine ZF (by simp;omega) ?_
 dsimp only [go_sem,rA,rM,rS]
 refine YR (fun j:Nat=>[(5,I j)]) (fun _=>[]) (fun j=>j<=a.length/\a.take j=b.take j) (fun j=>a.length - j) 0 ⟨Nat.zero_le _,rfl⟩ ?_ ?_
 . (refine Zi ?_ ?_ ?_ rfl rfl<;>dsimp only [Wi,id,go_sem,rA,rM,rS]<;>simp [Wi,Za,Zd,KFR,KFL,KF,Zb,mtO,nbr])
 rintro j ⟨hj,ht⟩
 dsimp only [go_sem,rA,rM,rS]
 simp only [List.length_map]
 by_cases hlt:j < a.length
 . refine ZP (by simpa using hlt) ?_
   dsimp only [go_sem,rA,rM,rS]
   have hltb:j < b.length:=by omega
   refine Zy j hlt rfl ?_
   dsimp only [go_sem,rA,rM,rS]
   refine Zy j hltb rfl ?_
   dsimp only [Wi,go_sem,rA,rM,rS]
   by_cases he:a[j]=b[j]
   . refine ZF (by rw [he];simp [ngB]) ?_
     dsimp only [go_sem,rA,rM,rS]
     rw [Zp (n:=(j:Int)+1) (by omega) (by omega)]
     refine ⟨j+1,⟨hlt,?_⟩,by omega,?_⟩
     . rw [List.take_succ_eq_append_getElem hlt,List.take_succ_eq_append_getElem hltb,ht,he]
     (refine Zi ?_ ?_ ?_ rfl rfl<;>dsimp only [Wi,id,go_sem,rA,rM,rS]<;>simp [Wi,Za,Zd,KFR,KFL,KF,Zb,mtO,nbr])
   . refine ZP ?_ ?_
     . apply Decidable.byContradiction;intro hq;simp at hq;exact he (Zoe hq.1 hq.2.1 hq.2.2.1 hq.2.2.2.1 hq.2.2.2.2.1 hq.2.2.2.2.2)
     dsimp only [go_sem,rA,rM,rS]
     have:a≠b:=fun e=>he (by subst e;rfl)
     simp [this]
 refine ZF (by simp;omega) ?_
 dsimp only [go_sem,rA,rM,rS]
 have:a=b:=by
  rw [List.take_of_length_le (by omega),List.take_of_length_le (by omega)] at ht
  exact ht
 simp [this]
theorem Zcw (a b:List Int) (ha:a.length<=1000000) (hb:b.length<=1000000) (c c':Bool):Ct Try.prog 40 [.sl c 1 (a.map ZO),.sl c' 1 (b.map ZO)] (B (decide (a=b))):=by
 refine t40.1 (by simp [Za,ZO,KFL,KF]) (by simp [KFL,KF]) ?_
 dsimp only [c40,r40,go_sem,rA,rM,rS]
 simp only [List.length_map]
 by_cases hl:a.length=b.length
 case neg =>
  refine ZP (by simp;omega) ?_
  dsimp only [go_sem,rA,rM,rS]
  have:a≠b:=fun e=>hl (by rw [e])
  simp [this]
 refine ZF (by simp;omega) ?_
 dsimp only [go_sem,rA,rM,rS]
 refine YR (fun j:Nat=>[(5,I j)]) (fun _=>[]) (fun j=>j<=a.length/\a.take j=b.take j) (fun j=>a.length - j) 0 ⟨Nat.zero_le _,rfl⟩ ?_ ?_
 . (refine Zi ?_ ?_ ?_ rfl rfl<;>dsimp only [ZO,id,go_sem,rA,rM,rS]<;>simp [ZO,Za,Zd,KFR,KFL,KF,Zb,mtO,nbr])
 rintro j ⟨hj,ht⟩
 dsimp only [go_sem,rA,rM,rS]
 simp only [List.length_map]
 by_cases hlt:j < a.length
 . refine ZP (by simpa using hlt) ?_
   dsimp only [go_sem,rA,rM,rS]
   have hltb:j < b.length:=by omega
   refine Zy j hlt rfl ?_
   dsimp only [go_sem,rA,rM,rS]
   refine Zy j hltb rfl ?_
   dsimp only [ZO,go_sem,rA,rM,rS]
   by_cases he:a[j]=b[j]
   . refine ZF (by rw [he];simp [ngB]) ?_
     dsimp only [go_sem,rA,rM,rS]
     rw [Zp (n:=(j:Int)+1) (by omega) (by omega)]
     refine ⟨j+1,⟨hlt,?_⟩,by omega,?_⟩
     . rw [List.take_succ_eq_append_getElem hlt,List.take_succ_eq_append_getElem hltb,ht,he]
     (refine Zi ?_ ?_ ?_ rfl rfl<;>dsimp only [ZO,id,go_sem,rA,rM,rS]<;>simp [ZO,Za,Zd,KFR,KFL,KF,Zb,mtO,nbr])
   . refine ZP ?_ ?_
     . simpa using he
     dsimp only [go_sem,rA,rM,rS]
     have:a≠b:=fun e=>he (by subst e;rfl)
     simp [this]
 refine ZF (by simp;omega) ?_
 dsimp only [go_sem,rA,rM,rS]
 have:a=b:=by
  rw [List.take_of_length_le (by omega),List.take_of_length_le (by omega)] at ht
  exact ht
 simp [this]
def c41:SC:=(sr1 [
 o1 0 (.mv (.c (.bool false)))]
 (sr1 [
 o1 18 (.call 56 []),
 o1 19 (.call 57 []),
 o1 20 (.call 22 [.t 18,.c (.int .i64 2),.t 19]),
 m1 17 20,
 o1 21 (.ext (.t 17) 0),
 o1 22 (.ext (.t 17) 1),
 o1 1 (.alloc [.int .i64 0,.int .i64 0] 29),
 ⟨none,.st (.t 1) (.t 21) 2,none,[]⟩,
 m1 2 22]
 (sr1 [
 o1 24 (.call 56 []),
 o1 25 (.call 57 []),
 o1 26 (.call 24 [.t 24,.c (.int .i64 0),.c (.int .i64 6),.t 25]),
 m1 23 26,
 o1 27 (.ext (.t 23) 0),
 o1 28 (.ext (.t 23) 1),
 o1 3 (.alloc [.int .i64 0,.int .i64 0] 29),
 ⟨none,.st (.t 3) (.t 27) 2,none,[]⟩,
 m1 4 28]
 (sr1 [
 o1 30 (.call 56 []),
 o1 31 (.call 57 []),
 o1 32 (.bsl 1 3 [.c (.int .i64 0),.c (.int .i64 1)]),
 o1 33 (.call 34 [.t 30,.c (.int .i64 0),.c (.int .i64 6),.t 31,.t 32]),
 m1 29 33,
 o1 34 (.ext (.t 29) 0),
 o1 35 (.ext (.t 29) 1),
 o1 36 (.ext (.t 29) 2),
 m1 5 34,
 m1 6 35,
 m1 7 36]
 (sr1 [
 o1 38 (.call 56 []),
 o1 39 (.call 57 []),
 o1 40 (.call 32 [.t 38,.c (.int .i64 0),.c (.int .i64 6),.t 39]),
 m1 37 40,
 o1 41 (.ext (.t 37) 0),
 o1 42 (.ext (.t 37) 1),
 m1 8 41,
 m1 9 42]
 (sr1 [
 o1 44 (.call 56 []),
 o1 45 (.call 57 []),
 o1 46 (.call 36 [.t 44,.c (.int .i64 0),.c (.int .i64 2),.c (.int .i64 6),.t 45]),
 m1 43 46,
 o1 47 (.ext (.t 43) 0),
 o1 48 (.ext (.t 43) 1),
 m1 10 47,
 m1 11 48]
 (sr1 [
 o1 50 (.call 56 []),
 o1 51 (.call 57 []),
 o1 52 (.call 29 [.t 50,.c (.int .i64 0),.c (.int .i64 2),.c (.int .i64 6),.c (.int .i64 21),.t 51]),
 m1 49 52,
 o1 53 (.ext (.t 49) 0),
 o1 54 (.ext (.t 49) 1),
 m1 12 53,
 m1 13 54]
 (sr1 [
 o1 56 (.call 56 []),
 o1 57 (.build [.int .i64 0,.int .i64 0,.int .i64 0] [(0,1,.c (.int .i64 1)),(2,1,.c (.int .i64 4000))]),
 o1 58 (.bsl 3 40 [.t 57]),
 o1 59 (.call 17 [.t 56,.c (.int .i64 1),.t 58,.c (.int .i64 2)]),
 m1 55 59,
 o1 60 (.ext (.t 55) 0),
 o1 61 (.ext (.t 55) 1),
 o1 62 (.ext (.t 55) 2),
 o1 14 (.alloc [.int .i64 0,.int .i64 0] 29),
 ⟨none,.st (.t 14) (.t 60) 2,none,[]⟩,
 m1 15 61,
 m1 16 62]
 (.seq (.regd [0,1,2,3,4,5,6,7,8,9,10,11,12,13,14,15,16,17,18,19,20,21,22,23,24,25,26,27,28,29,30,31,32,33,34,35,36,37,38,39,40,41,42,43,44,45,46,47,48,49,50,51,52,53,54,55,56,57,58,59,60,61,62,63,64,65,66,67,68,69,70,71,72] [
 .op (m1 63 2),
 .op ⟨some 64,.bin .eql (.t 63) (.c (.int .i64 0)),none,[0]⟩,
 .op ⟨some 65,.mv (.t 64),none,[1]⟩,
 .op ⟨some 66,.ld (.t 1) 2 true,some (65,true),[2]⟩,
 .op ⟨some 67,.call 50 [.c (.int .i64 7),.c (.int .i64 12)],some (65,true),[2]⟩,
 .op ⟨some 68,.eqs false true [1,1] (.t 66) (.t 67),some (65,true),[2,3,4]⟩,
 .op ⟨some 69,.pick (.t 65) (.t 68) (.c (.bool false)),none,[2,5]⟩,
 .op ⟨some 70,.mv (.t 69),none,[4,6]⟩,
 .op ⟨some 71,.mv (.t 4),some (70,true),[7]⟩,
 .op ⟨some 72,.bin .eql (.t 71) (.c (.int .i64 0)),some (70,true),[7,8]⟩,
 .op ⟨some 73,.pick (.t 70) (.t 72) (.c (.bool false)),none,[7,9]⟩,
 .op ⟨some 74,.mv (.t 73),none,[7,10]⟩,
 .op ⟨some 75,.ld (.t 3) 2 true,some (74,true),[11]⟩,
 .op ⟨some 76,.call 50 [.c (.int .i64 6),.c (.int .i64 7)],some (74,true),[11]⟩,
 .op ⟨some 77,.eqs false true [1,1] (.t 75) (.t 76),some (74,true),[11,12,13]⟩,
 .op ⟨some 78,.pick (.t 74) (.t 77) (.c (.bool false)),none,[11,14]⟩,
 .op ⟨some 79,.mv (.t 78),none,[13,15]⟩,
 .op ⟨some 80,.mv (.t 7),some (79,true),[16]⟩,
 .op ⟨some 81,.bin .eql (.t 80) (.c (.int .i64 0)),some (79,true),[16,17]⟩,
 .op ⟨some 82,.pick (.t 79) (.t 81) (.c (.bool false)),none,[16,18]⟩,
 .op ⟨some 83,.mv (.t 82),none,[16,19]⟩,
 .op ⟨some 84,.mv (.t 5),some (83,true),[20]⟩,
 .op ⟨some 85,.call 50 [.c (.int .i64 6),.c (.int .i64 7)],some (83,true),[20]⟩,
 .op ⟨some 86,.call 50 [.c (.int .i64 9),.c (.int .i64 12)],some (83,true),[20,22]⟩,
 .op ⟨some 87,.build zv2 [(0,1,.c (.int .i64 0)),(1,1,.c (.int .i64 1)),(2,2,.t 85),(4,2,.t 86)],some (83,true),[20,22,23]⟩,
 .op ⟨some 88,.call 50 [.c (.int .i64 9),.c (.int .i64 18)],some (83,true),[20,23]⟩,
 .op ⟨some 89,.call 50 [.c (.int .i64 11),.c (.int .i64 21)],some (83,true),[20,25]⟩,
 .op ⟨some 90,.build zv2 [(0,1,.c (.int .i64 1)),(1,1,.c (.int .i64 2)),(2,2,.t 88),(4,2,.t 89)],some (83,true),[20,25,26]⟩,
 .op ⟨some 91,.bsl 6 92 [.t 87,.t 90],some (83,true),[20,24,27]⟩,
 .op ⟨some 92,.call 39 [.t 84,.t 91],some (83,true),[20,21,26,28]⟩,
 .op ⟨some 93,.pick (.t 83) (.t 92) (.c (.bool false)),none,[20,29]⟩,
 .op ⟨some 94,.mv (.t 93),none,[29,30]⟩,
 .op ⟨some 95,.mv (.t 9),some (94,true),[31]⟩,
 .op ⟨some 96,.bin .eql (.t 95) (.c (.int .i64 0)),some (94,true),[31,32]⟩,
 .op ⟨some 97,.pick (.t 94) (.t 96) (.c (.bool false)),none,[31,33]⟩,
 .op ⟨some 98,.mv (.t 97),none,[31,34]⟩,
 .op ⟨some 99,.mv (.t 8),some (98,true),[35]⟩,
 .op ⟨some 100,.call 50 [.c (.int .i64 6),.c (.int .i64 6)],some (98,true),[35]⟩,
 .op ⟨some 101,.call 50 [.c (.int .i64 9),.c (.int .i64 12)],some (98,true),[35,37]⟩,
 .op ⟨some 102,.call 50 [.c (.int .i64 11),.c (.int .i64 18)],some (98,true),[35,38]⟩,
 .op ⟨some 103,.bsl 2 29 [.t 100,.t 101,.t 102],some (98,true),[35,37,38,39]⟩,
 .op ⟨some 104,.call 38 [.t 99,.t 103],some (98,true),[35,36,39,40]⟩,
 .op ⟨some 105,.pick (.t 98) (.t 104) (.c (.bool false)),none,[35,41]⟩,
 .op ⟨some 106,.mv (.t 105),none,[41,42]⟩,
 .op ⟨some 107,.mv (.t 11),some (106,true),[43]⟩,
 .op ⟨some 108,.bin .eql (.t 107) (.c (.int .i64 0)),some (106,true),[43,44]⟩,
 .op ⟨some 109,.pick (.t 106) (.t 108) (.c (.bool false)),none,[43,45]⟩,
 .op ⟨some 110,.mv (.t 109),none,[43,46]⟩,
 .op ⟨some 111,.mv (.t 10),some (110,true),[47]⟩,
 .op ⟨some 112,.bsl 1 3 [.c (.int .i64 2)],some (110,true),[47]⟩,
 .op ⟨some 113,.call 40 [.t 111,.t 112],some (110,true),[47,48,49]⟩,
 .op ⟨some 114,.pick (.t 110) (.t 113) (.c (.bool false)),none,[47,50]⟩,
 .op ⟨some 115,.mv (.t 114),none,[50,51]⟩,
 .op ⟨some 116,.mv (.t 13),some (115,true),[52]⟩,
 .op ⟨some 117,.bin .eql (.t 116) (.c (.int .i64 0)),some (115,true),[52,53]⟩,
 .op ⟨some 118,.pick (.t 115) (.t 117) (.c (.bool false)),none,[52,54]⟩,
 .op ⟨some 119,.mv (.t 118),none,[52,55]⟩,
 .op ⟨some 120,.mv (.t 12),some (119,true),[56]⟩,
 .op ⟨some 121,.bsl 1 3 [.c (.int .i64 0),.c (.int .i64 1)],some (119,true),[56]⟩,
 .op ⟨some 122,.bsl 1 3 [.c (.int .i64 2)],some (119,true),[56]⟩,
 .op ⟨some 123,.bsl 1 59 [.t 121,.t 122],some (119,true),[56,58,59]⟩,
 .op ⟨some 124,.call 31 [.t 120,.t 123],some (119,true),[56,57,60]⟩,
 .op ⟨some 125,.pick (.t 119) (.t 124) (.c (.bool false)),none,[56,61]⟩,
 .op ⟨some 126,.mv (.t 125),none,[61,62]⟩,
 .op ⟨some 127,.mv (.t 16),some (126,true),[63]⟩,
 .op ⟨some 128,.bin .eql (.t 127) (.c (.int .i64 0)),some (126,true),[63,64]⟩,
 .op ⟨some 129,.pick (.t 126) (.t 128) (.c (.bool false)),none,[63,65]⟩,
 .op ⟨some 130,.mv (.t 129),none,[63,66]⟩,
 .op ⟨some 131,.ld (.t 14) 2 true,some (130,true),[67]⟩,
 .op ⟨some 132,.call 50 [.c (.int .i64 1000),.c (.int .i64 5000)],some (130,true),[67]⟩,
 .op ⟨some 133,.eqs false true [1,1] (.t 131) (.t 132),some (130,true),[67,68,69]⟩,
 .op ⟨some 134,.pick (.t 130) (.t 133) (.c (.bool false)),none,[67,70]⟩,
 .op ⟨some 0,.mv (.t 134),none,[0,1,2,3,4,5,6,7,8,9,10,11,12,13,14,15,16,17,18,19,20,21,22,23,24,25,26,27,28,29,30,31,32,33,34,35,36,37,38,39,40,41,42,43,44,45,46,47,48,49,50,51,52,53,54,55,56,57,58,59,60,61,62,63,64,65,66,67,68,69,70,71]⟩] 0 0 [
])
 .ret)))))))))
def r41:List RV:=[.tmp 0]
theorem t41:Qt1 Try.prog 41 c41 r41 135:=YU Try.func41 rfl (by kernel_rfl) (by kernel_rfl) (by kernel_rfl) (by kernel_rfl)
def c50:SC:=(sr1 [
 o1 4 (.alloc [.int .i64 0,.int .i64 0] 29)]
 (sr1 [
 m1 5 0,
 m1 6 1,
 o1 7 (.build [.int .i64 0,.int .i64 0] [(0,1,.t 5),(1,1,.t 6)]),
 ⟨none,.st (.t 4) (.t 7) 2,none,[]⟩]
 .ret))
def r50:List RV:=[.cell 4 2 true]
theorem t50:Qt1 Try.prog 50 c50 r50 8:=YU Try.func50 rfl (by kernel_rfl) (by kernel_rfl) (by kernel_rfl) (by kernel_rfl)
def c56:SC:=(sr1 [
 o1 0 (.alloc [.slice none 0 0,.slice none 0 0] 25)]
 (sr1 [
 o1 1 (.build zv0 []),
 o1 2 (.call 50 [.c (.int .i64 1000),.c (.int .i64 2000)]),
 o1 3 (.call 50 [.c (.int .i64 3000),.c (.int .i64 5000)]),
 o1 4 (.build zv0 [(0,1,.c (.int .i64 90000)),(2,1,.c (.int .i64 20)),(3,2,.t 2),(5,1,.c (.int .i64 10000)),(6,2,.t 3)]),
 o1 5 (.build zv0 [(0,1,.c (.int .i64 140000))]),
 o1 6 (.bsl 9 109 [.t 1,.t 4,.t 5]),
 o1 7 (.call 50 [.c (.int .i64 90000),.c (.int .i64 100000)]),
 o1 8 (.call 50 [.c (.int .i64 5),.c (.int .i64 7)]),
 o1 9 (.call 50 [.c (.int .i64 20),.c (.int .i64 30)]),
 o1 10 (.build [.int .i64 0,.int .i64 0,.int .i64 0,.int .i64 0] [(0,2,.t 8),(2,2,.t 9)]),
 o1 11 (.bsl 4 95 [.t 10]),
 o1 12 (.build zv1 [(0,1,.c (.int .i64 0)),(1,1,.c (.int .i64 1)),(2,2,.t 7),(4,1,.t 11)]),
 o1 13 (.call 50 [.c (.int .i64 50000),.c (.int .i64 50000)]),
 o1 14 (.call 50 [.c (.int .i64 12),.c (.int .i64 13)]),
 o1 15 (.build [.int .i64 0,.int .i64 0,.int .i64 0,.int .i64 0] [(2,2,.t 14)]),
 o1 16 (.call 50 [.c (.int .i64 18),.c (.int .i64 18)]),
 o1 17 (.call 50 [.c (.int .i64 40),.c (.int .i64 50)]),
 o1 18 (.build [.int .i64 0,.int .i64 0,.int .i64 0,.int .i64 0] [(0,2,.t 16),(2,2,.t 17)]),
 o1 19 (.bsl 4 95 [.t 15,.t 18]),
 o1 20 (.build zv1 [(0,1,.c (.int .i64 1)),(1,1,.c (.int .i64 2)),(2,2,.t 13),(4,1,.t 19)]),
 o1 21 (.call 50 [.c (.int .i64 200000),.c (.int .i64 240000)]),
 o1 22 (.call 50 [.c (.int .i64 99),.c (.int .i64 99)]),
 o1 23 (.build [.int .i64 0,.int .i64 0,.int .i64 0,.int .i64 0] [(2,2,.t 22)]),
 o1 24 (.bsl 4 95 [.t 23]),
 o1 25 (.build zv1 [(0,1,.c (.int .i64 0)),(1,1,.c (.int .i64 2)),(2,2,.t 21),(4,1,.t 24)]),
 o1 26 (.bsl 5 86 [.t 12,.t 20,.t 25]),
 o1 27 (.build [.slice none 0 0,.slice none 0 0] [(0,1,.t 6),(1,1,.t 26)]),
 ⟨none,.st (.t 0) (.t 27) 2,none,[]⟩]
 .ret))
def r56:List RV:=[.cell 0 2 true]
theorem n56:Try.f56.ntmps=28:=by kernel_rfl
theorem b56:Xp Try.prog 56=true:=by kernel_rfl
theorem Zv5:XY Try.prog c56 ((Try.f56.body).getD .skip)=true:=by kernel_rfl
theorem Zu6:Vn Try.prog r56 Try.f56.results.toList=true:=by kernel_rfl
def c57:SC:=(sr1 [
 o1 0 (.alloc [.int .i64 0,.int .i64 0] 29)]
 (sr1 [
 o1 1 (.call 50 [.c (.int .i64 20000),.c (.int .i64 30000)]),
 ⟨none,.st (.t 0) (.t 1) 2,none,[]⟩]
 .ret))
def r57:List RV:=[.cell 0 2 true]
theorem t57:Qt1 Try.prog 57 c57 r57 2:=YU Try.func57 rfl (by kernel_rfl) (by kernel_rfl) (by kernel_rfl) (by kernel_rfl)
def c8:SC:=(sr1 [
 o1 5 (.box (.t 0) 0 25),
 o1 6 (.box (.t 1) 0 3),
 o1 8 (.box (.t 3) 0 29),
 o1 10 (.mv (.c (.bool false)))]
 (sr1 [
 o1 20 (.call 41 []),
 m1 11 20]
 (.seq (sr1 [
 m1 21 11,
 o1 22 (.un .not (.t 21))]
 (.cond (.t 22)
 (sr1 [
  o1 10 (.mv (.c (.bool false)))]
  .ret)
 .skip))
 (.seq (sr1 [
 o1 23 (.ld (.t 5) 2 true),
 o1 24 (.ld (.t 8) 2 true),
 o1 25 (.call 42 [.t 23,.t 24]),
 o1 26 (.un .not (.t 25)),
 m1 27 26,
 ⟨some 28,.ld (.t 6) 1 false,some (27,false),[]⟩,
 ⟨some 29,.bin .lss (.t 28) (.c (.int .i64 0)),some (27,false),[]⟩,
 o1 30 (.pick (.t 27) (.c (.bool true)) (.t 29)),
 m1 31 30,
 ⟨some 32,.ld (.t 6) 1 false,some (31,false),[]⟩,
 ⟨some 33,.addo (.t 5) 1,some (31,false),[]⟩,
 ⟨some 34,.ld (.t 33) 1 false,some (31,false),[]⟩,
 ⟨some 35,.len (.t 34),some (31,false),[]⟩,
 ⟨some 36,.bin .geq (.t 32) (.t 35),some (31,false),[]⟩,
 o1 37 (.pick (.t 31) (.c (.bool true)) (.t 36)),
 m1 38 37,
 ⟨some 39,.mv (.t 2),some (38,false),[]⟩,
 ⟨some 40,.bin .lss (.t 39) (.c (.int .i64 0)),some (38,false),[]⟩,
 o1 41 (.pick (.t 38) (.c (.bool true)) (.t 40)),
 m1 42 41,
 ⟨some 43,.mv (.t 2),some (42,false),[]⟩,
 ⟨some 44,.bin .gtr (.t 43) (.c (.int .i64 100000)),some (42,false),[]⟩,
 o1 45 (.pick (.t 42) (.c (.bool true)) (.t 44))]
 (.cond (.t 45)
 (sr1 [
  m1 46 11,
  m1 10 46]
  .ret)
 .skip))
 (sr1 [
 o1 48 (.ld (.t 5) 2 true),
 o1 49 (.ld (.t 6) 1 false),
 m1 50 2,
 o1 51 (.ld (.t 8) 2 true),
 o1 52 (.call 24 [.t 48,.t 49,.t 50,.t 51]),
 m1 47 52,
 o1 53 (.ext (.t 47) 0),
 o1 54 (.ext (.t 47) 1),
 o1 12 (.alloc [.int .i64 0,.int .i64 0] 29),
 ⟨none,.st (.t 12) (.t 53) 2,none,[]⟩,
 m1 13 54]
 (sr1 [
 o1 56 (.ld (.t 5) 2 true),
 o1 57 (.ld (.t 6) 1 false),
 o1 58 (.ld (.t 8) 2 true),
 o1 59 (.call 22 [.t 56,.t 57,.t 58]),
 m1 55 59,
 o1 60 (.ext (.t 55) 0),
 o1 61 (.ext (.t 55) 1),
 o1 14 (.alloc [.int .i64 0,.int .i64 0] 29),
 ⟨none,.st (.t 14) (.t 60) 2,none,[]⟩,
 m1 15 61]
 (.seq (sr1 [
 m1 62 13,
 o1 63 (.bin .neq (.t 62) (.c (.int .i64 0))),
 m1 64 63,
 ⟨some 65,.mv (.t 15),some (64,false),[]⟩,
 ⟨some 66,.bin .neq (.t 65) (.c (.int .i64 0)),some (64,false),[]⟩,
 o1 67 (.pick (.t 64) (.c (.bool true)) (.t 66)),
 m1 68 67,
 ⟨some 69,.addo (.t 14) 0,some (68,false),[]⟩,
 ⟨some 70,.ld (.t 69) 1 false,some (68,false),[]⟩,
 ⟨some 71,.bin .lss (.t 70) (.c (.int .i64 1)),some (68,false),[]⟩,
 o1 72 (.pick (.t 68) (.c (.bool true)) (.t 71)),
 m1 73 72,
 ⟨some 74,.addo (.t 14) 0,some (73,false),[]⟩,
 ⟨some 75,.ld (.t 74) 1 false,some (73,false),[]⟩,
 ⟨some 76,.addo (.t 14) 1,some (73,false),[]⟩,
 ⟨some 77,.ld (.t 76) 1 false,some (73,false),[]⟩,
 ⟨some 78,.bin .gtr (.t 75) (.t 77),some (73,false),[]⟩,
 o1 79 (.pick (.t 73) (.c (.bool true)) (.t 78)),
 m1 80 79,
 ⟨some 81,.addo (.t 12) 0,some (80,false),[]⟩,
 ⟨some 82,.ld (.t 81) 1 false,some (80,false),[]⟩,
 ⟨some 83,.mv (.t 2),some (80,false),[]⟩,
 ⟨some 84,.bin .lss (.t 82) (.t 83),some (80,false),[]⟩,
 o1 85 (.pick (.t 80) (.c (.bool true)) (.t 84)),
 m1 86 85,
 ⟨some 87,.addo (.t 12) 0,some (86,false),[]⟩,
 ⟨some 88,.ld (.t 87) 1 false,some (86,false),[]⟩,
 ⟨some 89,.addo (.t 12) 1,some (86,false),[]⟩,
 ⟨some 90,.ld (.t 89) 1 false,some (86,false),[]⟩,
 ⟨some 91,.bin .gtr (.t 88) (.t 90),some (86,false),[]⟩,
 o1 92 (.pick (.t 86) (.c (.bool true)) (.t 91)),
 m1 93 92,
 ⟨some 94,.addo (.t 12) 1,some (93,false),[]⟩,
 ⟨some 95,.ld (.t 94) 1 false,some (93,false),[]⟩,
 ⟨some 96,.bin .gtr (.t 95) (.c (.int .i64 100001)),some (93,false),[]⟩,
 o1 97 (.pick (.t 93) (.c (.bool true)) (.t 96))]
 (.cond (.t 97)
 (sr1 [
  o1 10 (.mv (.c (.bool false)))]
  .ret)
 .skip))
 (sr1 [
 o1 98 (.addo (.t 5) 1),
 o1 99 (.ld (.t 98) 1 false),
 o1 100 (.ld (.t 6) 1 false),
 o1 101 (.ixs (.t 99) (.t 100) 5),
 o1 102 (.addo (.t 101) 2),
 o1 103 (.ld (.t 102) 2 true),
 o1 16 (.alloc [.int .i64 0,.int .i64 0] 29),
 ⟨none,.st (.t 16) (.t 103) 2,none,[]⟩]
 (.seq (sr1 [
 o1 104 (.addo (.t 14) 0),
 o1 105 (.ld (.t 104) 1 false),
 o1 106 (.addo (.t 8) 1),
 o1 107 (.ld (.t 106) 1 false),
 o1 108 (.bin .mul (.t 105) (.t 107)),
 o1 109 (.addo (.t 16) 0),
 o1 110 (.ld (.t 109) 1 false),
 o1 111 (.bin .lss (.t 108) (.t 110)),
 m1 112 111,
 ⟨some 113,.addo (.t 14) 0,some (112,false),[]⟩,
 ⟨some 114,.ld (.t 113) 1 false,some (112,false),[]⟩,
 ⟨some 115,.bin .sub (.t 114) (.c (.int .i64 1)),some (112,false),[]⟩,
 ⟨some 116,.addo (.t 8) 1,some (112,false),[]⟩,
 ⟨some 117,.ld (.t 116) 1 false,some (112,false),[]⟩,
 ⟨some 118,.bin .mul (.t 115) (.t 117),some (112,false),[]⟩,
 ⟨some 119,.addo (.t 16) 0,some (112,false),[]⟩,
 ⟨some 120,.ld (.t 119) 1 false,some (112,false),[]⟩,
 ⟨some 121,.bin .geq (.t 118) (.t 120),some (112,false),[]⟩,
 o1 122 (.pick (.t 112) (.c (.bool true)) (.t 121)),
 m1 123 122,
 ⟨some 124,.addo (.t 14) 1,some (123,false),[]⟩,
 ⟨some 125,.ld (.t 124) 1 false,some (123,false),[]⟩,
 ⟨some 126,.addo (.t 8) 0,some (123,false),[]⟩,
 ⟨some 127,.ld (.t 126) 1 false,some (123,false),[]⟩,
 ⟨some 128,.bin .mul (.t 125) (.t 127),some (123,false),[]⟩,
 ⟨some 129,.addo (.t 16) 1,some (123,false),[]⟩,
 ⟨some 130,.ld (.t 129) 1 false,some (123,false),[]⟩,
 ⟨some 131,.bin .lss (.t 128) (.t 130),some (123,false),[]⟩,
 o1 132 (.pick (.t 123) (.c (.bool true)) (.t 131)),
 m1 133 132,
 ⟨some 134,.addo (.t 14) 1,some (133,false),[]⟩,
 ⟨some 135,.ld (.t 134) 1 false,some (133,false),[]⟩,
 ⟨some 136,.bin .sub (.t 135) (.c (.int .i64 1)),some (133,false),[]⟩,
 ⟨some 137,.addo (.t 8) 0,some (133,false),[]⟩,
 ⟨some 138,.ld (.t 137) 1 false,some (133,false),[]⟩,
 ⟨some 139,.bin .mul (.t 136) (.t 138),some (133,false),[]⟩,
 ⟨some 140,.addo (.t 16) 1,some (133,false),[]⟩,
 ⟨some 141,.ld (.t 140) 1 false,some (133,false),[]⟩,
 ⟨some 142,.bin .geq (.t 139) (.t 141),some (133,false),[]⟩,
 o1 143 (.pick (.t 133) (.c (.bool true)) (.t 142))]
 (.cond (.t 143)
 (sr1 [
  o1 10 (.mv (.c (.bool false)))]
  .ret)
 .skip))
 (sr1 [
 o1 144 (.mkf 48 [.t 5,.t 6,.t 14]),
 o1 145 (.mkf 49 [.t 5,.t 6,.t 14]),
 m1 17 144,
 m1 18 145]
 (.seq (.seq (.regd [0,1,2,3,4,5,6,7,8,9,10,11,12,13,14,15,16,17] [
 .op (o1 146 (.addo (.t 12) 0)),
 .op ⟨some 147,.ld (.t 146) 1 false,none,[0]⟩,
 .op ⟨some 148,.bin .lss (.t 147) (.c (.int .i64 100001)),none,[1]⟩,
 .op (m1 149 17),
 .op (o1 150 (.addo (.t 12) 0)),
 .op ⟨some 151,.ld (.t 150) 1 false,none,[4]⟩,
 .op ⟨some 152,.calv (.t 149) [.t 151],none,[3,5]⟩,
 .op ⟨some 153,.eqs true false [0] (.t 148) (.t 152),none,[2,6]⟩,
 .op ⟨some 154,.mv (.t 153),none,[6,7]⟩,
 .op ⟨some 155,.addo (.t 12) 1,some (154,false),[8]⟩,
 .op ⟨some 156,.ld (.t 155) 1 false,some (154,false),[8,9]⟩,
 .op ⟨some 157,.bin .lss (.t 156) (.c (.int .i64 100001)),some (154,false),[8,10]⟩,
 .op ⟨some 158,.mv (.t 18),some (154,false),[8]⟩,
 .op ⟨some 159,.addo (.t 12) 1,some (154,false),[8]⟩,
 .op ⟨some 160,.ld (.t 159) 1 false,some (154,false),[8,13]⟩,
 .op ⟨some 161,.calv (.t 158) [.t 160],some (154,false),[8,12,14]⟩,
 .op ⟨some 162,.eqs true false [0] (.t 157) (.t 161),some (154,false),[8,11,15]⟩,
 .op ⟨some 163,.pick (.t 154) (.c (.bool true)) (.t 162),none,[8,16]⟩] 0 0 [
])
 (.cond (.t 163)
 (sr1 [
  o1 10 (.mv (.c (.bool false)))]
  .ret)
 .skip))
 (sr1 [
 m1 164 2,
 m1 165 4,
 o1 166 (.conv .i64 (.t 165)),
 m1 167 2,
 o1 168 (.bin .sub (.c (.int .i64 100000)) (.t 167)),
 o1 169 (.bin .add (.t 168) (.c (.int .i64 1))),
 o1 170 (.div .rem (.t 166) (.t 169)),
 o1 171 (.bin .add (.t 164) (.t 170)),
 m1 19 171]
 (sr1 [
 m1 172 11,
 m1 173 172,
 ⟨some 174,.mv (.t 19),some (173,true),[]⟩,
 ⟨some 175,.addo (.t 12) 0,some (173,true),[]⟩,
 ⟨some 176,.ld (.t 175) 1 false,some (173,true),[]⟩,
 ⟨some 177,.bin .geq (.t 174) (.t 176),some (173,true),[]⟩,
 ⟨some 178,.mv (.t 177),some (173,true),[]⟩,
 ⟨some 179,.mv (.t 17),some (178,false),[]⟩,
 ⟨some 180,.mv (.t 19),some (178,false),[]⟩,
 ⟨some 181,.calv (.t 179) [.t 180],some (178,false),[]⟩,
 ⟨some 182,.un .not (.t 181),some (178,false),[]⟩,
 ⟨some 183,.pick (.t 178) (.c (.bool true)) (.t 182),some (173,true),[]⟩,
 o1 184 (.pick (.t 173) (.t 183) (.c (.bool false))),
 m1 185 184,
 ⟨some 186,.mv (.t 19),some (185,true),[]⟩,
 ⟨some 187,.addo (.t 12) 1,some (185,true),[]⟩,
 ⟨some 188,.ld (.t 187) 1 false,some (185,true),[]⟩,
 ⟨some 189,.bin .geq (.t 186) (.t 188),some (185,true),[]⟩,
 ⟨some 190,.mv (.t 189),some (185,true),[]⟩,
 ⟨some 191,.mv (.t 18),some (190,false),[]⟩,
 ⟨some 192,.mv (.t 19),some (190,false),[]⟩,
 ⟨some 193,.calv (.t 191) [.t 192],some (190,false),[]⟩,
 ⟨some 194,.un .not (.t 193),some (190,false),[]⟩,
 ⟨some 195,.pick (.t 190) (.c (.bool true)) (.t 194),some (185,true),[]⟩,
 o1 196 (.pick (.t 185) (.t 195) (.c (.bool false))),
 m1 10 196]
 .ret)))))))))))))
end Go.Proofs.Ytkjldleglbbkeaa
namespace Go.Azalai
open Go.Sx
end Go.Azalai
namespace Go.Proofs.Ytkjldleglbbkeaa
open Go Go.Sx Go.Azalai
theorem ZdN (a:List Nat):a.map ZS=(a.map fun n:Nat=>(n:Int)).map ZO:=by simp [ZS,ZO,Function.comp_def]
end Go.Proofs.Ytkjldleglbbkeaa
namespace Go.Sx
open Go Go.RowKit
def RLW (l l':List SV):Prop:=∀ (w:World) (E:Env) (n ok:Nat->Prop) (ys:List Value),RL w E n ok l ys->RL w E n ok l' ys
theorem Ud {l:List SV}:RLW l l:=fun _ _ _ _ _ h=>h
theorem Yt {s s':SV} {l l':List SV} (h1:UZ s s') (h2:RLW l l'):RLW (s :: l) (s' :: l'):=Zjt h1 h2
theorem Zkc {l l':List SV} (h:RLW l l'):UZ (.agg l) (.agg l'):=fun w E n ok y hy=>by
 simp only [R] at hy ⊢
 obtain ⟨cs,h1,h2⟩:=hy
 exact ⟨cs,h1,h _ _ _ _ _ h2⟩
def RRW:List (List SV)->List (List SV)->Prop
 | [],[]=>True
 | r :: xs,r' :: xs'=>RLW r r'/\r'.length=r.length/\RRW xs xs'
 | _,_=>False
theorem Va:∀ {xs xs':List (List SV)},RRW xs xs'->xs'.length=xs.length
 | [],[],_=>rfl
 | _ :: xs,_ :: xs',h=>by simp [Va h.2.2]
 | [],_ :: _,h=>h.elim
 | _ :: _,[],h=>h.elim
theorem Zgs {w:World} {E:Env} {n ok:Nat->Prop} {b m:Nat}:∀ {xs xs':List (List SV)} {off:Nat},RRW xs xs'->RR w E n ok b m xs off->RR w E n ok b m xs' off
 | [],[],_,_,h=>h
 | r :: xs,r' :: xs',off,hw,h=>by
  simp only [RR] at h ⊢
  obtain ⟨h0,⟨cs,h1,h2⟩,h3⟩:=h
  exact ⟨by rw [hw.2.1];exact h0,⟨cs,hw.1 _ _ _ _ _ h1,h2⟩,Zgs hw.2.2 h3⟩
 | [],_ :: _,_,h,_=>h.elim
 | _ :: _,[],_,h,_=>h.elim
theorem Zmb {c:Bool} {m:Nat} {xs xs':List (List SV)} (h:RRW xs xs'):UZ (.sl c m xs) (.sl c m xs'):=fun w E n ok y hy=>by
 simp only [R] at hy ⊢
 obtain ⟨a,len,cap,h1,h2,h3,h4,h5⟩:=hy
 refine ⟨a,len,cap,h1,by rw [Va h];exact h2,h3,by rw [Va h];exact h4,?_⟩
 rcases h5 with h5 | ⟨b,off,h5,h6⟩
 . left
   have:=Va h
   rw [h5] at this
   exact List.eq_nil_of_length_eq_zero this
 . exact .inr ⟨b,off,h5,Zgs h h6⟩
theorem Zsv {c:Bool} {m:Nat} {xs xs':List (List SV)} (h:RRW xs xs'):UZ (.sl c m xs) (.sl false m xs'):=fun w E n ok y hy=>by
 simp only [R] at hy ⊢
 obtain ⟨a,len,cap,h1,h2,h3,h4,h5⟩:=hy
 refine ⟨a,len,cap,h1,by rw [Va h];exact h2,⟨h3.1,fun h=>by cases h⟩,by rw [Va h];exact h4,?_⟩
 rcases h5 with h5 | ⟨b,off,h5,h6⟩
 . left
   have:=Va h
   rw [h5] at this
   exact List.eq_nil_of_length_eq_zero this
 . exact .inr ⟨b,off,h5,Zgs h h6⟩
end Go.Sx
namespace Go.Azalai
def Z8:Land:=⟨[⟨0,0,0,⟨0,0⟩,0,⟨0,0⟩,0⟩,⟨90000,0,20,⟨1000,2000⟩,10000,⟨3000,5000⟩,0⟩,⟨140000,0,0,⟨0,0⟩,0,⟨0,0⟩,0⟩],
 [⟨0,1,⟨90000,100000⟩,[⟨⟨5,7⟩,⟨20,30⟩⟩]⟩,⟨1,2,⟨50000,50000⟩,[⟨⟨0,0⟩,⟨12,13⟩⟩,⟨⟨18,18⟩,⟨40,50⟩⟩]⟩,⟨0,2,⟨200000,240000⟩,[⟨⟨0,0⟩,⟨99,99⟩⟩]⟩]⟩
def YA:Span:=⟨20000,30000⟩
theorem X9:XE Z8:=⟨by decide,by decide,by decide⟩
theorem ex_ok:OkLP Z8 YA:=⟨by decide,by decide⟩
theorem ZsU:Zjp Z8 2 YA=(⟨7,12⟩,0):=by decide
theorem Zk8:ZcH Z8 0 6 YA=(⟨6,7⟩,0):=by decide
theorem ZrH:Zbk Z8 YA 0 6 [0,1]=([⟨0,1,⟨6,7⟩,⟨9,12⟩⟩,⟨1,2,⟨9,18⟩,⟨11,21⟩⟩],0,0):=by decide
theorem Zs0:Zdc Z8 YA 0 2 6 21=[[0,1],[2]]:=by decide
theorem Zm5:Z4 Z8 1 [⟨1,0,4000⟩] 2=(⟨1000,5000⟩,0,0):=by decide
def exD (k:Bool) (v:Int):Int:=if v=0 then 6 else if v=1 then (if k then 12 else 9) else if v=2 then (if k then 18 else 11) else 100001
theorem U1 (k:Bool) (v:Int):Yd k Z8 YA 0 6 v=exD k v:=by
 refine (UO (k:=k) (s:=0) (day:=6) ex_ok (by decide) (by decide) (by decide) (by decide) (d:=exD k) (by cases k<;>decide) ?_ ?_ ?_ v).symm
 . cases k<;>(intro x hx;simp only [Z8,List.mem_cons,List.not_mem_nil,or_false] at hx;rcases hx with rfl | rfl | rfl<;>decide)
 . intro v;unfold exD;repeat' split
   all_goals decide
 . intro v
   unfold exD
   split
   . rename_i h;subst h;exact .inr ⟨[],by cases k<;>decide⟩
   . split
     . rename_i h;subst h;exact .inr ⟨[0],by cases k<;>decide⟩
     . split
       . rename_i h;subst h
         cases k
         . exact .inr ⟨[0,1],by decide⟩
         . exact .inr ⟨[2],by decide⟩
       . exact .inl rfl
theorem Zmk:Xt Z8 YA 0 6=[⟨6,6⟩,⟨9,12⟩,⟨11,18⟩]:=by
 have h:Z8.wells.length=3:=rfl
 simp only [Xt,Y4,h,U1]
 decide
theorem Zie:Zai Z8 YA 0 6=0:=by decide
theorem ZpY:ZnR Z8 YA 0 2 6=[2]:=by
 have hr:Yd true Z8 YA 0 6 2=18:=by rw [U1];decide
 refine Zeh ⟨by rw [hr];decide,fun b hb=>?_⟩
 rw [hr] at hb
 match b,hb with
 | [],hb=>exact absurd hb (by decide)
 | [i],hb =>
  refine .inr ⟨rfl,?_⟩
  match i,hb with
  | 0,hb=>exact absurd hb (by decide)
  | 1,hb=>exact absurd hb (by decide)
  | i+2,_=>simp [Wh]
 | _ :: _ :: _,_=>exact .inl (by simp)
theorem ZmO:Zdb Z8 YA 0 2 6 21=0:=by decide
end Go.Azalai
namespace Go.Proofs.Ytkjldleglbbkeaa
open Go Go.Sx Go.Azalai
theorem Zlp:Zcv Z8 YA 0 2 6=0:=by
 have h1:Vz Z8 YA=0:=by decide
 have hr:Yd true Z8 YA 0 6 2=18:=by rw [U1];decide
 unfold Zcv
 rw [hr,if_neg (by rw [h1];decide),if_neg (by decide),if_neg (by decide)]
theorem Zbt (a b:Int):Ct Try.prog 50 [I a,I b] (.agg (Ze ⟨a,b⟩)):=by
 refine t50.1 (by simp [KFR,KFL,KF]) (by simp [Ze,KFL,KF]) ?_
 dsimp only [c50,r50,go_sem,rA,rM,rS]
 rfl
theorem V0:Ct Try.prog 57 [] (.agg (Ze YA)):=by
 refine t57.1 (by simp [KFR,KFL,KF]) (by simp [Ze,YA,KFL,KF]) ?_
 dsimp only [c57,r57,go_sem,rA,rM,rS]
 refine call (Zbt _ _) ?_
 dsimp only [Ze,go_sem,rA,rM,rS]
 rfl
theorem u56 {args:List SV} {res:SV} (ka:KFL args) (kr:KF res) (h:sx Try.prog Y0 0 c56 (st0 args 28) (ZvQ r56 res)) (hA:Nat.ble args.length 28=true:=by rfl):Ct Try.prog 56 args res:=Zb2 Try.func56 rfl b56 Zv5 Zu6 n56 (Nat.le_of_ble_eq_true hA) ka kr h
theorem Xo:Ct Try.prog 56 [] (.agg (Zf Z8)):=by
 refine u56 (by simp [KFR,KFL,KF]) (by simp [Zf,Zc,Zj,Zg,Z8,KFR,KFL,KF]) ?_
 dsimp only [c56,r56,go_sem,rA,rM,rS]
 repeat (refine call (Zbt _ _) ?_;dsimp only [Ze,go_sem,rA,rM,rS])
 refine ⟨_,rfl,Zkc (Yt Zb3 (Yt (Zsv ?_) Ud))⟩
 refine ⟨?_,rfl,?_,rfl,?_,rfl,trivial⟩ <;>
  exact Yt UZ.rfl (Yt UZ.rfl (Yt UZ.rfl (Yt UZ.rfl (Yt Zb3 Ud))))
theorem Zkp (a b:List (List Nat)) (ha:a.length<=1000000) (hb:b.length<=1000000) (h1:∀ x ∈ a,x.length<=1000000) (h2:∀ x ∈ b,x.length<=1000000) (c c':Bool):Ct Try.prog 31 [.sl c 1 (a.map Yq),.sl c' 1 (b.map Yq)] (B (decide (a=b))):=by
 refine t31.1 (by simp [Za,Yq,ZE,ZS,KFL,KF]) (by simp [KFL,KF]) ?_
 dsimp only [c31,r31,go_sem,rA,rM,rS]
 simp only [List.length_map]
 by_cases hl:a.length=b.length
 case neg =>
  refine ZP (by simp;omega) ?_
  dsimp only [go_sem,rA,rM,rS]
  have:a≠b:=fun e=>hl (by rw [e])
  simp [this]
 refine ZF (by simp;omega) ?_
 dsimp only [go_sem,rA,rM,rS]
 refine YR (fun j:Nat=>[(5,I j)]) (fun _=>[]) (fun j=>j<=a.length/\a.take j=b.take j) (fun j=>a.length - j) 0 ⟨Nat.zero_le _,rfl⟩ ?_ ?_
 . (refine Zi ?_ ?_ ?_ rfl rfl<;>dsimp only [Yq,ZE,ZS,Za,id,go_sem,rA,rM,rS]<;>simp [Yq,ZE,ZS,Za,Za,Zd,KFR,KFL,KF,Zb,mtO,nbr])
 rintro j ⟨hj,ht⟩
 dsimp only [go_sem,rA,rM,rS]
 simp only [List.length_map]
 by_cases hlt:j < a.length
 . refine ZP (by simpa using hlt) ?_
   dsimp only [go_sem,rA,rM,rS]
   have hltb:j < b.length:=by omega
   refine Zy j hlt rfl ?_
   dsimp only [Yq,go_sem,rA,rM,rS]
   refine Zy j hltb rfl ?_
   dsimp only [Yq,go_sem,rA,rM,rS]
   have hc:=Zcw (a[j].map fun n:Nat=>(n:Int)) (b[j].map fun n:Nat=>(n:Int)) (by rw [List.length_map];exact h1 _ (List.getElem_mem _)) (by rw [List.length_map];exact h2 _ (List.getElem_mem _)) false false
   rw [<- ZdN,<- ZdN] at hc
   refine call hc ?_
   dsimp only [go_sem,rA,rM,rS]
   have hinj:(a[j].map (fun n:Nat=>(n:Int))=b[j].map fun n:Nat=>(n:Int))↔a[j]=b[j]:=⟨fun h=>List.map_inj_right (fun x y h=>Int.ofNat_inj.1 h) |>.1 h,fun h=>by rw [h]⟩
   by_cases he:a[j]=b[j]
   . refine ZF (by simp [he]) ?_
     dsimp only [go_sem,rA,rM,rS]
     rw [Zp (n:=(j:Int)+1) (by omega) (by omega)]
     refine ⟨j+1,⟨hlt,?_⟩,by omega,?_⟩
     . rw [List.take_succ_eq_append_getElem hlt,List.take_succ_eq_append_getElem hltb,ht,he]
     (refine Zi ?_ ?_ ?_ rfl rfl<;>dsimp only [Yq,ZE,ZS,Za,id,go_sem,rA,rM,rS]<;>simp [Yq,ZE,ZS,Za,Za,Zd,KFR,KFL,KF,Zb,mtO,nbr])
   . have hne:¬ (a[j].map (fun n:Nat=>(n:Int))=b[j].map fun n:Nat=>(n:Int)):=fun h=>he (hinj.1 h)
     refine ZP (by rw [decide_eq_false hne];rfl) ?_
     dsimp only [go_sem,rA,rM,rS]
     have:a≠b:=fun e=>he (by subst e;rfl)
     simp [this]
 refine ZF (by simp;omega) ?_
 dsimp only [go_sem,rA,rM,rS]
 have:a=b:=by
  rw [List.take_of_length_le (by omega),List.take_of_length_le (by omega)] at ht
  exact ht
 simp [this]
theorem ZnN:Ct Try.prog 41 [] (B true):=by
 refine t41.1 (by simp [KFR,KFL,KF]) (by simp [KFL,KF]) ?_
 dsimp only [c41,r41,go_sem,rA,rM,rS]
 have k1:=ZmJ Z8 X9 2 YA
 have k2:=Zha Z8 X9 0 6 YA
 have k3:=Zna Z8 X9 0 6 YA [0,1] (by decide) true
 have k4:=Zhd Z8 X9 0 6 YA
 have k5:=ZeG Z8 X9 0 2 6 YA
 have k6:=ZkH Z8 X9 0 2 6 21 YA
 have k7:=(UG Z8 X9 1 2 [⟨1,0,4000⟩] (by decide)).args (args0:=[.agg (Zf Z8),I 1,.sl true 3 [[I 1,I 0,I 4000]],I 2]) (by simp [Zf,Zc,Zj,Zg,Z8,KFR,KFL,KF]) (Yt UZ.rfl (Yt UZ.rfl (Yt Zb3 Ud)))
 rw [ZsU] at k1
 rw [Zk8] at k2
 rw [ZrH] at k3
 rw [Zie,Zmk] at k4
 simp only [Zdy,Zlp,ZpY,YV,if_true] at k5
 simp only [ZcI,ZmO,Zs0,YV,if_true] at k6
 rw [Zm5] at k7
 simp only [YV,if_true,ZaX] at k3 k4
 refine call Xo ?_
 dsimp only [go_sem,rA,rM,rS]
 refine call V0 ?_
 dsimp only [go_sem,rA,rM,rS]
 refine call k1 ?_
 dsimp only [ZfT,Ze,go_sem,rA,rM,rS]
 refine call Xo ?_
 dsimp only [go_sem,rA,rM,rS]
 refine call V0 ?_
 dsimp only [go_sem,rA,rM,rS]
 refine call k2 ?_
 dsimp only [ZfT,Ze,go_sem,rA,rM,rS]
 refine call Xo ?_
 dsimp only [go_sem,rA,rM,rS]
 refine call V0 ?_
 dsimp only [go_sem,rA,rM,rS]
 refine call k3 ?_
 dsimp only [go_sem,rA,rM,rS]
 refine call Xo ?_
 dsimp only [go_sem,rA,rM,rS]
 refine call V0 ?_
 dsimp only [go_sem,rA,rM,rS]
 refine call k4 ?_
 dsimp only [go_sem,rA,rM,rS]
 refine call Xo ?_
 dsimp only [go_sem,rA,rM,rS]
 refine call V0 ?_
 dsimp only [go_sem,rA,rM,rS]
 refine call k5 ?_
 dsimp only [go_sem,rA,rM,rS]
 refine call Xo ?_
 dsimp only [go_sem,rA,rM,rS]
 refine call V0 ?_
 dsimp only [go_sem,rA,rM,rS]
 refine call k6 ?_
 dsimp only [go_sem,rA,rM,rS]
 refine call Xo ?_
 dsimp only [go_sem,rA,rM,rS]
 refine call k7 ?_
 dsimp only [ZcP,Ze,go_sem,rA,rM,rS]
 have q1:=Zgy [⟨0,1,⟨6,7⟩,⟨9,12⟩⟩,⟨1,2,⟨9,18⟩,⟨11,21⟩⟩] [⟨0,1,⟨6,7⟩,⟨9,12⟩⟩,⟨1,2,⟨9,18⟩,⟨11,21⟩⟩] (by decide) (by decide) false true
 have q2:=Zi4 [⟨6,6⟩,⟨9,12⟩,⟨11,18⟩] [⟨6,6⟩,⟨9,12⟩,⟨11,18⟩] (by decide) (by decide) false true
 have q3:=Zcw [2] [2] (by decide) (by decide) false true
 have q4:=(Zkp [[0,1],[2]] [[0,1],[2]] (by decide) (by decide) (by decide) (by decide) false true).args (args0:=[.sl false 1 ([[0,1],[2]].map Yq),.sl true 1 [[.sl true 1 [[I 0],[I 1]]],[.sl true 1 [[I 2]]]]]) (by simp [Za,Yq,ZE,ZS,KFR,KFL,KF]) (Yt UZ.rfl (Yt (Zmb ⟨Yt Zb3 Ud,rfl,Yt Zb3 Ud,rfl,trivial⟩) Ud))
 simp only [decide_true] at q1 q2 q3 q4
 repeat (first | (refine gb ?_;dsimp only [go_sem,rA,rM,rS]) | (refine call (Zbt _ _) ?_;dsimp only [Ze,go_sem,rA,rM,rS]) | (refine call q1 ?_;dsimp only [go_sem,rA,rM,rS]) | (refine call q2 ?_;dsimp only [go_sem,rA,rM,rS]) | (refine call q3 ?_;dsimp only [go_sem,rA,rM,rS]) | (refine call q4 ?_;dsimp only [go_sem,rA,rM,rS]))
 simp
end Go.Proofs.Ytkjldleglbbkeaa
namespace Go.Azalai
theorem Zc1 {l:Land} (h:Zap l=false):XE l:=by
 simp only [Zap,Bool.or_eq_false_iff,decide_eq_false_iff_not,List.any_eq_false,decide_eq_true_eq] at h
 exact ⟨by omega,by omega,fun x hx=>by have:=h.2 x hx;omega⟩
structure Ready (l:Land) (p:Span):Prop where
 small:XE l
 ok:OkLP l p
theorem Zo1 {n day:Int} {o s:Gate->Int} {t:Int} (ht:t<=100000):∀ {l:List Gate} {a:Int},ZbT n day o s a l<=t↔a<=t\/∃ g ∈ l,max day (o g)+n - 1<=s g/\max day (o g)<=t
 | [],a=>by simp [ZbT]
 | g :: l,a=>by
  simp only [ZbT]
  rw [Zo1 ht (l:=l)]
  simp only [List.mem_cons,exists_eq_or_imp]
  by_cases h:max day (o g)+n - 1<=s g
  . rw [if_pos h]
    constructor
    . rintro (q | q)
      . by_cases ha:a<=t
        . exact .inl ha
        . exact .inr (.inl ⟨h,by omega⟩)
      . exact .inr (.inr q)
    . rintro (q | q | q)
      . exact .inl (by omega)
      . exact .inl (by have:=q.2;omega)
      . exact .inr q
  . rw [if_neg h]
    constructor
    . rintro (q | q)
      . exact .inl q
      . exact .inr (.inr q)
    . rintro (q | q | q)
      . exact .inl q
      . exact absurd q.1 h
      . exact .inr q
def oK (k:Bool) (g:Gate):Int:=bif k then g.opens.hi else g.opens.lo
def sK (k:Bool) (g:Gate):Int:=bif k then g.shuts.lo else g.shuts.hi
theorem ZgE {k:Bool} {x:Leg} {p:Span} {t u:Int} (h:GoodLeg x) (hp:Yo p=true) (hu:u<=100000) :
 leK k x p t<=u↔∃ g ∈ x.gates,max t (oK k g)+nK k x p - 1<=sK k g/\max t (oK k g)<=u:=by
 rw [(Zam (k:=k) (t:=t) h hp).1,Zo1 hu]
 constructor
 . rintro (q | q)
   . omega
   . exact q
 . exact fun q=>.inr q
theorem Zpu {k:Bool} {x:Leg} {p:Span} {t:Int} (h:GoodLeg x) (hp:Yo p=true) (ht:t<=100001):t<=leK k x p t/\leK k x p t<=100001:=by
 have hn:=Zj1 (k:=k) h hp
 obtain ⟨_,a2,a3⟩:=Zam (k:=k) (t:=t) h hp
 have:=Zc9 (day:=t) (o:=fun g=>bif k then g.opens.hi else g.opens.lo) hn.1 a3
 refine ⟨?_,by omega⟩
 apply Classical.byContradiction
 intro q
 obtain ⟨g,hg,h1,h2⟩:=(ZgE (k:=k) (t:=t) (u:=leK k x p t) h hp (by omega)).1 (Int.le_refl _)
 omega
theorem Zck {a b:Int} (ha:1<=a) (hb:1<=b):a<=(a+b - 1).tdiv b * b/\((a+b - 1).tdiv b - 1) * b < a:=by
 rw [Int.tdiv_eq_ediv_of_nonneg (by omega)]
 have h1:=Int.emod_add_mul_ediv (a+b - 1) b
 have h2:=Int.emod_nonneg (a+b - 1) (show b≠0 by omega)
 have h3:=Int.emod_lt_of_pos (a+b - 1) (show 0 < b by omega)
 rw [Int.sub_mul,Int.mul_comm ((a+b - 1) / b) b]
 omega
theorem Zit {x:Leg} {p:Span} (h:GoodLeg x) (hp:Yo p=true):nK false x p<=nK true x p:=by
 simp only [Yo,W3,decide_eq_true_eq] at hp
 obtain ⟨h1,h2,h3,_,_⟩:=h
 simp only [nK,cond_true,cond_false,Za1]
 have u:=Zck (a:=x.long.lo) (b:=p.hi) h1 (by omega)
 have v:=Zck (a:=x.long.hi) (b:=p.lo) (by omega) (by omega)
 have w:0<=(x.long.hi+p.lo - 1).tdiv p.lo:=Int.tdiv_nonneg (by omega) (by omega)
 generalize (x.long.lo+p.hi - 1).tdiv p.hi=A at *
 generalize (x.long.hi+p.lo - 1).tdiv p.lo=B at *
 have q:=Int.mul_le_mul_of_nonneg_left hp.2.1 w
 apply Classical.byContradiction
 intro hc
 have q2:B * p.hi<=(A - 1) * p.hi:=Int.mul_le_mul_of_nonneg_right (by omega) (by omega)
 omega
theorem Znq {x:Leg} {p:Span} {t:Int} (h:GoodLeg x) (hp:Yo p=true) (ht:t<=100001):leK false x p t<=leK true x p t:=by
 have b0:=Zpu (k:=false) h hp ht
 have b1:=Zpu (k:=true) h hp ht
 have hn:=Zit h hp
 apply Classical.byContradiction
 intro q
 obtain ⟨g,hg,h1,h2⟩:=(ZgE (k:=true) (t:=t) (u:=leK true x p t) h hp (by omega)).1 (Int.le_refl _)
 have hm:=YZ h.g2 (Int.le_refl _) g hg
 simp only [oK,sK,cond_true] at h1 h2
 exact q ((ZgE (k:=false) h hp (by omega)).2 ⟨g,hg,by simp only [oK,sK,cond_false];omega,by simp only [oK,cond_false];omega⟩)
end Go.Azalai
namespace Go.Proofs.Ytkjldleglbbkeaa
open Go Go.Sx Go.Azalai
end Go.Proofs.Ytkjldleglbbkeaa
namespace Go.Azalai
theorem ZiG {x:Leg} {p:Span} {t t':Int} (h:GoodLeg x) (hp:Yo p=true) (ht:t<=t') (ht':t'<=100001):ZG false x p t<=ZG true x p t':=by
 have h1:=U5 (k:=false) h hp ht
 have h2:=Znq (t:=t') h hp ht'
 have h3:=Zit h hp
 simp only [ZG] at *;omega
def Trk (l:Land) (p:Span):Int->Int->Int->List Int->List Stop->Prop
 | _,_,_,[],[]=>True
 | v,a,b,i :: r,s :: ss=>∃ (k:Nat) (x:Leg),i=k/\l.legs[k]? = some x/\0<=Zn x v/\ZG true x p b<=100000 /\
  s=⟨k,Zn x v,⟨leK false x p a,leK true x p b⟩,⟨ZG false x p a,ZG true x p b⟩⟩/\Trk l p (Zn x v) (ZG false x p a) (ZG true x p b) r ss
 | _,_,_,_,_=>False
theorem Trk.len {l:Land} {p:Span}:∀ {legs:List Int} {ss:List Stop} {v a b:Int},Trk l p v a b legs ss->ss.length=legs.length
 | [],[],_,_,_,_=>rfl
 | i :: r,s :: ss,_,_,_,h=>by obtain ⟨_,_,_,_,_,_,_,h⟩:=h;simp [h.len]
 | [],_ :: _,_,_,_,h=>h.elim
 | _ :: _,[],_,_,_,h=>h.elim
theorem Trk.at {l:Land} {p:Span} (h:OkLP l p):∀ {legs:List Int} {ss:List Stop} {v a b:Int},Trk l p v a b legs ss->a<=b->b<=100000->∀ (i:Nat) (s:Stop),ss[i]? = some s ->
 ∃ c:List Nat,c.length=i+1/\legs.take (i+1)=c.map (fun n:Nat=>(n:Int))/\goW true l p v b c=some (s.well,s.arrives.hi)/\goW false l p v a c=some (s.well,s.arrives.lo)
 | [],[],_,_,_,_,_,_,i,s,hs=>by simp at hs
 | j :: r,s0 :: ss,v,a,b,q,hab,hb,i,s,hs=>by
  obtain ⟨k,x,rfl,hx,ho,hr,rfl,q⟩:=q
  have hm:=ZiG (h.leg hx) h.pace hab (by omega)
  cases i with
  | zero =>
   simp only [List.getElem?_cons_zero,Option.some.injEq] at hs
   subst hs
   refine ⟨[k],rfl,by simp,?_,?_⟩
   . simp only [goW,hx];rw [if_neg (by omega),if_neg (by omega)]
   . simp only [goW,hx];rw [if_neg (by omega),if_neg (by omega)]
  | succ i =>
   simp only [List.getElem?_cons_succ] at hs
   obtain ⟨c,h1,h2,h3,h4⟩:=Trk.at h q hm hr i s hs
   refine ⟨k :: c,by simp [h1],by simp [h2],?_,?_⟩
   . simp only [goW,hx];rw [if_neg (by omega),if_neg (by omega)];exact h3
   . simp only [goW,hx];rw [if_neg (by omega),if_neg (by omega)];exact h4
 | [],_ :: _,_,_,_,q,_,_,_,_,_=>q.elim
 | _ :: _,[],_,_,_,q,_,_,_,_,_=>q.elim
theorem Gr.ends {l:Land} {p:Span} {s day to best:Int} {n0:Nat} (hg:OkLP l p) (hd:0<=day) (hd':day<=100000) (h0:0<=s) (h1:s < l.wells.length) (hb:best=Yd true l p s day to) (hb':best<=100000) :
 ∀ {n:Nat} {v t:Int} {out:List Nat},Gr l p s day to best n0 n v t out->∃ v' t' out',Gr l p s day to best n0 0 v' t' out'
 | 0,v,t,out,h=>⟨v,t,out,h⟩
 | n+1,v,t,out,h=>by
  obtain ⟨i,_,hf⟩:=h.ex hg hd hd' h0 h1 hb hb'
  obtain ⟨m,⟨x,g1,g2,g3,g4⟩,hm⟩:=Go.Sx.least_ex (fun i=>Fit l p to best n v t i) ⟨i,hf⟩
  exact Gr.ends hg hd hd' h0 h1 hb hb' (h.step hg hd hd' h0 h1 hb g1 g2 g3 g4 fun j hj hq=>by have:=hm j hq;omega)
theorem V2 {n:Int}:∀ {l:List Draw} {last:Int},ZY n last l=true->(∀ x ∈ l,last<=x.day)/\l.Pairwise (fun a b=>a.day<=b.day)
 | [],_,_=>⟨by simp,.nil⟩
 | y :: l,last,h=>by
  simp only [ZY,Bool.and_eq_true,inR,decide_eq_true_eq] at h
  obtain ⟨h1,h2⟩:=V2 h.2
  refine ⟨?_,List.pairwise_cons.2 ⟨h1,h2⟩⟩
  intro x hx
  rcases List.mem_cons.1 hx with rfl | hx
  . omega
  . have:=h1 x hx;omega
theorem ZuV {l:List Draw} (h:l.Pairwise (fun a b=>a.day<=b.day)) {i j:Nat} (hj:j < l.length) (hij:i<=j):(l[i]'(by omega)).day<=l[j].day:=by
 rcases Nat.lt_or_ge i j with q | q
 . exact List.pairwise_iff_getElem.1 h i j (by omega) hj q
 . have:i=j:=by omega
   subst this;exact Int.le_refl _
theorem Uh {w:Well} {well D:Int}:∀ {l:List Draw} {now:Span} {ev:Int} {i:Nat},(Yc w well D now ev i l).2.2=0\/(Yc w well D now ev i l).2.2=33
 | [],_,_,_=>.inl rfl
 | x :: l,now,ev,i=>by
  simp only [Yc]
  split
  . exact Uh
  . split
    . exact .inr rfl
    . exact Uh
theorem Ui {w:Well} {well D:Int}:∀ {l:List Draw} {now:Span} {ev:Int} {i:Nat},(∀ x ∈ l,x.day < D)->(Yc w well D now ev i l).2.2=0 ->
 ∃ n' e',(Yc w well D now ev i l).1=YO w n' (D - 1 - e')/\(∀ D',D<=D'->Yc w well D' now ev i l=(YO w n' (D' - 1 - e'),0,0))/\∀ x,Yc w well D now ev i (l ++ [x])=Yc w well D n' e' (i+l.length) [x]
 | [],now,ev,i,_,_=>⟨now,ev,rfl,fun _ _=>rfl,fun _=>rfl⟩
 | y :: l,now,ev,i,hd,h0=>by
  have hy:=hd y (by simp)
  have hd2:∀ x ∈ l,x.day < D:=fun x hx=>hd x (by simp [hx])
  simp only [Yc] at h0 ⊢
  by_cases hw:y.well=well
  . rw [if_neg (by simp [hw];omega)] at h0 ⊢
    by_cases hf:(YO w now (y.day - ev)).hi < y.water
    . rw [if_pos hf] at h0;cases h0
    rw [if_neg hf] at h0 ⊢
    obtain ⟨n',e',g1,g2,g3⟩:=Ui hd2 h0
    refine ⟨n',e',g1,fun D' hD'=>?_,fun x=>?_⟩
    . rw [if_neg (by simp [hw];omega),if_neg hf];exact g2 D' hD'
    . simp only [List.cons_append,Yc]
      rw [if_neg (by simp [hw];omega),if_neg hf,g3 x,List.length_cons,show i+1+l.length=i+(l.length+1) from by omega]
      rfl
  . rw [if_pos (by simp [hw])] at h0 ⊢
    obtain ⟨n',e',g1,g2,g3⟩:=Ui hd2 h0
    refine ⟨n',e',g1,fun D' hD'=>?_,fun x=>?_⟩
    . rw [if_pos (by simp [hw])];exact g2 D' hD'
    . simp only [List.cons_append,Yc]
      rw [if_pos (by simp [hw]),g3 x,List.length_cons,show i+1+l.length=i+(l.length+1) from by omega]
      rfl
theorem ZaL {n:Int} {x:Draw} (hx:inR 0 (n - 1) x.well=true/\x.day<=100000/\0<=x.water/\x.water<=1000000000):∀ {l:List Draw} {last:Int},ZY n last l=true->last<=x.day->(∀ y ∈ l,y.day<=x.day)->ZY n last (l ++ [x])=true
 | [],last,_,h1,_=>by simp [ZY,inR,hx];have:=hx.1;simp [inR] at this;omega
 | y :: l,last,h,h1,h2=>by
  simp only [ZY,List.cons_append,Bool.and_eq_true] at h ⊢
  exact ⟨h.1,ZaL hx h.2 (h2 y (by simp)) (fun z hz=>h2 z (by simp [hz]))⟩
theorem ZgM {n D:Int} {l:List Draw} (h:ZY n 0 l=true) (hl:∀ hk:l.length - 1 < l.length,l[l.length - 1].day < D):∀ x ∈ l,x.day < D:=fun x hx=>by
 obtain ⟨i,hi,rfl⟩:=List.getElem_of_mem hx
 have:=ZuV (V2 h).2 (show l.length - 1 < l.length by omega) (show i<=l.length - 1 by omega)
 have:=hl (by omega)
 omega
theorem Wu {l:Land} {well D:Int} {draws:List Draw} {k:Nat} (hok:ZW l=true) (hk:k < l.wells.length) (hw:well=k) (hD:0<=D/\D<=100000) (hl:draws.length<=200) (hd:ZY l.wells.length 0 draws=true) :
 Z4 l well draws D=Yc l.wells[k] well D l.wells[k].has (-1) 0 draws:=by
 unfold Z4
 rw [if_neg (by simp [hok]),if_neg (by simp [inR];omega),if_neg (by omega),if_neg (by simp [hd]),hw,Int.toNat_natCast,List.getElem?_eq_getElem hk]
theorem Zgt {l:Land} {D more:Int} {draws:List Draw} {k:Nat} (hok:ZW l=true) (hk:k < l.wells.length) (hD:0 < D/\D<=100000) (hm:0<=more/\more<=65535) (hl:draws.length < 200) (hd:ZY l.wells.length 0 draws=true)
 (hlast:∀ x ∈ draws,x.day < D) (h0:(Z4 l k draws D).2.2=0) :
 (((Z4 l k (draws ++ [⟨k,D - 1,more⟩]) D).2.2=33/\(Z4 l k draws D).1.hi < more)\/((Z4 l k (draws ++ [⟨k,D - 1,more⟩]) D).2.2=0/\(Z4 l k (draws ++ [⟨k,D - 1,more⟩]) D).1=⟨max 0 ((Z4 l k draws D).1.lo - more),(Z4 l k draws D).1.hi - more⟩)) /\
 (D < 100000->Z4 l k draws (D+1)=(⟨min l.wells[k].room ((Z4 l k draws D).1.lo+l.wells[k].yld.lo),min l.wells[k].room ((Z4 l k draws D).1.hi+l.wells[k].yld.hi)⟩,0,0)):=by
 have hwk:=YY hok l.wells[k] (List.getElem_mem _)
 simp only [Yj,W3,inR,Bool.and_eq_true,decide_eq_true_eq] at hwk
 have hda:ZY l.wells.length 0 (draws ++ [⟨k,D - 1,more⟩])=true:=ZaL ⟨by simp [inR];omega,by simp only;omega,by simp only;omega,by simp only;omega⟩ hd (by simp only;omega) (fun y hy=>by have:=hlast y hy;simp only;omega)
 have e1:=Wu (D:=D) hok hk rfl (by omega) (by omega) hd
 have e2:=Wu (D:=D) hok hk rfl (by omega) (by simp;omega) hda
 have e3:D < 100000->Z4 l k draws (D+1)=Yc l.wells[k] k (D+1) l.wells[k].has (-1) 0 draws:=fun h=>Wu hok hk rfl (by omega) (by omega) hd
 rw [e1] at h0 ⊢
 rw [e2]
 clear e1 e2
 generalize l.wells[k]=w at *
 obtain ⟨n',e',g1,g2,g3⟩:=Ui hlast h0
 rw [g1,g3]
 refine ⟨?_,fun hD2=>?_⟩
 . simp only [Yc]
   have hc0:¬ (((k:Int) != k || decide (D - 1 ≥ D))=true):=by
    have:¬ (D - 1 ≥ D):=by omega
    simp [this]
   rw [if_neg hc0]
   rw [show D - 1 - e'=(D - 1) - e' from rfl]
   by_cases hf:(YO w n' (D - 1 - e')).hi < more
   . rw [if_pos hf];exact .inl ⟨rfl,hf⟩
   . rw [if_neg hf]
     refine .inr ⟨rfl,?_⟩
     simp only [YO,Int.sub_self,Int.zero_mul,Int.add_zero] at hf ⊢
     congr 1<;>omega
 . rw [e3 hD2,g2 (D+1) (by omega)]
   simp only [YO]
   have q:∀ y:Int,(D+1 - 1 - e') * y=(D - 1 - e') * y+y:=fun y=>by rw [show D+1 - 1 - e'=(D - 1 - e')+1 from by omega,Int.add_mul,Int.one_mul]
   rw [q,q]
   congr 2<;>omega
theorem Ue {w:Well} {well D:Int} (hr:0<=w.room/\w.room<=1000000000) (hy:0<=w.yld.lo/\w.yld.lo<=w.yld.hi):∀ {l:List Draw} {now:Span} {ev:Int} {i:Nat},(∀ x ∈ l,ev<=x.day/\0<=x.water)->l.Pairwise (fun a b=>a.day<=b.day)->ev < D->0<=now.lo/\0<=now.hi ->
 (0<=(Yc w well D now ev i l).1.lo/\(Yc w well D now ev i l).1.lo<=1000000000)/\0<=(Yc w well D now ev i l).1.hi/\(Yc w well D now ev i l).1.hi<=1000000000
 | [],now,ev,i,_,_,hev,hn=>by
  simp only [Yc,YO]
  have:=Int.mul_nonneg (show 0<=D - 1 - ev by omega) hy.1
  have:=Int.mul_nonneg (show 0<=D - 1 - ev by omega) (show 0<=w.yld.hi by omega)
  omega
 | x :: l,now,ev,i,hx,hp,hev,hn=>by
  have hp2:=List.pairwise_cons.1 hp
  simp only [Yc]
  split
  . exact Ue hr hy (fun y hy=>hx y (by simp [hy])) hp2.2 hev hn
  . rename_i hc
    simp only [Bool.or_eq_true,bne_iff_ne,ne_eq,decide_eq_true_eq,not_or,Decidable.not_not] at hc
    split
    . simp
    . refine Ue hr hy (fun y hy=>⟨hp2.1 y hy,(hx y (by simp [hy])).2⟩) hp2.2 (by omega) ?_
      simp only;omega
theorem ZlY {l:Land} {D:Int} {draws:List Draw} {k:Nat} (hok:ZW l=true) (hk:k < l.wells.length) (hD:0<=D/\D<=100000) (hl:draws.length<=200) (hd:ZY l.wells.length 0 draws=true) :
 (0<=(Z4 l k draws D).1.lo/\(Z4 l k draws D).1.lo<=1000000000)/\0<=(Z4 l k draws D).1.hi/\(Z4 l k draws D).1.hi<=1000000000:=by
 have hwk:=YY hok l.wells[k] (List.getElem_mem _)
 simp only [Yj,W3,inR,Bool.and_eq_true,decide_eq_true_eq] at hwk
 rw [Wu hok hk rfl hD hl hd]
 have:=Vc hd (Int.le_refl 0)
 exact (Ue (by omega) (by omega) (fun x hx=>by have:=this x hx;omega) (V2 hd).2 (by omega) (by omega))
theorem Uc {x W:Int} (hx:0<=x) (hW:0 < W):x<=(x+W - 1).tdiv W * W/\(x+W - 1).tdiv W * W < x+W/\0<=(x+W - 1).tdiv W:=by
 rw [Int.tdiv_eq_ediv_of_nonneg (by omega)]
 have h1:=Int.emod_add_mul_ediv (x+W - 1) W
 have h2:=Int.emod_lt_of_pos (x+W - 1) hW
 have h3:=Int.emod_nonneg (x+W - 1) (show W≠0 by omega)
 rw [Int.mul_comm] at h1
 exact ⟨by omega,by omega,Int.ediv_nonneg (by omega) (by omega)⟩
theorem VN {x y W:Int} (hW:0 < W) (h:x * W < y * W):x < y:=Int.lt_of_mul_lt_mul_right h (by omega)
theorem Zlu {a b d W:Int} (ha:0<=a * d) (hb:0<=b * d) (hW:0 < W) :
 ((a+b) * d+W - 1).tdiv W<=(a * d+W - 1).tdiv W+(b * d+W - 1).tdiv W/\(a * d+W - 1).tdiv W+(b * d+W - 1).tdiv W<=((a+b) * d+W - 1).tdiv W+1 /\
  (a+b) * d<=((a+b) * d+W - 1).tdiv W * W/\(((a+b) * d+W - 1).tdiv W=0\/(((a+b) * d+W - 1).tdiv W - 1) * W < (a+b) * d):=by
 rw [Int.add_mul]
 obtain ⟨m1,m2,m3⟩:=Uc ha hW
 obtain ⟨n1,n2,n3⟩:=Uc hb hW
 obtain ⟨o1,o2,o3⟩:=Uc (show 0<=a * d+b * d by omega) hW
 generalize (a * d+W - 1).tdiv W=m at *
 generalize (b * d+W - 1).tdiv W=n at *
 generalize (a * d+b * d+W - 1).tdiv W=o at *
 refine ⟨?_,?_,o1,.inr ?_⟩
 . have:(o - 1) * W < (m+n) * W:=by rw [Int.sub_mul,Int.add_mul];omega
   have:=VN hW this
   omega
 . have:(m+n - 2) * W < o * W:=by rw [Int.sub_mul,Int.add_mul];omega
   have:=VN hW this
   omega
 . rw [Int.sub_mul];omega
end Go.Azalai
namespace Go.Proofs.Ytkjldleglbbkeaa
open Go Go.Sx
def di0:Ins:=o1 119 (.ld (.t 8) 2 true)
def di1:Ins:=m1 120 1
def di2:Ins:=o1 121 (.bsl 3 40 [])
def di3:Ins:=m1 122 2
def di4:Ins:=⟨some 123,.cln 3 24 40 (.t 121) (.t 122),none,[2,3]⟩
def di5:Ins:=m1 124 1
def di6:Ins:=m1 125 3
def di7:Ins:=⟨some 126,.bin .sub (.t 125) (.c (.int .i64 1)),none,[6]⟩
def di8:Ins:=m1 127 4
def di9:Ins:=⟨some 128,.conv .i64 (.t 127),none,[8]⟩
def ZdT:Ins:=⟨some 129,.build [.int .i64 0,.int .i64 0,.int .i64 0] [(0,1,.t 124),(1,1,.t 126),(2,1,.t 128)],none,[5,7,9]⟩
def ZdS:Ins:=⟨some 130,.bsl 3 40 [.t 129],none,[10]⟩
def ZtX:Ins:=⟨some 131,.appm 3 24 40 (.t 123) (.t 130),none,[4,11]⟩
def ZcN:Ins:=m1 132 3
def ZwD:Ins:=⟨some 133,.call 17 [.t 119,.t 120,.t 131,.t 132],none,[0,1,12,13]⟩
def Zd6:Ins:=⟨some 118,.mv (.t 133),none,[14]⟩
def Zps:Ins:=⟨some 134,.ext (.t 118) 0,none,[15]⟩
def ZpC:Ins:=⟨some 135,.ext (.t 118) 1,none,[15]⟩
def Zrs:Ins:=⟨some 136,.ext (.t 118) 2,none,[15]⟩
def XO:Ins:=o1 21 (.alloc [.int .i64 0,.int .i64 0] 29)
def di20:Ins:=⟨none,.st (.t 21) (.t 134) 2,none,[0,1,2,3,4,5,6,7,8,9,10,11,12,13,14,15,16,19]⟩
def Zwg:Ins:=⟨some 22,.mv (.t 135),none,[0,1,2,3,4,5,6,7,8,9,10,11,12,13,14,15,16,17,19,20]⟩
def Zww:Ins:=⟨some 23,.mv (.t 136),none,[0,1,2,3,4,5,6,7,8,9,10,11,12,13,14,15,16,17,18,19,20,21]⟩
attribute [go_sem] di0 di1 di2 di3 di4 di5 di6 di7 di8 di9 ZdT ZdS ZtX ZcN ZwD Zd6 Zps ZpC Zrs XO di20 Zwg Zww
def l15:List Ins:=[di0,di1,di2,di3,di4,di5,di6,di7,di8,di9,ZdT,ZdS,ZtX,ZcN,ZwD,Zd6,Zps,ZpC,Zrs,XO,di20,Zwg,Zww]
def tl15:SC:=(.seq (sr1 [
 m1 217 5,
 o1 218 (.bin .lss (.t 217) (.c (.int .i64 0))),
 m1 219 218,
 ⟨some 220,.mv (.t 6),some (219,false),[]⟩,
 ⟨some 221,.bin .lss (.t 220) (.c (.int .i64 0)),some (219,false),[]⟩,
 o1 222 (.pick (.t 219) (.c (.bool true)) (.t 221)),
 m1 223 222,
 ⟨some 224,.mv (.t 5),some (223,false),[]⟩,
 ⟨some 225,.bin .gtr (.t 224) (.c (.int .i64 1000000000)),some (223,false),[]⟩,
 o1 226 (.pick (.t 223) (.c (.bool true)) (.t 225)),
 m1 227 226,
 ⟨some 228,.mv (.t 6),some (227,false),[]⟩,
 ⟨some 229,.mv (.t 5),some (227,false),[]⟩,
 ⟨some 230,.bin .sub (.c (.int .i64 1000000000)) (.t 229),some (227,false),[]⟩,
 ⟨some 231,.bin .gtr (.t 228) (.t 230),some (227,false),[]⟩,
 o1 232 (.pick (.t 227) (.c (.bool true)) (.t 231)),
 m1 233 232,
 ⟨some 234,.mv (.t 7),some (233,false),[]⟩,
 ⟨some 235,.bin .lss (.t 234) (.c (.int .i64 1)),some (233,false),[]⟩,
 o1 236 (.pick (.t 233) (.c (.bool true)) (.t 235)),
 m1 237 236,
 ⟨some 238,.mv (.t 7),some (237,false),[]⟩,
 ⟨some 239,.bin .gtr (.t 238) (.c (.int .i64 100)),some (237,false),[]⟩,
 o1 240 (.pick (.t 237) (.c (.bool true)) (.t 239))]
 (.cond (.t 240)
 (sr1 [
  m1 241 17,
  m1 16 241]
  .ret)
 .skip))
 (sr1 [
 o1 243 (.ld (.t 8) 2 true),
 m1 244 1,
 m1 245 5,
 m1 246 7,
 o1 247 (.call 19 [.t 243,.t 244,.t 245,.t 246]),
 m1 242 247,
 o1 248 (.ext (.t 242) 0),
 o1 249 (.ext (.t 242) 1),
 m1 28 248,
 m1 29 249]
 (sr1 [
 o1 251 (.ld (.t 8) 2 true),
 m1 252 1,
 m1 253 6,
 m1 254 7,
 o1 255 (.call 19 [.t 251,.t 252,.t 253,.t 254]),
 m1 250 255,
 o1 256 (.ext (.t 250) 0),
 o1 257 (.ext (.t 250) 1),
 m1 30 256,
 m1 31 257]
 (sr1 [
 o1 259 (.ld (.t 8) 2 true),
 m1 260 1,
 m1 261 5,
 m1 262 6,
 o1 263 (.bin .add (.t 261) (.t 262)),
 m1 264 7,
 o1 265 (.call 19 [.t 259,.t 260,.t 263,.t 264]),
 m1 258 265,
 o1 266 (.ext (.t 258) 0),
 o1 267 (.ext (.t 258) 1),
 m1 32 266,
 m1 33 267]
 (sr1 [
 m1 268 5,
 m1 269 6,
 o1 270 (.bin .add (.t 268) (.t 269)),
 o1 271 (.addo (.t 8) 0),
 o1 272 (.ld (.t 271) 1 false),
 m1 273 1,
 o1 274 (.ixs (.t 272) (.t 273) 9),
 o1 275 (.addo (.t 274) 2),
 o1 276 (.ld (.t 275) 1 false),
 o1 277 (.bin .mul (.t 270) (.t 276)),
 m1 34 277]
 (sr1 [
 m1 278 17,
 m1 279 278,
 ⟨some 280,.mv (.t 29),some (279,true),[]⟩,
 ⟨some 281,.bin .eql (.t 280) (.c (.int .i64 0)),some (279,true),[]⟩,
 o1 282 (.pick (.t 279) (.t 281) (.c (.bool false))),
 m1 283 282,
 ⟨some 284,.mv (.t 31),some (283,true),[]⟩,
 ⟨some 285,.bin .eql (.t 284) (.c (.int .i64 0)),some (283,true),[]⟩,
 o1 286 (.pick (.t 283) (.t 285) (.c (.bool false))),
 m1 287 286,
 ⟨some 288,.mv (.t 33),some (287,true),[]⟩,
 ⟨some 289,.bin .eql (.t 288) (.c (.int .i64 0)),some (287,true),[]⟩,
 o1 290 (.pick (.t 287) (.t 289) (.c (.bool false))),
 m1 291 290,
 ⟨some 292,.mv (.t 32),some (291,true),[]⟩,
 ⟨some 293,.mv (.t 28),some (291,true),[]⟩,
 ⟨some 294,.mv (.t 30),some (291,true),[]⟩,
 ⟨some 295,.bin .add (.t 293) (.t 294),some (291,true),[]⟩,
 ⟨some 296,.bin .leq (.t 292) (.t 295),some (291,true),[]⟩,
 o1 297 (.pick (.t 291) (.t 296) (.c (.bool false))),
 m1 298 297,
 ⟨some 299,.mv (.t 32),some (298,true),[]⟩,
 ⟨some 300,.bin .add (.t 299) (.c (.int .i64 1)),some (298,true),[]⟩,
 ⟨some 301,.mv (.t 28),some (298,true),[]⟩,
 ⟨some 302,.mv (.t 30),some (298,true),[]⟩,
 ⟨some 303,.bin .add (.t 301) (.t 302),some (298,true),[]⟩,
 ⟨some 304,.bin .geq (.t 300) (.t 303),some (298,true),[]⟩,
 o1 305 (.pick (.t 298) (.t 304) (.c (.bool false))),
 m1 306 305,
 ⟨some 307,.mv (.t 32),some (306,true),[]⟩,
 ⟨some 308,.mv (.t 7),some (306,true),[]⟩,
 ⟨some 309,.bin .mul (.t 307) (.t 308),some (306,true),[]⟩,
 ⟨some 310,.bin .mul (.t 309) (.c (.int .i64 1000000)),some (306,true),[]⟩,
 ⟨some 311,.mv (.t 34),some (306,true),[]⟩,
 ⟨some 312,.bin .geq (.t 310) (.t 311),some (306,true),[]⟩,
 o1 313 (.pick (.t 306) (.t 312) (.c (.bool false))),
 m1 314 313,
 ⟨some 315,.mv (.t 32),some (314,true),[]⟩,
 ⟨some 316,.bin .eql (.t 315) (.c (.int .i64 0)),some (314,true),[]⟩,
 ⟨some 317,.mv (.t 316),some (314,true),[]⟩,
 ⟨some 318,.mv (.t 32),some (317,false),[]⟩,
 ⟨some 319,.bin .sub (.t 318) (.c (.int .i64 1)),some (317,false),[]⟩,
 ⟨some 320,.mv (.t 7),some (317,false),[]⟩,
 ⟨some 321,.bin .mul (.t 319) (.t 320),some (317,false),[]⟩,
 ⟨some 322,.bin .mul (.t 321) (.c (.int .i64 1000000)),some (317,false),[]⟩,
 ⟨some 323,.mv (.t 34),some (317,false),[]⟩,
 ⟨some 324,.bin .lss (.t 322) (.t 323),some (317,false),[]⟩,
 ⟨some 325,.pick (.t 317) (.c (.bool true)) (.t 324),some (314,true),[]⟩,
 o1 326 (.pick (.t 314) (.t 325) (.c (.bool false))),
 m1 16 326]
 .ret))))))
def c15:SC:=(sr1 [
 o1 8 (.box (.t 0) 0 25),
 o1 16 (.mv (.c (.bool false)))]
 (sr1 [
 o1 35 (.call 41 []),
 m1 17 35]
 (.seq (sr1 [
 m1 36 17,
 o1 37 (.un .not (.t 36))]
 (.cond (.t 37)
 (sr1 [
  o1 16 (.mv (.c (.bool false)))]
  .ret)
 .skip))
 (.seq (sr1 [
 o1 38 (.ld (.t 8) 2 true),
 o1 39 (.call 16 [.t 38]),
 m1 40 39,
 ⟨some 41,.ld (.t 8) 2 true,some (40,false),[]⟩,
 ⟨some 42,.call 27 [.t 41],some (40,false),[]⟩,
 ⟨some 43,.bin .neq (.t 42) (.c (.int .i64 0)),some (40,false),[]⟩,
 o1 44 (.pick (.t 40) (.c (.bool true)) (.t 43)),
 m1 45 44,
 ⟨some 46,.mv (.t 1),some (45,false),[]⟩,
 ⟨some 47,.bin .lss (.t 46) (.c (.int .i64 0)),some (45,false),[]⟩,
 o1 48 (.pick (.t 45) (.c (.bool true)) (.t 47)),
 m1 49 48,
 ⟨some 50,.mv (.t 1),some (49,false),[]⟩,
 ⟨some 51,.addo (.t 8) 0,some (49,false),[]⟩,
 ⟨some 52,.ld (.t 51) 1 false,some (49,false),[]⟩,
 ⟨some 53,.len (.t 52),some (49,false),[]⟩,
 ⟨some 54,.bin .geq (.t 50) (.t 53),some (49,false),[]⟩,
 o1 55 (.pick (.t 49) (.c (.bool true)) (.t 54)),
 m1 56 55,
 ⟨some 57,.mv (.t 2),some (56,false),[]⟩,
 ⟨some 58,.len (.t 57),some (56,false),[]⟩,
 ⟨some 59,.bin .gtr (.t 58) (.c (.int .i64 200)),some (56,false),[]⟩,
 o1 60 (.pick (.t 56) (.c (.bool true)) (.t 59)),
 m1 61 60,
 ⟨some 62,.ld (.t 8) 2 true,some (61,false),[]⟩,
 ⟨some 63,.mv (.t 2),some (61,false),[]⟩,
 ⟨some 64,.call 55 [.t 62,.t 63],some (61,false),[]⟩,
 ⟨some 65,.un .not (.t 64),some (61,false),[]⟩,
 o1 66 (.pick (.t 61) (.c (.bool true)) (.t 65)),
 m1 67 66,
 ⟨some 68,.mv (.t 3),some (67,false),[]⟩,
 ⟨some 69,.bin .lss (.t 68) (.c (.int .i64 0)),some (67,false),[]⟩,
 o1 70 (.pick (.t 67) (.c (.bool true)) (.t 69)),
 m1 71 70,
 ⟨some 72,.mv (.t 3),some (71,false),[]⟩,
 ⟨some 73,.bin .gtr (.t 72) (.c (.int .i64 100000)),some (71,false),[]⟩,
 o1 74 (.pick (.t 71) (.c (.bool true)) (.t 73))]
 (.cond (.t 74)
 (sr1 [
  m1 75 17,
  m1 16 75]
  .ret)
 .skip))
 (sr1 [
 o1 77 (.ld (.t 8) 2 true),
 m1 78 1,
 m1 79 2,
 m1 80 3,
 o1 81 (.call 17 [.t 77,.t 78,.t 79,.t 80]),
 m1 76 81,
 o1 82 (.ext (.t 76) 0),
 o1 83 (.ext (.t 76) 1),
 o1 84 (.ext (.t 76) 2),
 o1 18 (.alloc [.int .i64 0,.int .i64 0] 29),
 ⟨none,.st (.t 18) (.t 82) 2,none,[]⟩,
 m1 19 83,
 m1 20 84]
 (.seq (sr1 [
 m1 85 20,
 o1 86 (.bin .neq (.t 85) (.c (.int .i64 0))),
 m1 87 86,
 ⟨some 88,.mv (.t 20),some (87,true),[]⟩,
 ⟨some 89,.bin .neq (.t 88) (.c (.int .i64 33)),some (87,true),[]⟩,
 o1 90 (.pick (.t 87) (.t 89) (.c (.bool false)))]
 (.cond (.t 90)
 (sr1 [
  o1 16 (.mv (.c (.bool false)))]
  .ret)
 .skip))
 (.seq (sr1 [
 m1 91 20,
 o1 92 (.bin .eql (.t 91) (.c (.int .i64 0))),
 m1 93 92,
 ⟨some 94,.mv (.t 2),some (93,true),[]⟩,
 ⟨some 95,.len (.t 94),some (93,true),[]⟩,
 ⟨some 96,.bin .lss (.t 95) (.c (.int .i64 200)),some (93,true),[]⟩,
 o1 97 (.pick (.t 93) (.t 96) (.c (.bool false))),
 m1 98 97,
 ⟨some 99,.mv (.t 2),some (98,true),[]⟩,
 ⟨some 100,.len (.t 99),some (98,true),[]⟩,
 ⟨some 101,.bin .eql (.t 100) (.c (.int .i64 0)),some (98,true),[]⟩,
 ⟨some 102,.mv (.t 101),some (98,true),[]⟩,
 ⟨some 103,.mv (.t 2),some (102,false),[]⟩,
 ⟨some 104,.mv (.t 2),some (102,false),[]⟩,
 ⟨some 105,.len (.t 104),some (102,false),[]⟩,
 ⟨some 106,.bin .sub (.t 105) (.c (.int .i64 1)),some (102,false),[]⟩,
 ⟨some 107,.ixs (.t 103) (.t 106) 3,some (102,false),[]⟩,
 ⟨some 108,.addo (.t 107) 1,some (102,false),[]⟩,
 ⟨some 109,.ld (.t 108) 1 false,some (102,false),[]⟩,
 ⟨some 110,.mv (.t 3),some (102,false),[]⟩,
 ⟨some 111,.bin .lss (.t 109) (.t 110),some (102,false),[]⟩,
 ⟨some 112,.pick (.t 102) (.c (.bool true)) (.t 111),some (98,true),[]⟩,
 o1 113 (.pick (.t 98) (.t 112) (.c (.bool false))),
 m1 114 113,
 ⟨some 115,.mv (.t 3),some (114,true),[]⟩,
 ⟨some 116,.bin .gtr (.t 115) (.c (.int .i64 0)),some (114,true),[]⟩,
 o1 117 (.pick (.t 114) (.t 116) (.c (.bool false)))]
 (.cond (.t 117)
 (.seq (.gh (.regp 6791530 l15))
  (.seq (sr1 [
  m1 137 23,
  o1 138 (.bin .neq (.t 137) (.c (.int .i64 0))),
  m1 139 138,
  ⟨some 140,.mv (.t 23),some (139,true),[]⟩,
  ⟨some 141,.bin .neq (.t 140) (.c (.int .i64 33)),some (139,true),[]⟩,
  ⟨some 142,.mv (.t 141),some (139,true),[]⟩,
  ⟨some 143,.addo (.t 18) 1,some (142,false),[]⟩,
  ⟨some 144,.ld (.t 143) 1 false,some (142,false),[]⟩,
  ⟨some 145,.mv (.t 4),some (142,false),[]⟩,
  ⟨some 146,.conv .i64 (.t 145),some (142,false),[]⟩,
  ⟨some 147,.bin .geq (.t 144) (.t 146),some (142,false),[]⟩,
  ⟨some 148,.pick (.t 142) (.c (.bool true)) (.t 147),some (139,true),[]⟩,
  o1 149 (.pick (.t 139) (.t 148) (.c (.bool false))),
  m1 150 149,
  ⟨some 151,.mv (.t 23),some (150,false),[]⟩,
  ⟨some 152,.bin .eql (.t 151) (.c (.int .i64 0)),some (150,false),[]⟩,
  ⟨some 153,.mv (.t 152),some (150,false),[]⟩,
  ⟨some 154,.addo (.t 21) 1,some (153,true),[]⟩,
  ⟨some 155,.ld (.t 154) 1 false,some (153,true),[]⟩,
  ⟨some 156,.addo (.t 18) 1,some (153,true),[]⟩,
  ⟨some 157,.ld (.t 156) 1 false,some (153,true),[]⟩,
  ⟨some 158,.mv (.t 4),some (153,true),[]⟩,
  ⟨some 159,.conv .i64 (.t 158),some (153,true),[]⟩,
  ⟨some 160,.bin .sub (.t 157) (.t 159),some (153,true),[]⟩,
  ⟨some 161,.bin .neq (.t 155) (.t 160),some (153,true),[]⟩,
  ⟨some 162,.mv (.t 161),some (153,true),[]⟩,
  ⟨some 163,.addo (.t 21) 0,some (162,false),[]⟩,
  ⟨some 164,.ld (.t 163) 1 false,some (162,false),[]⟩,
  ⟨some 165,.addo (.t 18) 0,some (162,false),[]⟩,
  ⟨some 166,.ld (.t 165) 1 false,some (162,false),[]⟩,
  ⟨some 167,.mv (.t 4),some (162,false),[]⟩,
  ⟨some 168,.conv .i64 (.t 167),some (162,false),[]⟩,
  ⟨some 169,.bin .sub (.t 166) (.t 168),some (162,false),[]⟩,
  ⟨some 170,.mm true [.c (.int .i64 0),.t 169],some (162,false),[]⟩,
  ⟨some 171,.bin .neq (.t 164) (.t 170),some (162,false),[]⟩,
  ⟨some 172,.pick (.t 162) (.c (.bool true)) (.t 171),some (153,true),[]⟩,
  ⟨some 173,.pick (.t 153) (.t 172) (.c (.bool false)),some (150,false),[]⟩,
  o1 174 (.pick (.t 150) (.c (.bool true)) (.t 173))]
  (.cond (.t 174)
  (sr1 [
   o1 16 (.mv (.c (.bool false)))]
   .ret)
  .skip))
  (sr1 [
  m1 175 3,
  o1 176 (.bin .lss (.t 175) (.c (.int .i64 100000)))]
  (.cond (.t 176)
  (sr1 [
   o1 178 (.ld (.t 8) 2 true),
   m1 179 1,
   m1 180 2,
   m1 181 3,
   o1 182 (.bin .add (.t 181) (.c (.int .i64 1))),
   o1 183 (.call 17 [.t 178,.t 179,.t 180,.t 182]),
   m1 177 183,
   o1 184 (.ext (.t 177) 0),
   o1 185 (.ext (.t 177) 1),
   o1 186 (.ext (.t 177) 2),
   o1 24 (.alloc [.int .i64 0,.int .i64 0] 29),
   ⟨none,.st (.t 24) (.t 184) 2,none,[]⟩,
   m1 25 185,
   m1 26 186]
   (sr1 [
   o1 187 (.addo (.t 8) 0),
   o1 188 (.ld (.t 187) 1 false),
   m1 189 1,
   o1 190 (.ixs (.t 188) (.t 189) 9),
   o1 191 (.ld (.t 190) 9 true),
   o1 27 (.alloc zv0 109),
   ⟨none,.st (.t 27) (.t 191) 9,none,[]⟩]
   (.seq (.regd [0,1,2,3,4,5,6,7,8,9,10,11,12,13,14,15,16,17,18,19,20,21,22,23,24] [
   .op (m1 192 26),
   .op ⟨some 193,.bin .neq (.t 192) (.c (.int .i64 0)),none,[0]⟩,
   .op ⟨some 194,.mv (.t 193),none,[1]⟩,
   .op ⟨some 195,.ld (.t 24) 2 true,some (194,false),[2]⟩,
   .op ⟨some 196,.addo (.t 27) 5,some (194,false),[2]⟩,
   .op ⟨some 197,.ld (.t 196) 1 false,some (194,false),[2,4]⟩,
   .op ⟨some 198,.addo (.t 18) 0,some (194,false),[2]⟩,
   .op ⟨some 199,.ld (.t 198) 1 false,some (194,false),[2,6]⟩,
   .op ⟨some 200,.addo (.t 27) 3,some (194,false),[2]⟩,
   .op ⟨some 201,.addo (.t 200) 0,some (194,false),[2,8]⟩,
   .op ⟨some 202,.ld (.t 201) 1 false,some (194,false),[2,9]⟩,
   .op ⟨some 203,.bin .add (.t 199) (.t 202),some (194,false),[2,7,10]⟩,
   .op ⟨some 204,.mm false [.t 197,.t 203],some (194,false),[2,5,11]⟩,
   .op ⟨some 205,.addo (.t 27) 5,some (194,false),[2]⟩,
   .op ⟨some 206,.ld (.t 205) 1 false,some (194,false),[2,13]⟩,
   .op ⟨some 207,.addo (.t 18) 1,some (194,false),[2]⟩,
   .op ⟨some 208,.ld (.t 207) 1 false,some (194,false),[2,15]⟩,
   .op ⟨some 209,.addo (.t 27) 3,some (194,false),[2]⟩,
   .op ⟨some 210,.addo (.t 209) 1,some (194,false),[2,17]⟩,
   .op ⟨some 211,.ld (.t 210) 1 false,some (194,false),[2,18]⟩,
   .op ⟨some 212,.bin .add (.t 208) (.t 211),some (194,false),[2,16,19]⟩,
   .op ⟨some 213,.mm false [.t 206,.t 212],some (194,false),[2,14,20]⟩,
   .op ⟨some 214,.call 50 [.t 204,.t 213],some (194,false),[2,12,21]⟩,
   .op ⟨some 215,.eqs true true [1,1] (.t 195) (.t 214),some (194,false),[2,3,22]⟩,
   .op ⟨some 216,.pick (.t 194) (.c (.bool true)) (.t 215),none,[2,23]⟩] 0 0 [
])
 (.cond (.t 216)
 (sr1 [
  o1 16 (.mv (.c (.bool false)))]
  .ret)
 .skip))))
 .skip))))
 .skip))
 (.gh tl15))))))))
def r15:List RV:=[.tmp 16]
theorem t15:Qt1 Try.prog 15 c15 r15 327:=YU Try.func15 rfl (by kernel_rfl) (by kernel_rfl) (by kernel_rfl) (by kernel_rfl)
end Go.Proofs.Ytkjldleglbbkeaa
namespace Go.Azalai
theorem ZbN {l:Land} {k:Nat} {a teams:Int} (hok:ZW l=true) (hk:k < l.wells.length) (ha:0<=a/\a<=1000000000) (ht:1<=teams/\teams<=100):Ze8 l k a teams=((a * l.wells[k].depth+1000000 * teams - 1).tdiv (1000000 * teams),0):=by
 unfold Ze8
 rw [if_neg (by simp [hok]),if_neg (by simp [inR];omega),Int.toNat_natCast,List.getElem?_eq_getElem hk]
end Go.Azalai
namespace Go.Proofs.Ytkjldleglbbkeaa
open Go Go.Sx Go.Azalai
theorem ZgF (l:Land) (hl:ZW l=true) (hs:XE l) (wn:Nat) (hwn:wn < l.wells.length) (draws:List Draw) (D more a b teams:Int) (S:Span) (K:Ex->St->Prop) (hK:∀ fr hp n N gs,K .ret ⟨(16,B true) :: fr,hp,n,N,gs⟩) :
 sx Try.prog Y0 0 tl15 ⟨[(18,.p 1 0),(17,B true),(8,.p 0 0),(7,I teams),(6,I b),(5,I a),(4,.v (.int .u16 more)),(3,I D),(2,.sl false 3 (draws.map Zh)),(1,I (wn:Int))],[(1,.cells (Ze S) 29),(0,.cells (Zf l) 25)],2,327,[]⟩ K:=by
 dsimp only [tl15,Zf,go_sem,rA,rM,rS]
 by_cases ha:0<=a/\a<=1000000000
 rotate_left
 . repeat (refine gb ?_;dsimp only [go_sem,rA,rM,rS])
   refine ZP (by simp;omega) ?_
   dsimp only [go_sem,rA,rM,rS]
   exact hK _ _ _ _ _
 repeat (refine gb ?_;dsimp only [go_sem,rA,rM,rS])
 rw [Zp (n:=1000000000 - a) (by omega) (by omega)]
 by_cases hb:0<=b/\b<=1000000000 - a/\1<=teams/\teams<=100
 rotate_left
 . refine ZP (by simp;omega) ?_
   dsimp only [go_sem,rA,rM,rS]
   exact hK _ _ _ _ _
 refine ZF (by simp;omega) ?_
 dsimp only [go_sem,rA,rM,rS]
 refine call (Zdh l hs wn a teams) ?_
 rw [ZbN hl hwn ha hb.2.2]
 dsimp only [Zcr,Zf,go_sem,rA,rM,rS]
 refine call (Zdh l hs wn b teams) ?_
 rw [ZbN hl hwn (by omega) hb.2.2]
 dsimp only [Zcr,Zf,go_sem,rA,rM,rS]
 rw [Zp (n:=a+b) (by omega) (by omega)]
 refine call (Zdh l hs wn (a+b) teams) ?_
 rw [ZbN hl hwn (by omega) hb.2.2]
 dsimp only [Zcr,Zf,go_sem,rA,rM,rS]
 refine Zy wn hwn rfl ?_
 dsimp only [Zc,go_sem,rA,rM,rS]
 have hwk:=YY hl l.wells[wn] (List.getElem_mem _)
 simp only [Yj,W3,inR,Bool.and_eq_true,decide_eq_true_eq] at hwk
 have hd:0<=l.wells[wn].depth/\l.wells[wn].depth<=200:=by omega
 have e0:=Zlu (a:=a) (b:=b) (d:=l.wells[wn].depth) (W:=1000000 * teams) (Int.mul_nonneg ha.1 hd.1) (Int.mul_nonneg hb.1 hd.1) (by omega)
 have hX:=Uc (x:=a * l.wells[wn].depth) (W:=1000000 * teams) (Int.mul_nonneg ha.1 hd.1) (by omega)
 have hY:=Uc (x:=b * l.wells[wn].depth) (W:=1000000 * teams) (Int.mul_nonneg hb.1 hd.1) (by omega)
 have hZ:=Uc (x:=(a+b) * l.wells[wn].depth) (W:=1000000 * teams) (Int.mul_nonneg (by omega) hd.1) (by omega)
 have hx:a * l.wells[wn].depth<=1000000000 * 200:=Int.mul_le_mul ha.2 hd.2 hd.1 (by omega)
 have hy:b * l.wells[wn].depth<=1000000000 * 200:=Int.mul_le_mul (by omega) hd.2 hd.1 (by omega)
 have hz:(a+b) * l.wells[wn].depth<=1000000000 * 200:=Int.mul_le_mul (by omega) hd.2 hd.1 (by omega)
 have hz0:0<=(a+b) * l.wells[wn].depth:=Int.mul_nonneg (by omega) hd.1
 rw [Zp (n:=a+b) (by omega) (by omega),Zp (n:=(a+b) * l.wells[wn].depth) (by omega) (by omega)]
 generalize (a * l.wells[wn].depth+1000000 * teams - 1).tdiv (1000000 * teams)=m at *
 generalize (b * l.wells[wn].depth+1000000 * teams - 1).tdiv (1000000 * teams)=n at *
 generalize ((a+b) * l.wells[wn].depth+1000000 * teams - 1).tdiv (1000000 * teams)=o at *
 have le1:∀ {x:Int},0<=x->x<=x * (1000000 * teams):=fun {x} h=>by
  have:=Int.mul_le_mul_of_nonneg_left (show (1:Int)<=1000000 * teams by omega) h
  simpa using this
 have hm:=le1 hX.2.2
 have hn:=le1 hY.2.2
 have ho:=le1 hZ.2.2
 have eo:o * teams * 1000000=o * (1000000 * teams):=by rw [Int.mul_assoc,Int.mul_comm teams]
 have eo1:(o - 1) * teams * 1000000=o * (1000000 * teams) - 1000000 * teams:=by rw [Int.mul_assoc,Int.mul_comm teams,Int.sub_mul,Int.one_mul]
 have ht0:0<=o * teams:=Int.mul_nonneg hZ.2.2 (by omega)
 have ht1:(o - 1) * teams=o * teams - teams:=by rw [Int.sub_mul,Int.one_mul]
 rw [Int.sub_mul,Int.one_mul] at e0
 have hKc:∀ c fr hp n N gs,c=true->K .ret ⟨(16,B c) :: fr,hp,n,N,gs⟩:=by
  rintro _ fr hp n N gs rfl
  exact hK _ _ _ _ _
 repeat (refine gb ?_;dsimp only [go_sem,rA,rM,rS])
 rw [Zp (n:=m+n) (by omega) (by omega),Zp (n:=o+1) (by omega) (by omega),Zp (n:=o * teams) (by omega) (by omega),Zp (n:=o * teams * 1000000) (by omega) (by omega),Zp (n:=o - 1) (by omega) (by omega),Zp (n:=(o - 1) * teams) (by omega) (by omega),Zp (n:=(o - 1) * teams * 1000000) (by omega) (by omega)]
 refine hKc _ _ _ _ _ _ ?_
 rw [eo,eo1]
 simp only [Bool.and_eq_true,Bool.or_eq_true,decide_eq_true_eq,beq_iff_eq]
 exact ⟨⟨⟨⟨by simp,e0.1⟩,e0.2.1⟩,e0.2.2.1⟩,e0.2.2.2⟩
end Go.Proofs.Ytkjldleglbbkeaa
namespace Go.Sx
open Go
theorem Ztq {l:List Nat} {n:Nat} (hn:Nat.beq l.length n=true) (hi:Uv l=true):∀ i,i < n->∀ j,j < n->rho l i=rho l j->i=j:=fun i hi' j hj e=>by
 have hn:=Nat.eq_of_beq_eq_true hn
 rw [X0 l i (by omega),X0 l j (by omega)] at e
 have hp:=List.pairwise_iff_getElem.1 (Y6 hi)
 rcases Nat.lt_trichotomy i j with h | h | h
 . exact absurd e (hp i j (by omega) (by omega) h)
 . exact h
 . exact absurd e.symm (hp j i (by omega) (by omega) h)
theorem ZfM {σ σ':St} (l:List Nat) (hf:mtF (rho l) σ'.n [] σ'.fr σ.fr) (hp:mtP (rho l) σ'.hp σ.hp σ'.n σ'.n) (hb:hpb σ'.n σ'.hp) (hn:Nat.beq l.length σ'.n=true) (hi:Uv l=true) (hN:Nat.beq σ'.N σ.N=true):Ent 0 σ σ' :=
 ent (rho l) hf hp hb (Ztq hn hi) hN rfl (fun i h=>absurd h (Nat.not_lt_zero i))
theorem ZpG {P:Program} {Y:Hd} {r:KT} {σ : St} {K:RK}:rxT P Y [] r σ K=r σ K:=rfl
theorem ZnS {P:Program} {Y:Hd} {x:Ins} {l:List Ins} {r:KT} {σ : St} {K:RK}:rxT P Y (x :: l) r σ K=st1 P Y x σ (rxT P Y l r) K:=rfl
attribute [go_sem] ZpG ZnS
def Zpo (l0:List Ins) (U:Nat) (cl:List (Nat × Nat)) (D:Nat):Nat->List Ins->List (List Ins × Ins)
 | _,[]=>[]
 | i,x :: r=>bif Nat.testBit U i && (!Zci x.i && enB U D (XB cl x.af)) then (Ze3 U (XB cl x.af) 0 l0,x) :: Zpo l0 U cl D (i+1) r else Zpo l0 U cl D (i+1) r
def ZtP (l0:List Ins) (U:Nat) (cl:List (Nat × Nat)) (D:Nat):Nat->List Ins->List (Nat × List Ins × Ins)
 | _,[]=>[]
 | i,x :: r=>bif !Nat.testBit U i && (!Nat.testBit D i && enB U D (XB cl x.af)) then (D ||| 2 ^ i,Ze3 U (XB cl x.af) 0 l0,x) :: ZtP l0 U cl D (i+1) r else ZtP l0 U cl D (i+1) r
theorem Zec {l0:List Ins} {U D:Nat} {cl:List (Nat × Nat)}:∀ {l:List Ins} {i0 i:Nat} {x:Ins},l[i]? = some x->Nat.testBit U (i0+i)=true->Zci x.i=false->enB U D (XB cl x.af)=true->(Ze3 U (XB cl x.af) 0 l0,x) ∈ Zpo l0 U cl D i0 l
 | [],_,_,_,h,_,_,_=>by simp at h
 | y :: l,i0,0,x,h,hu,hm,he=>by
  simp only [List.getElem?_cons_zero,Option.some.injEq] at h
  subst h
  have hc:(Nat.testBit U i0 && (!Zci y.i && enB U D (XB cl y.af)))=true:=by rw [he,hm,show Nat.testBit U i0=true from hu];rfl
  simp only [Zpo,hc,cond_true]
  exact List.mem_cons_self ..
 | y :: l,i0,i+1,x,h,hu,hm,he=>by
  have ih:=Zec (l0:=l0) (cl:=cl) (D:=D) (l:=l) (i0:=i0+1) (x:=x) (by simpa using h) (by rw [show i0+1+i=i0+(i+1) from by omega];exact hu) hm he
  simp only [Zpo]
  cases (Nat.testBit U i0 && (!Zci y.i && enB U D (XB cl y.af)))
  . exact ih
  . exact List.mem_cons_of_mem _ ih
theorem ZdM {l0:List Ins} {U D:Nat} {cl:List (Nat × Nat)}:∀ {l:List Ins} {i0 i:Nat} {x:Ins},l[i]? = some x->Nat.testBit U (i0+i)=false->Nat.testBit D (i0+i)=false->enB U D (XB cl x.af)=true->(D ||| 2 ^ (i0+i),Ze3 U (XB cl x.af) 0 l0,x) ∈ ZtP l0 U cl D i0 l
 | [],_,_,_,h,_,_,_=>by simp at h
 | y :: l,i0,0,x,h,hu,hd,he=>by
  simp only [List.getElem?_cons_zero,Option.some.injEq] at h
  subst h
  have hc:(!Nat.testBit U i0 && (!Nat.testBit D i0 && enB U D (XB cl y.af)))=true:=by rw [he,show Nat.testBit U i0=false from hu,show Nat.testBit D i0=false from hd];rfl
  simp only [ZtP,hc,cond_true]
  exact List.mem_cons_self ..
 | y :: l,i0,i+1,x,h,hu,hd,he=>by
  have ih:=ZdM (l0:=l0) (cl:=cl) (D:=D) (l:=l) (i0:=i0+1) (x:=x) (by simpa using h) (by rw [show i0+1+i=i0+(i+1) from by omega];exact hu) (by rw [show i0+1+i=i0+(i+1) from by omega];exact hd) he
  rw [show i0+1+i=i0+(i+1) from by omega] at ih
  simp only [ZtP]
  cases (!Nat.testBit U i0 && (!Nat.testBit D i0 && enB U D (XB cl y.af)))
  . exact ih
  . exact List.mem_cons_of_mem _ ih
def ZmS (f:List Ins->Ins->Prop):List (List Ins × Ins)->Prop
 | []=>True
 | (p,x) :: r=>f p x/\ZmS f r
theorem Znr {f:List Ins->Ins->Prop} {rs:List (List Ins × Ins)}:∀ {p:List Ins} {x:Ins},ZmS f rs->(p,x) ∈ rs->f p x:=by
 induction rs with
 | nil=>intro i x _ hm;cases hm
 | cons y r ih =>
  intro i x h hm
  obtain ⟨j,z⟩:=y
  have h':f j z/\ZmS f r:=h
  rcases List.mem_cons.1 hm with e | e
  . injection e with e1 e2;subst e1 e2;exact h'.1
  . exact ih h'.2 e
def Zq2 (f:Nat->List Ins->Ins->Prop):List (Nat × List Ins × Ins)->Prop
 | []=>True
 | (i,p,x) :: r=>f i p x/\Zq2 f r
theorem Znz {f:Nat->List Ins->Ins->Prop} {rs:List (Nat × List Ins × Ins)}:∀ {i:Nat} {p:List Ins} {x:Ins},Zq2 f rs->(i,p,x) ∈ rs->f i p x:=by
 induction rs with
 | nil=>intro i p x _ hm;cases hm
 | cons y r ih =>
  intro i p x h hm
  obtain ⟨j,q,z⟩:=y
  have h':f j q z/\Zq2 f r:=h
  rcases List.mem_cons.1 hm with e | e
  . injection e with e1 e2;injection e2 with e2 e3;subst e1 e2 e3;exact h'.1
  . exact ih h'.2 e
theorem Vp {f:List Ins->Ins->Prop} {p:List Ins} {x:Ins} {r:List (List Ins × Ins)} (h:f p x) (h':ZmS f r):ZmS f ((p,x) :: r):=⟨h,h'⟩
theorem Zt {f:List Ins->Ins->Prop}:ZmS f []:=trivial
theorem Zk {f:Nat->List Ins->Ins->Prop} {i:Nat} {p:List Ins} {x:Ins} {r:List (Nat × List Ins × Ins)} (h:f i p x) (h':Zq2 f r):Zq2 f ((i,p,x) :: r):=⟨h,h'⟩
theorem Zu {f:Nat->List Ins->Ins->Prop}:Zq2 f []:=trivial
theorem Zpn {P:Program} {Y:Hd} {l:List Ins} {U D:Nat} {cl:List (Nat × Nat)} {σ : St} {K:RK} (ss:List (List Ins × Ins)) (h1:Zpo l U cl D 0 l=ss)
 (ha:ZmS (fun ps x=>rxT P Y ps (fun σ' K'=>st1 P Y x σ' (fun _ _=>True) K') σ K) ss):SAF P Y l U cl D σ K:=by
 intro i x hx hu hm he
 have h:=Zec (l0:=l) (cl:=cl) (D:=D) (i0:=0) hx (by rw [Nat.zero_add];exact hu) hm he
 rw [h1] at h
 exact Znr (f:=fun ps x=>rxT P Y ps (fun σ' K'=>st1 P Y x σ' (fun _ _=>True) K') σ K) ha h
theorem Zm {P:Program} {Y:Hd} {m:Nat} {l:List Ins} {U:Nat} {cl:List (Nat × Nat)} {n D:Nat} {σ : St} {K:Ex->St->Prop} (ss:List (List Ins × Ins)) (rs:List (Nat × List Ins × Ins)) (hn:ZkC U σ.fr 0 l=true) (h1:Zpo l U cl D 0 l=ss) (h2:ZtP l U cl D 0 l=rs)
 (ha:ZmS (fun ps x=>rxT P Y ps (fun σ' K'=>st1 P Y x σ' (fun _ _=>True) K') σ K) ss)
 (hb:Zq2 (fun E ps x=>rxT P Y ps (fun σ' K'=>st1 P Y x σ' (fun σ'' K''=>∃ σc,Ent m σ'' σc/\Z6 P Y m l U cl n E σc K'') K') σ K) rs):Z6 P Y m l U cl (n+1) D σ K:=by
 refine ⟨hn,Zpn ss h1 ha,fun i x hx hu hd he=>?_⟩
 have h:=ZdM (l0:=l) (cl:=cl) (D:=D) (i0:=0) hx (by rw [Nat.zero_add];exact hu) (by rw [Nat.zero_add];exact hd) he
 rw [Nat.zero_add,h2] at h
 exact Znz (f:=fun E ps x=>rxT P Y ps (fun σ' K'=>st1 P Y x σ' (fun σ'' K''=>∃ σc,Ent m σ'' σc/\Z6 P Y m l U cl n E σc K'') K') σ K) hb h
theorem ZmH {P:Program} {Y:Hd} {m:Nat} {l:List Ins} {U:Nat} {cl:List (Nat × Nat)} {D:Nat} {σ : St} {K:Ex->St->Prop} (ss:List (List Ins × Ins)) (ps:List Ins) (hn:ZkC U σ.fr 0 l=true) (h1:Zpo l U cl D 0 l=ss) (h2:Ze3 U U 0 l=ps)
 (ha:ZmS (fun ps x=>rxT P Y ps (fun σ' K'=>st1 P Y x σ' (fun _ _=>True) K') σ K) ss) (hb:∀ σF,σF = σ->rxT P Y ps (fun σ' K'=>K' .n σ') σF K):Z6 P Y m l U cl 0 D σ K :=
 ⟨hn,Zpn ss h1 ha,by rw [h2];exact hb σ rfl⟩
end Go.Sx
