/- Walks and plain laws that lead to the given statement, part 6 of 10. -/
import Derived.Test.YtiigiflofnjilaaGreatQE
import Derived.Test.YtiigiflofnjilaaGreatProg
import Derived.MapKept
import Derived.WideKeyRuns
set_option maxRecDepth 100000
set_option maxHeartbeats 4000000
set_option linter.all false
open Nat renaming reduceAdd->rA,reduceMul->rM,reduceSub->rS,beq_refl->nbr
namespace Go.Proofs.YtiigiflofnjilaaGreat
open Go Go.Sx Go.Azalai
theorem ZwB (a b d:Int) (c:Bool):Ct Tryz.prog 71 [.sl c 1 [[I a],[I b],[I d]]] (I (min (min a b) d)):=by
 refine t71.1 (by simp [KFR,KFL,KF]) (by simp [KFL,KF]) ?_
 dsimp only [c71,r71,go_sem,rA,rM,rS]
 refine Zw (by decide) ?_
 dsimp only [go_sem,rA,rM,rS]
 refine ixs 0 [I a] rfl rfl ?_
 dsimp only [go_sem,rA,rM,rS]
 refine Xp 3 ?_
 dsimp only [Zb,go_sem,rA,rM,rS]
 refine Zv (by decide) ?_
 dsimp only [Zb,go_sem,rA,rM,rS]
 refine ixs 1 [I b] rfl rfl ?_
 dsimp only [Zb,go_sem,rA,rM,rS]
 refine Zv (by decide) ?_
 dsimp only [Zb,go_sem,rA,rM,rS]
 refine ixs 2 [I d] rfl rfl ?_
 dsimp only [Zb,go_sem,rA,rM,rS]
 refine Zw (by decide) ?_
 dsimp only [go_sem,rA,rM,rS]
theorem VV (a b:Int):Ct Tryz.prog 122 [.sl true 1 [[I a],[I b]]] (I (min (min a b) 100001)):=by
 refine t122.1 (by simp [KFR,KFL,KF]) (by simp [KFL,KF]) ?_
 dsimp only [c122,r122,go_sem,rA,rM,rS]
 refine ZAv (by simp) ?_
 dsimp only [go_sem,rA,rM,rS]
 refine call (ZwB a b 100001 false) ?_
 dsimp only [go_sem,rA,rM,rS]
theorem Ze7 {n day:Int} {o s:Gate->Int} (hn:1<=n):∀ {l:List Gate},(∀ g ∈ l,s g<=100000)->ZaK n day o s l<=100001
 | [],_=>by simp only [ZaK];omega
 | x :: l,h=>by
  have:=h x (by simp)
  have:=Ze7 (day:=day) (o:=o) (s:=s) (l:=l) hn (fun g hg=>h g (by simp [hg]))
  simp only [ZaK];split<;>omega
def ZO (l:Land) (p:Span):List SV:=[.sl false 9 (l.wells.map Zg),.sl false 5 (l.legs.map Zm),I p.lo,I p.hi]
theorem ZdL (l:Land) (hs:Vl l) (p:Span) (ha:ZaE l p=0):Ct Tryz.prog 75 [.agg (Yo l),.agg (Zd p)] (.tup [.agg (ZO l p),I 0]):=by
 obtain ⟨h1,h2⟩:=ask0 ha
 refine t75.1 (by simp [Yo,Zg,Zm,Zh,Zd,Za,KFL,KF]) (by simp [ZO,Zg,Zm,Zh,Zd,Za,KFL,KF]) ?_
 dsimp only [c75,r75,Yo,Zd,go_sem,rA,rM,rS]
 refine call (Zc7 l hs) ?_
 dsimp only [go_sem,rA,rM,rS]
 refine Zw (by simp [h1]) ?_
 dsimp only [go_sem,rA,rM,rS]
 refine call (Xe 1 100000 p _) ?_
 dsimp only [go_sem,rA,rM,rS]
 refine Zw (by simpa [ZX] using h2) ?_
 dsimp only [ZO,go_sem,rA,rM,rS]
theorem Za1 (l:Land) (hs:Vl l) (p:Span) (ha:ZaE l p≠0):Ct Tryz.prog 75 [.agg (Yo l),.agg (Zd p)] (.tup [.agg [.v (.slice none 0 0),.v (.slice none 0 0),I 0,I 0],I (ZaE l p)]):=by
 refine t75.1 (by simp [Yo,Zg,Zm,Zh,Zd,Za,KFL,KF]) (by simp [KFL,KF]) ?_
 dsimp only [c75,r75,Yo,Zd,go_sem,rA,rM,rS]
 refine call (Zc7 l hs) ?_
 dsimp only [go_sem,rA,rM,rS]
 by_cases h1:ZM l=true
 case neg =>
  refine Zv (by simp [h1]) ?_
  dsimp only [go_sem,rA,rM,rS]
  simp [ZaE,h1]
 refine Zw (by simp [h1]) ?_
 dsimp only [go_sem,rA,rM,rS]
 refine call (Xe 1 100000 p _) ?_
 dsimp only [go_sem,rA,rM,rS]
 have h2:ZX p=false:=by
  by_cases h2:ZX p=true
  . exact absurd (by simp [ZaE,h1,h2]) ha
  . simpa using h2
 refine Zv (by simpa [ZX] using h2) ?_
 dsimp only [go_sem,rA,rM,rS]
 simp [ZaE,h1,h2]
theorem Zc6 (l:Land) (p:Span) (k:Nat) (hk:k < l.legs.length) (hx:GoodLeg l.legs[k]) (hp:ZX p=true):Ct Tryz.prog 82 [.agg (ZO l p),I k] (.agg (Zd (V2 l.legs[k] p))):=by
 have hb:=day_bd hx hp
 have hp':=hp
 simp only [ZX,Z6,decide_eq_true_eq] at hp'
 obtain ⟨h1,h2,h3,h4,h5⟩:=hx
 refine t82.1 (by simp [ZO,Zg,Zm,Zh,Zd,Za,KFL,KF]) (by simp [Zd,KFL,KF]) ?_
 dsimp only [c82,r82,ZO,go_sem,rA,rM,rS]
 refine Zp k hk rfl ?_
 dsimp only [Zm,go_sem,rA,rM,rS]
 rw [Zf (n:=l.legs[k].long.lo+p.hi) (by omega) (by omega),Zf (n:=l.legs[k].long.lo+p.hi - 1) (by omega) (by omega)]
 refine Zir (by omega) ?_
 dsimp only [go_sem,rA,rM,rS]
 rw [Zf (n:=l.legs[k].long.hi+p.lo) (by omega) (by omega),Zf (n:=l.legs[k].long.hi+p.lo - 1) (by omega) (by omega)]
 refine Zir (by omega) ?_
 dsimp only [Zd,go_sem,rA,rM,rS]
 simp only [V2] at hb ⊢
 rw [Zf (n:=(l.legs[k].long.lo+p.hi - 1).tdiv p.hi) (by omega) (by omega),Zf (n:=(l.legs[k].long.hi+p.lo - 1).tdiv p.lo) (by omega) (by omega)]
theorem Zc2 (a b:Int):Ct Tryz.prog 80 [.agg [I a,I b]] (.agg [I a,I b]):=by
 refine t80.1 (by simp [KFL,KF]) (by simp [KFL,KF]) ?_
 dsimp only [c80,r80,go_sem,rA,rM,rS]
 refine ixa 0 rfl (by decide) ?_
 dsimp only [go_sem,rA,rM,rS]
 refine ixa 1 rfl (by decide) ?_
 dsimp only [go_sem,rA,rM,rS]
theorem ZrX (l:Land) (hs:Vl l) (leg:Int) (p:Span):Ct Tryz.prog 39 [.agg (Yo l),I leg,.agg (Zd p)] (sres (XL l leg p)):=by
 have hw1:IntKind.i64.wrap ((l.legs.length:Int) - 1)=(l.legs.length:Int) - 1:=Zf (by omega) (by have:=hs.2.1;omega)
 refine t39.1 (by simp [Yo,Zg,Zm,Zh,Zd,Za,KFL,KF]) (by simp [sres,Zd,KFL,KF]) ?_
 dsimp only [c39,r39,Yo,Zd,go_sem,rA,rM,rS]
 by_cases ha:ZaE l p=0
 case neg =>
  refine call (Za1 l hs p ha) ?_
  dsimp only [go_sem,rA,rM,rS]
  refine Zv (by simpa using ha) ?_
  dsimp only [go_sem,rA,rM,rS]
  simp [XL,ha,sres,Zd]
 refine call (ZdL l hs p ha) ?_
 dsimp only [ZO,go_sem,rA,rM,rS]
 refine Zw (by decide) ?_
 dsimp only [go_sem,rA,rM,rS]
 simp only [List.length_map,hw1]
 repeat (first | (refine gb ?_;dsimp only [go_sem,rA,rM,rS]) | (refine call (UX _ _ _ _) ?_;dsimp only [go_sem,rA,rM,rS]))
 by_cases hr:inR 0 (l.legs.length - 1) leg=true
 case neg =>
  refine Zv (by grind) ?_
  dsimp only [go_sem,rA,rM,rS]
  simp [XL,ha,hr,sres,Zd]
 refine Zw (by grind) ?_
 dsimp only [go_sem,rA,rM,rS]
 obtain ⟨k,hk,rfl,hget⟩:=Zt3 hr
 obtain ⟨hol,hop⟩:=ask0 ha
 have hx:=XW hol l.legs[k] (List.getElem_mem _)
 refine call (Zc6 l p k hk hx hop) ?_
 dsimp only [Zd,go_sem,rA,rM,rS]
 refine call (Zc2 _ _) ?_
 dsimp only [go_sem,rA,rM,rS]
 simp only [XL,ha,hr,hget,sres,Zd]
 simp
theorem We (l:Land) (p:Span) (k:Nat) (hk:k < l.legs.length) (d0 d1:Int) (hx:GoodLeg l.legs[k]) (hp:ZX p=true) (h0:inR 0 100001 d0=true) (h1:inR 0 100001 d1=true) :
 Ct Tryz.prog 78 [.agg (ZO l p),I k,.agg [I d0,I d1]] (.agg [I (ZxQ l.legs[k] p d0),I (Zu6 l.legs[k] p d1)]):=by
 have hb:=day_bd hx hp
 have hg:=YQ hx.g2 (Int.le_refl _)
 have hl:=hx.g1
 simp only [inR,decide_eq_true_eq] at h0 h1
 refine t78.1 (by simp [ZO,Zg,Zm,Zh,Zd,Za,KFL,KF]) (by simp [KFL,KF]) ?_
 dsimp only [c78,r78,ZO,go_sem,rA,rM,rS]
 refine call (Zc6 l p k hk hx hp) ?_
 dsimp only [Zd,go_sem,rA,rM,rS]
 refine Zp k hk rfl ?_
 dsimp only [Zm,go_sem,rA,rM,rS]
 have e0:Zco (V2 l.legs[k] p).lo d0 (·.opens.lo) (·.shuts.hi) 100001 l.legs[k].gates=ZxQ l.legs[k] p d0:=by
  rw [ZdD hb.1 (fun g h=>by omega) hx.g2 (Int.le_refl _) (by omega)]
  exact Int.min_eq_right (Ze7 hb.1 (fun g h=>by have:=hg g h;omega))
 have e1:Zco (V2 l.legs[k] p).hi d1 (·.opens.hi) (·.shuts.lo) 100001 l.legs[k].gates=Zu6 l.legs[k] p d1:=by
  rw [ZdD hb.2.2.1 (fun g h=>by omega) hx.g2 (Int.le_refl _) (by omega)]
  exact Int.min_eq_right (Ze7 hb.2.2.1 (fun g h=>by have:=hg g h;omega))
 generalize hnl:(V2 l.legs[k] p).lo=nl at hb e0
 generalize hnh:(V2 l.legs[k] p).hi=nh at hb e1
 refine Xt (fun s:Nat × Int × Int=>[(27,I s.1)]) (fun s=>[(4,.cells [I s.2.1,I s.2.2] 165)])
  (fun s=>s.1<=l.legs[k].gates.length/\Zco nl d0 (·.opens.lo) (·.shuts.hi) s.2.1 (l.legs[k].gates.drop s.1)=ZxQ l.legs[k] p d0/\Zco nh d1 (·.opens.hi) (·.shuts.lo) s.2.2 (l.legs[k].gates.drop s.1)=Zu6 l.legs[k] p d1)
  (fun s=>l.legs[k].gates.length - s.1) (0,100001,100001) ⟨Nat.zero_le _,e0,e1⟩ ?_ ?_
 . (refine Zl ?_ ?_ ?_ rfl rfl<;>dsimp only [Zh,Zg,Zm,Zd,id,go_sem,rA,rM,rS]<;>simp [Zh,Zg,Zm,Zd,Za,Ze,KFR,KFL,KF,Zc,mtO,nbr])
 rintro ⟨j,m0,m1⟩ ⟨hj,i0,i1⟩
 simp only at hj i0 i1
 dsimp only [go_sem,rA,rM,rS]
 by_cases hlt:j < l.legs[k].gates.length
 . refine Zv (by simpa using hlt) ?_
   dsimp only [go_sem,rA,rM,rS]
   have hgk:=hg l.legs[k].gates[j] (List.getElem_mem _)
   rw [List.drop_eq_getElem_cons hlt,Zco] at i0 i1
   refine Zp j hlt rfl ?_
   dsimp only [Zh,go_sem,rA,rM,rS]
   refine Xp 3 ?_
   dsimp only [Zb,go_sem,rA,rM,rS]
   refine Zv (by decide) ?_
   dsimp only [Zb,go_sem,rA,rM,rS]
   repeat (first | (refine ixa 0 rfl (by decide) ?_;dsimp only [Zb,go_sem,rA,rM,rS]) | (refine call (VV _ _) ?_;dsimp only [Zb,go_sem,rA,rM,rS]))
   rw [Zf (n:=max d0 l.legs[k].gates[j].opens.lo+nl) (by omega) (by omega),Zf (n:=max d0 l.legs[k].gates[j].opens.lo+nl - 1) (by omega) (by omega)]
   refine br ?_ ?_
   . intro hA
     dsimp only [Zb,go_sem,rA,rM,rS]
     repeat (first | (refine ixa 0 rfl (by decide) ?_;dsimp only [Zb,go_sem,rA,rM,rS]) | (refine call (VV _ _) ?_;dsimp only [Zb,go_sem,rA,rM,rS]))
     rw [if_pos (by simpa using hA)] at i0
     refine Zv (by decide) ?_
     dsimp only [Zb,go_sem,rA,rM,rS]
     repeat (first | (refine ixa 1 rfl (by decide) ?_;dsimp only [Zb,go_sem,rA,rM,rS]) | (refine call (VV _ _) ?_;dsimp only [Zb,go_sem,rA,rM,rS]))
     rw [Zf (n:=max d1 l.legs[k].gates[j].opens.hi+nh) (by omega) (by omega),Zf (n:=max d1 l.legs[k].gates[j].opens.hi+nh - 1) (by omega) (by omega)]
     refine br ?_ ?_
     . intro hB
       dsimp only [Zb,go_sem,rA,rM,rS]
       repeat (first | (refine ixa 1 rfl (by decide) ?_;dsimp only [Zb,go_sem,rA,rM,rS]) | (refine call (VV _ _) ?_;dsimp only [Zb,go_sem,rA,rM,rS]))
       rw [if_pos (by simpa using hB)] at i1
       refine Zw (by decide) ?_
       dsimp only [go_sem,rA,rM,rS]
       rw [Zf (n:=(j:Int)+1) (by omega) (by omega)]
       refine ⟨(j+1,min (min m0 (max d0 l.legs[k].gates[j].opens.lo)) 100001,min (min m1 (max d1 l.legs[k].gates[j].opens.hi)) 100001),⟨hlt,i0,i1⟩,by simp only;omega,?_⟩
       (refine Zl ?_ ?_ ?_ rfl rfl<;>dsimp only [Zh,Zg,Zm,Zd,id,go_sem,rA,rM,rS]<;>simp [Zh,Zg,Zm,Zd,Za,Ze,KFR,KFL,KF,Zc,mtO,nbr])
     . intro hB
       dsimp only [Zb,go_sem,rA,rM,rS]
       rw [if_neg (by simpa using hB)] at i1
       refine Zw (by decide) ?_
       dsimp only [go_sem,rA,rM,rS]
       rw [Zf (n:=(j:Int)+1) (by omega) (by omega)]
       refine ⟨(j+1,min (min m0 (max d0 l.legs[k].gates[j].opens.lo)) 100001,m1),⟨hlt,i0,i1⟩,by simp only;omega,?_⟩
       (refine Zl ?_ ?_ ?_ rfl rfl<;>dsimp only [Zh,Zg,Zm,Zd,id,go_sem,rA,rM,rS]<;>simp [Zh,Zg,Zm,Zd,Za,Ze,KFR,KFL,KF,Zc,mtO,nbr])
   . intro hA
     dsimp only [Zb,go_sem,rA,rM,rS]
     rw [if_neg (by simpa using hA)] at i0
     refine Zv (by decide) ?_
     dsimp only [Zb,go_sem,rA,rM,rS]
     repeat (first | (refine ixa 1 rfl (by decide) ?_;dsimp only [Zb,go_sem,rA,rM,rS]) | (refine call (VV _ _) ?_;dsimp only [Zb,go_sem,rA,rM,rS]))
     rw [Zf (n:=max d1 l.legs[k].gates[j].opens.hi+nh) (by omega) (by omega),Zf (n:=max d1 l.legs[k].gates[j].opens.hi+nh - 1) (by omega) (by omega)]
     refine br ?_ ?_
     . intro hB
       dsimp only [Zb,go_sem,rA,rM,rS]
       repeat (first | (refine ixa 1 rfl (by decide) ?_;dsimp only [Zb,go_sem,rA,rM,rS]) | (refine call (VV _ _) ?_;dsimp only [Zb,go_sem,rA,rM,rS]))
       rw [if_pos (by simpa using hB)] at i1
       refine Zw (by decide) ?_
       dsimp only [go_sem,rA,rM,rS]
       rw [Zf (n:=(j:Int)+1) (by omega) (by omega)]
       refine ⟨(j+1,m0,min (min m1 (max d1 l.legs[k].gates[j].opens.hi)) 100001),⟨hlt,i0,i1⟩,by simp only;omega,?_⟩
       (refine Zl ?_ ?_ ?_ rfl rfl<;>dsimp only [Zh,Zg,Zm,Zd,id,go_sem,rA,rM,rS]<;>simp [Zh,Zg,Zm,Zd,Za,Ze,KFR,KFL,KF,Zc,mtO,nbr])
     . intro hB
       dsimp only [Zb,go_sem,rA,rM,rS]
       rw [if_neg (by simpa using hB)] at i1
       refine Zw (by decide) ?_
       dsimp only [go_sem,rA,rM,rS]
       rw [Zf (n:=(j:Int)+1) (by omega) (by omega)]
       refine ⟨(j+1,m0,m1),⟨hlt,i0,i1⟩,by simp only;omega,?_⟩
       (refine Zl ?_ ?_ ?_ rfl rfl<;>dsimp only [Zh,Zg,Zm,Zd,id,go_sem,rA,rM,rS]<;>simp [Zh,Zg,Zm,Zd,Za,Ze,KFR,KFL,KF,Zc,mtO,nbr])
 refine Zw (by simp;omega) ?_
 dsimp only [go_sem,rA,rM,rS]
 have hke:j=l.legs[k].gates.length:=by omega
 subst hke
 rw [List.drop_length,Zco] at i0 i1
 rw [<- i0,<- i1]
end Go.Proofs.YtiigiflofnjilaaGreat
namespace Go.Azalai
theorem ZkV {n day:Int} {o s:Gate->Int} (hn:1<=n) (hd:day<=100001):∀ {l:List Gate},(∀ g ∈ l,s g<=100000)->(day<=ZaK n day o s l/\ZaK n day o s l<=100001)/\(ZaK n day o s l=100001\/ZaK n day o s l+n<=100001)
 | [],_=>⟨⟨by simp only [ZaK];omega,by simp only [ZaK];omega⟩,.inl rfl⟩
 | x :: l,h=>by
  have:=h x (by simp)
  have:=ZkV (day:=day) (o:=o) (s:=s) (l:=l) hn hd (fun g hg=>h g (by simp [hg]))
  simp only [ZaK];split<;>omega
theorem ZfO {n day:Int} {o s:Gate->Int} (hn:1<=n):∀ {l:List Gate},(∀ g ∈ l,s g<=100000)->ZaK n day o s l<=100001
 | [],_=>by simp only [ZaK];omega
 | x :: l,h=>by
  have:=h x (by simp)
  have:=ZfO (day:=day) (o:=o) (s:=s) (l:=l) hn (fun g hg=>h g (by simp [hg]))
  simp only [ZaK];split<;>omega
def nK (k:Bool) (x:Leg) (p:Span):Int:=bif k then (V2 x p).hi else (V2 x p).lo
def leK (k:Bool) (x:Leg) (p:Span) (t:Int):Int:=bif k then Zu6 x p t else ZxQ x p t
def ZK (k:Bool) (x:Leg) (p:Span) (t:Int):Int:=min 100001 (leK k x p t+nK k x p)
theorem ZeF {k:Bool} {x:Leg} {p:Span} (h:GoodLeg x) (hp:ZX p=true):1<=nK k x p/\nK k x p<=1000000:=by
 have:=day_bd h hp
 cases k<;>simp only [nK,cond_true,cond_false]<;>omega
theorem Zbt {k:Bool} {x:Leg} {p:Span} {t:Int} (h:GoodLeg x) (hp:ZX p=true) :
 leK k x p t=Zco (nK k x p) t (fun g=>bif k then g.opens.hi else g.opens.lo) (fun g=>bif k then g.shuts.lo else g.shuts.hi) 100001 x.gates /\
 leK k x p t=ZaK (nK k x p) t (fun g=>bif k then g.opens.hi else g.opens.lo) (fun g=>bif k then g.shuts.lo else g.shuts.hi) x.gates/\∀ g ∈ x.gates,(bif k then g.shuts.lo else g.shuts.hi)<=100000:=by
 have hn:=ZeF (k:=k) h hp
 have hg:=YQ h.g2 (Int.le_refl _)
 have h2:∀ g ∈ x.gates,(bif k then g.shuts.lo else g.shuts.hi)<=100000:=fun g hm=>by have:=hg g hm;cases k<;>simp only [cond_true,cond_false]<;>omega
 have h1:leK k x p t=ZaK (nK k x p) t (fun g=>bif k then g.opens.hi else g.opens.lo) (fun g=>bif k then g.shuts.lo else g.shuts.hi) x.gates:=by cases k<;>rfl
 refine ⟨?_,h1,h2⟩
 rw [ZdD hn.1 (fun g q=>by cases k<;>simp only [cond_true,cond_false]<;>omega) h.g2 (Int.le_refl _) (by omega),h1]
 have:=ZfO (day:=t) (o:=fun g=>bif k then g.opens.hi else g.opens.lo) hn.1 h2
 omega
theorem Zeh {n:Int} {o s:Gate->Int} {d d':Int} (hn:1<=n) (hd:d<=d'):∀ {l:List Gate} {a a':Int},a<=a'->a'<=100001->(∀ g ∈ l,s g<=100000)->Zco n d o s a l<=Zco n d' o s a' l
 | [],a,a',ha,_,_=>by simpa only [Zco] using ha
 | g :: l,a,a',ha,hb,hs=>by
  simp only [Zco]
  have:=hs g (by simp)
  refine Zeh hn hd ?_ ?_ (fun g hg=>hs g (by simp [hg]))
  . repeat' split
    all_goals omega
  . split<;>omega
theorem Zbf {k:Bool} {x:Leg} {p:Span} {t t':Int} (h:GoodLeg x) (hp:ZX p=true) (ht:t<=t'):ZK k x p t<=ZK k x p t':=by
 have hn:=ZeF (k:=k) h hp
 obtain ⟨a1,_,a3⟩:=Zbt (k:=k) (t:=t) h hp
 obtain ⟨b1,_,_⟩:=Zbt (k:=k) (t:=t') h hp
 have:=Zeh (o:=fun g=>bif k then g.opens.hi else g.opens.lo) hn.1 ht (Int.le_refl 100001) (Int.le_refl _) a3
 simp only [ZK];omega
theorem Xu {k:Bool} {x:Leg} {p:Span} {t:Int} (h:GoodLeg x) (hp:ZX p=true) (ht:t<=100001):ZK k x p t<=100001/\(t+1<=ZK k x p t\/t=100001/\ZK k x p t=100001)/\(ZK k x p t < 100001->ZK k x p t=leK k x p t+nK k x p/\leK k x p t < 100001)/\(leK k x p t < 100001->leK k x p t+nK k x p<=100001)/\t<=leK k x p t/\leK k x p t<=100001:=by
 have hn:=ZeF (k:=k) h hp
 obtain ⟨_,a2,a3⟩:=Zbt (k:=k) (t:=t) h hp
 have:=ZkV (o:=fun g=>bif k then g.opens.hi else g.opens.lo) hn.1 ht a3
 rw [<- a2] at this
 simp only [ZK];omega
theorem Vs {k:Bool} {x:Leg} {p:Span} {t:Int} (h:GoodLeg x) (hp:ZX p=true) (ht:t<=100001):t<=ZK k x p t:=by
 have:=Xu (k:=k) h hp ht;omega
def Zk (x:Leg) (v:Int):Int:=if x.a=v then x.b else if x.b=v then x.a else -1
def goW (k:Bool) (l:Land) (p:Span):Int->Int->List Nat->Option (Int × Int)
 | v,t,[]=>some (v,t)
 | v,t,i :: r=>match l.legs[i]? with
  | none=>none
  | some x=>if Zk x v < 0 then none else if ZK k x p t > 100000 then none else goW k l p (Zk x v) (ZK k x p t) r
structure OkLP (l:Land) (p:Span):Prop where
 land:ZM l=true
 pace:ZX p=true
theorem OkLP.leg {l:Land} {p:Span} (h:OkLP l p) {i:Nat} {x:Leg} (hx:l.legs[i]? = some x):GoodLeg x:=XW h.land x (List.mem_of_getElem? hx)
theorem OkLP.ends {l:Land} {p:Span} (h:OkLP l p) {x:Leg} (hx:x ∈ l.legs):(0<=x.a/\x.a < l.wells.length)/\(0<=x.b/\x.b < l.wells.length)/\x.a≠x.b:=by
 have h1:=h.land
 simp only [ZM,Bool.and_eq_true,List.all_eq_true] at h1
 have:=h1.2 x hx
 simp only [WL,inR,Bool.and_eq_true,decide_eq_true_eq,bne_iff_ne] at this
 obtain ⟨⟨⟨⟨⟨q1,q2⟩,q3⟩,_⟩,_⟩,_⟩:=this
 refine ⟨by omega,by omega,q3⟩
theorem ZW {l:Land} {p:Span} (h:OkLP l p) {i:Nat} {x:Leg} (hx:l.legs[i]? = some x) {v:Int} (ho:¬ Zk x v < 0):(0<=Zk x v/\Zk x v < l.wells.length)/\(x.a=v/\Zk x v=x.b\/x.b=v/\Zk x v=x.a)/\0<=v/\v < l.wells.length:=by
 have:=h.ends (List.mem_of_getElem? hx)
 unfold Zk at ho ⊢
 split
 . omega
 . split
   . omega
   . rw [if_neg (by assumption),if_neg (by assumption)] at ho;omega
theorem Zbx {k:Bool} {l:Land} {p:Span}:∀ {a b:List Nat} {v t:Int},goW k l p v t (a ++ b)=(goW k l p v t a).bind fun s=>goW k l p s.1 s.2 b
 | [],b,v,t=>rfl
 | i :: a,b,v,t=>by
  simp only [List.cons_append,goW]
  cases l.legs[i]? with
  | none=>rfl
  | some x =>
   simp only
   split
   . rfl
   . split
     . rfl
     . exact Zbx
theorem V9 {k:Bool} {l:Land} {p:Span} (h:OkLP l p):∀ {a:List Nat} {v t v' t':Int},goW k l p v t a=some (v',t')->t<=100000->0<=v->v < l.wells.length->t+a.length<=t'/\t'<=100000/\0<=v'/\v' < l.wells.length
 | [],v,t,v',t',e,ht,h0,h1=>by simp only [goW,Option.some.injEq,Prod.mk.injEq] at e;simp;omega
 | i :: a,v,t,v',t',e,ht,h0,h1=>by
  simp only [goW] at e
  cases hx:l.legs[i]? with
  | none=>rw [hx] at e;cases e
  | some x =>
   rw [hx] at e
   simp only at e
   by_cases ho:Zk x v < 0
   . rw [if_pos ho] at e;cases e
   . rw [if_neg ho] at e
     by_cases hr:ZK k x p t > 100000
     . rw [if_pos hr] at e;cases e
     . rw [if_neg hr] at e
       have hb:=Xu (k:=k) (h.leg hx) h.pace (show t<=100001 by omega)
       have ho':=ZW h hx ho
       have:=V9 h e (by omega) ho'.1.1 ho'.1.2
       simp only [List.length_cons];omega
def Zms (k:Bool) (l:Land) (p:Span) (d:Int->Int):Prop:=∀ x ∈ l.legs,d x.b<=ZK k x p (d x.a)/\d x.a<=ZK k x p (d x.b)
theorem ZdQ {k:Bool} {l:Land} {p:Span} {d:Int->Int} (h:OkLP l p) (hc:Zms k l p d):∀ {a:List Nat} {v t v' t':Int},goW k l p v t a=some (v',t')->d v<=t->d v'<=t'
 | [],v,t,v',t',e,ht=>by simp only [goW,Option.some.injEq,Prod.mk.injEq] at e;rw [<- e.1];omega
 | i :: a,v,t,v',t',e,ht=>by
  simp only [goW] at e
  cases hx:l.legs[i]? with
  | none=>rw [hx] at e;cases e
  | some x =>
   rw [hx] at e
   simp only at e
   by_cases ho:Zk x v < 0
   . rw [if_pos ho] at e;cases e
   . rw [if_neg ho] at e
     by_cases hr:ZK k x p t > 100000
     . rw [if_pos hr] at e;cases e
     . rw [if_neg hr] at e
       refine ZdQ h hc e ?_
       have hcx:=hc x (List.mem_of_getElem? hx)
       have hm:=Zbf (k:=k) (h.leg hx) h.pace ht
       rcases (ZW h hx ho).2.1 with ⟨q1,q2⟩ | ⟨q1,q2⟩
       . rw [q2];rw [<- q1] at hm;omega
       . rw [q2];rw [<- q1] at hm;omega
open Classical in
noncomputable def Y1 (k:Bool) (l:Land) (p:Span) (s day v:Int):Int :=
 if h:∃ n:Nat,∃ a,goW k l p s day a=some (v,(n:Int)) then ((Go.Sx.least_ex _ h).choose:Int) else 100001
theorem Zbw {k:Bool} {l:Land} {p:Span} (h:OkLP l p) {s day v t:Int} {a:List Nat} (e:goW k l p s day a=some (v,t)) (hd:0<=day) (hd':day<=100000) (h0:0<=s) (h1:s < l.wells.length):Y1 k l p s day v<=t:=by
 have hb:=V9 h e hd' h0 h1
 have hex:∃ n:Nat,∃ a,goW k l p s day a=some (v,(n:Int)):=⟨t.toNat,a,by rw [e,show ((t.toNat:Nat):Int)=t by omega]⟩
 unfold Y1
 rw [dif_pos hex]
 have:=(Go.Sx.least_ex _ hex).choose_spec.2 t.toNat ⟨a,by rw [e,show ((t.toNat:Nat):Int)=t by omega]⟩
 omega
theorem ZbX {k:Bool} {l:Land} {p:Span} {s day v:Int}:Y1 k l p s day v=100001\/∃ a,goW k l p s day a=some (v,Y1 k l p s day v):=by
 unfold Y1
 by_cases hex:∃ n:Nat,∃ a,goW k l p s day a=some (v,(n:Int))
 . rw [dif_pos hex];exact .inr (Go.Sx.least_ex _ hex).choose_spec.1
 . rw [dif_neg hex];exact .inl rfl
theorem ZiI {k:Bool} {l:Land} {p:Span} (h:OkLP l p) {s day v:Int} (hd:0<=day) (hd':day<=100000) (h0:0<=s) (h1:s < l.wells.length):day<=Y1 k l p s day v/\Y1 k l p s day v<=100001:=by
 rcases ZbX (k:=k) (l:=l) (p:=p) (s:=s) (day:=day) (v:=v) with e | ⟨a,e⟩
 . omega
 . have:=V9 h e hd' h0 h1;omega
theorem ZaX {k:Bool} {l:Land} {p:Span} {a:List Nat} {s t v u:Int} {i:Nat} {x:Leg} (e:goW k l p s t a=some (v,u)) (hx:l.legs[i]? = some x) (ho:¬ Zk x v < 0) (hr:¬ ZK k x p u > 100000):goW k l p s t (a ++ [i])=some (Zk x v,ZK k x p u):=by
 rw [Zbx,e]
 simp only [Option.bind_some,goW,hx]
 rw [if_neg ho,if_neg hr]
theorem ZaI {k:Bool} {l:Land} {p:Span} (h:OkLP l p) {s day:Int} (hd:0<=day) (hd':day<=100000) (h0:0<=s) (h1:s < l.wells.length) {d:Int->Int} (hs:d s<=day) (hc:Zms k l p d) (hb:∀ v,d v<=100001)
 (hr:∀ v,d v=100001\/∃ a,goW k l p s day a=some (v,d v)) (v:Int):d v=Y1 k l p s day v:=by
 have h2:Y1 k l p s day v<=d v:=by
  rcases hr v with e | ⟨a,e⟩
  . have:=ZiI (k:=k) (v:=v) h hd hd' h0 h1;omega
  . exact Zbw h e hd hd' h0 h1
 have h3:d v<=Y1 k l p s day v:=by
  rcases ZbX (k:=k) (l:=l) (p:=p) (s:=s) (day:=day) (v:=v) with e | ⟨a,e⟩
  . have:=hb v;omega
  . exact ZdQ h hc e hs
 omega
noncomputable def Wo (k:Bool) (l:Land) (p:Span) (s day:Int):List Int:=(List.range l.wells.length).map fun v:Nat=>Y1 k l p s day (v:Int)
end Go.Azalai
namespace Go.Proofs.YtiigiflofnjilaaGreat
open Go Go.Sx
def c111:SC:=(sr1 [
 o1 2 (.box (.t 0) 0 160),
 o1 3 (.box (.t 1) 0 3),
 o1 4 (.mv (.c (.nilFunc)))]
 (sr1 [
 o1 5 (.mkf 153 [.t 2,.t 3]),
 m1 4 5]
 .ret))
def r111:List RV:=[.tmp 4]
theorem n111:Tryz.f111.ntmps=6:=by kernel_rfl
theorem b111:YP Tryz.prog 111=true:=by kernel_rfl
theorem ZvA:XK Tryz.prog c111 ((Tryz.f111.body).getD .skip)=true:=by kernel_rfl
theorem ZvK:Wx Tryz.prog r111 Tryz.f111.results.toList=true:=by kernel_rfl
theorem m111 {n0:Nat} {hp0:List (Nat × HB)} {args:List SV} {Yi:Ot->Prop} (hh:hpb n0 hp0) (hx:∀ o,Yi o->KX o.res/\KXP o.hp) (h:sx Tryz.prog Y0 n0 c111 ⟨Wu 0 args,hp0,n0,6,[]⟩ (ZcF r111 fun o=>∃ o',Yi o'/\ZeW n0 o o')) (hA:Nat.ble args.length 6=true:=by rfl):CtM Tryz.prog 111 hp0 n0 args Yi:=XA Tryz.func111 rfl b111 ZvA ZvK n111 (Nat.le_of_ble_eq_true hA) hh hx h
def ZxL:SC:=(sr1 [
 o1 6 (.addo (.t 1) 0),
 o1 7 (.addo (.t 6) 1),
 o1 8 (.ld (.t 7) 1 false),
 o1 9 (.len (.t 8)),
 o1 10 (.mv (.c (.int .i64 0)))]
 (.block 0 (.loop (sr1 [
  o1 11 (.bin .lss (.t 10) (.t 9))]
  (.seq (.cond (.t 11)
  .skip
  (.exit 0))
  (.seq (.block 1 (sr1 [
   m1 12 10,
   o1 13 (.ixs (.t 8) (.t 10) 5),
   o1 14 (.ld (.t 13) 5 true),
   o1 5 (.alloc zv7 83),
   m1 4 12,
   ⟨none,.st (.t 5) (.t 14) 5,none,[]⟩]
   (sr1 [
   o1 15 (.ld (.t 2) 1 false)]
   (.block 2 (sr1 [
    o1 17 (.addo (.t 5) 0),
    o1 18 (.ld (.t 17) 1 false),
    o1 19 (.bin .eql (.t 15) (.t 18)),
    m1 16 19]
    (.cond (.t 16)
    (sr1 [
     m1 20 0,
     m1 21 4,
     o1 22 (.addo (.t 5) 1),
     o1 23 (.ld (.t 22) 1 false),
     o1 24 (.calvm (.t 20) [.t 21,.t 23]),
     o1 25 (.un .not (.t 24))]
     (.cond (.t 25)
     .ret
     .skip))
    (sr1 [
     o1 27 (.addo (.t 5) 1),
     o1 28 (.ld (.t 27) 1 false),
     o1 29 (.bin .eql (.t 15) (.t 28)),
     m1 26 29]
     (.cond (.t 26)
     (sr1 [
      m1 30 0,
      m1 31 4,
      o1 32 (.addo (.t 5) 0),
      o1 33 (.ld (.t 32) 1 false),
      o1 34 (.calvm (.t 30) [.t 31,.t 33]),
      o1 35 (.un .not (.t 34))]
      (.cond (.t 35)
      .ret
      .skip))
     .skip))))))))
  (.reg [
  o1 36 (.bin .add (.t 10) (.c (.int .i64 1))),
  m1 10 36])))))))
def ZxA:List RV:=[]
theorem n153:Tryz.f153.ntmps=37:=by kernel_rfl
theorem ZAi:YP Tryz.prog 153=true:=by kernel_rfl
theorem Zt9:XK Tryz.prog ZxL ((Tryz.f153.body).getD .skip)=true:=by kernel_rfl
theorem Ztu:Wx Tryz.prog ZxA Tryz.f153.results.toList=true:=by kernel_rfl
theorem ZAE {Y:Hd} {n0:Nat} {hp0:List (Nat × HB)} {args:List SV} {Yi:Ot->Prop} (h:sx Tryz.prog Y n0 ZxL ⟨Wu 0 args,hp0,n0,37,[]⟩ (ZcF ZxA Yi)) (hA:Nat.ble args.length 37=true:=by rfl):CtY Tryz.prog Y 153 hp0 n0 args Yi:=ZbO Tryz.func153 rfl Zt9 Ztu n153 (Nat.le_of_ble_eq_true hA) h
def c77:SC:=(sr1 [
 o1 3 (.box (.t 0) 0 160),
 o1 4 (.box (.t 1) 0 3),
 o1 6 (.alloc [.int .i64 0] 3)]
 (.seq (sr1 [
 o1 9 (.ld (.t 3) 4 true),
 m1 10 2,
 o1 11 (.callm 111 [.t 9,.t 10])]
 (.block 0 (.gh (.rfun (.t 11) [12,13] (sr1 [
  m1 7 12]
  (.reg [
  m1 8 13]))
  (.block 1 (sr1 [
   m1 14 7,
   o1 15 (.ld (.t 4) 1 false),
   o1 16 (.bin .eql (.t 14) (.t 15))]
   (.cond (.t 16)
   (sr1 [
    m1 17 8,
    ⟨none,.st (.t 6) (.t 17) 1,none,[]⟩]
    .ret)
   .skip)))))))
 (sr1 [
 ⟨none,.st (.t 6) (.c (.int .i64 (-1))) 1,none,[]⟩]
 .ret)))
def r77:List RV:=[.cell 6 1 false]
theorem t77:Qt1 Tryz.prog 77 c77 r77 18:=Z8 Tryz.func77 rfl (by kernel_rfl) (by kernel_rfl) (by kernel_rfl) (by kernel_rfl)
def c79:SC:=(sr1 [
 o1 3 (.box (.t 0) 0 160),
 o1 5 (.box (.t 2) 0 165),
 o1 6 (.alloc [.int .i64 0,.int .i64 0] 165)]
 (.seq (.regd [0,1,2,3,4,5,6,7,8,9,10] [
 .op (o1 10 (.ld (.t 3) 4 true)),
 .op (m1 11 1),
 .op (o1 12 (.ld (.t 5) 2 true)),
 .op ⟨some 13,.call 78 [.t 10,.t 11,.t 12],none,[0,1,2]⟩,
 .op (o1 14 (.ld (.t 3) 4 true)),
 .op (m1 15 1),
 .op ⟨some 16,.call 82 [.t 14,.t 15],none,[3,4,5]⟩] 2 2 [
 o1 7 (.alloc [.int .i64 0,.int .i64 0] 165),
 o1 8 (.alloc [.int .i64 0,.int .i64 0] 165),
 ⟨none,.st (.t 7) (.t 13) 2,none,[0,1,2,3,6,7,8]⟩,
 ⟨none,.st (.t 8) (.t 16) 2,none,[0,1,2,3,4,5,6,7,8,9]⟩])
 (.seq (sr1 [
 o1 17 (.mv (.c (.int .i64 0)))]
 (.block 0 (.loop (sr1 [
  o1 18 (.bin .lss (.t 17) (.c (.int .i64 2)))]
  (.seq (.cond (.t 18)
  .skip
  (.exit 0))
  (.seq (.block 1 (sr1 [
   m1 19 17,
   m1 9 19]
   (.regd [0,1,2,3,4,5,6,7,8,9,10,11] [
   .op (m1 20 9),
   .op (m1 21 9),
   .op ⟨some 22,.ixa (.t 7) (.t 21) 2 1,none,[1]⟩,
   .op ⟨some 23,.ld (.t 22) 1 false,none,[2]⟩,
   .op (m1 24 9),
   .op ⟨some 25,.ixa (.t 8) (.t 24) 2 1,none,[4]⟩,
   .op ⟨some 26,.ld (.t 25) 1 false,none,[5]⟩,
   .op ⟨some 27,.bin .add (.t 23) (.t 26),none,[3,6]⟩,
   .op ⟨some 28,.bsl 1 3 [.t 27],none,[7]⟩,
   .op ⟨some 29,.call 122 [.t 28],none,[8]⟩,
   .op ⟨some 30,.ixa (.t 7) (.t 20) 2 1,none,[0,1,2,3,4,5,6,7,8,9]⟩] 0 1 [
   ⟨none,.st (.t 30) (.t 29) 1,none,[0,1,2,3,4,5,6,7,8,9,10]⟩])))
  (.reg [
  o1 31 (.bin .add (.t 17) (.c (.int .i64 1))),
  m1 17 31])))))))
 (sr1 [
 o1 32 (.ld (.t 7) 2 true),
 ⟨none,.st (.t 6) (.t 32) 2,none,[]⟩]
 .ret))))
def r79:List RV:=[.cell 6 2 true]
theorem t79:Qt1 Tryz.prog 79 c79 r79 33:=Z8 Tryz.func79 rfl (by kernel_rfl) (by kernel_rfl) (by kernel_rfl) (by kernel_rfl)
def c97:SC:=(sr1 [
 o1 4 (.box (.t 0) 0 160),
 o1 7 (.box (.t 3) 0 3),
 o1 8 (.mv (.c (.slice none 0 0)))]
 (sr1 [
 o1 16 (.bsl 1 3 [.c (.int .i64 100001)]),
 o1 17 (.addo (.t 4) 0),
 o1 18 (.addo (.t 17) 0),
 o1 19 (.ld (.t 18) 1 false),
 o1 20 (.len (.t 19)),
 o1 21 (.callm 140 [.t 16,.t 20]),
 o1 9 (.alloc [.slice none 0 0] 35),
 ⟨none,.st (.t 9) (.t 21) 1,none,[]⟩]
 (sr1 [
 o1 22 (.ld (.t 9) 1 false),
 m1 23 1,
 m1 24 2,
 o1 25 (.ixs (.t 22) (.t 23) 1),
 ⟨none,.st (.t 25) (.t 24) 1,none,[]⟩]
 (sr1 [
 o1 26 (.raw (Go.Op.makeMap 189 Option.none) 189),
 m1 10 26]
 (.seq (sr1 [
 o1 27 (.ld (.t 9) 1 false),
 o1 28 (.len (.t 27)),
 o1 29 (.mv (.c (.int .i64 0)))]
 (.block 0 (.loop (sr1 [
  o1 30 (.bin .lss (.t 29) (.t 28))]
  (.seq (.cond (.t 30)
  .skip
  (.exit 0))
  (.seq (.block 1 (sr1 [
   m1 31 29,
   m1 11 31]
   (.reg [
   m1 32 10,
   m1 33 11,
   ⟨none,.raw (Go.Op.mapUpdate 189 (Go.Operand.tmp 32) (Go.Operand.tmp 33) (Go.Operand.const (Go.Value.bool Bool.true))) 0,none,[]⟩])))
  (.reg [
  o1 34 (.bin .add (.t 29) (.c (.int .i64 1))),
  m1 29 34])))))))
 (.seq (.block 2 (.loop (.seq (sr1 [
  m1 35 10,
  o1 36 (.raw (Go.Op.call { callee:=(Go.Callee.builtin Go.Builtin.len),args:=#[(Go.Operand.tmp 35)],argTypes:=#[189] }) 3),
  o1 37 (.bin .gtr (.t 36) (.c (.int .i64 0)))]
  (.cond (.t 37)
  .skip
  (.exit 2)))
  (.block 3 (sr1 [
   o1 12 (.alloc [.int .i64 0] 3),
   ⟨none,.st (.t 12) (.c (.int .i64 (-1))) 1,none,[]⟩]
   (.seq (sr1 [
   m1 38 10,
   o1 39 (.raw (Go.Op.range 189 (Go.Operand.tmp 38)) 0)]
   (.block 4 (.loop (sr1 [
    o1 40 (.raw (Go.Op.next (Go.Operand.tmp 39) Bool.false) 0),
    o1 41 (.ext (.t 40) 0)]
    (.seq (.cond (.t 41)
    .skip
    (.exit 4))
    (.block 5 (sr1 [
     o1 42 (.raw (Go.Op.entry (Go.Operand.tmp 39)) 0),
     o1 43 (.ext (.t 42) 0),
     m1 13 43]
     (.seq (.regd [0,1,2,3,4,5,6,7,8,9,10,11,12,13,14,15,16,17,18,19,20,21,22,23,24,25,26,27,28] [
     .op (o1 44 (.ld (.t 12) 1 false)),
     .op ⟨some 45,.bin .lss (.t 44) (.c (.int .i64 0)),none,[0]⟩,
     .op ⟨some 46,.mv (.t 45),none,[1]⟩,
     .op ⟨some 47,.ld (.t 9) 1 false,some (46,false),[2]⟩,
     .op ⟨some 48,.mv (.t 13),some (46,false),[2]⟩,
     .op ⟨some 49,.ixs (.t 47) (.t 48) 1,some (46,false),[2,3,4]⟩,
     .op ⟨some 50,.ld (.t 49) 1 false,some (46,false),[2,5]⟩,
     .op ⟨some 51,.ld (.t 9) 1 false,some (46,false),[2]⟩,
     .op ⟨some 52,.ld (.t 12) 1 false,some (46,false),[2]⟩,
     .op ⟨some 53,.ixs (.t 51) (.t 52) 1,some (46,false),[2,7,8]⟩,
     .op ⟨some 54,.ld (.t 53) 1 false,some (46,false),[2,9]⟩,
     .op ⟨some 55,.bin .lss (.t 50) (.t 54),some (46,false),[2,6,10]⟩,
     .op ⟨some 56,.pick (.t 46) (.c (.bool true)) (.t 55),none,[2,11]⟩,
     .op ⟨some 57,.mv (.t 56),none,[2,12]⟩,
     .op ⟨some 58,.ld (.t 9) 1 false,some (57,false),[13]⟩,
     .op ⟨some 59,.mv (.t 13),some (57,false),[13]⟩,
     .op ⟨some 60,.ixs (.t 58) (.t 59) 1,some (57,false),[13,14,15]⟩,
     .op ⟨some 61,.ld (.t 60) 1 false,some (57,false),[13,16]⟩,
     .op ⟨some 62,.ld (.t 9) 1 false,some (57,false),[13]⟩,
     .op ⟨some 63,.ld (.t 12) 1 false,some (57,false),[13]⟩,
     .op ⟨some 64,.ixs (.t 62) (.t 63) 1,some (57,false),[13,18,19]⟩,
     .op ⟨some 65,.ld (.t 64) 1 false,some (57,false),[13,20]⟩,
     .op ⟨some 66,.bin .eql (.t 61) (.t 65),some (57,false),[13,17,21]⟩,
     .op ⟨some 67,.mv (.t 66),some (57,false),[13,22]⟩,
     .op ⟨some 68,.mv (.t 13),some (67,true),[23]⟩,
     .op ⟨some 69,.ld (.t 12) 1 false,some (67,true),[23]⟩,
     .op ⟨some 70,.bin .lss (.t 68) (.t 69),some (67,true),[23,24,25]⟩,
     .op ⟨some 71,.pick (.t 67) (.t 70) (.c (.bool false)),some (57,false),[13,23,26]⟩,
     .op ⟨some 72,.pick (.t 57) (.c (.bool true)) (.t 71),none,[13,27]⟩] 0 0 [
])
 (.cond (.t 72)
 (.reg [
  m1 73 13,
  ⟨none,.st (.t 12) (.t 73) 1,none,[]⟩])
 .skip)))))))))
 (sr1 [
 m1 74 10,
 o1 75 (.ld (.t 12) 1 false),
 ⟨none,.raw (Go.Op.call { callee:=(Go.Callee.builtin Go.Builtin.delete),args:=#[(Go.Operand.tmp 74),(Go.Operand.tmp 75)],argTypes:=#[189,3] }) 0,none,[]⟩]
 (sr1 [
 o1 76 (.ld (.t 4) 4 true),
 o1 77 (.ld (.t 12) 1 false),
 o1 78 (.callm 111 [.t 76,.t 77])]
 (.block 6 (.gh (.rfun (.t 78) [79,80] (sr1 [
  m1 14 79]
  (.reg [
  m1 15 80]))
  (.block 7 (.regd [0,1,2,3,4,5,6,7,8,9,10,11,12,13,14,15,16,17,18,19,20,21,22] [
   .op (o1 81 (.ld (.t 9) 1 false)),
   .op (m1 82 15),
   .op (o1 83 (.ld (.t 9) 1 false)),
   .op (m1 84 15),
   .op ⟨some 85,.ixs (.t 83) (.t 84) 1,none,[2,3]⟩,
   .op ⟨some 86,.ld (.t 85) 1 false,none,[4]⟩,
   .op (o1 87 (.ld (.t 4) 4 true)),
   .op (m1 88 14),
   .op (o1 89 (.ld (.t 9) 1 false)),
   .op (o1 90 (.ld (.t 12) 1 false)),
   .op ⟨some 91,.ixs (.t 89) (.t 90) 1,none,[8,9]⟩,
   .op ⟨some 92,.ld (.t 91) 1 false,none,[10]⟩,
   .op (o1 93 (.ld (.t 9) 1 false)),
   .op (o1 94 (.ld (.t 12) 1 false)),
   .op ⟨some 95,.ixs (.t 93) (.t 94) 1,none,[12,13]⟩,
   .op ⟨some 96,.ld (.t 95) 1 false,none,[14]⟩,
   .op ⟨some 97,.build [.int .i64 0,.int .i64 0] [(0,1,.t 92),(1,1,.t 96)],none,[11,15]⟩,
   .op ⟨some 98,.call 79 [.t 87,.t 88,.t 97],none,[6,7,16]⟩,
   .op (o1 99 (.ld (.t 7) 1 false)),
   .op ⟨some 100,.idx (.t 98) (.t 99) 2 1 false,none,[17,18]⟩,
   .op ⟨some 101,.mm false [.t 86,.t 100],none,[5,19]⟩,
   .op ⟨some 102,.ixs (.t 81) (.t 82) 1,none,[0,1,2,3,4,5,6,7,8,9,10,11,12,13,14,15,16,17,18,19,20]⟩] 0 1 [
   ⟨none,.st (.t 102) (.t 101) 1,none,[0,1,2,3,4,5,6,7,8,9,10,11,12,13,14,15,16,17,18,19,20,21]⟩])))))))))))))
 (sr1 [
 o1 103 (.ld (.t 9) 1 false),
 m1 8 103]
 .ret)))))))
def r97:List RV:=[.tmp 8]
theorem t97:Qt1 Tryz.prog 97 c97 r97 104:=Z8 Tryz.func97 rfl (by kernel_rfl) (by kernel_rfl) (by kernel_rfl) (by kernel_rfl)
def c52:SC:=(sr1 [
 o1 4 (.box (.t 0) 0 25),
 o1 7 (.box (.t 3) 0 27),
 o1 8 (.mv (.c (.slice none 0 0))),
 o1 9 (.mv (.c (.int .i64 0)))]
 (sr1 [
 o1 17 (.ld (.t 4) 2 true),
 o1 18 (.ld (.t 7) 2 true),
 o1 19 (.call 75 [.t 17,.t 18]),
 m1 16 19,
 o1 20 (.ext (.t 16) 0),
 o1 21 (.ext (.t 16) 1),
 o1 10 (.alloc [.slice none 0 0,.slice none 0 0,.int .i64 0,.int .i64 0] 160),
 ⟨none,.st (.t 10) (.t 20) 4,none,[]⟩,
 m1 11 21]
 (.seq (.block 0 (sr1 [
  m1 23 11,
  o1 24 (.bin .neq (.t 23) (.c (.int .i64 0))),
  m1 22 24]
  (.cond (.t 22)
  (sr1 [
   m1 25 11,
   o1 8 (.mv (.c (.slice none 0 0))),
   m1 9 25]
   .ret)
  (sr1 [
   o1 27 (.addo (.t 4) 0),
   o1 28 (.ld (.t 27) 1 false),
   o1 29 (.len (.t 28)),
   o1 30 (.bin .sub (.t 29) (.c (.int .i64 1))),
   m1 31 1,
   o1 32 (.bsl 1 3 [.t 31]),
   o1 33 (.call 76 [.c (.int .i64 0),.t 30,.t 32]),
   o1 34 (.un .not (.t 33)),
   m1 35 34,
   ⟨some 36,.mv (.t 2),some (35,false),[]⟩,
   ⟨some 37,.bsl 1 3 [.t 36],some (35,false),[]⟩,
   ⟨some 38,.call 76 [.c (.int .i64 0),.c (.int .i64 100000),.t 37],some (35,false),[]⟩,
   ⟨some 39,.un .not (.t 38),some (35,false),[]⟩,
   o1 40 (.pick (.t 35) (.c (.bool true)) (.t 39)),
   m1 26 40]
   (.cond (.t 26)
   (sr1 [
    o1 8 (.mv (.c (.slice none 0 0))),
    o1 9 (.mv (.c (.int .i64 2)))]
    .ret)
   .skip)))))
 (sr1 [
 o1 12 (.mv (.c (.slice none 0 0)))]
 (sr1 [
 o1 41 (.ld (.t 10) 4 true),
 m1 42 1,
 m1 43 2,
 o1 44 (.call 97 [.t 41,.t 42,.t 43,.c (.int .i64 1)]),
 m1 13 44]
 (.seq (sr1 [
 o1 45 (.ld (.t 10) 4 true),
 m1 46 1,
 m1 47 2,
 o1 48 (.call 97 [.t 45,.t 46,.t 47,.c (.int .i64 0)]),
 o1 49 (.len (.t 48)),
 o1 50 (.mv (.c (.int .i64 0)))]
 (.block 1 (.loop (sr1 [
  o1 51 (.bin .lss (.t 50) (.t 49))]
  (.seq (.cond (.t 51)
  .skip
  (.exit 1))
  (.seq (.block 2 (sr1 [
   m1 52 50,
   o1 53 (.ixs (.t 48) (.t 50) 1),
   o1 54 (.ld (.t 53) 1 false),
   m1 14 52,
   m1 15 54]
   (.reg [
   m1 55 12,
   m1 56 15,
   m1 57 13,
   m1 58 14,
   o1 59 (.ixs (.t 57) (.t 58) 1),
   o1 60 (.ld (.t 59) 1 false),
   o1 61 (.build [.int .i64 0,.int .i64 0] [(0,1,.t 56),(1,1,.t 60)]),
   o1 62 (.bsl 2 27 [.t 61]),
   o1 63 (.appm 2 16 27 (.t 55) (.t 62)),
   m1 12 63])))
  (.reg [
  o1 64 (.bin .add (.t 50) (.c (.int .i64 1))),
  m1 50 64])))))))
 (sr1 [
 m1 65 12,
 m1 8 65,
 o1 9 (.mv (.c (.int .i64 0)))]
 .ret)))))))
def r52:List RV:=[.tmp 8,.tmp 9]
theorem t52:Qt1 Tryz.prog 52 c52 r52 66:=Z8 Tryz.func52 rfl (by kernel_rfl) (by kernel_rfl) (by kernel_rfl) (by kernel_rfl)
def c36:SC:=(sr1 [
 o1 5 (.box (.t 0) 0 25),
 o1 8 (.box (.t 3) 0 27),
 o1 10 (.mv (.c (.slice none 0 0))),
 o1 11 (.mv (.c (.int .i64 0))),
 o1 12 (.mv (.c (.int .i64 0)))]
 (sr1 [
 o1 23 (.ld (.t 5) 2 true),
 o1 24 (.ld (.t 8) 2 true),
 o1 25 (.call 75 [.t 23,.t 24]),
 m1 22 25,
 o1 26 (.ext (.t 22) 0),
 o1 27 (.ext (.t 22) 1),
 o1 13 (.alloc [.slice none 0 0,.slice none 0 0,.int .i64 0,.int .i64 0] 160),
 ⟨none,.st (.t 13) (.t 26) 4,none,[]⟩,
 m1 12 27]
 (.seq (.block 0 (sr1 [
  m1 29 12,
  o1 30 (.bin .neq (.t 29) (.c (.int .i64 0))),
  m1 28 30]
  (.cond (.t 28)
  (sr1 [
   m1 31 12,
   o1 10 (.mv (.c (.slice none 0 0))),
   o1 11 (.mv (.c (.int .i64 0))),
   m1 12 31]
   .ret)
  (sr1 [
   o1 33 (.addo (.t 5) 0),
   o1 34 (.ld (.t 33) 1 false),
   o1 35 (.len (.t 34)),
   o1 36 (.bin .sub (.t 35) (.c (.int .i64 1))),
   m1 37 1,
   o1 38 (.bsl 1 3 [.t 37]),
   o1 39 (.call 76 [.c (.int .i64 0),.t 36,.t 38]),
   o1 40 (.un .not (.t 39)),
   m1 41 40,
   ⟨some 42,.mv (.t 2),some (41,false),[]⟩,
   ⟨some 43,.bsl 1 3 [.t 42],some (41,false),[]⟩,
   ⟨some 44,.call 76 [.c (.int .i64 0),.c (.int .i64 100000),.t 43],some (41,false),[]⟩,
   ⟨some 45,.un .not (.t 44),some (41,false),[]⟩,
   o1 46 (.pick (.t 41) (.c (.bool true)) (.t 45)),
   m1 32 46]
   (.cond (.t 32)
   (sr1 [
    o1 10 (.mv (.c (.slice none 0 0))),
    o1 11 (.mv (.c (.int .i64 0))),
    o1 12 (.mv (.c (.int .i64 2)))]
    .ret)
   (sr1 [
    m1 48 4,
    o1 49 (.len (.t 48)),
    o1 50 (.bin .gtr (.t 49) (.c (.int .i64 24))),
    m1 47 50]
    (.cond (.t 47)
    (sr1 [
     o1 10 (.mv (.c (.slice none 0 0))),
     o1 11 (.mv (.c (.int .i64 0))),
     o1 12 (.mv (.c (.int .i64 4)))]
     .ret)
    .skip)))))))
 (sr1 [
 o1 14 (.mv (.c (.slice none 0 0)))]
 (sr1 [
 m1 51 1,
 m1 15 51]
 (.seq (sr1 [
 m1 52 4,
 o1 53 (.len (.t 52)),
 o1 54 (.mv (.c (.int .i64 0)))]
 (.block 1 (.loop (sr1 [
  o1 55 (.bin .lss (.t 54) (.t 53))]
  (.seq (.cond (.t 55)
  .skip
  (.exit 1))
  (.seq (.block 2 (sr1 [
   m1 56 54,
   o1 57 (.ixs (.t 52) (.t 54) 1),
   o1 58 (.ld (.t 57) 1 false),
   m1 16 56,
   m1 17 58]
   (.seq (sr1 [
   o1 59 (.ld (.t 13) 4 true),
   m1 60 17,
   m1 61 15,
   o1 62 (.call 77 [.t 59,.t 60,.t 61]),
   m1 15 62]
   (sr1 [
   m1 63 15,
   o1 64 (.bin .lss (.t 63) (.c (.int .i64 0)))]
   (.cond (.t 64)
   (sr1 [
    m1 65 16,
    o1 10 (.mv (.c (.slice none 0 0))),
    m1 11 65,
    o1 12 (.mv (.c (.int .i64 8)))]
    .ret)
   .skip)))
   (.reg [
   m1 66 14,
   m1 67 15,
   o1 68 (.bsl 1 3 [.t 67]),
   o1 69 (.appm 1 8 3 (.t 66) (.t 68)),
   m1 14 69]))))
  (.reg [
  o1 70 (.bin .add (.t 54) (.c (.int .i64 1))),
  m1 54 70])))))))
 (sr1 [
 m1 71 2,
 m1 72 2,
 o1 73 (.build [.int .i64 0,.int .i64 0] [(0,1,.t 71),(1,1,.t 72)]),
 o1 18 (.alloc [.int .i64 0,.int .i64 0] 165),
 ⟨none,.st (.t 18) (.t 73) 2,none,[]⟩]
 (.seq (sr1 [
 m1 74 4,
 o1 75 (.len (.t 74)),
 o1 76 (.mv (.c (.int .i64 0)))]
 (.block 3 (.loop (sr1 [
  o1 77 (.bin .lss (.t 76) (.t 75))]
  (.seq (.cond (.t 77)
  .skip
  (.exit 3))
  (.seq (.block 4 (sr1 [
   m1 78 76,
   o1 79 (.ixs (.t 74) (.t 76) 1),
   o1 80 (.ld (.t 79) 1 false),
   m1 19 78,
   m1 20 80]
   (sr1 [
   o1 81 (.ld (.t 13) 4 true),
   m1 82 20,
   o1 83 (.ld (.t 18) 2 true),
   o1 84 (.call 78 [.t 81,.t 82,.t 83]),
   o1 21 (.alloc [.int .i64 0,.int .i64 0] 165),
   ⟨none,.st (.t 21) (.t 84) 2,none,[]⟩]
   (.seq (sr1 [
   o1 85 (.ld (.t 13) 4 true),
   m1 86 20,
   o1 87 (.ld (.t 18) 2 true),
   o1 88 (.call 79 [.t 85,.t 86,.t 87]),
   ⟨none,.st (.t 18) (.t 88) 2,none,[]⟩]
   (sr1 [
   o1 89 (.ixa (.t 18) (.c (.int .i64 1)) 2 1),
   o1 90 (.ld (.t 89) 1 false),
   o1 91 (.bin .gtr (.t 90) (.c (.int .i64 100000)))]
   (.cond (.t 91)
   (sr1 [
    m1 92 19,
    o1 10 (.mv (.c (.slice none 0 0))),
    m1 11 92,
    o1 12 (.mv (.c (.int .i64 34)))]
    .ret)
   .skip)))
   (.regs [0,1,2,3,4,5,6,7,8,9,10,11,12,13] ⟨[
   .op (m1 93 10),
   .op (m1 94 20),
   .op (m1 95 14),
   .op (m1 96 19),
   .op ⟨some 97,.ixs (.t 95) (.t 96) 1,none,[2,3]⟩,
   .op ⟨some 98,.ld (.t 97) 1 false,none,[4]⟩,
   .op (o1 99 (.ld (.t 21) 2 true)),
   .op ⟨some 100,.call 80 [.t 99],none,[6]⟩,
   .op (o1 101 (.ld (.t 18) 2 true)),
   .op ⟨some 102,.call 80 [.t 101],none,[7,8]⟩,
   .op ⟨some 103,.build zv8 [(0,1,.t 94),(1,1,.t 98),(2,2,.t 100),(4,2,.t 102)],none,[1,5,7,9]⟩,
   .op ⟨some 104,.bsl 6 94 [.t 103],none,[10]⟩],0,1,[
   ⟨some 105,.appm 6 48 94 (.t 93) (.t 104),none,[0,9,11]⟩]⟩ [⟨[
],0,1,[
 ⟨some 10,.mv (.t 105),none,[0,1,2,3,4,5,6,7,8,9,10,11,12]⟩]⟩])))))
 (.reg [
 o1 106 (.bin .add (.t 76) (.c (.int .i64 1))),
 m1 76 106])))))))
 (sr1 [
 m1 107 10,
 m1 10 107,
 o1 11 (.mv (.c (.int .i64 0))),
 o1 12 (.mv (.c (.int .i64 0)))]
 .ret)))))))))
def r36:List RV:=[.tmp 10,.tmp 11,.tmp 12]
theorem t36:Qt1 Tryz.prog 36 c36 r36 108:=Z8 Tryz.func36 rfl (by kernel_rfl) (by kernel_rfl) (by kernel_rfl) (by kernel_rfl)
def c112:SC:=(sr1 [
 o1 4 (.mv (.c (.slice none 0 0)))]
 (sr1 [
 m1 5 0,
 o1 6 (.call 110 [.t 5]),
 o1 7 (.call 154 [.t 6]),
 m1 8 1,
 o1 9 (.bsl 1 3 [.t 8]),
 o1 10 (.app 1 8 3 (.t 7) (.t 9)),
 m1 4 10]
 .ret))
def r112:List RV:=[.tmp 4]
theorem t112:Qt1 Tryz.prog 112 c112 r112 11:=Z8 Tryz.func112 rfl (by kernel_rfl) (by kernel_rfl) (by kernel_rfl) (by kernel_rfl)
def c110:SC:=(sr1 [
 o1 2 (.mv (.c (.slice none 0 0)))]
 (.seq (sr1 [
 m1 3 0,
 o1 4 (.isn (.t 3))]
 (.cond (.t 4)
 (sr1 [
  o1 2 (.mv (.c (.slice none 0 0)))]
  .ret)
 .skip))
 (sr1 [
 o1 5 (.bsl 1 3 []),
 m1 6 0,
 o1 7 (.app 1 8 3 (.t 5) (.t 6)),
 m1 2 7]
 .ret)))
def r110:List RV:=[.tmp 2]
theorem n110:Tryz.f110.ntmps=8:=by kernel_rfl
theorem b110:YP Tryz.prog 110=true:=by kernel_rfl
theorem ZuG:XK Tryz.prog c110 ((Tryz.f110.body).getD .skip)=true:=by kernel_rfl
theorem ZvW:Wx Tryz.prog r110 Tryz.f110.results.toList=true:=by kernel_rfl
def c154:SC:=(sr1 [
 o1 2 (.mv (.c (.slice none 0 0)))]
 (sr1 [
 m1 3 0,
 m1 4 0,
 o1 5 (.len (.t 4)),
 m1 6 0,
 o1 7 (.len (.t 6)),
 o1 8 (.slc (.t 3) (.t 5) (.t 7)),
 m1 2 8]
 .ret))
def r154:List RV:=[.tmp 2]
theorem t154:Qt1 Tryz.prog 154 c154 r154 9:=Z8 Tryz.func154 rfl (by kernel_rfl) (by kernel_rfl) (by kernel_rfl) (by kernel_rfl)
def c114:SC:=(sr1 [
 o1 4 (.mv (.c (.int .i64 0)))]
 (.seq (sr1 [
 m1 9 0,
 o1 10 (.len (.t 9)),
 o1 11 (.mv (.c (.int .i64 0)))]
 (.block 0 (.loop (sr1 [
  o1 12 (.bin .lss (.t 11) (.t 10))]
  (.seq (.cond (.t 12)
  .skip
  (.exit 0))
  (.seq (.block 1 (sr1 [
   m1 13 11,
   o1 14 (.ixs (.t 9) (.t 11) 1),
   o1 15 (.ld (.t 14) 1 false),
   m1 5 13,
   m1 6 15]
   (.seq (sr1 [
   m1 16 5,
   m1 17 1,
   o1 18 (.len (.t 17)),
   o1 19 (.bin .geq (.t 16) (.t 18))]
   (.cond (.t 19)
   (sr1 [
    o1 4 (.mv (.c (.int .i64 1)))]
    .ret)
   .skip))
   (sr1 [
   m1 20 1,
   m1 21 5,
   o1 22 (.ixs (.t 20) (.t 21) 1),
   o1 23 (.ld (.t 22) 1 false),
   m1 7 23]
   (sr1 [
   m1 24 6,
   m1 25 7,
   o1 26 (.call 157 [.t 24,.t 25]),
   m1 8 26]
   (sr1 [
   m1 27 8,
   o1 28 (.bin .neq (.t 27) (.c (.int .i64 0)))]
   (.cond (.t 28)
   (sr1 [
    m1 29 8,
    m1 4 29]
    .ret)
   .skip)))))))
  (.reg [
  o1 30 (.bin .add (.t 11) (.c (.int .i64 1))),
  m1 11 30])))))))
 (.seq (sr1 [
 m1 31 0,
 o1 32 (.len (.t 31)),
 m1 33 1,
 o1 34 (.len (.t 33)),
 o1 35 (.bin .lss (.t 32) (.t 34))]
 (.cond (.t 35)
 (sr1 [
  o1 4 (.mv (.c (.int .i64 (-1))))]
  .ret)
 .skip))
 (sr1 [
 o1 4 (.mv (.c (.int .i64 0)))]
 .ret))))
def r114:List RV:=[.tmp 4]
theorem t114:Qt1 Tryz.prog 114 c114 r114 36:=Z8 Tryz.func114 rfl (by kernel_rfl) (by kernel_rfl) (by kernel_rfl) (by kernel_rfl)
def c157:SC:=(sr1 [
 o1 4 (.mv (.c (.int .i64 0)))]
 (sr1 [
 m1 7 0,
 o1 8 (.call 171 [.t 7]),
 m1 5 8]
 (sr1 [
 m1 9 1,
 o1 10 (.call 171 [.t 9]),
 m1 6 10]
 (.seq (sr1 [
 m1 11 5]
 (.cond (.t 11)
 (.seq (sr1 [
  m1 12 6]
  (.cond (.t 12)
  (sr1 [
   o1 4 (.mv (.c (.int .i64 0)))]
   .ret)
  .skip))
  (sr1 [
  o1 4 (.mv (.c (.int .i64 (-1))))]
  .ret))
 .skip))
 (.seq (sr1 [
 m1 13 6]
 (.cond (.t 13)
 (sr1 [
  o1 4 (.mv (.c (.int .i64 1)))]
  .ret)
 .skip))
 (.seq (sr1 [
 m1 14 0,
 m1 15 1,
 o1 16 (.bin .lss (.t 14) (.t 15))]
 (.cond (.t 16)
 (sr1 [
  o1 4 (.mv (.c (.int .i64 (-1))))]
  .ret)
 .skip))
 (.seq (sr1 [
 m1 17 0,
 m1 18 1,
 o1 19 (.bin .gtr (.t 17) (.t 18))]
 (.cond (.t 19)
 (sr1 [
  o1 4 (.mv (.c (.int .i64 1)))]
  .ret)
 .skip))
 (sr1 [
 o1 4 (.mv (.c (.int .i64 0)))]
 .ret))))))))
def r157:List RV:=[.tmp 4]
theorem t157:Qt1 Tryz.prog 157 c157 r157 20:=Z8 Tryz.func157 rfl (by kernel_rfl) (by kernel_rfl) (by kernel_rfl) (by kernel_rfl)
def c171:SC:=(sr1 [
 o1 2 (.mv (.c (.bool false)))]
 (sr1 [
 m1 3 0,
 m1 4 0,
 o1 5 (.bin .neq (.t 3) (.t 4)),
 m1 2 5]
 .ret))
def r171:List RV:=[.tmp 2]
theorem t171:Qt1 Tryz.prog 171 c171 r171 6:=Z8 Tryz.func171 rfl (by kernel_rfl) (by kernel_rfl) (by kernel_rfl) (by kernel_rfl)
def c140:SC:=(sr1 [
 o1 4 (.mv (.c (.slice none 0 0)))]
 (.seq (sr1 [
 m1 9 1,
 o1 10 (.bin .lss (.t 9) (.c (.int .i64 0)))]
 (.cond (.t 10)
 (.reg [
  o1 11 (.raw (Go.Op.makeInterface 9 (Go.Operand.const (Go.Value.string { data:=#[99,97,110,110,111,116,32,98,101,32,110,101,103,97,116,105,118,101] }))) 20),
  ⟨none,.raw (Go.Op.panic (Go.Operand.tmp 11)) 0,none,[]⟩])
 .skip))
 (sr1 [
 m1 13 0,
 o1 14 (.len (.t 13)),
 o1 15 (.conv .u64 (.t 14)),
 m1 16 1,
 o1 17 (.conv .u64 (.t 16)),
 o1 18 (.call 167 [.t 15,.t 17]),
 m1 12 18,
 o1 19 (.ext (.t 12) 0),
 o1 20 (.ext (.t 12) 1),
 m1 5 19,
 m1 6 20]
 (.seq (sr1 [
 m1 21 5,
 o1 22 (.bin .gtr (.t 21) (.c (.int .u64 0))),
 m1 23 22,
 ⟨some 24,.mv (.t 6),some (23,false),[]⟩,
 ⟨some 25,.bin .gtr (.t 24) (.c (.int .u64 9223372036854775807)),some (23,false),[]⟩,
 o1 26 (.pick (.t 23) (.c (.bool true)) (.t 25))]
 (.cond (.t 26)
 (.reg [
  o1 27 (.raw (Go.Op.makeInterface 9 (Go.Operand.const (Go.Value.string { data:=#[116,104,101,32,114,101,115,117,108,116,32,111,102,32,40,108,101,110,40,120,41,32,42,32,99,111,117,110,116,41,32,111,118,101,114,102,108,111,119,115] }))) 20),
  ⟨none,.raw (Go.Op.panic (Go.Operand.tmp 27)) 0,none,[]⟩])
 .skip))
 (sr1 [
 m1 28 6,
 o1 29 (.conv .i64 (.t 28)),
 o1 30 (.mks 1 8 [.int .i64 0] 3 (.t 29)),
 m1 7 30]
 (sr1 [
 m1 31 7,
 m1 32 0,
 o1 33 (.cpy 1 (.t 31) (.t 32)),
 m1 8 33]
 (.seq (.block 0 (.loop (.seq (sr1 [
  m1 34 8,
  m1 35 7,
  o1 36 (.len (.t 35)),
  o1 37 (.bin .lss (.t 34) (.t 36))]
  (.cond (.t 37)
  .skip
  (.exit 0)))
  (.block 1 (.regd [1,2,3,4,5,6,0,7,8,9] [
   .op (m1 39 7),
   .op (m1 40 8),
   .op ⟨some 41,.sub 1 (.t 39) (some (.t 40)) none,none,[1,2]⟩,
   .op (m1 42 7),
   .op (m1 43 8),
   .op ⟨some 44,.sub 1 (.t 42) none (some (.t 43)),none,[4,5]⟩,
   .hide (.t 41),
   .op (m1 38 8)] 0 1 [
   ⟨some 45,.cpy 1 (.t 41) (.t 44),none,[3,6]⟩,
   ⟨some 46,.bin .add (.t 38) (.t 45),none,[0,7]⟩,
   ⟨some 8,.mv (.t 46),none,[0,1,2,3,4,5,6,7,8]⟩])))))
 (sr1 [
 m1 47 7,
 m1 4 47]
 .ret))))))))
def r140:List RV:=[.tmp 4]
theorem n140:Tryz.f140.ntmps=48:=by kernel_rfl
theorem b140:YP Tryz.prog 140=true:=by kernel_rfl
theorem Zxx:XK Tryz.prog c140 ((Tryz.f140.body).getD .skip)=true:=by kernel_rfl
theorem Zw3:Wx Tryz.prog r140 Tryz.f140.results.toList=true:=by kernel_rfl
theorem m140 {n0:Nat} {hp0:List (Nat × HB)} {args:List SV} {Yi:Ot->Prop} (hh:hpb n0 hp0) (hx:∀ o,Yi o->KX o.res/\KXP o.hp) (h:sx Tryz.prog Y0 n0 c140 ⟨Wu 0 args,hp0,n0,48,[]⟩ (ZcF r140 fun o=>∃ o',Yi o'/\ZeW n0 o o')) (hA:Nat.ble args.length 48=true:=by rfl):CtM Tryz.prog 140 hp0 n0 args Yi:=XA Tryz.func140 rfl b140 Zxx Zw3 n140 (Nat.le_of_ble_eq_true hA) hh hx h
def c167:SC:=(sr1 [
 o1 4 (.mv (.c (.int .u64 0))),
 o1 5 (.mv (.c (.int .u64 0)))]
 (.seq (.cond (.c (.bool false))
 (sr1 [
  m1 11 0,
  o1 12 (.conv .u32 (.t 11)),
  m1 13 1,
  o1 14 (.conv .u32 (.t 13)),
  o1 15 (.call 173 [.t 12,.t 14]),
  m1 10 15,
  o1 16 (.ext (.t 10) 0),
  o1 17 (.ext (.t 10) 1),
  m1 6 16,
  m1 7 17]
  (sr1 [
  m1 18 6,
  o1 19 (.conv .u64 (.t 18)),
  m1 20 7,
  o1 21 (.conv .u64 (.t 20)),
  m1 4 19,
  m1 5 21]
  .ret))
 .skip)
 (sr1 [
 m1 23 0,
 m1 24 1,
 o1 25 (.call 174 [.t 23,.t 24]),
 m1 22 25,
 o1 26 (.ext (.t 22) 0),
 o1 27 (.ext (.t 22) 1),
 m1 8 26,
 m1 9 27]
 (sr1 [
 m1 28 8,
 m1 29 9,
 m1 4 28,
 m1 5 29]
 .ret))))
def r167:List RV:=[.tmp 4,.tmp 5]
theorem t167:Qt1 Tryz.prog 167 c167 r167 30:=Z8 Tryz.func167 rfl (by kernel_rfl) (by kernel_rfl) (by kernel_rfl) (by kernel_rfl)
def c174:SC:=(sr1 [
 o1 4 (.mv (.c (.int .u64 0))),
 o1 5 (.mv (.c (.int .u64 0)))]
 (sr1 [
 m1 14 0,
 o1 15 (.raw (Go.Op.binOp Go.BinOp.and 257 (Go.Operand.tmp 14) (Go.Operand.const (Go.Value.int Go.IntKind.u64 4294967295)) 257) 257),
 m1 6 15]
 (sr1 [
 m1 16 0,
 o1 17 (.raw (Go.Op.binOp Go.BinOp.shr 257 (Go.Operand.tmp 16) (Go.Operand.const (Go.Value.int Go.IntKind.u64 32)) 247) 257),
 m1 7 17]
 (sr1 [
 m1 18 1,
 o1 19 (.raw (Go.Op.binOp Go.BinOp.and 257 (Go.Operand.tmp 18) (Go.Operand.const (Go.Value.int Go.IntKind.u64 4294967295)) 257) 257),
 m1 8 19]
 (sr1 [
 m1 20 1,
 o1 21 (.raw (Go.Op.binOp Go.BinOp.shr 257 (Go.Operand.tmp 20) (Go.Operand.const (Go.Value.int Go.IntKind.u64 32)) 247) 257),
 m1 9 21]
 (sr1 [
 m1 22 6,
 m1 23 8,
 o1 24 (.bin .mul (.t 22) (.t 23)),
 m1 10 24]
 (sr1 [
 m1 25 7,
 m1 26 8,
 o1 27 (.bin .mul (.t 25) (.t 26)),
 m1 28 10,
 o1 29 (.raw (Go.Op.binOp Go.BinOp.shr 257 (Go.Operand.tmp 28) (Go.Operand.const (Go.Value.int Go.IntKind.u64 32)) 247) 257),
 o1 30 (.bin .add (.t 27) (.t 29)),
 m1 11 30]
 (sr1 [
 m1 31 11,
 o1 32 (.raw (Go.Op.binOp Go.BinOp.and 257 (Go.Operand.tmp 31) (Go.Operand.const (Go.Value.int Go.IntKind.u64 4294967295)) 257) 257),
 m1 12 32]
 (sr1 [
 m1 33 11,
 o1 34 (.raw (Go.Op.binOp Go.BinOp.shr 257 (Go.Operand.tmp 33) (Go.Operand.const (Go.Value.int Go.IntKind.u64 32)) 247) 257),
 m1 13 34]
 (sr1 [
 m1 35 12,
 m1 36 6,
 m1 37 9,
 o1 38 (.bin .mul (.t 36) (.t 37)),
 o1 39 (.bin .add (.t 35) (.t 38)),
 m1 12 39]
 (sr1 [
 m1 40 7,
 m1 41 9,
 o1 42 (.bin .mul (.t 40) (.t 41)),
 m1 43 13,
 o1 44 (.bin .add (.t 42) (.t 43)),
 m1 45 12,
 o1 46 (.raw (Go.Op.binOp Go.BinOp.shr 257 (Go.Operand.tmp 45) (Go.Operand.const (Go.Value.int Go.IntKind.u64 32)) 247) 257),
 o1 47 (.bin .add (.t 44) (.t 46)),
 m1 4 47]
 (sr1 [
 m1 48 0,
 m1 49 1,
 o1 50 (.bin .mul (.t 48) (.t 49)),
 m1 5 50]
 .ret))))))))))))
def r174:List RV:=[.tmp 4,.tmp 5]
theorem t174:Qt1 Tryz.prog 174 c174 r174 51:=Z8 Tryz.func174 rfl (by kernel_rfl) (by kernel_rfl) (by kernel_rfl) (by kernel_rfl)
def c57:SC:=(sr1 [
 o1 4 (.mv (.c (.bool false)))]
 (.seq (sr1 [
 m1 6 0,
 o1 7 (.len (.t 6)),
 m1 8 1,
 o1 9 (.len (.t 8)),
 o1 10 (.bin .neq (.t 7) (.t 9))]
 (.cond (.t 10)
 (sr1 [
  o1 4 (.mv (.c (.bool false)))]
  .ret)
 .skip))
 (.seq (sr1 [
 o1 5 (.mv (.c (.int .i64 0)))]
 (.block 0 (.loop (.seq (sr1 [
  m1 11 5,
  m1 12 0,
  o1 13 (.len (.t 12)),
  o1 14 (.bin .lss (.t 11) (.t 13))]
  (.cond (.t 14)
  .skip
  (.exit 0)))
  (.seq (.block 1 (.seq (.regd [0,1,2,3,4,5,6,7,8] [
   .op (m1 17 0),
   .op (m1 18 5),
   .op ⟨some 19,.ixs (.t 17) (.t 18) 1,none,[0,1]⟩,
   .op ⟨some 20,.ld (.t 19) 1 false,none,[2]⟩,
   .op (m1 21 1),
   .op (m1 22 5),
   .op ⟨some 23,.ixs (.t 21) (.t 22) 1,none,[4,5]⟩,
   .op ⟨some 24,.ld (.t 23) 1 false,none,[6]⟩,
   .op ⟨some 25,.bin .neq (.t 20) (.t 24),none,[3,7]⟩] 0 0 [
])
 (.cond (.t 25)
 (sr1 [
  o1 4 (.mv (.c (.bool false)))]
  .ret)
 .skip)))
 (.reg [
 m1 15 5,
 o1 16 (.bin .add (.t 15) (.c (.int .i64 1))),
 m1 5 16]))))))
 (sr1 [
 o1 4 (.mv (.c (.bool true)))]
 .ret))))
def r57:List RV:=[.tmp 4]
theorem t57:Qt1 Tryz.prog 57 c57 r57 26:=Z8 Tryz.func57 rfl (by kernel_rfl) (by kernel_rfl) (by kernel_rfl) (by kernel_rfl)
open Go.Azalai
theorem ZvI (a b:Int) (c:Bool):Ct Tryz.prog 71 [.sl c 1 [[I a],[I b]]] (I (min a b)):=by
 refine t71.1 (by simp [KFR,KFL,KF]) (by simp [KFL,KF]) ?_
 dsimp only [c71,r71,go_sem,rA,rM,rS]
 refine Zw (by decide) ?_
 dsimp only [go_sem,rA,rM,rS]
 refine ixs 0 [I a] rfl rfl ?_
 dsimp only [go_sem,rA,rM,rS]
 refine Xp 2 ?_
 dsimp only [Zb,go_sem,rA,rM,rS]
 refine Zv (by decide) ?_
 dsimp only [Zb,go_sem,rA,rM,rS]
 refine ixs 1 [I b] rfl rfl ?_
 dsimp only [Zb,go_sem,rA,rM,rS]
 refine Zw (by decide) ?_
 dsimp only [go_sem,rA,rM,rS]
theorem Zet (a:Int):Ct Tryz.prog 122 [.sl true 1 [[I a]]] (I (min a 100001)):=by
 refine t122.1 (by simp [KFR,KFL,KF]) (by simp [KFL,KF]) ?_
 dsimp only [c122,r122,go_sem,rA,rM,rS]
 refine ZAv (by simp) ?_
 dsimp only [go_sem,rA,rM,rS]
 refine call (ZvI a 100001 false) ?_
 dsimp only [go_sem,rA,rM,rS]
theorem XZ (l:Land) (p:Span) (k:Nat) (hk:k < l.legs.length) (d0 d1:Int) (hx:GoodLeg l.legs[k]) (hp:ZX p=true) (h0:inR 0 100001 d0=true) (h1:inR 0 100001 d1=true) :
 Ct Tryz.prog 79 [.agg (ZO l p),I k,.agg [I d0,I d1]] (.agg [I (ZK false l.legs[k] p d0),I (ZK true l.legs[k] p d1)]):=by
 have hb:=day_bd hx hp
 refine t79.1 (by simp [ZO,Zg,Zm,Zh,Zd,Za,KFL,KF]) (by simp [KFL,KF]) ?_
 dsimp only [c79,r79,ZO,go_sem,rA,rM,rS]
 refine call (We l p k hk d0 d1 hx hp h0 h1) ?_
 dsimp only [ZO,go_sem,rA,rM,rS]
 refine call (Zc6 l p k hk hx hp) ?_
 dsimp only [Zd,go_sem,rA,rM,rS]
 simp only [inR,decide_eq_true_eq] at h0 h1
 have a0:=Xu (k:=false) hx hp h0.2
 have a1:=Xu (k:=true) hx hp h1.2
 simp only [leK,nK,cond_true,cond_false] at a0 a1
 refine Xp 3 ?_
 dsimp only [Zb,go_sem,rA,rM,rS]
 refine Zv (by decide) ?_
 dsimp only [Zb,go_sem,rA,rM,rS]
 repeat (refine ixa 0 rfl (by decide) ?_;dsimp only [Zb,go_sem,rA,rM,rS])
 rw [Zf (n:=ZxQ l.legs[k] p d0+(V2 l.legs[k] p).lo) (by omega) (by omega)]
 refine call (Zet _) ?_
 dsimp only [Zb,go_sem,rA,rM,rS]
 repeat (refine ixa 0 rfl (by decide) ?_;dsimp only [Zb,go_sem,rA,rM,rS])
 refine Zv (by decide) ?_
 dsimp only [Zb,go_sem,rA,rM,rS]
 repeat (refine ixa 1 rfl (by decide) ?_;dsimp only [Zb,go_sem,rA,rM,rS])
 rw [Zf (n:=Zu6 l.legs[k] p d1+(V2 l.legs[k] p).hi) (by omega) (by omega)]
 refine call (Zet _) ?_
 dsimp only [Zb,go_sem,rA,rM,rS]
 repeat (refine ixa 1 rfl (by decide) ?_;dsimp only [Zb,go_sem,rA,rM,rS])
 refine Zw (by decide) ?_
 dsimp only [go_sem,rA,rM,rS]
 simp only [ZK,leK,nK,cond_true,cond_false]
 rw [Int.min_comm,Int.min_comm 100001 (Zu6 l.legs[k] p d1+(V2 l.legs[k] p).hi)]
def Zcf (l:Land) (p:Span) (v:Int):Ot:=⟨false,.cl 153 [.p 0 0,.p 1 0],[(1,.cells [I v] 3),(0,.cells (ZO l p) 160)],2⟩
theorem Za0 (l:Land) (p:Span) (v:Int):CtM Tryz.prog 111 [] 0 [.agg (ZO l p),I v] (fun o=>o=Zcf l p v):=by
 refine m111 (by simp [hpb]) (fun o ho=>by subst ho;simp [Zcf,KX,KXL,KXP,KXH,Za,KFL,KF,ZO,Zg,Zm,Zh]) ?_
 dsimp only [c111,r111,ZO,go_sem,rA,rM,rS]
 refine ⟨_,rfl,?_⟩
 simp only [Zcf]
 (refine Z1 ?_ ?_ ?_ rfl<;>dsimp only [ZO,Zg,Zm,Zh,id,go_sem,rA,rM,rS]<;>simp [ZO,Zg,Zm,Zh,Za,Ze,KFR,KFL,KF,Zc,mtO,nbr])
end Go.Proofs.YtiigiflofnjilaaGreat
namespace Go.Azalai
def Vm (l:Land) (leg v:Int):Int:=if h:0<=leg/\leg.toNat < l.legs.length then Zk l.legs[leg.toNat] v else -1
end Go.Azalai
namespace Go.Proofs.YtiigiflofnjilaaGreat
open Go Go.Sx Go.Azalai
theorem ZzK (l:Land) (p:Span) (leg v:Int) (hl:l.legs.length<=1000):Ct Tryz.prog 77 [.agg (ZO l p),I leg,I v] (I (Vm l leg v)):=by
 refine t77.1 (by simp [ZO,Zg,Zm,Zh,Za,KFL,KF]) (by simp [KFL,KF]) ?_
 dsimp only [c77,r77,ZO,go_sem,rA,rM,rS]
 refine ZbK [] (Za0 l p v) rfl rfl rfl ?_ ?_ ?_
 . exact Zc (by simp [ZO,Zg,Zm,Zh,Za,KFL,KF])
 . trivial
 dsimp only [Zcf,ZO,go_sem,rA,rM,rS]
 refine gh Vh ?_
 dsimp only [go_sem,rA,rM,rS]
 refine ⟨ZAi,fun rec=>?_⟩
 refine ZAE ?_
 dsimp only [ZxL,ZxA,go_sem,rA,rM,rS]
 refine Xt (fun j:Nat=>[(10,I j)]) (fun _=>[]) (fun j=>j<=l.legs.length/\(0<=leg->leg < j->Vm l leg v = -1)) (fun j=>l.legs.length - j) 0 ⟨Nat.zero_le _,fun h1 h2=>by omega⟩ ?_ ?_
 . (refine Zl ?_ ?_ ?_ rfl rfl<;>dsimp only [ZO,Zg,Zm,Zh,id,go_sem,rA,rM,rS]<;>simp [ZO,Zg,Zm,Zh,Za,Ze,KFR,KFL,KF,Zc,mtO,nbr])
 rintro j ⟨hj,hi⟩
 dsimp only [go_sem,rA,rM,rS]
 simp only [List.length_map]
 by_cases hlt:j < l.legs.length
 . refine Zv (by simpa using hlt) ?_
   dsimp only [go_sem,rA,rM,rS]
   refine Zp j hlt rfl ?_
   dsimp only [Zm,go_sem,rA,rM,rS]
   have hend:leg=j->Vm l leg v=Zk l.legs[j] v:=fun he=>by
    subst he
    unfold Vm
    rw [dif_pos ⟨by omega,by simpa using hlt⟩]
    simp
   by_cases ha:v=l.legs[j].a
   . refine Zv (by simpa using ha) ?_
     dsimp only [go_sem,rA,rM,rS]
     refine ⟨rfl,rfl,?_⟩
     by_cases he:leg=j
     . refine Zv (by simp [he]) ?_
       dsimp only [go_sem,rA,rM,rS]
       refine ⟨rfl,?_⟩
       refine Zv (by decide) ?_
       dsimp only [go_sem,rA,rM,rS]
       rw [hend he,Zk,if_pos ha.symm]
     . refine Zw (by simp;omega) ?_
       dsimp only [go_sem,rA,rM,rS]
       refine ⟨rfl,?_⟩
       refine Zw (by decide) ?_
       dsimp only [go_sem,rA,rM,rS]
       rw [Zf (n:=(j:Int)+1) (by omega) (by omega)]
       refine ⟨j+1,⟨hlt,fun h1 h2=>hi h1 (by omega)⟩,by omega,?_⟩
       (refine Zl ?_ ?_ ?_ rfl rfl<;>dsimp only [ZO,Zg,Zm,Zh,id,go_sem,rA,rM,rS]<;>simp [ZO,Zg,Zm,Zh,Za,Ze,KFR,KFL,KF,Zc,mtO,nbr])
   refine Zw (by simpa using ha) ?_
   dsimp only [go_sem,rA,rM,rS]
   by_cases hb:v=l.legs[j].b
   . refine Zv (by simpa using hb) ?_
     dsimp only [go_sem,rA,rM,rS]
     refine ⟨rfl,rfl,?_⟩
     by_cases he:leg=j
     . refine Zv (by simp [he]) ?_
       dsimp only [go_sem,rA,rM,rS]
       refine ⟨rfl,?_⟩
       refine Zv (by decide) ?_
       dsimp only [go_sem,rA,rM,rS]
       rw [hend he,Zk,if_neg (fun e=>ha e.symm),if_pos hb.symm]
     . refine Zw (by simp;omega) ?_
       dsimp only [go_sem,rA,rM,rS]
       refine ⟨rfl,?_⟩
       refine Zw (by decide) ?_
       dsimp only [go_sem,rA,rM,rS]
       rw [Zf (n:=(j:Int)+1) (by omega) (by omega)]
       refine ⟨j+1,⟨hlt,fun h1 h2=>hi h1 (by omega)⟩,by omega,?_⟩
       (refine Zl ?_ ?_ ?_ rfl rfl<;>dsimp only [ZO,Zg,Zm,Zh,id,go_sem,rA,rM,rS]<;>simp [ZO,Zg,Zm,Zh,Za,Ze,KFR,KFL,KF,Zc,mtO,nbr])
   refine Zw (by simpa using hb) ?_
   dsimp only [go_sem,rA,rM,rS]
   rw [Zf (n:=(j:Int)+1) (by omega) (by omega)]
   refine ⟨j+1,⟨hlt,fun h1 h2=>?_⟩,by omega,?_⟩
   . by_cases he:leg=j
     . rw [hend he,Zk,if_neg (fun e=>ha e.symm),if_neg (fun e=>hb e.symm)]
     . exact hi h1 (by omega)
   (refine Zl ?_ ?_ ?_ rfl rfl<;>dsimp only [ZO,Zg,Zm,Zh,id,go_sem,rA,rM,rS]<;>simp [ZO,Zg,Zm,Zh,Za,Ze,KFR,KFL,KF,Zc,mtO,nbr])
 refine Zw (by simp;omega) ?_
 dsimp only [go_sem,rA,rM,rS]
 have hz:Vm l leg v = -1:=by
  by_cases h1:0<=leg
  . by_cases h2:leg < j
    . exact hi h1 h2
    . unfold Vm;rw [dif_neg (by omega)]
  . unfold Vm;rw [dif_neg (by omega)]
 rw [hz]
def U64 (n:Int):SV:=.v (.int .u64 n)
theorem uw {n:Int} (h0:0<=n) (h1:n < 18446744073709551616):IntKind.u64.wrap n=n:=by
 have e:n % 2 ^ IntKind.u64.bits=n:=Int.emod_eq_of_lt h0 (by show n < 2 ^ 64;omega)
 simp only [IntKind.wrap,e,show IntKind.u64.signed=false from rfl,Bool.false_and]
 rfl
theorem Zq0 (n:Int) (h0:0<=n) (h1:n<=1000000):Ct Tryz.prog 174 [U64 1,U64 n] (.tup [U64 0,U64 n]):=by
 refine t174.1 (by simp [U64,KFL,KF]) (by simp [U64,KFL,KF]) ?_
 dsimp only [c174,r174,U64,go_sem,rA,rM,rS]
 have sh:∀ (m:Int),0<=m->m < 4294967296->∀ w:World,(binOp .shr 168 (.int .u64 m) (.int .u64 32)).run Tryz.prog w = .ok (.int .u64 0) w:=fun m q0 q1 w=>by
  simp only [binOp,Op.shift]
  rw [if_neg (by decide)]
  have:m.fdiv (2 ^ 32)=0:=by rw [Int.fdiv_eq_ediv_of_nonneg _ (by decide)];omega
  show Result.ok (Value.int .u64 (m.fdiv (2 ^ (min (32:Int).toNat IntKind.u64.bits)))) w=_
  rw [show min (32:Int).toNat IntKind.u64.bits=32 from by decide,this]
 have an:∀ (m:Int),0<=m->m < 4294967296->∀ w:World,(binOp .and 168 (.int .u64 m) (.int .u64 4294967295)).run Tryz.prog w = .ok (.int .u64 m) w:=fun m q0 q1 w=>by
  obtain ⟨k,rfl⟩:=Int.eq_ofNat_of_zero_le q0
  have hk:k < 4294967296:=by omega
  have e:(BitVec.ofInt 64 (k:Int) &&& BitVec.ofInt 64 4294967295).toNat=k:=by
   rw [BitVec.toNat_and,show (BitVec.ofInt 64 4294967295).toNat=2 ^ 32 - 1 from by decide,Nat.and_two_pow_sub_one_eq_mod,BitVec.ofInt_natCast,BitVec.toNat_ofNat]
   omega
  show Result.ok (Value.int .u64 (IntKind.u64.wrap (((BitVec.ofInt 64 (k:Int) &&& BitVec.ofInt 64 4294967295).toNat:Nat):Int))) w=_
  rw [e,uw (by omega) (by omega)]
 refine VH rfl (.inl rfl) (an 1 (by omega) (by omega)) rfl ?_
 dsimp only [go_sem,rA,rM,rS]
 refine VH rfl (.inr rfl) (sh 1 (by omega) (by omega)) rfl ?_
 dsimp only [go_sem,rA,rM,rS]
 refine VH rfl (.inl rfl) (an n (by omega) (by omega)) rfl ?_
 dsimp only [go_sem,rA,rM,rS]
 refine VH rfl (.inr rfl) (sh n (by omega) (by omega)) rfl ?_
 dsimp only [go_sem,rA,rM,rS]
 simp (disch:=omega) only [uw,Int.one_mul,Int.zero_mul,Int.mul_zero,Int.add_zero,Int.zero_add]
 refine VH rfl (.inr rfl) (sh n (by omega) (by omega)) rfl ?_
 dsimp only [go_sem,rA,rM,rS]
 simp (disch:=omega) only [uw,Int.one_mul,Int.zero_mul,Int.mul_zero,Int.add_zero,Int.zero_add]
 refine VH rfl (.inl rfl) (an 0 (by omega) (by omega)) rfl ?_
 dsimp only [go_sem,rA,rM,rS]
 refine VH rfl (.inr rfl) (sh 0 (by omega) (by omega)) rfl ?_
 dsimp only [go_sem,rA,rM,rS]
 simp (disch:=omega) only [uw,Int.one_mul,Int.zero_mul,Int.mul_zero,Int.add_zero,Int.zero_add]
 refine VH rfl (.inr rfl) (sh 0 (by omega) (by omega)) rfl ?_
 dsimp only [go_sem,rA,rM,rS]
 simp (disch:=omega) only [uw,Int.one_mul,Int.zero_mul,Int.mul_zero,Int.add_zero,Int.zero_add]
theorem Zzh (n:Int) (h0:0<=n) (h1:n<=1000000):Ct Tryz.prog 167 [U64 1,U64 n] (.tup [U64 0,U64 n]):=by
 refine t167.1 (by simp [U64,KFL,KF]) (by simp [U64,KFL,KF]) ?_
 dsimp only [c167,r167,U64,go_sem,rA,rM,rS]
 refine Zw (by decide) ?_
 dsimp only [go_sem,rA,rM,rS]
 refine call (Zq0 n h0 h1) ?_
 dsimp only [U64,go_sem,rA,rM,rS]
theorem Ud {r:List SV} (h:KFL r):∀ n,KFR (List.replicate n r)
 | 0=>trivial
 | n+1=>⟨h,Ud h n⟩
theorem ZuY (x:Int) (n:Nat) (h0:1<=n) (h1:n<=1000) (k:Bool):CtM Tryz.prog 140 [] 0 [.sl k 1 [[I x]],I n] (fun o=>o=⟨false,.mr 0 0,[(0,.row 0 1 (List.replicate n [I x]) 3)],1⟩):=by
 have hm:KFL [I x]:=by simp [KFL,KF]
 have hone:YW [I x]=true:=rfl
 have hkr:=Ud hm n
 refine m140 (by simp [hpb]) (fun o ho=>by subst ho;simp only [KX,KXL,KXP,KXH];exact ⟨trivial,hkr,trivial⟩) ?_
 generalize [I x]=row at hm hone hkr
 dsimp only [c140,r140,go_sem,rA,rM,rS]
 refine Zw (by simp) ?_
 dsimp only [go_sem,rA,rM,rS]
 rw [show ((1:Nat):Int)=1 from rfl]
 simp (disch:=omega) only [uw]
 refine call (Zzh n (by omega) (by omega)) ?_
 dsimp only [U64,go_sem,rA,rM,rS]
 refine gb ?_
 dsimp only [go_sem,rA,rM,rS]
 refine gb ?_
 dsimp only [go_sem,rA,rM,rS]
 refine Zw (by simp;omega) ?_
 dsimp only [go_sem,rA,rM,rS]
 refine ⟨n,Zf (by omega) (by omega),by omega,?_⟩
 have hz:KFL [SV.v (Value.int IntKind.i64 0)]:=by simp [KFL,KF]
 generalize [SV.v (Value.int IntKind.i64 0)]=z at hz
 dsimp only [go_sem,rA,rM,rS]
 refine ⟨(by intro c hc;simp only [List.mem_singleton] at hc;subst hc;exact hone),by simp,?_⟩
 have hmin:min n 1=1:=by omega
 simp only [List.length_replicate,List.length_singleton,hmin,List.drop_replicate]
 dsimp only [go_sem,rA,rM,rS]
 refine Xt (fun j:Nat=>[(8,I j)]) (fun j=>[(0,.row 0 1 (List.replicate j row ++ List.replicate (n - j) z) 3)]) (fun j=>1<=j/\j<=n) (fun j=>n - j) 1 ⟨Nat.le_refl _,h0⟩ ?_ ?_
 . refine Zl ?_ ?_ ?_ rfl rfl<;>dsimp only [id,go_sem,rA,rM,rS]<;>simp [Ze,Ud,hz,hm,Zc,mtO,nbr,KFR,KFL,KF]
 rintro j ⟨hj0,hj⟩
 dsimp only [go_sem,rA,rM,rS]
 simp only [List.length_append,List.length_replicate,show j+(n - j)=n from by omega]
 by_cases hlt:j < n
 . refine Zv (by simpa using hlt) ?_
   dsimp only [go_sem,rA,rM,rS]
   refine ⟨j,n,⟨rfl,by simp;omega,by omega,by simp;omega⟩,?_⟩
   dsimp only [go_sem,rA,rM,rS]
   refine ⟨0,j,⟨rfl,rfl,by omega,by simp⟩,?_⟩
   dsimp only [go_sem,rA,rM,rS]
   have hx:List.take (j - 0) (List.replicate j row ++ List.replicate (n - j) z)=List.replicate j row:=by rw [Nat.sub_zero];exact List.take_left' (by simp)
   have hx':List.take j (List.replicate j row ++ List.replicate (n - j) z)=List.replicate j row:=List.take_left' (by simp)
   rw [hx]
   refine ⟨by simp,(by intro c hc;rw [List.eq_of_mem_replicate hc];exact hone),by simp,?_⟩
   simp only [List.length_replicate]
   generalize hN:min (n - j) j=N
   have e:List.take j (List.replicate j row ++ List.replicate (n - j) z) ++ (List.take N (List.replicate j row) ++ List.drop (j+N) (List.replicate j row ++ List.replicate (n - j) z))=List.replicate (j+N) row ++ List.replicate (n - (j+N)) z:=by
    rw [hx',List.take_replicate,List.drop_append,List.drop_of_length_le (l:=List.replicate j row) (by simp),List.length_replicate,List.nil_append,List.drop_replicate,<- List.append_assoc,List.replicate_append_replicate,show min N j=N from by omega]
    congr 2;omega
   rw [e]
   dsimp only [go_sem,rA,rM,rS]
   rw [show (j:Int)+(N:Int)=((j+N:Nat):Int) from by omega,Zf (n:=((j+N:Nat):Int)) (by omega) (by omega)]
   refine ⟨j+N,⟨by omega,by omega⟩,by omega,?_⟩
   refine Zl ?_ ?_ ?_ rfl rfl<;>dsimp only [id,go_sem,rA,rM,rS]<;>simp [Ze,Ud,hz,hm,Zc,mtO,nbr,KFR,KFL,KF]
 refine Zw (by simp;omega) ?_
 dsimp only [go_sem,rA,rM,rS]
 have hje:j=n:=by omega
 subst hje
 simp only [Nat.sub_self,List.replicate_zero,List.append_nil]
 refine ⟨_,rfl,?_⟩
 refine Z1 ?_ ?_ ?_ rfl<;>dsimp only [id,go_sem,rA,rM,rS]<;>simp [Ze,Ud,hm,Zc,mtO,nbr,KFR,KFL,KF]
end Go.Proofs.YtiigiflofnjilaaGreat
namespace Go.Sx
open Go Go.RowKit
section typed
variable {K V:Type} [DecidableEq K]
def mpS (key:K->Value) (val:V->SV) (L:List (Nat × K × V)):List (Nat × Value × SV):=L.map fun e=>(e.1,key e.2.1,val e.2.2)
def XG (k:K):List (Nat × K × V)->Option V
 | []=>none
 | e :: l=>if e.2.1=k then some e.2.2 else XG k l
def Uh (c:Nat) (k:K) (v:V):List (Nat × K × V)->List (Nat × K × V)
 | []=>[(c,k,v)]
 | e :: l=>if e.2.1=k then (e.1,k,v) :: l else e :: Uh c k v l
def Ux (k:K):List (Nat × K × V)->List (Nat × K × V)
 | []=>[]
 | e :: l=>if e.2.1=k then l else e :: Ux k l
def Zcm (c:Nat) (k:K) (L:List (Nat × K × V)):Nat:=bif (XG k L).isSome then c else c+1
def fI (k:K):List K->List MapEntry->Nat->Option (Nat × Value)
 | q :: ks,e :: ys,i=>if q=k then some (i,e.val) else fI k ks ys (i+1)
 | _,_,_=>none
structure KeyT (P:Program) (kt:TypeId) (key:K->Value) (sv:K->SV):Prop where
 chk:∀ (em:Bool) (k:K) (w:World),(Instr.checkKey em 10000 kt (key k)).run P w = .ok () w
 fnd:∀ (k:K) (ks:List K) (ys:List MapEntry) (w:World),ys.map (·.key)=ks.map key->(Instr.findKey kt (key k) ys).run P w = .ok (fI k ks ys 0) w
 same:∀ k,Instr.sameBits 10000 (key k) (key k)=true
 svR:∀ {w:World} {E:Env} {n ok:Nat->Prop} (k:K) (y:Value),R w E n ok (sv k) y↔y=key k
theorem Zci {w:World} {E:Env} {n ok:Nat->Prop} {key:K->Value} {val:V->SV} (k:K):∀ (L:List (Nat × K × V)) (ys:List MapEntry) (i:Nat),RM w E n ok (mpS key val L) ys ->
 (XG k L=none/\fI k (L.map (·.2.1)) ys i=none/\Ux k L=L/\∀ {w':World} {E':Env} {n' ok':Nat->Prop} c v' y',R w' E' n' ok' (val v') y'->RM w' E' n' ok' (mpS key val L) ys->RM w' E' n' ok' (mpS key val (Uh c k v' L)) (ys ++ [⟨key k,y',c⟩])) \/
 ∃ j v e,XG k L=some v/\fI k (L.map (·.2.1)) ys i=some (i+j,e.val)/\ys[j]? = some e/\e.key=key k/\R w E n ok (val v) e.val /\
  (∀ {w':World} {E':Env} {n' ok':Nat->Prop},RM w' E' n' ok' (mpS key val L) ys->RM w' E' n' ok' (mpS key val (Ux k L)) (ys.eraseIdx j)/\∀ c v' y',R w' E' n' ok' (val v') y'->RM w' E' n' ok' (mpS key val (Uh c k v' L)) (ys.modify j fun e=>{ e with key:=key k,val:=y' }))
 | [],ys,i,h=>by
  simp only [mpS,List.map_nil,RM] at h
  subst h
  exact .inl ⟨rfl,rfl,rfl,fun c v' y' hR _=>by simp only [Uh,mpS,List.map_cons,List.map_nil,List.nil_append,RM];exact ⟨y',[],rfl,hR,rfl⟩⟩
 | e :: l,ys,i,h=>by
  simp only [mpS,List.map_cons,RM] at h
  obtain ⟨y,r,rfl,h1,h2⟩:=h
  by_cases hk:e.2.1=k
  . refine .inr ⟨0,e.2.2,⟨key e.2.1,y,e.1⟩,by simp [XG,hk],by simp [fI,hk],rfl,by simp [hk],h1,fun {w' E' n' ok'} h'=>?_⟩
    simp only [mpS,List.map_cons,RM] at h'
    obtain ⟨y0,r0,e0,h3,h4⟩:=h'
    cases e0
    refine ⟨by simpa [Ux,hk,mpS] using h4,fun c v' y' hR=>?_⟩
    simp only [Uh,hk,if_true,mpS,List.map_cons,RM]
    exact ⟨y',r,by simp,hR,h4⟩
  . rcases Zci k l r (i+1) h2 with ⟨a1,a2,a3,a4⟩ | ⟨j,v,e',b1,b2,b3,b4,b5,b6⟩
    . refine .inl ⟨by simp [XG,hk,a1],by simp [fI,hk,a2],by simp [Ux,hk,a3],fun {w' E' n' ok'} c v' y' hR h'=>?_⟩
      simp only [mpS,List.map_cons,RM] at h'
      obtain ⟨y0,r0,e0,h3,h4⟩:=h'
      cases e0
      simp only [Uh,hk,if_false,mpS,List.map_cons,RM]
      exact ⟨y,_,rfl,h3,a4 c v' y' hR h4⟩
    . refine .inr ⟨j+1,v,e',by simp [XG,hk,b1],by simp [fI,hk,b2];omega,by simpa using b3,b4,b5,fun {w' E' n' ok'} h'=>?_⟩
      simp only [mpS,List.map_cons,RM] at h'
      obtain ⟨y0,r0,e0,h3,h4⟩:=h'
      cases e0
      obtain ⟨c1,c2⟩:=b6 h4
      refine ⟨?_,fun c v' y' hR=>?_⟩
      . simp only [Ux,hk,if_false,mpS,List.map_cons,RM]
        exact ⟨y,_,by simp,h3,c1⟩
      . simp only [Uh,hk,if_false,mpS,List.map_cons,RM]
        exact ⟨y,_,by simp,h3,c2 c v' y' hR⟩
omit [DecidableEq K] in
theorem Zbp {w:World} {E:Env} {n ok:Nat->Prop} {key:K->Value} {val:V->SV}:∀ {L:List (Nat × K × V)} {ys:List MapEntry},RM w E n ok (mpS key val L) ys->ys.map (·.key)=(L.map (·.2.1)).map key
 | [],ys,h=>by simp only [mpS,List.map_nil,RM] at h;subst h;rfl
 | e :: l,ys,h=>by
  simp only [mpS,List.map_cons,RM] at h
  obtain ⟨y,r,rfl,h1,h2⟩:=h
  simp only [List.map_cons,List.cons.injEq,true_and]
  exact Zbp h2
theorem Zsc {w:World} {E:Env} {n ok:Nat->Prop}:∀ {L:List (Nat × Value × SV)} {ys:List MapEntry},RM w E n ok L ys->ys.length=L.length
 | [],ys,h=>by simp only [RM] at h;subst h;rfl
 | e :: l,ys,h=>by simp only [RM] at h;obtain ⟨y,r,rfl,h1,h2⟩:=h;simp [Zsc h2]
theorem Zlr {w:World} {E:Env} {n ok:Nat->Prop}:∀ {L:List (Nat × Value × SV)} {ys:List MapEntry},RM w E n ok L ys->∀ e ∈ ys,∃ x ∈ L,e.born=x.1/\e.key=x.2.1/\R w E n ok x.2.2 e.val
 | [],ys,h=>by simp only [RM] at h;subst h;simp
 | e :: l,ys,h=>by
  simp only [RM] at h;obtain ⟨y,r,rfl,h1,h2⟩:=h
  intro e' he'
  rcases List.mem_cons.1 he' with rfl | he'
  . exact ⟨e,by simp,rfl,rfl,h1⟩
  . obtain ⟨x,hx,h⟩:=Zlr h2 e' he';exact ⟨x,by simp [hx],h⟩
theorem Zjj {w:World} {E:Env} {n ok:Nat->Prop}:∀ {L:List (Nat × Value × SV)} {ys:List MapEntry},RM w E n ok L ys->∀ x ∈ L,∃ e ∈ ys,e.born=x.1
 | [],ys,h=>by simp
 | e :: l,ys,h=>by
  simp only [RM] at h;obtain ⟨y,r,rfl,h1,h2⟩:=h
  intro x hx
  rcases List.mem_cons.1 hx with rfl | hx
  . exact ⟨_,List.mem_cons_self,rfl⟩
  . obtain ⟨e',he',h⟩:=Zjj h2 x hx;exact ⟨e',by simp [he'],h⟩
theorem Zyz {P:Program} {kt:TypeId} {kd:IntKind} (hu:P.underlying kt=some (.int kd)):KeyT P kt (fun n:Int=>.int kd n) (fun n=>.v (.int kd n)):=by
 refine ⟨fun em k w=>MapKept.run_checkKey hu (by simp [MapKept.IsKey]) em _,fun k ks ys w h=>?_,fun k=>by simp [Instr.sameBits],fun k y=>by simp only [R]⟩
 have:∀ (ks:List Int) (ys:List MapEntry) (i:Nat),ys.map (·.key)=ks.map (fun n:Int=>Value.int kd n)->Instr.findNow (.int kd) (.int kd k) ys i=some (fI k ks ys i):=by
  intro ks ys
  induction ys generalizing ks with
  | nil=>intro i h;cases ks with
   | nil=>rfl
   | cons a b=>simp at h
  | cons e ys ih=>intro i h;cases ks with
   | nil=>simp at h
   | cons a b =>
    simp only [List.map_cons,List.cons.injEq] at h
    simp only [Instr.findNow,h.1,Instr.sameNow,if_true,fI]
    by_cases ha:a=k
    . subst ha;simp
    . have:(k == a)=false:=by simpa using fun e=>ha e.symm
      simp [this,ha,ih b (i+1) h.2]
 exact MapKept.run_findKey hu (this ks ys 0 h)
end typed
section
variable {P:Program} {C:Cx} {E:Env} {σ : St} {a:Act} {w:World}
def Zbv (σ : St):Operand->SV
 | .tmp u=>lk u σ.fr
 | .const x=>.v x
 | _=>.any
theorem V0 (h:Sim C E σ a w) {o:Operand} {s:SV} (hs:Zbv σ o=s) (hg:∀ j b u,s≠.gd j b u):R w E (ltn σ.n) (okS C E σ.hp) s (a.eval o):=by
 cases o with
 | tmp u =>
  have:=Zvr (h.fr u) (fun j b u' e=>hg j b u' (by rw [<- hs];exact e))
  simp only [Zbv] at hs;rw [hs] at this;exact this
 | const x=>simp only [Zbv] at hs;subst hs;simp only [R];rfl
 | _=>simp only [Zbv] at hs;subst hs;simp only [R]
theorem Zav (h:Sim C E σ a w) {km c:Nat} {es:List (Nat × Value × SV)} (hk:lkh km σ.hp = .map es c) :
 ltn σ.n km/\∃ ys,w.heap[E.β km]? = some (.map ys c)/\RM w E (ltn σ.n) (okS C E σ.hp) es ys.toList:=by
 have hb:=h.hs.bk km
 rw [hk] at hb
 refine ⟨?_,hb⟩
 rcases Classical.em (ltn σ.n km) with q | q
 . exact q
 . rw [h.hs.kn km q] at hk;cases hk
theorem ZsH {d:Option Nat} {s:SV} {r:KT} {K:RK} {y:Value} {w':World} {E':Env} {hp':List (Nat × HB)} {n':Nat} {next:Act->World->Prop} (hk:YA d s none ⟨σ.fr,hp',n',σ.N,σ.gs⟩ r K) (h:Sim C E σ a w)
 (hst:ZG w w' (okS C E σ.hp) (okS C E' hp')) (hE:∀ k,k < σ.n->Ele E E' k k) (hn:σ.n<=n') (hh:HSim C E' hp' (ltn n') w') (hR:R w' E' (ltn n') (okS C E' hp') s y)
 (hnext:∀ σ' E' a' w',r σ' K->Sim C E' σ' a' w'->next a' w'):next (a.put d y) w':=by
 rcases Zad hk with ⟨g1,g2⟩ | ⟨t,g1,g2,g3,g4,g5⟩
 . rw [g1];exact hnext _ E' _ _ g2 (YE (σ:=σ) h hst hE hn hh)
 . rw [g1]
   exact hnext _ E' _ _ g5 (XX (σ:=σ) h hst hE hn hh g2 g3 (fun j b u e=>by rw [e] at g4;cases g4) hR)
theorem Vf {d:Option Nat} {s:SV} {r:KT} {K:RK} {y:Value} {next:Act->World->Prop} (hk:YA d s none σ r K) (h:Sim C E σ a w) (hR:R w E (ltn σ.n) (okS C E σ.hp) s y)
 (hnext:∀ σ' E' a' w',r σ' K->Sim C E' σ' a' w'->next a' w'):next (a.put d y) w :=
 ZsH (hp':=σ.hp) (n':=σ.n) hk h (fun b hb _=>⟨hb,rfl⟩) (fun _ _=>Ele.rfl) (Nat.le_refl _) h.hs hR hnext
theorem Zkc {K':Type} [DecidableEq K'] {kt:TypeId} {key:K'->Value} {sv:K'->SV} (hK:KeyT P kt key sv) (k:K'):∀ j b u,sv k≠.gd j b u:=fun j b u e=>by
 have:=(hK.svR (w:=default) (E:=⟨fun _=>0,fun _ _=>undef,fun _=>0⟩) (n:=fun _=>True) (ok:=fun _=>True) k (key k)).2 rfl
 rw [e] at this;simp only [R] at this
theorem Zd5 {hp:List (Nat × HB)} {n:Nat->Prop} {q:Nat} {hb:HB} {o:Obj} (h:HSim C E hp n w) (hq:¬ n q) (hocc:∀ (E:Env) b,occ E q hb b↔b=E.β q)
 (hok:∀ E',(∀ k,n k->Ele E E' k k)->E'.β q=w.heap.size->Yc (w.alloc o) E' (fun k=>n k\/k=q) (okS C E' ((q,hb) :: hp)) q hb) :
 ∃ E',(∀ k,n k->Ele E E' k k)/\E'.β q=w.heap.size/\HSim C E' ((q,hb) :: hp) (fun k=>n k\/k=q) (w.alloc o)/\ZG w (w.alloc o) (okS C E hp) (okS C E' ((q,hb) :: hp)):=by
 let E':Env:=⟨fun k=>if k=q then w.heap.size else E.β k,E.hv,E.iss⟩
 have hE:∀ k,n k->Ele E E' k k:=fun k hk=>⟨by simp [E',show k≠q from by rintro rfl;exact hq hk],Nat.le_refl _,fun _ _=>rfl⟩
 have hEn:E'.β q=w.heap.size:=by simp [E']
 have hbel:Below w.heap.size w (w.alloc o):=(Below.refl _ _).alloc (Nat.le_refl _) _
 have hoc:∀ j b,j≠q->(occ E' j (lkh j ((q,hb) :: hp)) b↔occ E j (lkh j hp) b):=fun j b hj=>by
  rw [Zt,if_neg hj]
  cases hl:lkh j hp<;>simp only [occ,E',if_neg hj]
 have hocn:∀ b,occ E' q (lkh q ((q,hb) :: hp)) b↔b=w.heap.size:=fun b=>by
  rw [Zt,if_pos rfl,hocc,hEn]
 have hlt:∀ b,b < w.heap.size->(okS C E' ((q,hb) :: hp) b↔okS C E hp b):=fun b hb'=>by
  unfold okS
  constructor
  . rintro ⟨h1,h2⟩
    refine ⟨h1,fun j hj=>?_⟩
    by_cases hjn:j=q
    . subst hjn;rw [h.kn j hq] at hj;exact hj
    . exact h2 j ((hoc j b hjn).2 hj)
  . rintro ⟨h1,h2⟩
    refine ⟨h1,fun j hj=>?_⟩
    by_cases hjn:j=q
    . subst hjn;rw [hocn] at hj;omega
    . exact h2 j ((hoc j b hjn).1 hj)
 have hst:ZG w (w.alloc o) (okS C E hp) (okS C E' ((q,hb) :: hp)):=fun b hb' hs=>by
  have hlt':b < w.heap.size:=by
   obtain ⟨o,ho⟩:=Option.isSome_iff_exists.1 hs
   exact (Array.getElem?_eq_some_iff.1 ho).1
  exact ⟨(hlt b hlt').2 hb',hbel.block b hlt'⟩
 refine ⟨E',hE,hEn,⟨fun j hj=>?_,fun j=>?_,fun j j' b h1 h2=>?_,fun j b h1=>?_,WZ h.kp hbel,fun k hk=>(by obtain ⟨p1,p2⟩:=h.pin k hk;exact ⟨.inl p1,p2.trans (hE k p1)⟩)⟩,hst⟩
 . rw [Zt,if_neg (fun e=>hj (.inr e))];exact h.kn j (fun e=>hj (.inl e))
 . rw [Zt]
   by_cases hj:j=q
   . subst hj;rw [if_pos rfl]
     exact hok E' hE hEn
   . rw [if_neg hj]
     refine YS hst hE (fun _ h=>.inl h) ?_ (fun b ho=>hbel.block b (YK h ho)) (by simp [E',hj]) (h.bk j)
     rcases Classical.em (n j) with h' | h'
     . exact .inr h'
     . exact .inl (h.kn j h')
 . by_cases hj:j=q<;>by_cases hj':j'=q
   . omega
   . subst hj;rw [hocn] at h1;rw [hoc j' b hj'] at h2;have:=YK h h2;omega
   . subst hj';rw [hocn] at h2;rw [hoc j b hj] at h1;have:=YK h h1;omega
   . exact h.dj j j' b ((hoc j b hj).1 h1) ((hoc j' b hj').1 h2)
 . by_cases hj:j=q
   . subst hj;rw [hocn] at h1;exact .inl (by rw [h1];exact h.kp.size)
   . exact h.lo j b ((hoc j b hj).1 h1)
end
section
variable {P:Program} {K' V:Type} [DecidableEq K'] {key:K'->Value} {sv:K'->SV} {val:V->SV} {L:List (Nat × K' × V)} {km c:Nat} {kt et t ty:TypeId} {mx ix vx:Operand} {σ : St} {r:KT} {K:RK} {d:Option Nat} {k:K'}
theorem ZbZ {u:Nat} {rs:Option Operand} (hr:rs=none) (h1:Xv u σ.gs=false) (h2:Nat.blt u σ.N=true) (h:r ⟨(u,.mp σ.n) :: σ.fr,(σ.n,.map [] 0) :: σ.hp,σ.n+1,σ.N,σ.gs⟩ K) :
 RAW P (some u) (.makeMap t rs) ty σ r K:=by
 subst hr
 intro o C E a w next Q e1 e2 e3 hS hn hq
 obtain ⟨E',k1,k2,k3,k4⟩:=Zd5 (q:=σ.n) (hb:=.map [] 0) (o:=.map #[] 0) hS.hs (by simp [ltn]) (fun E b=>by simp only [occ]) (fun E' g1 g2=>by
  simp only [Yc,g2];exact ⟨#[],heap_alloc_new _ _,rfl⟩)
 have hV:(fun k=>ltn σ.n k\/k = σ.n)=ltn (σ.n+1):=by funext k;simp only [ltn,eq_iff_iff];omega
 rw [hV] at k3
 have hx:(execOp a.eval o).run P w = .ok (.value (.map (some w.heap.size))) (w.alloc (.map #[] 0)):=by
  obtain ⟨dst',op',ty',pos,after,guard⟩:=o
  simp only at e2;subst e2
  simp [execOp,Sem.run_bind,Instr.makeMap,Zdq,Sem.run_pure]
 refine ZE hx (by simp) ?_
 show next (a.put o.dst _) _
 rw [e1]
 refine hn _ E' _ _ h (XX hS k4 k1 (by omega) k3 (fun hh=>?_) (by simpa [Nat.blt_eq] using h2) (fun _ _ _ e=>by cases e) ?_)
 . rw [ZZ.2 hh] at h1;cases h1
 . simp only [R,k2];exact ⟨by simp [ltn],trivial⟩
theorem Zcd {ok:Bool} {zs:SV} {z:Value} (hm:Zbv σ mx = .mp km) (hh:lkh km σ.hp = .map (mpS key val L) c) (ht:P.underlying t=some (.map kt et)) (hK:KeyT P kt key sv) (hi:Zbv σ ix=sv k)
 (hz:Y6 P et=some z) (hzR:∀ w E n ok,R w E n ok zs z)
 (h1:∀ v,XG k L=some v->YA d (bif ok then .tup [val v,.v (.bool true)] else val v) none σ r K) (h0:XG k L=none->YA d (bif ok then .tup [zs,.v (.bool false)] else zs) none σ r K) :
 RAW P d (.lookup t mx ix ok) ty σ r K:=by
 intro o C E a w next Q e1 e2 e3 hS hn hq
 have hmv:=V0 hS hm (fun _ _ _=>by simp)
 have hiv:=(hK.svR k _).1 (V0 hS hi (Zkc hK k))
 simp only [R] at hmv
 obtain ⟨g0,ys,g1,g2⟩:=Zav hS hh
 have hfn:=fun w=>hK.fnd k _ _ w (Zbp g2)
 have hex:∀ y,(Instr.lookup t (a.eval mx) (a.eval ix) ok).run P w = .ok y w->(execOp a.eval o).run P w = .ok (.value y) w:=fun y hy=>by
  obtain ⟨dst',op',ty',pos,after,guard⟩:=o
  simp only at e2;subst e2
  simp only [execOp,Sem.run_bind,hy,Result.andThen_ok,Sem.run_pure]
 rcases Zci (w:=w) (E:=E) (n:=ltn σ.n) (ok:=okS C E σ.hp) k L ys.toList 0 g2 with ⟨a1,a2,-,-⟩ | ⟨j,v,e,b1,b2,b3,b4,b5,-⟩
 . have hrun:(Instr.lookup t (a.eval mx) (a.eval ix) ok).run P w = .ok (if ok then .tuple #[z,.bool false] else z) w:=by
    rw [hmv.2,hiv]
    simp only [Instr.lookup,Sem.run_bind,run_underlying ht,Result.andThen_ok,Yq g1 rfl,Sem.run_pure,hK.chk,hfn,a2,VQ hz]
   refine ZE (hex _ hrun) (by simp) ?_
   show next (a.put o.dst _) _
   rw [e1]
   refine Vf (h0 a1) hS ?_ hn
   cases ok
   . exact hzR _ _ _ _
   . simp only [cond_true,if_true,R,RL];exact ⟨_,rfl,_,_,rfl,hzR _ _ _ _,_,_,rfl,rfl,rfl⟩
 . have hrun:(Instr.lookup t (a.eval mx) (a.eval ix) ok).run P w = .ok (if ok then .tuple #[e.val,.bool true] else e.val) w:=by
    rw [hmv.2,hiv]
    simp only [Instr.lookup,Sem.run_bind,run_underlying ht,Result.andThen_ok,Yq g1 rfl,Sem.run_pure,hK.chk,hfn,b2]
   refine ZE (hex _ hrun) (by simp) ?_
   show next (a.put o.dst _) _
   rw [e1]
   refine Vf (h1 v b1) hS ?_ hn
   cases ok
   . exact b5
   . simp only [cond_true,if_true,R,RL];exact ⟨_,rfl,_,_,rfl,b5,_,_,rfl,rfl,rfl⟩
theorem ZmS {v:V} {s:SV} {ins:Bool} (hm:Zbv σ mx = .mp km) (hh:lkh km σ.hp = .map (mpS key val L) c) (ht:P.underlying t=some (.map kt et)) (hK:KeyT P kt key sv) (hi:Zbv σ ix=sv k)
 (hv:Zbv σ vx=s) (hvg:∀ j b u,s≠.gd j b u) (hsv:∀ w E n ok y,R w E n ok s y->R w E n ok (val v) y) (h:r ⟨σ.fr,(km,.map (mpS key val (Uh c k v L)) (Zcm c k L)) :: σ.hp,σ.n,σ.N,σ.gs⟩ K) :
 RAW P none (bif ins then .insert t mx ix vx else .mapUpdate t mx ix vx) ty σ r K:=by
 intro o C E a w next Q e1 e2 e3 hS hn hq
 have hmv:=V0 hS hm (fun _ _ _=>by simp)
 have hiv:=(hK.svR k _).1 (V0 hS hi (Zkc hK k))
 have hvv:=hsv _ _ _ _ _ (V0 hS hv hvg)
 simp only [R] at hmv
 obtain ⟨g0,ys,g1,g2⟩:=Zav hS hh
 have hfn:=fun w=>hK.fnd k _ _ w (Zbp g2)
 have hex:∀ w',(Instr.mapUpdate t (a.eval mx) (a.eval ix) (a.eval vx)).run P w = .ok () w'->(execOp a.eval o).run P w = .ok .skip w':=fun w' hy=>by
  obtain ⟨dst',op',ty',pos,after,guard⟩:=o
  simp only at e2;subst e2
  cases ins<;>simp only [cond_true,cond_false,execOp,Sem.run_bind,hy,Result.andThen_ok,Sem.run_pure]
 have hfin:∀ ys',((ys':Array MapEntry),Zcm c k L)=(ys',Zcm c k L)->(∀ {w':World} {ok':Nat->Prop},RM w' E (ltn σ.n) ok' (mpS key val L) ys.toList->R w' E (ltn σ.n) ok' (val v) (a.eval vx)->RM w' E (ltn σ.n) ok' (mpS key val (Uh c k v L)) ys'.toList) ->
  next (a.put o.dst undef) (Uj w (E.β km) (.map ys' (Zcm c k L))):=fun ys' _ hRM=>by
  obtain ⟨q1,q2⟩:=W4 (k:=km) (hb:=.map (mpS key val (Uh c k v L)) (Zcm c k L)) (o:=.map ys' (Zcm c k L)) hS.hs (fun b=>by rw [hh];simp only [occ]) (fun b=>by simp only [occ]) (fun hlt hst=>by
   simp only [Yc]
   exact ⟨ys',X7 hlt,hRM (Za4 hst.c (fun _ _=>Ele.rfl) (fun _ h=>h) _ _ g2) (ZS hst.c (fun _ _=>Ele.rfl) (fun _ h=>h) _ _ hvv)⟩)
  rw [e1]
  exact hn _ E _ _ h (YE hS q2 (fun _ _=>Ele.rfl) (Nat.le_refl _) q1)
 rcases Zci (w:=w) (E:=E) (n:=ltn σ.n) (ok:=okS C E σ.hp) k L ys.toList 0 g2 with ⟨a1,a2,-,a4⟩ | ⟨j,v0,e,b1,b2,b3,b4,b5,b6⟩
 . have hc:Zcm c k L=c+1:=by simp [Zcm,a1]
   have hrun:(Instr.mapUpdate t (a.eval mx) (a.eval ix) (a.eval vx)).run P w = .ok () (Uj w (E.β km) (.map (ys.push ⟨key k,a.eval vx,c⟩) (c+1))):=by
    rw [hmv.2,hiv]
    simp only [Instr.mapUpdate,Sem.run_bind,run_underlying ht,Result.andThen_ok,Yq g1 rfl,Sem.run_pure,hK.chk,hfn,a2,Y2 _ g1 rfl]
   refine ZE (hex _ hrun) (by simp) ?_
   show next (a.put o.dst undef) _
   rw [<- hc]
   exact hfin _ rfl fun h1 h2=>by rw [Array.toList_push];exact a4 c v _ h2 h1
 . have hc:Zcm c k L=c:=by simp [Zcm,b1]
   rw [Nat.zero_add] at b2
   have hek:((ys[j]?).map (·.key)).getD (key k)=key k:=by
    have:ys[j]? = some e:=by simpa using b3
    simp [this,b4]
   have hrun:(Instr.mapUpdate t (a.eval mx) (a.eval ix) (a.eval vx)).run P w = .ok () (Uj w (E.β km) (.map (ys.modify j fun e=>{ e with key:=key k,val:=a.eval vx }) c)):=by
    rw [hmv.2,hiv]
    simp only [Instr.mapUpdate,Sem.run_bind,run_underlying ht,Result.andThen_ok,Yq g1 rfl,Sem.run_pure,hK.chk,hfn,b2,hek,Instr.keyThatStays,hK.same,if_true,Y2 _ g1 rfl]
   refine ZE (hex _ hrun) (by simp) ?_
   show next (a.put o.dst undef) _
   have:=hfin (ys.modify j fun e=>{ e with key:=key k,val:=a.eval vx }) rfl fun {w' ok'} h1 h2=>by
    rw [Array.toList_modify];exact (b6 h1).2 c v _ h2
   rw [hc] at this;exact this
theorem ZbY {v:V} {ins:Bool} (hm:Zbv σ mx = .mp km) (hh:lkh km σ.hp = .map (mpS key val L) c) (ht:P.underlying t=some (.map kt et)) (hK:KeyT P kt key sv) (hi:Zbv σ ix=sv k)
 (hv:Zbv σ vx=val v) (hvg:∀ j b u,val v≠.gd j b u) (h:r ⟨σ.fr,(km,.map (mpS key val (Uh c k v L)) (Zcm c k L)) :: σ.hp,σ.n,σ.N,σ.gs⟩ K) :
 RAW P none (bif ins then .insert t mx ix vx else .mapUpdate t mx ix vx) ty σ r K:=ZmS hm hh ht hK hi hv hvg (fun _ _ _ _ _ h=>h) h
theorem ZvD (hm:Zbv σ mx = .mp km) (hh:lkh km σ.hp = .map (mpS key val L) c) (ht:P.underlying t=some (.map kt et)) (hK:KeyT P kt key sv) (hi:Zbv σ ix=sv k) {ats:Array TypeId} (ha:ats[0]? = some t)
 (h:r ⟨σ.fr,(km,.map (mpS key val (Ux k L)) c) :: σ.hp,σ.n,σ.N,σ.gs⟩ K) :
 RAW P none (.call { callee:=.builtin .delete,args:=#[mx,ix],argTypes:=ats }) ty σ r K:=by
 intro o C E a w next Q e1 e2 e3 hS hn hq
 have hmv:=V0 hS hm (fun _ _ _=>by simp)
 have hiv:=(hK.svR k _).1 (V0 hS hi (Zkc hK k))
 simp only [R] at hmv
 obtain ⟨g0,ys,g1,g2⟩:=Zav hS hh
 have hfn:=fun w=>hK.fnd k _ _ w (Zbp g2)
 have hex:∀ w',(Builtin.delete_ ats ty #[a.eval mx,a.eval ix]).run P w = .ok (.tuple #[]) w'->(execOp a.eval o).run P w = .ok (.value (.tuple #[])) w':=fun w' hy=>by
  obtain ⟨dst',op',ty',pos,after,guard⟩:=o
  simp only at e2 e3;subst e2;subst e3
  simp [execOp,resolve,invoke,builtin,hy]
 have hfin:∀ ys':Array MapEntry,(∀ {w':World} {ok':Nat->Prop},RM w' E (ltn σ.n) ok' (mpS key val L) ys.toList->RM w' E (ltn σ.n) ok' (mpS key val (Ux k L)) ys'.toList) ->
  next (a.put o.dst (.tuple #[])) (Uj w (E.β km) (.map ys' c)):=fun ys' hRM=>by
  obtain ⟨q1,q2⟩:=W4 (k:=km) (hb:=.map (mpS key val (Ux k L)) c) (o:=.map ys' c) hS.hs (fun b=>by rw [hh];simp only [occ]) (fun b=>by simp only [occ]) (fun hlt hst=>by
   simp only [Yc]
   exact ⟨ys',X7 hlt,hRM (Za4 hst.c (fun _ _=>Ele.rfl) (fun _ h=>h) _ _ g2)⟩)
  rw [e1]
  exact hn _ E _ _ h (YE hS q2 (fun _ _=>Ele.rfl) (Nat.le_refl _) q1)
 rcases Zci (w:=w) (E:=E) (n:=ltn σ.n) (ok:=okS C E σ.hp) k L ys.toList 0 g2 with ⟨a1,a2,a3,-⟩ | ⟨j,v0,e,b1,b2,b3,b4,b5,b6⟩
 . have hrun:(Builtin.delete_ ats ty #[a.eval mx,a.eval ix]).run P w = .ok (.tuple #[]) (Uj w (E.β km) (.map ys c)):=by
    rw [hmv.2,hiv]
    simp [Builtin.delete_,Sem.run_bind,ha,run_underlying ht,Result.andThen_ok,Yq g1 rfl,Sem.run_pure,hK.chk,hfn,a2,Y2 _ g1 rfl]
   refine ZE (hex _ hrun) (by simp) ?_
   show next (a.put o.dst _) _
   exact hfin _ fun h1=>by rw [a3];exact h1
 . rw [Nat.zero_add] at b2
   have hlt:j < ys.size:=by
    have:ys[j]? = some e:=by simpa using b3
    exact (Array.getElem?_eq_some_iff.1 this).1
   have hrun:(Builtin.delete_ ats ty #[a.eval mx,a.eval ix]).run P w = .ok (.tuple #[]) (Uj w (E.β km) (.map (ys.eraseIdxIfInBounds j) c)):=by
    rw [hmv.2,hiv]
    simp [Builtin.delete_,Sem.run_bind,ha,run_underlying ht,Result.andThen_ok,Yq g1 rfl,Sem.run_pure,hK.chk,hfn,b2,Y2 _ g1 rfl]
   refine ZE (hex _ hrun) (by simp) ?_
   show next (a.put o.dst _) _
   exact hfin _ fun {w' ok'} h1=>by
    have:(ys.eraseIdxIfInBounds j).toList=ys.toList.eraseIdx j:=by simp [Array.eraseIdxIfInBounds,hlt]
    rw [this];exact (b6 h1).1
theorem ZnC {es:List (Nat × Value × SV)} (hm:Zbv σ mx = .mp km) (hh:lkh km σ.hp = .map es c) (ht:P.underlying t=some (.map kt et)) {ats:Array TypeId} (ha:ats[0]? = some t)
 (h:YA d (.v (.int .i64 es.length)) none σ r K):RAW P d (.call { callee:=.builtin .len,args:=#[mx],argTypes:=ats }) ty σ r K:=by
 intro o C E a w next Q e1 e2 e3 hS hn hq
 have hmv:=V0 hS hm (fun _ _ _=>by simp)
 simp only [R] at hmv
 obtain ⟨g0,ys,g1,g2⟩:=Zav hS hh
 have hl:=Zsc g2
 have hrun:(Builtin.len_ ats ty #[a.eval mx]).run P w = .ok (.int .i64 es.length) w:=by
  rw [hmv.2]
  simp [Builtin.len_,Sem.run_bind,ha,run_underlying ht,Result.andThen_ok,Yq g1 rfl,Sem.run_pure,goInt,<- hl]
 have hx:(execOp a.eval o).run P w = .ok (.value (.int .i64 es.length)) w:=by
  obtain ⟨dst',op',ty',pos,after,guard⟩:=o
  simp only at e2 e3;subst e2;subst e3
  simp [execOp,resolve,invoke,builtin,hrun]
 refine ZE hx (by simp) ?_
 show next (a.put o.dst _) _
 rw [e1]
 exact Vf h hS (by simp only [R]) hn
theorem ZkC {u:Nat} {es:List (Nat × Value × SV)} (hm:Zbv σ mx = .mp km) (hh:lkh km σ.hp = .map es c) (ht:P.underlying t=some (.map kt et)) (h1:Xv u σ.gs=false) (h2:Nat.blt u σ.N=true)
 (h:r ⟨(u,.p σ.n 0) :: σ.fr,(σ.n,.it km c [] c) :: σ.hp,σ.n+1,σ.N,σ.gs⟩ K):RAW P (some u) (.range t mx) ty σ r K:=by
 intro o C E a w next Q e1 e2 e3 hS hn hq
 have hmv:=V0 hS hm (fun _ _ _=>by simp)
 simp only [R] at hmv
 obtain ⟨g0,ys,g1,g2⟩:=Zav hS hh
 obtain ⟨E',k1,k2,k3,k4⟩:=Zd5 (q:=σ.n) (hb:=.it km c [] c) (o:=.mapIter (some (E.β km)) c #[] c) hS.hs (by simp [ltn]) (fun E b=>by simp only [occ]) (fun E' q1 q2=>by
  simp only [Yc,q2];exact ⟨.inl g0,by rw [(q1 km g0).1];exact heap_alloc_new _ _⟩)
 have hV:(fun k=>ltn σ.n k\/k = σ.n)=ltn (σ.n+1):=by funext k;simp only [ltn,eq_iff_iff];omega
 rw [hV] at k3
 have hx:(execOp a.eval o).run P w = .ok (.value (.pointer (some ⟨w.heap.size,0,none⟩))) (w.alloc (.mapIter (some (E.β km)) c #[] c)):=by
  obtain ⟨dst',op',ty',pos,after,guard⟩:=o
  simp only at e2;subst e2
  simp only [execOp,hmv.2]
  simp [Sem.run_bind,Instr.range,run_underlying ht,Yq g1 rfl,Zdq,Sem.run_pure]
 refine ZE hx (by simp) ?_
 show next (a.put o.dst _) _
 rw [e1]
 refine hn _ E' _ _ h (XX hS k4 k1 (by omega) k3 (fun hh=>?_) (by simpa [Nat.blt_eq] using h2) (fun _ _ _ e=>by cases e) ?_)
 . rw [ZZ.2 hh] at h1;cases h1
 . simp only [R,k2];exact ⟨by simp [ltn],trivial⟩
theorem Zkz (w:World) (ty:TypeId) (rr bm since last:Nat) (seen:Array Nat) (es:Array MapEntry) (clock:Nat)
 (hr:w.heap[rr]? = some (.mapIter (some bm) since seen last)) (hb:w.heap[bm]? = some (.map es clock)) (hold:∀ x ∈ es.toList,x.born < since) (hsc:since<=last) :
 ((∀ x ∈ es.toList,seen.contains x.born=true)/\(Instr.next (.pointer (some ⟨rr,0,none⟩)) false ty).run P w = .ok (.tuple #[.bool false]) w) \/
 ∃ e ∈ es.toList,seen.contains e.born=false/\∃ k,(Instr.next (.pointer (some ⟨rr,0,none⟩)) false ty).run P w = .ok (.tuple #[.bool true,e.key,e.val]) (Uj { w with drawn:=k } rr (.mapIter (some bm) since (seen.push e.born) clock)):=by
 have htest:(!seen.isEmpty && !es.isEmpty && es.all (fun x=>decide (x.born ≥ last)))=false:=by
  rw [Bool.eq_false_iff]
  intro hh
  simp only [Bool.and_eq_true,Bool.not_eq_true'] at hh
  obtain ⟨⟨-,h2⟩,h3⟩:=hh
  have h0:0 < es.size:=by
   rcases Nat.eq_zero_or_pos es.size with h0 | h0
   . simp [Array.isEmpty,h0] at h2
   . exact h0
  rw [Array.all_eq_true_iff_forall_mem] at h3
  have h4:=h3 _ (Array.getElem_mem h0)
  have h5:=hold es[0] (by simp)
  simp at h4;omega
 have hL:(Array.filter (fun e=>!seen.contains e.born) es).filter (fun x=>decide (x.born < since))=Array.filter (fun e=>!seen.contains e.born) es :=
  Array.filter_eq_self.2 fun x hx=>by
   simp only [Array.mem_filter] at hx;simpa using hold x (by simpa using hx.1)
 have hL2:(Array.filter (fun e=>!seen.contains e.born) es).filter (fun x=>decide (x.born ≥ since)) = #[]:=by
  rw [Array.filter_eq_empty_iff]
  intro x hx
  simp only [Array.mem_filter] at hx
  have:=hold x (by simpa using hx.1)
  simp;omega
 simp only [Instr.next,Sem.run_bind,Yq hr rfl,Yq hb rfl,Result.andThen_ok,htest,Bool.false_eq_true,if_false,hL,hL2,Array.append_empty]
 have hmem:∀ x,x ∈ Array.filter (fun e=>!seen.contains e.born) es↔x ∈ es.toList/\seen.contains x.born=false:=fun x=>by
  simp [Array.mem_filter]
 generalize hF:Array.filter (fun e=>!seen.contains e.born) es=F at hmem ⊢
 by_cases h0:F.size=0
 . left
   have hE:F = #[]:=Array.eq_empty_of_size_eq_zero h0
   subst hE
   refine ⟨fun x hx=>?_,?_⟩
   . cases hc:seen.contains x.born with
     | true=>rfl
     | false=>have:=(hmem x).2 ⟨hx,hc⟩;simp at this
   . simp [choose,Sem.run,Question.forced]
 . right
   have hne:F.isEmpty=false:=by simp [Array.isEmpty,h0]
   simp only [hne,Bool.false_eq_true,if_false,Array.empty_append,Array.size_map]
   have hch:∃ (j:Nat) (k:Nat),j < F.size/\(choose (Question.mapNext F.size)).run P w = .ok j { w with drawn:=k }:=by
    by_cases hf:F.size<=1
    . exact ⟨0,w.drawn,by omega,by simp [choose,Sem.run,Question.forced,hf]⟩
    . exact ⟨_,w.drawn+1,Nat.mod_lt _ (by omega),by
       simp only [choose,Sem.run,Question.forced,decide_eq_true_eq,hf,if_false,Question.cut]
       rfl⟩
   obtain ⟨j,k,hj,hrun⟩:=hch
   have hm:=(hmem F[j]).1 (Array.getElem_mem hj)
   refine ⟨F[j],hm.1,hm.2,k,?_⟩
   have hr1:({ w with drawn:=k }:World).heap[rr]? = some (.mapIter (some bm) since seen last):=hr
   simp only [hrun,Array.getElem?_map,Array.getElem?_eq_getElem hj,Option.map_some,Sem.run_bind,Result.andThen_ok,Y2 _ hr1 rfl,Sem.run_pure]
theorem Zon {q since last:Nat} {seen:List Nat} (hm:Zbv σ mx = .p q 0) (hq:lkh q σ.hp = .it km since seen last) (hh:lkh km σ.hp = .map (mpS key val L) c) (hold:∀ e ∈ L,e.1 < since) (hsc:since<=last) (hK:KeyT P kt key sv)
 (h0:(∀ e ∈ L,e.1 ∈ seen)->YA d (.tup [.v (.bool false)]) none σ r K)
 (h1:∀ e ∈ L,e.1 ∉ seen->YA d (.tup [.v (.bool true),sv e.2.1,val e.2.2]) none ⟨σ.fr,(q,.it km since (seen ++ [e.1]) c) :: σ.hp,σ.n,σ.N,σ.gs⟩ r K) :
 RAW P d (.next mx false) ty σ r K:=by
 intro o C E a w next Q e1 e2 e3 hS hn _
 have hmv:=V0 hS hm (fun _ _ _=>by simp)
 simp only [R] at hmv
 obtain ⟨g0,ys,g1,g2⟩:=Zav hS hh
 have hb:=hS.hs.bk q
 rw [hq] at hb
 obtain ⟨-,hit⟩:=hb
 have hex:∀ y w',(Instr.next (a.eval mx) false ty).run P w = .ok y w'->(execOp a.eval o).run P w = .ok (.value y) w':=fun y w' hy=>by
  obtain ⟨dst',op',ty',pos,after,guard⟩:=o
  simp only at e2 e3;subst e2;subst e3
  simp only [execOp,Sem.run_bind,hy,Result.andThen_ok,Sem.run_pure]
 rw [hmv.2] at hex
 rcases Zkz (P:=P) w ty (E.β q) (E.β km) since last seen.toArray ys c hit g1 (fun x hx=>by
  obtain ⟨z,hz,z1,z2,z3⟩:=Zlr g2 x hx
  obtain ⟨e,he,rfl⟩:=List.mem_map.1 hz
  rw [z1];exact hold e he) hsc with ⟨k1,k2⟩ | ⟨e,k1,k2,k,k3⟩
 . refine ZE (hex _ _ k2) (by simp) ?_
   show next (a.put o.dst _) _
   rw [e1]
   refine Vf (h0 fun e he=>?_) hS (by simp only [R,RL];exact ⟨_,rfl,_,_,rfl,rfl,rfl⟩) hn
   obtain ⟨y,hy,hyb⟩:=Zjj g2 (e.1,key e.2.1,val e.2.2) (List.mem_map.2 ⟨e,he,rfl⟩)
   have:=k1 y hy
   rw [hyb] at this
   simpa using this
 . refine ZE (hex _ _ k3) (by simp) ?_
   show next (a.put o.dst _) _
   obtain ⟨z,hz,z1,z2,z3⟩:=Zlr g2 e k1
   obtain ⟨x,hx,rfl⟩:=List.mem_map.1 hz
   simp only at z1 z2 z3
   have hS':=Zd2 hS k
   have hqn:ltn σ.n q:=by
    rcases Classical.em (ltn σ.n q) with h | h
    . exact h
    . rw [hS.hs.kn q h] at hq;cases hq
   obtain ⟨q1,q2⟩:=W4 (k:=q) (hb:=.it km since (seen ++ [x.1]) c) (o:=.mapIter (some (E.β km)) since (seen.toArray.push e.born) c) hS'.hs (fun b=>by rw [hq];simp only [occ]) (fun b=>by simp only [occ]) (fun hlt hst=>by
    simp only [Yc]
    refine ⟨g0,?_⟩
    rw [z1]
    have:(seen ++ [x.1]).toArray=seen.toArray.push x.1:=by simp
    rw [this]
    exact X7 hlt)
   rw [e1]
   refine ZsH (h1 x hx (by rw [z1] at k2;simpa using k2)) hS' q2 (fun _ _=>Ele.rfl) (Nat.le_refl _) q1 ?_ hn
   simp only [R,RL]
   have e4:=(hK.svR (w:=Uj { w with drawn:=k } (E.β q) (.mapIter (some (E.β km)) since (seen.toArray.push e.born) c)) (E:=E) (n:=ltn σ.n) (ok:=okS C E ((q,.it km since (seen ++ [x.1]) c) :: σ.hp)) x.2.1 e.key).2 z2
   have z4:R { w with drawn:=k } E (ltn σ.n) (okS C E σ.hp) (val x.2.2) e.val:=ZS (w:=w) (w':={ w with drawn:=k }) (ok:=okS C E σ.hp) (fun b hb _=>⟨hb,rfl⟩) (fun _ _=>Ele.rfl) (fun _ h=>h) _ _ z3
   exact ⟨_,rfl,_,_,rfl,rfl,_,_,rfl,e4,_,_,rfl,ZS q2.c (fun _ _=>Ele.rfl) (fun _ h=>h) _ _ z4,rfl⟩
theorem Zlg {q since:Nat} {seen:List Nat} {e:Nat × K' × V} (hm:Zbv σ mx = .p q 0) (hq:lkh q σ.hp = .it km since (seen ++ [e.1]) c) (hh:lkh km σ.hp = .map (mpS key val L) c) (he:e ∈ L) (hn:(L.map (·.1)).Nodup) (hK:KeyT P kt key sv)
 (hk:YA d (.tup [sv e.2.1,val e.2.2]) none σ r K):RAW P d (.entry mx) ty σ r K:=by
 intro o C E a w next Q e1 e2 e3 hS hnx _
 have hmv:=V0 hS hm (fun _ _ _=>by simp)
 simp only [R] at hmv
 obtain ⟨g0,ys,g1,g2⟩:=Zav hS hh
 have hb:=hS.hs.bk q
 rw [hq] at hb
 obtain ⟨-,hit⟩:=hb
 have hfind:∀ (L:List (Nat × K' × V)) (ys:List MapEntry),RM w E (ltn σ.n) (okS C E σ.hp) (mpS key val L) ys->e ∈ L->(L.map (·.1)).Nodup->∃ y,ys.find? (·.born == e.1)=some y/\y.key=key e.2.1/\R w E (ltn σ.n) (okS C E σ.hp) (val e.2.2) y.val:=by
  intro L
  induction L with
  | nil=>intro ys _ he;cases he
  | cons x l ih =>
   intro ys h he hn
   simp only [mpS,List.map_cons,RM] at h
   obtain ⟨y,r,rfl,h1,h2⟩:=h
   simp only [List.map_cons,List.nodup_cons] at hn
   rcases List.mem_cons.1 he with rfl | he
   . exact ⟨⟨key e.2.1,y,e.1⟩,by simp,rfl,h1⟩
   . obtain ⟨y',q1,q2⟩:=ih r h2 he hn.2
     refine ⟨y',?_,q2⟩
     have:x.1≠e.1:=fun hx=>hn.1 (hx ▸ List.mem_map.2 ⟨e,he,rfl⟩)
     simp [this,q1]
 obtain ⟨y,f1,f2,f3⟩:=hfind L ys.toList g2 he hn
 have f1':ys.find? (·.born == e.1)=some y:=by rw [<- Array.find?_toList];exact f1
 have hrun:(Instr.entry (.pointer (some ⟨E.β q,0,none⟩))).run P w = .ok (.tuple #[y.key,y.val]) w:=by
  have:(seen ++ [e.1]).toArray.back? = some e.1:=by simp
  simp only [Instr.entry,Sem.run_bind,Yq hit rfl,Yq g1 rfl,Result.andThen_ok,this,bne_self_eq_false,Bool.false_eq_true,if_false,f1',Sem.run_pure]
 have hx:(execOp a.eval o).run P w = .ok (.value (.tuple #[y.key,y.val])) w:=by
  obtain ⟨dst',op',ty',pos,after,guard⟩:=o
  simp only at e2;subst e2
  simp only [execOp,Sem.run_bind,hmv.2,hrun,Result.andThen_ok,Sem.run_pure]
 refine ZE hx (by simp) ?_
 show next (a.put o.dst _) _
 rw [e1]
 refine Vf hk hS ?_ hnx
 simp only [R,RL]
 exact ⟨_,rfl,_,_,rfl,(hK.svR _ _).2 f2,_,_,rfl,f3,rfl⟩
end
section
variable {K V:Type} [DecidableEq K] {k k':K} {v:V} {c:Nat} {L:List (Nat × K × V)}
structure MW (L:List (Nat × K × V)) (c:Nat):Prop where
 bn:(L.map (·.1)).Nodup
 bl:∀ e ∈ L,e.1 < c
 kn:(L.map (·.2.1)).Nodup
omit [DecidableEq K] in
theorem MW.nil {c:Nat}:MW ([]:List (Nat × K × V)) c:=⟨List.nodup_nil,(fun e h=>by cases h),List.nodup_nil⟩
theorem Zgb:∀ {L:List (Nat × K × V)},XG k L=some v->∃ b,(b,k,v) ∈ L
 | [],h=>by cases h
 | e :: l,h=>by
  simp only [XG] at h
  split at h
  . rename_i hk;cases h;subst hk;exact ⟨e.1,by simp⟩
  . obtain ⟨b,hb⟩:=Zgb h;exact ⟨b,by simp [hb]⟩
theorem XE:∀ {L:List (Nat × K × V)},XG k L=none↔∀ e ∈ L,e.2.1≠k
 | []=>by simp [XG]
 | e :: l=>by
  simp only [XG]
  split
  . rename_i hk;simp [hk]
  . rename_i hk;rw [XE];simp [hk]
theorem Zkb:∀ {L:List (Nat × K × V)} {e:Nat × K × V},(L.map (·.2.1)).Nodup->e ∈ L->XG e.2.1 L=some e.2.2
 | x :: l,e,hn,he=>by
  simp only [List.map_cons,List.nodup_cons] at hn
  simp only [XG]
  rcases List.mem_cons.1 he with rfl | he
  . simp
  . rw [if_neg (fun hx:x.2.1=e.2.1=>hn.1 (by rw [hx];exact List.mem_map.2 ⟨e,he,rfl⟩))]
    exact Zkb hn.2 he
theorem UI:∀ {L:List (Nat × K × V)},XG k' (Uh c k v L)=if k'=k then some v else XG k' L
 | []=>by simp only [Uh,XG];by_cases h:k=k'<;>simp [h,eq_comm]
 | e :: l=>by
  simp only [Uh]
  by_cases he:e.2.1=k
  . rw [if_pos he]
    simp only [XG]
    by_cases hk:k=k'
    . subst hk;simp
    . rw [if_neg hk,if_neg (fun h=>hk h.symm),if_neg (fun h=>hk (he.symm.trans h))]
  . rw [if_neg he]
    simp only [XG]
    by_cases hk:e.2.1=k'
    . rw [if_pos hk,if_neg (fun h=>he (hk.trans h)),if_pos hk]
    . rw [if_neg hk,if_neg hk,UI]
theorem ZaJ:∀ {L:List (Nat × K × V)},XG k L=none->Uh c k v L=L ++ [(c,k,v)]
 | [],_=>rfl
 | e :: l,h=>by
  simp only [XG] at h
  split at h
  . cases h
  . rename_i he;simp only [Uh,if_neg he,ZaJ h,List.cons_append]
theorem ZgD:∀ {L:List (Nat × K × V)},(XG k L).isSome->(Uh c k v L).map (fun e=>(e.1,e.2.1))=L.map fun e=>(e.1,e.2.1)
 | [],h=>by simp [XG] at h
 | e :: l,h=>by
  simp only [XG] at h
  simp only [Uh]
  split
  . rename_i he;simp [he]
  . rename_i he;rw [if_neg he] at h;simp [ZgD h]
theorem MW.set (h:MW L c) (v:V):MW (Uh c k v L) (Zcm c k L):=by
 cases hg:XG k L with
 | none =>
  have hc:Zcm c k L=c+1:=by simp [Zcm,hg]
  rw [ZaJ hg,hc]
  have hk:=XE.1 hg
  refine ⟨?_,fun e he=>?_,?_⟩
  . rw [List.map_append,List.nodup_append]
    refine ⟨h.bn,by simp,fun a ha b hb=>?_⟩
    obtain ⟨e,he,rfl⟩:=List.mem_map.1 ha
    simp only [List.map_cons,List.map_nil,List.mem_singleton] at hb
    have:=h.bl e he;omega
  . rcases List.mem_append.1 he with he | he
    . have:=h.bl e he;omega
    . simp only [List.mem_singleton] at he;subst he;simp
  . rw [List.map_append,List.nodup_append]
    refine ⟨h.kn,by simp,fun a ha b hb=>?_⟩
    obtain ⟨e,he,rfl⟩:=List.mem_map.1 ha
    simp only [List.map_cons,List.map_nil,List.mem_singleton] at hb
    rw [hb];exact hk e he
 | some v0 =>
  have hc:Zcm c k L=c:=by simp [Zcm,hg]
  have hm:=ZgD (c:=c) (v:=v) (k:=k) (L:=L) (by rw [hg];rfl)
  have e1:(Uh c k v L).map (·.1)=L.map (·.1):=by
   have:=congrArg (List.map Prod.fst) hm;simpa [List.map_map,Function.comp_def] using this
  have e2:(Uh c k v L).map (·.2.1)=L.map (·.2.1):=by
   have:=congrArg (List.map Prod.snd) hm;simpa [List.map_map,Function.comp_def] using this
  rw [hc]
  refine ⟨by rw [e1];exact h.bn,fun e he=>?_,by rw [e2];exact h.kn⟩
  have:e.1 ∈ L.map (·.1):=by rw [<- e1];exact List.mem_map.2 ⟨e,he,rfl⟩
  obtain ⟨x,hx,hxe⟩:=List.mem_map.1 this
  rw [<- hxe];exact h.bl x hx
theorem UQ:∀ {L:List (Nat × K × V)},(Ux k L).Sublist L
 | []=>.slnil
 | e :: l=>by
  simp only [Ux]
  split
  . exact List.sublist_cons_self _ _
  . exact UQ.cons_cons _
theorem MW.del (h:MW L c):MW (Ux k L) c:=⟨(UQ.map _).nodup h.bn,fun e he=>h.bl e (UQ.subset he),(UQ.map _).nodup h.kn⟩
theorem Zf0:∀ {L:List (Nat × K × V)},(L.map (·.2.1)).Nodup->XG k' (Ux k L)=if k'=k then none else XG k' L
 | [],_=>by simp [Ux,XG]
 | e :: l,hn=>by
  simp only [List.map_cons,List.nodup_cons] at hn
  simp only [Ux]
  by_cases he:e.2.1=k
  . rw [if_pos he]
    by_cases hk:k'=k
    . rw [if_pos hk,XE]
      intro x hx hxe
      exact hn.1 (by rw [he,<- hk,<- hxe];exact List.mem_map.2 ⟨x,hx,rfl⟩)
    . rw [if_neg hk];simp only [XG];rw [if_neg (fun h=>hk (h.symm.trans he))]
  . rw [if_neg he]
    simp only [XG]
    by_cases hk:e.2.1=k'
    . rw [if_pos hk,if_pos hk,if_neg (fun h=>he (hk.trans h))]
    . rw [if_neg hk,if_neg hk,Zf0 hn.2]
theorem Zgg:∀ {L:List (Nat × K × V)},(XG k L).isSome->(Ux k L).length+1=L.length
 | [],h=>by simp [XG] at h
 | e :: l,h=>by
  simp only [XG] at h
  simp only [Ux]
  split
  . simp
  . rename_i he;rw [if_neg he] at h;simp [Zgg h]
omit [DecidableEq K] in
theorem Zs {key:K->Value} {val:V->SV}:(∀ e ∈ mpS key val L,KF e.2.2)↔∀ v ∈ L.map (·.2.2),KF (val v):=by
 simp only [mpS,List.mem_map]
 exact ⟨fun h v ⟨e,he,hv⟩=>hv ▸ h _ ⟨e,he,rfl⟩,fun h _ ⟨e,he,hx⟩=>hx ▸ h _ ⟨e,he,rfl⟩⟩
omit [DecidableEq K] in
theorem Zn {key:K->Value} {val:V->SV}:(∀ (a:Nat) (b:Value) (c:SV),(a,b,c) ∈ mpS key val L->KF c)↔∀ v ∈ L.map (·.2.2),KF (val v):=by
 rw [<- Zs (key:=key)]
 exact ⟨fun h e he=>h e.1 e.2.1 e.2.2 he,fun h a b c he=>h _ he⟩
omit [DecidableEq K] in
def ZqR (L:List (Nat × K × V)) (seen:List Nat):Nat:=(L.filter fun e=>!seen.contains e.1).length
omit [DecidableEq K] in
theorem Zrx {e:Nat × K × V} {seen:List Nat} (he:e ∈ L) (hs:e.1 ∉ seen):ZqR L (seen ++ [e.1]) < ZqR L seen:=by
 unfold ZqR
 have hsub:(L.filter fun x=>!(seen ++ [e.1]).contains x.1)=(L.filter fun x=>!seen.contains x.1).filter fun x=>!(x.1 == e.1):=by
  rw [List.filter_filter]
  congr 1;funext x
  simp only [List.contains_append,Bool.not_or]
  rw [Bool.and_comm]
  congr 1
  simp only [List.contains_cons,List.contains_nil,Bool.or_false]
 rw [hsub]
 refine Nat.lt_of_le_of_ne (List.length_filter_le _ _) fun h=>?_
 have:=List.length_filter_eq_length_iff.1 h e (by simp [he,hs])
 simp at this
end
end Go.Sx
namespace Go.Azalai
open Go.Sx
def dv (d:List Int) (v:Int):Int:=if 0<=v then d.getD v.toNat 100001 else 100001
theorem WO {d:List Int} {i:Nat} (h:i < d.length):dv d i=d[i]:=by simp [dv,h]
theorem ZyQ {d:List Int} {v:Int} (h:¬ (0<=v/\v < d.length)):dv d v=100001:=by
 unfold dv
 split
 . have:¬ v.toNat < d.length:=by omega
   simp [List.getD_eq_getElem?_getD,List.getElem?_eq_none (Nat.le_of_not_lt this)]
 . rfl
theorem WR {d:List Int} {i:Nat} {x v:Int} (h:i < d.length):dv (d.set i x) v=if v=i then x else dv d v:=by
 unfold dv
 by_cases hv:0<=v
 . rw [if_pos hv,if_pos hv]
   by_cases he:v=i
   . subst he;simp [h]
   . rw [if_neg he]
     have:i≠v.toNat:=by omega
     simp [List.getD_eq_getElem?_getD,this]
 . rw [if_neg hv,if_neg hv,if_neg (by omega)]
structure Gone (k:Bool) (l:Land) (p:Span) (s day:Int) (d:List Int):Prop where
 len:d.length=l.wells.length
 ub:∀ v,dv d v<=100001
 real:∀ v,dv d v=100001\/∃ a,goW k l p s day a=some (v,dv d v)
 st:dv d s<=day
theorem Gone.lb {k:Bool} {l:Land} {p:Span} {s day:Int} {d:List Int} (h:Gone k l p s day d) (hg:OkLP l p) (hd:0<=day) (hd':day<=100000) (h0:0<=s) (h1:s < l.wells.length) (v:Int):day<=dv d v:=by
 rcases h.real v with e | ⟨a,e⟩
 . omega
 . have:=V9 hg e hd' h0 h1;omega
theorem Gone.relax {k:Bool} {l:Land} {p:Span} {s day:Int} {d:List Int} (h:Gone k l p s day d) (hg:OkLP l p) {i:Nat} {x:Leg} (hx:l.legs[i]? = some x) {v:Int} {w:Nat} (hw:Zk x v=w) (hd:0<=day) (hd':day<=100000) (h0:0<=s) (h1:s < l.wells.length) :
 Gone k l p s day (d.set w (min (dv d w) (ZK k x p (dv d v))))/\w < d.length:=by
 have hwl:=(ZW hg hx (v:=v) (by omega)).1
 have hwd:w < d.length:=by rw [h.len];omega
 refine ⟨⟨by simp [h.len],fun u=>?_,fun u=>?_,?_⟩,hwd⟩
 . rw [WR hwd];split
   . have:=h.ub w;omega
   . exact h.ub u
 . rw [WR hwd];split
   . rename_i hu
     by_cases hr:ZK k x p (dv d v) > 100000
     . have:=h.ub w
       have hb:=Xu (k:=k) (hg.leg hx) hg.pace (h.ub v)
       rw [show min (dv d w) (ZK k x p (dv d v))=dv d w by omega,hu]
       exact h.real w
     . by_cases hm:dv d w<=ZK k x p (dv d v)
       . rw [Int.min_eq_left hm,hu];exact h.real w
       . rw [Int.min_eq_right (by omega),hu]
         have hb:=Xu (k:=k) (hg.leg hx) hg.pace (h.ub v)
         rcases h.real v with e | ⟨a,e⟩
         . omega
         . refine .inr ⟨a ++ [i],?_⟩
           have:=ZaX e hx (by omega) hr
           rw [hw] at this;exact this
   . exact h.real u
 . rw [WR hwd];split
   . rename_i hs;have:=h.st;rw [hs] at this;omega
   . exact h.st
structure Dij (k:Bool) (l:Land) (p:Span) (s day:Int) (d:List Int) (left:Int->Prop):Prop where
 g:Gone k l p s day d
 cl:∀ x ∈ l.legs,∀ v:Int,0<=v->v < l.wells.length->¬ left v->0<=Zk x v->dv d (Zk x v)<=ZK k x p (dv d v)
 or:∀ u v:Int,0<=u->u < l.wells.length->¬ left u->0<=v->v < l.wells.length->left v->dv d u<=dv d v
theorem Dij.done {k:Bool} {l:Land} {p:Span} {s day:Int} {d:List Int} {left:Int->Prop} (h:Dij k l p s day d left) (hg:OkLP l p) (he:∀ v,¬ left v) (hd:0<=day) (hd':day<=100000) (h0:0<=s) (h1:s < l.wells.length):d=Wo k l p s day:=by
 have hc:Zms k l p (dv d):=fun x hx=>by
  have hen:=hg.ends hx
  have q1:=h.cl x hx x.a hen.1.1 hen.1.2 (he _) (by simp [Zk];omega)
  have q2:=h.cl x hx x.b hen.2.1.1 hen.2.1.2 (he _) (by simp [Zk,hen.2.2];omega)
  simp only [Zk,if_true] at q1
  simp only [Zk,if_neg hen.2.2,if_true] at q2
  exact ⟨q1,q2⟩
 have heq:=ZaI (k:=k) hg hd hd' h0 h1 h.g.st hc h.g.ub h.g.real
 refine List.ext_getElem (by simp [Wo,h.g.len]) fun i hi hi'=>?_
 simp only [Wo,List.getElem_map,List.getElem_range]
 rw [<- heq,WO hi]
structure Rnd (k:Bool) (l:Land) (p:Span) (s day:Int) (d0 d:List Int) (near:Int) (j:Nat):Prop where
 g:Gone k l p s day d
 le:∀ v,dv d v<=dv d0 v
 ch:∀ v,dv d v=dv d0 v\/dv d0 near<=dv d v
 nr:dv d near=dv d0 near
 cl:∀ i x,i < j->l.legs[i]? = some x->0<=Zk x near->dv d (Zk x near)<=ZK k x p (dv d0 near)
theorem Rnd.start {k:Bool} {l:Land} {p:Span} {s day:Int} {d:List Int} {near:Int} (h:Gone k l p s day d):Rnd k l p s day d d near 0 :=
 ⟨h,fun _=>Int.le_refl _,fun _=>.inl rfl,rfl,fun i x hi=>by omega⟩
theorem Rnd.skip {k:Bool} {l:Land} {p:Span} {s day:Int} {d0 d:List Int} {near:Int} {j:Nat} (h:Rnd k l p s day d0 d near j) {x:Leg} (hx:l.legs[j]? = some x) (ho:Zk x near < 0):Rnd k l p s day d0 d near (j+1) :=
 ⟨h.g,h.le,h.ch,h.nr,fun i y hi hy h0=>by
  by_cases he:i=j
  . subst he;rw [hx] at hy;cases hy;omega
  . exact h.cl i y (by omega) hy h0⟩
theorem Rnd.step {k:Bool} {l:Land} {p:Span} {s day:Int} {d0 d:List Int} {near:Int} {j:Nat} (h:Rnd k l p s day d0 d near j) (hg:OkLP l p) {x:Leg} (hx:l.legs[j]? = some x) {w:Nat} (hw:Zk x near=w) (hd:0<=day) (hd':day<=100000) (h0:0<=s) (h1:s < l.wells.length) :
 Rnd k l p s day d0 (d.set w (min (dv d w) (ZK k x p (dv d near)))) near (j+1):=by
 obtain ⟨q1,q2⟩:=h.g.relax hg hx hw hd hd' h0 h1
 have hge:=Vs (k:=k) (hg.leg hx) hg.pace (h.g.ub near)
 have hwn:(w:Int)≠near:=fun e=>by
  have:=hg.ends (List.mem_of_getElem? hx)
  unfold Zk at hw
  split at hw
  . omega
  . split at hw
    . omega
    . omega
 rw [h.nr] at hge
 refine ⟨q1,fun v=>?_,fun v=>?_,?_,fun i y hi hy ho=>?_⟩
 . rw [WR q2];split
   . rename_i hv;have:=h.le w;rw [hv];omega
   . exact h.le v
 . rw [WR q2];split
   . rename_i hv;rw [hv,h.nr]
     have:=h.ch w
     have:=h.le w
     omega
   . exact h.ch v
 . rw [WR q2,if_neg (fun e=>hwn e.symm)];exact h.nr
 . rw [WR q2]
   by_cases he:i=j
   . subst he;rw [hx] at hy;cases hy;rw [if_pos hw,h.nr];omega
   . have:=h.cl i y (by omega) hy ho
     split
     . rename_i hv;rw [hv] at this;omega
     . exact this
theorem Rnd.finish {k:Bool} {l:Land} {p:Span} {s day:Int} {d0 d:List Int} {near:Int} {left left':Int->Prop} (hD:Dij k l p s day d0 left) (h:Rnd k l p s day d0 d near l.legs.length) (hn:left near) (hn0:0<=near) (hn1:near < l.wells.length)
 (hmin:∀ v:Int,0<=v->v < l.wells.length->left v->dv d0 near<=dv d0 v) (hl:∀ v,left' v↔left v/\v≠near) (hg:OkLP l p):Dij k l p s day d left':=by
 have keep:∀ u:Int,0<=u->u < l.wells.length->¬ left' u->dv d u=dv d0 u:=fun u q1 q2 q3=>by
  by_cases he:u=near
  . rw [he];exact h.nr
  . have hnl:¬ left u:=fun hh=>q3 ((hl u).2 ⟨hh,he⟩)
    have:=hD.or u near q1 q2 hnl hn0 hn1 hn
    have:=h.ch u
    have:=h.le u
    omega
 refine ⟨h.g,fun x hx v q1 q2 q3 ho=>?_,fun u v q1 q2 q3 q4 q5 q6=>?_⟩
 . by_cases he:v=near
   . subst he
     obtain ⟨i,hi⟩:=List.mem_iff_getElem?.1 hx
     have:=h.cl i x (by rcases List.getElem?_eq_some_iff.1 hi with ⟨a,_⟩;exact a) hi ho
     rw [keep _ q1 q2 q3];exact this
   . have hnl:¬ left v:=fun hh=>q3 ((hl v).2 ⟨hh,he⟩)
     have:=hD.cl x hx v q1 q2 hnl ho
     rw [keep v q1 q2 q3]
     have:=h.le (Zk x v)
     omega
 . rw [keep u q1 q2 q3]
   have hv:=(hl v).1 q6
   have hun:dv d0 u<=dv d0 near:=by
    by_cases he:u=near
    . rw [he];omega
    . exact hD.or u near q1 q2 (fun hh=>q3 ((hl u).2 ⟨hh,he⟩)) hn0 hn1 hn
   have:=hmin v q4 q5 hv.1
   have:=h.ch v
   omega
theorem ZgY {k:Bool} {l:Land} {p:Span} {s:Nat} {day:Int} (hs:s < l.wells.length) (hd:day<=100000):Gone k l p s day ((List.replicate l.wells.length 100001).set s day):=by
 have hl:s < (List.replicate l.wells.length (100001:Int)).length:=by simpa using hs
 have hz:∀ v,dv (List.replicate l.wells.length (100001:Int)) v=100001:=fun v=>by
  unfold dv
  split
  . simp only [List.getD_eq_getElem?_getD,List.getElem?_replicate];split<;>rfl
  . rfl
 refine ⟨by simp,fun v=>?_,fun v=>?_,?_⟩
 . rw [WR hl,hz];split<;>omega
 . rw [WR hl,hz];split
   . rename_i hv;exact .inr ⟨[],by rw [hv];rfl⟩
   . exact .inl rfl
 . rw [WR hl,if_pos rfl];exact Int.le_refl _
theorem ZlE {k:Bool} {l:Land} {p:Span} {s day:Int} {d:List Int} {left:Int->Prop} (h:Gone k l p s day d) (hl:∀ v:Int,0<=v->v < l.wells.length->left v):Dij k l p s day d left :=
 ⟨h,fun _ _ v h0 h1 hn=>absurd (hl v h0 h1) hn,fun u _ h0 h1 hn=>absurd (hl u h0 h1) hn⟩
end Go.Azalai
namespace Go.Proofs.YtiigiflofnjilaaGreat
open Go Go.Sx Go.Azalai
theorem ZdM:Tryz.prog.underlying 189=some (.map 3 4):=by kernel_rfl
theorem u3:Tryz.prog.underlying 3=some (.int .i64):=by kernel_rfl
theorem Zdx:KeyT Tryz.prog 3 (fun n:Int=>.int .i64 n) (fun n=>.v (.int .i64 n)):=Zyz u3
abbrev kI:Int->Value:=fun n=>.int .i64 n
abbrev sI:Int->SV:=fun n=>.v (.int .i64 n)
def mpR (n:Nat):List (Nat × Int × Bool):=(List.range n).map fun j=>(j,(j:Int),true)
theorem Za3 (n:Nat):Uh n (n:Int) true (mpR n)=mpR (n+1)/\Zcm n (n:Int) (mpR n)=n+1:=by
 have h:XG (n:Int) (mpR n)=none:=by
  rw [XE]
  intro e he
  simp only [mpR,List.mem_map,List.mem_range] at he
  obtain ⟨j,hj,rfl⟩:=he
  simp only;omega
 rw [ZaJ h]
 exact ⟨by simp [mpR,List.range_succ],by simp [Zcm,h]⟩
theorem ZyE (n:Nat):MW (mpR n) n:=by
 induction n with
 | zero=>exact MW.nil
 | succ n ih =>
  have:=ih.set (k:=(n:Int)) true
  rw [(Za3 n).1,(Za3 n).2] at this
  exact this
theorem Zex {K V:Type} {L:List (Nat × K × V)} (h:(L.map (·.1)).Nodup) {e e':Nat × K × V} (he:e ∈ L) (he':e' ∈ L) (hb:e.1=e'.1):e=e':=by
 induction L with
 | nil=>cases he
 | cons x l ih =>
  simp only [List.map_cons,List.nodup_cons] at h
  rcases List.mem_cons.1 he with h1 | h1<;>rcases List.mem_cons.1 he' with h2 | h2
  . rw [h1,h2]
  . exact absurd (by rw [<- h1,hb];exact List.mem_map.2 ⟨e',h2,rfl⟩) h.1
  . exact absurd (by rw [<- h2,<- hb];exact List.mem_map.2 ⟨e,h1,rfl⟩) h.1
  . exact ih h.2 h1 h2
theorem Zgh (l:Land) (p:Span) (hs:Vl l) (hg:OkLP l p) (s:Nat) (hsl:s < l.wells.length) (day:Int) (hd:inR 0 100000 day=true) (k:Bool) :
 Ct Tryz.prog 97 [.agg (ZO l p),I s,I day,I (bif k then 1 else 0)] (.sl false 1 ((Wo k l p s day).map Zo)):=by
 refine t97.1 (by simp [ZO,Zg,Zm,Zh,Za,KFL,KF]) (by simp [Za,Zo,KFL,KF]) ?_
 simp only [inR,decide_eq_true_eq] at hd
 have hw:=hs.1
 have hleg:=hs.2.1
 generalize hkk:(bif k then (1:Int) else 0)=kk
 have hkk':kk=((bif k then 1 else 0:Nat):Int):=by cases k<;>simp [<- hkk]
 dsimp only [c97,r97,ZO,go_sem,rA,rM,rS]
 simp only [List.length_map]
 refine ZbK [] (ZuY 100001 l.wells.length (by omega) hw true) rfl rfl rfl ?_ ?_ ?_
 . exact Zc (by simp [KFR,KFL,KF])
 . trivial
 dsimp only [go_sem,rA,rM,rS]
 rw [show List.replicate l.wells.length [I 100001]=(List.replicate l.wells.length (100001:Int)).map Zo by simp [Zo]]
 refine ZdN s rfl (by simpa using hsl) ?_
 dsimp only [go_sem,rA,rM,rS]
 refine Zxc day (by simpa using hsl) (by simp [Zo]) (by simp [Zo,Zy]) ?_
 dsimp only [go_sem,rA,rM,rS]
 refine ZbZ rfl rfl rfl ?_
 dsimp only [go_sem,rA,rM,rS]
 have hgo:=ZgY (k:=k) (l:=l) (p:=p) (s:=s) (day:=day) hsl hd.2
 generalize (List.replicate l.wells.length (100001:Int)).set s day=d0 at hgo
 have hlen:=hgo.len
 simp only [List.length_map,hlen]
 refine Xt (fun j:Nat=>[(29,I j)]) (fun j=>[(4,.map (mpS kI B (mpR j)) j)]) (fun j=>j<=l.wells.length) (fun j=>l.wells.length - j) 0 (Nat.zero_le _) ?_ ?_
 . (refine Zl ?_ ?_ ?_ rfl rfl<;>dsimp only [ZO,Zg,Zm,Zh,Zo,mpS,mpR,id,go_sem,rA,rM,rS]<;>simp [ZO,Zg,Zm,Zh,Zo,mpS,mpR,Za,Ze,KFR,KFL,KF,Zc,mtO,nbr])
 . intro j hj
   dsimp only [go_sem,rA,rM,rS]
   by_cases hlt:j < l.wells.length
   . refine Zv (by simpa using hlt) ?_
     dsimp only [go_sem,rA,rM,rS]
     refine ZbY (ins:=false) (key:=kI) (val:=B) (L:=mpR j) (k:=(j:Int)) (v:=true) rfl rfl ZdM Zdx rfl rfl (by simp) ?_
     dsimp only [go_sem,rA,rM,rS]
     rw [(Za3 j).1,(Za3 j).2,Zf (n:=(j:Int)+1) (by omega) (by omega)]
     refine ⟨j+1,hlt,by omega,?_⟩
     (refine Zl ?_ ?_ ?_ rfl rfl<;>dsimp only [ZO,Zg,Zm,Zh,Zo,mpS,mpR,id,go_sem,rA,rM,rS]<;>simp [ZO,Zg,Zm,Zh,Zo,mpS,mpR,Za,Ze,KFR,KFL,KF,Zc,mtO,nbr])
   refine Zw (by simp;omega) ?_
   dsimp only [go_sem,rA,rM,rS]
   have hje:j=l.wells.length:=by omega
   subst hje
   have hmem0:∀ v:Int,0<=v->v < l.wells.length->(XG v (mpR l.wells.length)).isSome=true:=fun v h0 h1=>by
    cases hq:XG v (mpR l.wells.length) with
    | some _=>rfl
    | none =>
     have:=XE.1 hq (v.toNat,v,true) (by simp only [mpR,List.mem_map,List.mem_range];exact ⟨v.toNat,by omega,by simp;omega⟩)
     exact absurd rfl this
   refine Xt (fun _:List Int × List (Nat × Int × Bool)=>[]) (fun q=>[(2,.row 0 1 (q.1.map Zo) 3),(4,.map (mpS kI B q.2) l.wells.length)])
    (fun q=>Dij k l p s day q.1 (fun v=>(XG v q.2).isSome=true)/\MW q.2 l.wells.length/\∀ e ∈ q.2,0<=e.2.1/\e.2.1 < l.wells.length) (fun q=>q.2.length) (d0,mpR l.wells.length)
    ⟨ZlE hgo hmem0,ZyE _,fun e he=>(by simp only [mpR,List.mem_map,List.mem_range] at he;obtain ⟨i,hi,rfl⟩:=he;simp only;omega)⟩ ?_ ?_
   . (refine Zl ?_ ?_ ?_ rfl rfl<;>dsimp only [ZO,Zg,Zm,Zh,Zo,Zs,Zn,id,go_sem,rA,rM,rS]<;>simp [ZO,Zg,Zm,Zh,Zo,Zs,Zn,Za,Ze,KFR,KFL,KF,Zc,mtO,nbr])
   rintro ⟨d,L⟩ ⟨hD,hM,hb⟩
   simp only at hD hM hb
   have hdl:=hD.g.len
   dsimp only [go_sem,rA,rM,rS]
   refine ZnC rfl rfl ZdM rfl ?_
   dsimp only [go_sem,rA,rM,rS]
   by_cases hL:L=[]
   . subst hL
     refine Zw (by simp [mpS]) ?_
     dsimp only [go_sem,rA,rM,rS]
     have:=hD.done hg (fun v=>by simp [XG]) hd.1 hd.2 (by omega) (by omega)
     rw [this]
   refine Zv (by simp [mpS,List.length_pos_iff.2 hL]) ?_
   dsimp only [go_sem,rA,rM,rS]
   refine ZkC rfl rfl ZdM rfl rfl ?_
   dsimp only [go_sem,rA,rM,rS]
   have hd0:∀ v,0<=dv d v/\dv d v<=100001:=fun v=>⟨by have:=hD.g.lb hg hd.1 hd.2 (by omega) (by omega) v;omega,hD.g.ub v⟩
   refine Xt (fun _:List Nat × Int=>[]) (fun q=>[(5,.cells [I q.2] 3),(6,.it 4 l.wells.length q.1 l.wells.length)])
    (fun q=>(q.2 = -1/\∀ e ∈ L,e.1 ∉ q.1)\/(0<=q.2/\q.2 < l.wells.length/\(XG q.2 L).isSome=true/\∀ e ∈ L,e.1 ∈ q.1->dv d q.2 < dv d e.2.1\/dv d q.2=dv d e.2.1/\q.2<=e.2.1))
    (fun q=>ZqR L q.1) ([],-1) (.inl ⟨rfl,by simp⟩) ?_ ?_
   . (refine Zl ?_ ?_ ?_ rfl rfl<;>dsimp only [ZO,Zg,Zm,Zh,Zo,Zs,Zn,id,go_sem,rA,rM,rS]<;>simp [ZO,Zg,Zm,Zh,Zo,Zs,Zn,Za,Ze,KFR,KFL,KF,Zc,mtO,nbr])
   rintro ⟨seen,near⟩ hi
   simp only at hi
   dsimp only [go_sem,rA,rM,rS]
   refine Zon (key:=kI) (sv:=sI) (val:=B) (L:=L) (c:=l.wells.length) rfl rfl rfl hM.bl (Nat.le_refl _) Zdx ?_ ?_
   . intro hall
     dsimp only [go_sem,rA,rM,rS]
     refine Zw rfl ?_
     dsimp only [go_sem,rA,rM,rS]
     have hnn:(0<=near/\near < l.wells.length/\(XG near L).isSome=true/\∀ e ∈ L,e.1 ∈ seen->dv d near < dv d e.2.1\/dv d near=dv d e.2.1/\near<=e.2.1):=by
      rcases hi with ⟨_,hi⟩ | hi
      . obtain ⟨e,he⟩:=List.exists_mem_of_ne_nil _ hL
        exact absurd (hall e he) (hi e he)
      . exact hi
     obtain ⟨hn0,hn1,hn2,hn3⟩:=hnn
     have hmin:∀ v:Int,0<=v->v < l.wells.length->(XG v L).isSome=true->dv d near<=dv d v:=fun v _ _ hv=>by
      obtain ⟨y,hy⟩:=Option.isSome_iff_exists.1 hv
      obtain ⟨b,hbm⟩:=Zgb hy
      have:=hn3 _ hbm (hall _ hbm)
      simp only at this;omega
     obtain ⟨m,rfl⟩:∃ m:Nat,near=(m:Int):=⟨near.toNat,by omega⟩
     have hml:m < d.length:=by omega
     refine ZvD (key:=kI) (sv:=sI) (val:=B) (L:=L) (k:=(m:Int)) rfl rfl ZdM Zdx rfl rfl ?_
     dsimp only [go_sem,rA,rM,rS]
     refine ZbK [] (Za0 l p m) rfl rfl rfl ?_ ?_ ?_
     . exact Zc (by simp [ZO,Zg,Zm,Zh,Za,KFL,KF])
     . trivial
     dsimp only [Zcf,ZO,go_sem,rA,rM,rS]
     refine gh Vh ?_
     dsimp only [go_sem,rA,rM,rS]
     refine ⟨ZAi,fun rec=>?_⟩
     refine ZAE ?_
     dsimp only [ZxL,ZxA,go_sem,rA,rM,rS]
     refine Xt (fun q:Nat × List Int=>[(10,I q.1)]) (fun q=>[(2,.row 0 1 (q.2.map Zo) 3)]) (fun q=>q.1<=l.legs.length/\Rnd k l p s day d q.2 m q.1) (fun q=>l.legs.length - q.1) (0,d) ⟨Nat.zero_le _,.start hD.g⟩ ?_ ?_
     . (refine Zl ?_ ?_ ?_ rfl rfl<;>dsimp only [ZO,Zg,Zm,Zh,Zo,Zs,Zn,id,go_sem,rA,rM,rS]<;>simp [ZO,Zg,Zm,Zh,Zo,Zs,Zn,Za,Ze,KFR,KFL,KF,Zc,mtO,nbr])
     rintro ⟨j,d'⟩ ⟨hj,hR⟩
     simp only at hj hR
     have hdl':=hR.g.len
     dsimp only [go_sem,rA,rM,rS]
     simp only [List.length_map]
     by_cases hlt:j < l.legs.length
     . refine Zv (by simpa using hlt) ?_
       dsimp only [go_sem,rA,rM,rS]
       refine Zp j hlt rfl ?_
       dsimp only [Zm,go_sem,rA,rM,rS]
       have hgl:GoodLeg l.legs[j]:=XW hg.land _ (List.getElem_mem _)
       have hends:=hg.ends (List.getElem_mem hlt)
       obtain ⟨wa,hwa⟩:∃ w:Nat,l.legs[j].a=(w:Int):=⟨l.legs[j].a.toNat,by omega⟩
       obtain ⟨wb,hwb⟩:∃ w:Nat,l.legs[j].b=(w:Int):=⟨l.legs[j].b.toNat,by omega⟩
       have hwal:wa < d'.length:=by omega
       have hwbl:wb < d'.length:=by omega
       have hml':m < d'.length:=by omega
       have hxj:l.legs[j]? = some l.legs[j]:=List.getElem?_eq_getElem hlt
       have hin:inR 0 100001 d'[m]=true:=by
        have q1:=hR.g.lb hg hd.1 hd.2 (by omega) (by omega) (m:Int)
        have q2:=hR.g.ub (m:Int)
        rw [WO hml'] at q1 q2
        simp only [inR,decide_eq_true_eq];omega
       by_cases hca:(m:Int)=l.legs[j].a
       . refine Zv (by simpa using hca) ?_
         dsimp only [go_sem,rA,rM,rS]
         refine ⟨rfl,rfl,?_⟩
         simp only [hwb,List.length_map]
         refine ZdN wb rfl hwbl ?_
         dsimp only [go_sem,rA,rM,rS]
         refine ZgW hwbl ?_
         dsimp only [Zo,go_sem,rA,rM,rS]
         simp only [List.length_map]
         refine ZdN m rfl hml' ?_
         dsimp only [go_sem,rA,rM,rS]
         refine ZgW hml' ?_
         dsimp only [Zo,go_sem,rA,rM,rS]
         simp only [List.length_map]
         refine ZdN m rfl hml' ?_
         dsimp only [go_sem,rA,rM,rS]
         refine ZgW hml' ?_
         dsimp only [Zo,go_sem,rA,rM,rS]
         refine call (XZ l p j hlt d'[m] d'[m] hgl hg.pace hin hin) ?_
         dsimp only [go_sem,rA,rM,rS]
         refine ixa (bif k then 1 else 0) hkk' (by cases k<;>decide) ?_
         rw [show nth [I (ZK false l.legs[j] p d'[m]),I (ZK true l.legs[j] p d'[m])] ((bif k then 1 else 0) * 1)=some (I (ZK k l.legs[j] p d'[m])) from by cases k<;>rfl]
         dsimp only [go_sem,rA,rM,rS]
         simp only [List.length_map]
         refine ZdN wb rfl hwbl ?_
         dsimp only [go_sem,rA,rM,rS]
         refine Zxc (min d'[wb] (ZK k l.legs[j] p d'[m])) hwbl (by simp [Zo]) (by simp [Zo,Zy]) ?_
         dsimp only [go_sem,rA,rM,rS]
         refine ⟨rfl,?_⟩
         refine Zw (by decide) ?_
         dsimp only [go_sem,rA,rM,rS]
         rw [Zf (n:=(j:Int)+1) (by omega) (by omega)]
         have hst:=hR.step hg hxj (w:=wb) (by rw [Zk,if_pos hca.symm,hwb]) hd.1 hd.2 (by omega) (by omega)
         rw [WO hwbl,WO hml'] at hst
         generalize d'.set wb (min d'[wb] (ZK k l.legs[j] p d'[m]))=d2 at hst ⊢
         refine ⟨(j+1,d2),⟨hlt,hst⟩,by simp only;omega,?_⟩
         (refine Zl ?_ ?_ ?_ rfl rfl<;>dsimp only [ZO,Zg,Zm,Zh,Zo,Zs,Zn,id,go_sem,rA,rM,rS]<;>simp [ZO,Zg,Zm,Zh,Zo,Zs,Zn,Za,Ze,KFR,KFL,KF,Zc,mtO,nbr])
       refine Zw (by simpa using hca) ?_
       dsimp only [go_sem,rA,rM,rS]
       by_cases hcb:(m:Int)=l.legs[j].b
       . refine Zv (by simpa using hcb) ?_
         dsimp only [go_sem,rA,rM,rS]
         refine ⟨rfl,rfl,?_⟩
         simp only [hwa,List.length_map]
         refine ZdN wa rfl hwal ?_
         dsimp only [go_sem,rA,rM,rS]
         refine ZgW hwal ?_
         dsimp only [Zo,go_sem,rA,rM,rS]
         simp only [List.length_map]
         refine ZdN m rfl hml' ?_
         dsimp only [go_sem,rA,rM,rS]
         refine ZgW hml' ?_
         dsimp only [Zo,go_sem,rA,rM,rS]
         simp only [List.length_map]
         refine ZdN m rfl hml' ?_
         dsimp only [go_sem,rA,rM,rS]
         refine ZgW hml' ?_
         dsimp only [Zo,go_sem,rA,rM,rS]
         refine call (XZ l p j hlt d'[m] d'[m] hgl hg.pace hin hin) ?_
         dsimp only [go_sem,rA,rM,rS]
         refine ixa (bif k then 1 else 0) hkk' (by cases k<;>decide) ?_
         rw [show nth [I (ZK false l.legs[j] p d'[m]),I (ZK true l.legs[j] p d'[m])] ((bif k then 1 else 0) * 1)=some (I (ZK k l.legs[j] p d'[m])) from by cases k<;>rfl]
         dsimp only [go_sem,rA,rM,rS]
         simp only [List.length_map]
         refine ZdN wa rfl hwal ?_
         dsimp only [go_sem,rA,rM,rS]
         refine Zxc (min d'[wa] (ZK k l.legs[j] p d'[m])) hwal (by simp [Zo]) (by simp [Zo,Zy]) ?_
         dsimp only [go_sem,rA,rM,rS]
         refine ⟨rfl,?_⟩
         refine Zw (by decide) ?_
         dsimp only [go_sem,rA,rM,rS]
         rw [Zf (n:=(j:Int)+1) (by omega) (by omega)]
         have hst:=hR.step hg hxj (w:=wa) (by rw [Zk,if_neg (fun e=>hca e.symm),if_pos hcb.symm,hwa]) hd.1 hd.2 (by omega) (by omega)
         rw [WO hwal,WO hml'] at hst
         generalize d'.set wa (min d'[wa] (ZK k l.legs[j] p d'[m]))=d2 at hst ⊢
         refine ⟨(j+1,d2),⟨hlt,hst⟩,by simp only;omega,?_⟩
         (refine Zl ?_ ?_ ?_ rfl rfl<;>dsimp only [ZO,Zg,Zm,Zh,Zo,Zs,Zn,id,go_sem,rA,rM,rS]<;>simp [ZO,Zg,Zm,Zh,Zo,Zs,Zn,Za,Ze,KFR,KFL,KF,Zc,mtO,nbr])
       refine Zw (by simpa using hcb) ?_
       dsimp only [go_sem,rA,rM,rS]
       rw [Zf (n:=(j:Int)+1) (by omega) (by omega)]
       refine ⟨(j+1,d'),⟨hlt,hR.skip hxj (by rw [Zk,if_neg (fun e=>hca e.symm),if_neg (fun e=>hcb e.symm)];decide)⟩,by simp only;omega,?_⟩
       (refine Zl ?_ ?_ ?_ rfl rfl<;>dsimp only [ZO,Zg,Zm,Zh,Zo,Zs,Zn,id,go_sem,rA,rM,rS]<;>simp [ZO,Zg,Zm,Zh,Zo,Zs,Zn,Za,Ze,KFR,KFL,KF,Zc,mtO,nbr])
     refine Zw (by simp;omega) ?_
     dsimp only [go_sem,rA,rM,rS]
     have hje:j=l.legs.length:=by omega
     subst hje
     have hfin:=Rnd.finish (left':=fun v=>(XG v (Ux (m:Int) L)).isSome=true) hD hR hn2 hn0 hn1 hmin (fun v=>by
      rw [Zf0 hM.kn]
      by_cases hv:v=(m:Int)
      . simp [hv]
      . simp [hv]) hg
     refine ⟨(d',Ux (m:Int) L),⟨hfin,hM.del,fun e he=>hb e (UQ.subset he)⟩,by simp only;have:=Zgg hn2;omega,?_⟩
     (refine Zl ?_ ?_ ?_ rfl rfl<;>dsimp only [ZO,Zg,Zm,Zh,Zo,Zs,Zn,id,go_sem,rA,rM,rS]<;>simp [ZO,Zg,Zm,Zh,Zo,Zs,Zn,Za,Ze,KFR,KFL,KF,Zc,mtO,nbr])
   intro e he hse
   dsimp only [go_sem,rA,rM,rS]
   refine Zv rfl ?_
   dsimp only [go_sem,rA,rM,rS]
   refine Zlg (key:=kI) (sv:=sI) (val:=B) (L:=L) (c:=l.wells.length) (e:=e) rfl rfl rfl he hM.bn Zdx ?_
   dsimp only [go_sem,rA,rM,rS]
   have hbe:=hb e he
   have hget:=Zkb hM.kn he
   obtain ⟨m,hm⟩:∃ m:Nat,e.2.1=(m:Int):=⟨e.2.1.toNat,by omega⟩
   rw [hm] at hbe hget
   simp only [hm]
   have hml:m < d.length:=by omega
   have hmeas:=Zrx he hse
   have hnl:near.toNat < d.length:=by rcases hi with ⟨rfl,_⟩ | ⟨_,_,_⟩<;>omega
   refine gb ?_
   dsimp only [go_sem,rA,rM,rS]
   refine gb ?_
   dsimp only [go_sem,rA,rM,rS]
   refine gb ?_
   dsimp only [go_sem,rA,rM,rS]
   simp only [List.length_map]
   refine ZdN m rfl hml ?_
   dsimp only [go_sem,rA,rM,rS]
   refine gb ?_
   dsimp only [go_sem,rA,rM,rS]
   refine ZgW hml ?_
   dsimp only [Zo,go_sem,rA,rM,rS]
   refine gb ?_
   dsimp only [go_sem,rA,rM,rS]
   refine gb ?_
   dsimp only [go_sem,rA,rM,rS]
   refine gb ?_
   dsimp only [go_sem,rA,rM,rS]
   simp only [List.length_map]
   refine Zsg near.toNat rfl (fun h=>⟨by simp at h;omega,hnl⟩) ?_
   dsimp only [go_sem,rA,rM,rS]
   refine gb ?_
   dsimp only [go_sem,rA,rM,rS]
   refine ZgW hnl ?_
   dsimp only [Zo,go_sem,rA,rM,rS]
   refine gb ?_
   dsimp only [go_sem,rA,rM,rS]
   refine gb ?_
   dsimp only [go_sem,rA,rM,rS]
   refine gb ?_
   dsimp only [go_sem,rA,rM,rS]
   refine gb ?_
   dsimp only [go_sem,rA,rM,rS]
   simp only [List.length_map]
   refine ZdN m rfl hml ?_
   dsimp only [go_sem,rA,rM,rS]
   refine gb ?_
   dsimp only [go_sem,rA,rM,rS]
   refine ZgW hml ?_
   dsimp only [Zo,go_sem,rA,rM,rS]
   refine gb ?_
   dsimp only [go_sem,rA,rM,rS]
   refine gb ?_
   dsimp only [go_sem,rA,rM,rS]
   refine gb ?_
   dsimp only [go_sem,rA,rM,rS]
   simp only [List.length_map]
   refine Zsg near.toNat rfl (fun h=>⟨by simp at h;omega,hnl⟩) ?_
   dsimp only [go_sem,rA,rM,rS]
   refine gb ?_
   dsimp only [go_sem,rA,rM,rS]
   refine ZgW hnl ?_
   dsimp only [Zo,go_sem,rA,rM,rS]
   repeat (refine gb ?_;dsimp only [go_sem,rA,rM,rS])
   have hdm:dv d (m:Int)=d[m]:=WO hml
   have hdn:0<=near->dv d near=d[near.toNat]:=fun h=>by
    have:=WO hnl;rw [<- this];congr 1;omega
   have hse':∀ e' ∈ L,e'.1 ∈ seen ++ [e.1]->e'.1 ∈ seen\/e'.2.1=m:=fun e' he' h=>by
    rcases List.mem_append.1 h with h | h
    . exact .inl h
    . refine .inr ?_
      simp only [List.mem_singleton] at h
      have:e'=e:=Zex hM.bn he' he h
      rw [this,hm]
   refine br ?_ ?_
   . intro hA
     dsimp only [go_sem,rA,rM,rS]
     refine ⟨(seen ++ [e.1],m),.inr ⟨by simp only;omega,by simp only;omega,by simp only;rw [hget];rfl,fun e' he' h=>?_⟩,hmeas,?_⟩
     . simp only [hdm]
       rcases hse' e' he' h with h | h
       . rcases hi with ⟨rfl,hi⟩ | ⟨hn0,hn1,hn2,hi⟩
         . exact absurd h (hi e' he')
         . have:=hi e' he' h
           rw [hdn hn0] at this
           simp only [Bool.or_eq_true,Bool.and_eq_true,decide_eq_true_eq,beq_iff_eq] at hA
           omega
       . rw [h,hdm];omega
     (refine Zl ?_ ?_ ?_ rfl rfl<;>dsimp only [ZO,Zg,Zm,Zh,Zo,Zs,Zn,id,go_sem,rA,rM,rS]<;>simp [ZO,Zg,Zm,Zh,Zo,Zs,Zn,Za,Ze,KFR,KFL,KF,Zc,mtO,nbr])
   . intro hA
     dsimp only [go_sem,rA,rM,rS]
     simp only [Bool.or_eq_false_iff,Bool.and_eq_false_iff,decide_eq_false_iff_not,beq_eq_false_iff_ne] at hA
     refine ⟨(seen ++ [e.1],near),.inr ?_,hmeas,?_⟩
     . rcases hi with ⟨rfl,hi⟩ | ⟨hn0,hn1,hn2,hi⟩
       . omega
       . refine ⟨hn0,hn1,hn2,fun e' he' h=>?_⟩
         simp only [hdn hn0]
         rcases hse' e' he' h with h | h
         . have:=hi e' he' h;rw [hdn hn0] at this;exact this
         . rw [h,hdm];omega
     (refine Zl ?_ ?_ ?_ rfl rfl<;>dsimp only [ZO,Zg,Zm,Zh,Zo,Zs,Zn,id,go_sem,rA,rM,rS]<;>simp [ZO,Zg,Zm,Zh,Zo,Zs,Zn,Za,Ze,KFR,KFL,KF,Zc,mtO,nbr])
end Go.Proofs.YtiigiflofnjilaaGreat
namespace Go.Azalai
noncomputable def Xf (l:Land) (p:Span) (s day:Int):List Span:=List.zipWith Span.mk (Wo false l p s day) (Wo true l p s day)
def Wn (l:Land) (p:Span) (s day:Int):Int:=if ZaE l p≠0 then ZaE l p else if (inR 0 (l.wells.length - 1) s && inR 0 100000 day)=false then 2 else 0
theorem VJ {k:Bool} {l:Land} {p:Span} {s day:Int}:(Wo k l p s day).length=l.wells.length:=by simp [Wo]
theorem WM {l:Land} {p:Span} {s day:Int}:(Xf l p s day).length=l.wells.length:=by simp [Xf,VJ]
theorem ZiA {l:Land} {p:Span} (h:ZaE l p=0):OkLP l p:=by
 unfold ZaE at h
 split at h
 . omega
 . split at h
   . omega
   . rename_i h1 h2;exact ⟨by simpa using h1,by simpa using h2⟩
end Go.Azalai
namespace Go.Proofs.YtiigiflofnjilaaGreat
open Go Go.Sx Go.Azalai
theorem Yj {xs:List (List SV)} {n:Nat} (h:KFR xs):KFR (xs.take n):=by
 induction xs generalizing n with
 | nil=>simpa using h
 | cons x l ih=>cases n with
  | zero=>simp [KFR]
  | succ n=>simp only [List.take_succ_cons,KFR] at h ⊢;exact ⟨h.1,ih h.2⟩
def XQ (e:Int) (m:Nat) (xs:List (List SV)):SV:=if e=0 then .sl false m xs else .v (.slice none 0 0)
theorem ZdZ (l:Land) (hs:Vl l) (s day:Int) (p:Span):Ct Tryz.prog 52 [.agg (Yo l),I s,I day,.agg (Zd p)] (.tup [XQ (Wn l p s day) 2 ((Xf l p s day).map Zd),I (Wn l p s day)]):=by
 have hw:=hs.1
 refine t52.1 (by simp [Yo,Zg,Zm,Zh,Zd,Za,KFL,KF]) (by unfold XQ;split<;>simp [KFL,KF,Za,Zd]) ?_
 dsimp only [c52,r52,Yo,Zd,go_sem,rA,rM,rS]
 by_cases ha:ZaE l p=0
 case neg =>
  refine call (Za1 l hs p ha) ?_
  dsimp only [go_sem,rA,rM,rS]
  refine Zv (by simpa using ha) ?_
  dsimp only [go_sem,rA,rM,rS]
  simp [Wn,ha,XQ]
 have hok:=ZiA ha
 refine call (ZdL l hs p ha) ?_
 dsimp only [ZO,go_sem,rA,rM,rS]
 refine Zw (by decide) ?_
 dsimp only [go_sem,rA,rM,rS]
 simp only [List.length_map]
 have h1:=U5 hok.land
 rw [Zf (n:=(l.wells.length:Int) - 1) (by omega) (by omega)]
 refine call (UX 0 (l.wells.length - 1) s true) ?_
 dsimp only [go_sem,rA,rM,rS]
 repeat (first | (refine gb ?_;dsimp only [go_sem,rA,rM,rS]) | (refine call (UX 0 100000 day true) ?_;dsimp only [go_sem,rA,rM,rS]))
 by_cases hr:(inR 0 (l.wells.length - 1) s && inR 0 100000 day)=true
 case neg =>
  refine Zv (by simpa [Bool.and_eq_true,<- Bool.not_and] using hr) ?_
  dsimp only [go_sem,rA,rM,rS]
  simp [Wn,ha,XQ,hr]
 refine Zw (by simpa [<- Bool.not_and] using hr) ?_
 dsimp only [go_sem,rA,rM,rS]
 have he:Wn l p s day=0:=by simp [Wn,ha,hr]
 rw [he]
 simp only [Bool.and_eq_true] at hr
 obtain ⟨hr1,hr2⟩:=hr
 obtain ⟨s0,hs0,rfl⟩:∃ s0:Nat,s0 < l.wells.length/\s=(s0:Int):=by
  simp only [inR,decide_eq_true_eq] at hr1
  exact ⟨s.toNat,by omega,by omega⟩
 refine call (Zgh l p hs hok s0 hs0 day hr2 true) ?_
 dsimp only [go_sem,rA,rM,rS]
 refine call (Zgh l p hs hok s0 hs0 day hr2 false) ?_
 dsimp only [go_sem,rA,rM,rS]
 simp only [List.length_map,VJ]
 refine ZeN (Y5 12 2 27 rfl rfl) (fun q:Nat × Nat=>[(50,I q.1),(12,.mr 3 q.2)]) (fun q=>[(3,.row q.2 2 (((Xf l p s0 day).take q.1).map Zd) 27)]) (fun q=>q.1<=l.wells.length) (fun q=>l.wells.length - q.1) (0,0) (Nat.zero_le _) ?_ ?_
 . (refine Zl ?_ ?_ ?_ rfl rfl<;>dsimp only [Zd,Zg,Zm,Zh,Zo,Yj,id,go_sem,rA,rM,rS]<;>simp [Zd,Zg,Zm,Zh,Zo,Yj,Za,Ze,KFR,KFL,KF,Zc,mtO,nbr])
 rintro ⟨j,v⟩ hj
 simp only at hj
 dsimp only [go_sem,rA,rM,rS]
 by_cases hlt:j < l.wells.length
 . refine Zv (by simpa using hlt) ?_
   dsimp only [go_sem,rA,rM,rS]
   have hf0:j < (Wo false l p s0 day).length:=by rw [VJ];exact hlt
   have hf1:j < (Wo true l p s0 day).length:=by rw [VJ];exact hlt
   refine Zp j hf0 rfl ?_
   dsimp only [Zo,go_sem,rA,rM,rS]
   refine Zp j hf1 rfl ?_
   dsimp only [Zo,go_sem,rA,rM,rS]
   simp only [nbr]
   dsimp only [go_sem,rA,rM,rS]
   have hlen:(((Xf l p s0 day).take j).map Zd).length=j:=by simp [WM];omega
   refine ⟨(by intro c hc;simp only [List.mem_singleton] at hc;subst hc;rfl),by simp only [List.length_append,hlen,List.length_singleton];omega,?_⟩
   dsimp only [go_sem,rA,rM,rS]
   rw [Zf (n:=(j:Int)+1) (by omega) (by omega)]
   have hjl:j < (Xf l p s0 day).length:=by rw [WM];exact hlt
   have e:((Xf l p s0 day).take j).map Zd ++ [[SV.v (.int .i64 (Wo false l p s0 day)[j]),SV.v (.int .i64 (Wo true l p s0 day)[j])]]=((Xf l p s0 day).take (j+1)).map Zd:=by
    rw [List.take_succ_eq_append_getElem hjl,List.map_append]
    simp [Xf,Zd]
   rw [e]
   refine ⟨(j+1,v+1),hlt,by simp only;omega,?_⟩
   (refine Zl ?_ ?_ ?_ rfl rfl<;>dsimp only [Zd,Zg,Zm,Zh,Zo,Yj,id,go_sem,rA,rM,rS]<;>simp [Zd,Zg,Zm,Zh,Zo,Yj,Za,Ze,KFR,KFL,KF,Zc,mtO,nbr])
 refine Zw (by simp;omega) ?_
 dsimp only [go_sem,rA,rM,rS]
 have hje:j=l.wells.length:=by omega
 subst hje
 have:(Xf l p s0 day).take l.wells.length=Xf l p s0 day:=List.take_of_length_le (by rw [WM];exact Nat.le_refl _)
 rw [this]
 simp [XQ,vwN]
end Go.Proofs.YtiigiflofnjilaaGreat
namespace Go.Azalai
def Zij (S:List Span):List Int:=S.map (·.lo)
def ZiZ (S:List Span):List Int:=S.map (·.hi)
def Zz7 (p:Span) (S:List Span) (x:Leg) (v:Int):Prop:=0<=Zk x v->dv (Zij S) (Zk x v)<=ZK false x p (dv (Zij S) v)/\dv (ZiZ S) (Zk x v)<=ZK true x p (dv (ZiZ S) v)
def ZAg (S:List Span):Nat:=(S.map fun s=>s.lo.toNat+s.hi.toNat).sum
def Zyx (x:Leg) (c:Nat):Int:=if c % 2=0 then x.a else x.b
structure RI (l:Land) (p:Span) (s day:Int) (S0 S:List Span) (ch:Bool) (c:Nat):Prop where
 g0:Gone false l p s day (Zij S)
 g1:Gone true l p s day (ZiZ S)
 le:ZAg S<=ZAg S0
 dec:ch=true->ZAg S < ZAg S0
 same:ch=false->S=S0/\∀ c' x,c' < c->l.legs[c' / 2]? = some x->Zz7 p S0 x (Zyx x c')
theorem RI.start {l:Land} {p:Span} {s day:Int} {S:List Span} (h0:Gone false l p s day (Zij S)) (h1:Gone true l p s day (ZiZ S)):RI l p s day S S false 0 :=
 ⟨h0,h1,Nat.le_refl _,fun h=>(by cases h),fun _=>⟨rfl,fun c' x h=>absurd h (Nat.not_lt_zero _)⟩⟩
theorem RI.len {l:Land} {p:Span} {s day:Int} {S0 S:List Span} {ch:Bool} {c:Nat} (h:RI l p s day S0 S ch c):S.length=l.wells.length:=by have:=h.g0.len;simpa [Zij] using this
theorem ZsM {S:List Span} {i:Nat} (h:i < S.length):dv (Zij S) i=S[i].lo/\dv (ZiZ S) i=S[i].hi:=by
 constructor
 . rw [WO (by simpa [Zij] using h)];simp [Zij]
 . rw [WO (by simpa [ZiZ] using h)];simp [ZiZ]
theorem RI.in {l:Land} {p:Span} {s day:Int} {S0 S:List Span} {ch:Bool} {c:Nat} (h:RI l p s day S0 S ch c) (hg:OkLP l p) (hd:0<=day) (hd':day<=100000) (h0:0<=s) (h1:s < l.wells.length) {i:Nat} (hi:i < S.length) :
 (0<=S[i].lo/\S[i].lo<=100001)/\0<=S[i].hi/\S[i].hi<=100001:=by
 have q:=ZsM hi
 have a1:=h.g0.lb hg hd hd' h0 h1 i
 have a2:=h.g0.ub i
 have b1:=h.g1.lb hg hd hd' h0 h1 i
 have b2:=h.g1.ub i
 omega
theorem RI.done {l:Land} {p:Span} {s day:Int} {S0 S:List Span} {c:Nat} (h:RI l p s day S0 S false c) (hc:2 * l.legs.length<=c) (hg:OkLP l p) (hd:0<=day) (hd':day<=100000) (h0:0<=s) (h1:s < l.wells.length):S=Xf l p s day:=by
 obtain ⟨q1,q2⟩:=h.same rfl
 subst q1
 have hcl:∀ x ∈ l.legs,(dv (Zij S) x.b<=ZK false x p (dv (Zij S) x.a)/\dv (Zij S) x.a<=ZK false x p (dv (Zij S) x.b))/\(dv (ZiZ S) x.b<=ZK true x p (dv (ZiZ S) x.a)/\dv (ZiZ S) x.a<=ZK true x p (dv (ZiZ S) x.b)):=fun x hx=>by
  obtain ⟨i,hi⟩:=List.mem_iff_getElem?.1 hx
  have hil:i < l.legs.length:=(List.getElem?_eq_some_iff.1 hi).1
  have hen:=hg.ends hx
  have k1:=q2 (2 * i) x (by omega) (by rw [show 2 * i / 2=i by omega];exact hi)
  have k2:=q2 (2 * i+1) x (by omega) (by rw [show (2 * i+1) / 2=i by omega];exact hi)
  simp only [Zz7,Zyx,show 2 * i % 2=0 by omega,show ¬ (2 * i+1) % 2=0 by omega,if_true,if_false,Zk,if_neg hen.2.2] at k1 k2
  have m1:=k1 hen.2.1.1
  have m2:=k2 hen.1.1
  exact ⟨⟨m1.1,m2.1⟩,⟨m1.2,m2.2⟩⟩
 have e0:=ZaI (k:=false) hg hd hd' h0 h1 h.g0.st (fun x hx=>(hcl x hx).1) h.g0.ub h.g0.real
 have e1:=ZaI (k:=true) hg hd hd' h0 h1 h.g1.st (fun x hx=>(hcl x hx).2) h.g1.ub h.g1.real
 have hl:=h.len
 refine List.ext_getElem (by rw [hl,WM]) fun i hi hi'=>?_
 have d:=ZsM hi
 simp only [Xf,List.getElem_zipWith,Wo,List.getElem_map,List.getElem_range]
 rw [<- e0,<- e1,d.1,d.2]
theorem RI.again {l:Land} {p:Span} {s day:Int} {S0 S:List Span} {ch:Bool} {c:Nat} (h:RI l p s day S0 S ch c):RI l p s day S S false 0:=.start h.g0 h.g1
open Go.Sx
def Vo:List Nat->List Nat->Bool
 | [],[]=>false
 | [],_ :: _=>true
 | _ :: _,[]=>false
 | x :: a,y :: b=>decide (x < y) || (x == y && Vo a b)
theorem W6:∀ a:List Nat,Vo a a=false
 | []=>rfl
 | x :: a=>by simp [Vo,W6 a]
theorem ZgF:∀ {a b:List Nat},Vo a b=false->Vo b a=false->a=b
 | [],[],_,_=>rfl
 | [],_ :: _,h,_=>by simp [Vo] at h
 | _ :: _,[],_,h=>by simp [Vo] at h
 | x :: a,y :: b,h,h'=>by
  simp only [Vo,Bool.or_eq_false_iff,decide_eq_false_iff_not,Bool.and_eq_false_iff,beq_eq_false_iff_ne] at h h'
  have hxy:x=y:=by omega
  subst hxy
  rw [ZgF (a:=a) (b:=b) (by simpa using h.2) (by simpa using h'.2)]
theorem WG:∀ {a b c:List Nat},Vo a b=true->Vo b c=true->Vo a c=true
 | [],[],_,h,_=>by simp [Vo] at h
 | [],_ :: _,[],_,h=>by simp [Vo] at h
 | [],_ :: _,_ :: _,_,_=>rfl
 | _ :: _,[],_,h,_=>by simp [Vo] at h
 | _ :: _,_ :: _,[],_,h=>by simp [Vo] at h
 | x :: a,y :: b,z :: c,h,h'=>by
  simp only [Vo,Bool.or_eq_true,decide_eq_true_eq,Bool.and_eq_true,beq_iff_eq] at h h' ⊢
  rcases h with h | ⟨rfl,h⟩
  . rcases h' with h' | ⟨rfl,h'⟩
    . exact .inl (by omega)
    . exact .inl h
  . rcases h' with h' | ⟨rfl,h'⟩
    . exact .inl h'
    . exact .inr ⟨rfl,WG h h'⟩
theorem ZaH:∀ {a b c d:List Nat},a.length=b.length->Vo (a ++ c) (b ++ d)=(Vo a b || (decide (a=b) && Vo c d))
 | [],[],c,d,_=>by simp [Vo]
 | x :: a,y :: b,c,d,h=>by
  rw [List.cons_append,List.cons_append,Vo,Vo,ZaH (a:=a) (b:=b) (c:=c) (d:=d) (by simpa using h)]
  by_cases hxy:x=y
  . subst hxy;simp
  . have hb:(x == y)=false:=beq_eq_false_iff_ne.2 hxy
    have hc:decide (x :: a=y :: b)=false:=by simp [hxy]
    rw [hb,hc];simp
 | [],_ :: _,_,_,h=>by simp at h
 | _ :: _,[],_,_,h=>by simp at h
def Zx7 (W:List Nat->Prop) (a:List Nat):Prop:=W a/\∀ b,W b->Vo b a=false
theorem Zx7.congr {W W':List Nat->Prop} {a:List Nat} (h:Zx7 W a) (hw:∀ b,W' b↔W b):Zx7 W' a:=⟨(hw a).2 h.1,fun b hb=>h.2 b ((hw b).1 hb)⟩
def Zl1 (l:Land) (p:Span) (s day:Int) (n:Nat) (q:Int × Int) (a:List Nat):Prop:=a.length=n/\goW true l p s day a=some q
theorem Zf7 {l:Land} {p:Span} {s day:Int} {a:List Nat} {i:Nat} {q:Int × Int} (h:goW true l p s day (a ++ [i])=some q) :
 ∃ u x,goW true l p s day a=some u/\l.legs[i]? = some x/\0<=Zk x u.1/\ZK true x p u.2<=100000/\q=(Zk x u.1,ZK true x p u.2):=by
 rw [Zbx] at h
 cases hu:goW true l p s day a with
 | none=>rw [hu] at h;simp at h
 | some u =>
  rw [hu] at h
  simp only [Option.bind_some,goW] at h
  cases hx:l.legs[i]? with
  | none=>rw [hx] at h;cases h
  | some x =>
   rw [hx] at h
   simp only at h
   split at h
   . cases h
   . split at h
     . cases h
     . exact ⟨u,x,rfl,rfl,by omega,by omega,by injection h with h;exact h.symm⟩
def Cand (l:Land) (p:Span) (G:Int) (L:Int × Int->Option (List Nat)) (done:Int × Int->Nat->Prop) (q:Int × Int) (a:List Nat):Prop :=
 ∃ u w i x,L u=some w/\done u i/\l.legs[i]? = some x/\0<=Zk x u.1/\ZK true x p u.2<=G/\q=(Zk x u.1,ZK true x p u.2)/\a=w ++ [i]
def Zdw (W:List Nat->Prop):Option (List Nat)->Prop
 | none=>∀ a,¬ W a
 | some a=>Zx7 W a
theorem Zdw.congr {W W':List Nat->Prop} {o:Option (List Nat)} (h:Zdw W o) (hw:∀ b,W' b↔W b):Zdw W' o:=by
 cases o with
 | none=>exact fun a ha=>h a ((hw a).1 ha)
 | some a=>exact Zx7.congr h hw
def Zt7 (c:List Nat):Option (List Nat)->Option (List Nat)
 | none=>some c
 | some d=>if Vo c d=true then some c else some d
theorem Zdw.more {W W':List Nat->Prop} {o:Option (List Nat)} {c:List Nat} (h:Zdw W o) (hw:∀ b,W' b↔W b\/b=c) :
 Zdw W' (Zt7 c o):=by
 cases o with
 | none=>exact ⟨(hw c).2 (.inr rfl),fun b hb=>by
  rcases (hw b).1 hb with hb | rfl
  . exact absurd hb (h b)
  . exact W6 _⟩
 | some d =>
  simp only [Zt7]
  split
  . rename_i hcd
    refine ⟨(hw c).2 (.inr rfl),fun b hb=>?_⟩
    rcases (hw b).1 hb with hb | rfl
    . cases hq:Vo b c with
      | false=>rfl
      | true=>have:=WG hq hcd;rw [h.2 b hb] at this;cases this
    . exact W6 _
  . rename_i hcd
    refine ⟨(hw d).2 (.inl h.1),fun b hb=>?_⟩
    rcases (hw b).1 hb with hb | rfl
    . exact h.2 b hb
    . simpa using hcd
def Nxt (l:Land) (p:Span) (G:Int) (L N:Int × Int->Option (List Nat)) (done:Int × Int->Nat->Prop):Prop:=∀ q,Zdw (Cand l p G L done q) (N q)
theorem Nxt.congr {l:Land} {p:Span} {G:Int} {L N N':Int × Int->Option (List Nat)} {done done':Int × Int->Nat->Prop} (h:Nxt l p G L N done) (hN:∀ q,N' q=N q) (hd:∀ u w i,L u=some w->i < l.legs.length->(done' u i↔done u i)):Nxt l p G L N' done':=fun q=>by
 rw [hN]
 refine (h q).congr fun b=>⟨?_,?_⟩
 . rintro ⟨u,w,i,x,h1,h2,h3⟩;exact ⟨u,w,i,x,h1,(hd u w i h1 (List.getElem?_eq_some_iff.1 h3.1).1).1 h2,h3⟩
 . rintro ⟨u,w,i,x,h1,h2,h3⟩;exact ⟨u,w,i,x,h1,(hd u w i h1 (List.getElem?_eq_some_iff.1 h3.1).1).2 h2,h3⟩
theorem Nxt.start {l:Land} {p:Span} {G:Int} {L N:Int × Int->Option (List Nat)} (hN:∀ q,N q=none):Nxt l p G L N (fun _ _=>False):=fun q=>by
 rw [hN];rintro a ⟨_,_,_,_,_,h,_⟩;exact h
theorem Nxt.skip {l:Land} {p:Span} {G:Int} {L N:Int × Int->Option (List Nat)} {done:Int × Int->Nat->Prop} (h:Nxt l p G L N done) {u:Int × Int} {i:Nat} {x:Leg} (hx:l.legs[i]? = some x) (hn:¬ (0<=Zk x u.1/\ZK true x p u.2<=G)) :
 Nxt l p G L N (fun u' i'=>done u' i'\/u'=u/\i'=i):=fun q=>(h q).congr fun b=>⟨by
  rintro ⟨u',w,i',x',h1,h2,h3,h4,h5,h6⟩
  rcases h2 with h2 | ⟨rfl,rfl⟩
  . exact ⟨u',w,i',x',h1,h2,h3,h4,h5,h6⟩
  . rw [hx] at h3;cases h3;exact absurd ⟨h4,h5⟩ hn,by
  rintro ⟨u',w,i',x',h1,h2,h3⟩;exact ⟨u',w,i',x',h1,.inl h2,h3⟩⟩
theorem Nxt.step {l:Land} {p:Span} {G:Int} {L N N':Int × Int->Option (List Nat)} {done:Int × Int->Nat->Prop} (h:Nxt l p G L N done) {u:Int × Int} {w:List Nat} {i:Nat} {x:Leg} (hL:L u=some w) (hx:l.legs[i]? = some x) (h0:0<=Zk x u.1) (h1:ZK true x p u.2<=G)
 (hN:∀ q,N' q=if q=(Zk x u.1,ZK true x p u.2) then Zt7 (w ++ [i]) (N q) else N q) :
 Nxt l p G L N' (fun u' i'=>done u' i'\/u'=u/\i'=i):=fun q=>by
 rw [hN]
 by_cases hq:q=(Zk x u.1,ZK true x p u.2)
 . rw [if_pos hq]
   refine Zdw.more (h q) fun b=>⟨?_,?_⟩
   . rintro ⟨u',w',i',x',k1,k2,k3,k4,k5,k6,k7⟩
     rcases k2 with k2 | ⟨rfl,rfl⟩
     . exact .inl ⟨u',w',i',x',k1,k2,k3,k4,k5,k6,k7⟩
     . rw [hL] at k1;cases k1;exact .inr k7
   . rintro (⟨u',w',i',x',k1,k2,k3⟩ | rfl)
     . exact ⟨u',w',i',x',k1,.inl k2,k3⟩
     . exact ⟨u,w,i,x,hL,.inr ⟨rfl,rfl⟩,hx,h0,h1,hq,rfl⟩
 . rw [if_neg hq]
   refine (h q).congr fun b=>⟨?_,?_⟩
   . rintro ⟨u',w',i',x',k1,k2,k3,k4,k5,k6,k7⟩
     rcases k2 with k2 | ⟨rfl,rfl⟩
     . exact ⟨u',w',i',x',k1,k2,k3,k4,k5,k6,k7⟩
     . rw [hx] at k3;cases k3;exact absurd k6 hq
   . rintro ⟨u',w',i',x',k1,k2,k3⟩
     exact ⟨u',w',i',x',k1,.inl k2,k3⟩
def Rd (l:Land) (p:Span) (s day G:Int) (n:Nat) (L:Int × Int->Option (List Nat)):Prop:=∀ q,Zdw (fun a=>q.2<=G/\Zl1 l p s day n q a) (L q)
theorem Rd.start {l:Land} {p:Span} {s day G:Int} {L:Int × Int->Option (List Nat)} (hG:day<=G) (hL:∀ q,L q=if q=(s,day) then some [] else none):Rd l p s day G 0 L:=fun q=>by
 rw [hL]
 split
 . rename_i hq
   subst hq
   exact ⟨⟨hG,rfl,rfl⟩,fun b hb=>by rw [List.eq_nil_of_length_eq_zero hb.2.1];rfl⟩
 . rename_i hq
   rintro a ⟨_,h1,h2⟩
   rw [List.eq_nil_of_length_eq_zero h1] at h2
   simp only [goW,Option.some.injEq] at h2
   exact hq h2.symm
theorem Rd.next {l:Land} {p:Span} {s day G:Int} {n:Nat} {L N:Int × Int->Option (List Nat)} {done:Int × Int->Nat->Prop} (hg:OkLP l p) (h:Rd l p s day G n L) (hN:Nxt l p G L N done) (hd:∀ u w i,L u=some w->i < l.legs.length->done u i) (hG:G<=100000)
 (hd':day<=100000) (h0:0<=s) (h1:s < l.wells.length):Rd l p s day G (n+1) N:=fun q=>by
 have hq:=hN q
 have one:∀ a,Cand l p G L done q a->q.2<=G/\Zl1 l p s day (n+1) q a:=by
  rintro a ⟨u,w,i,x,k1,_,k3,k4,k5,rfl,rfl⟩
  have:=h u
  rw [k1] at this
  obtain ⟨⟨g1,g2,g3⟩,_⟩:=this
  exact ⟨k5,by simp [g2],ZaX (v:=u.1) (u:=u.2) g3 k3 (by omega) (by omega)⟩
 have two:∀ b,(q.2<=G/\Zl1 l p s day (n+1) q b)->∃ a,Cand l p G L done q a/\Vo b a=false:=by
  rintro b ⟨k1,k2,k3⟩
  obtain ⟨c,i,rfl⟩:∃ c i,b=c ++ [i]:=by
   rcases List.eq_nil_or_concat b with rfl | ⟨c,i,rfl⟩
   . simp at k2
   . exact ⟨c,i,by simp⟩
  obtain ⟨u,x,g1,g2,g3,g4,g5⟩:=Zf7 k3
  have hub:=V9 hg (v':=u.1) (t':=u.2) g1 hd' h0 h1
  have hge:=Vs (k:=true) (t:=u.2) (hg.leg g2) hg.pace (by omega)
  have hq2:q.2=ZK true x p u.2:=by rw [g5]
  have hu:=h u
  cases hLu:L u with
  | none=>rw [hLu] at hu;exact absurd ⟨by omega,by simpa using k2,g1⟩ (hu c)
  | some w =>
   rw [hLu] at hu
   have hlen:c.length=w.length:=by rw [hu.1.2.1];simpa using k2
   refine ⟨w ++ [i],⟨u,w,i,x,hLu,hd u w i hLu (List.getElem?_eq_some_iff.1 g2).1,g2,g3,by omega,g5,rfl⟩,?_⟩
   rw [ZaH hlen,hu.2 c ⟨by omega,by simpa using k2,g1⟩]
   simp [Vo]
 cases hNq:N q with
 | none =>
  rw [hNq] at hq
  intro b hb
  obtain ⟨a,ha,_⟩:=two b hb
  exact hq a ha
 | some a =>
  rw [hNq] at hq
  refine ⟨one a hq.1,fun b hb=>?_⟩
  obtain ⟨c,hc,hbc⟩:=two b hb
  cases hba:Vo b a with
  | false=>rfl
  | true =>
   have hca:=hq.2 c hc
   cases hcb:Vo c b with
   | true=>have:=WG hcb hba;rw [hca] at this;cases this
   | false=>rw [ZgF hbc hcb,hca] at hba;cases hba
def Zsp (l:Land) (p:Span) (s to day:Int) (a:List Nat):Prop :=
 goW true l p s day a=some (to,Y1 true l p s day to)/\∀ b,goW true l p s day b=some (to,Y1 true l p s day to)->a.length < b.length\/(a.length=b.length/\Vo b a=false)
theorem Rd.sure {l:Land} {p:Span} {s to day G:Int} {n:Nat} {L:Int × Int->Option (List Nat)} {a:List Nat} (h:Rd l p s day G n L) (hG:G=Y1 true l p s day to) (hL:L (to,G)=some a) (hm:∀ m,m < n->∀ b,¬ Zl1 l p s day m (to,G) b):Zsp l p s to day a:=by
 subst hG
 have hq:=h (to,Y1 true l p s day to)
 rw [hL] at hq
 refine ⟨hq.1.2.2,fun b hb=>?_⟩
 by_cases hlt:b.length < n
 . exact absurd ⟨rfl,hb⟩ (hm b.length hlt b)
 . have hn:=hq.1.2.1
   by_cases he:b.length=n
   . exact .inr ⟨by omega,hq.2 b ⟨Int.le_refl _,he,hb⟩⟩
   . exact .inl (by omega)
theorem Rd.not {l:Land} {p:Span} {s to day G:Int} {n:Nat} {L:Int × Int->Option (List Nat)} (h:Rd l p s day G n L) (hL:L (to,G)=none) (hm:∀ m,m < n->∀ b,¬ Zl1 l p s day m (to,G) b):∀ m,m < n+1->∀ b,¬ Zl1 l p s day m (to,G) b:=fun m hmn b hb=>by
 by_cases he:m=n
 . subst he
   have:=h (to,G)
   rw [hL] at this
   exact this b ⟨Int.le_refl _,hb⟩
 . exact hm m (by omega) b hb
open Classical in
noncomputable def Y7 (l:Land) (p:Span) (v t:Int) (n:Nat) (w:Int):Int :=
 if h:∃ m:Nat,∃ a,Zl1 l p v t n (w,(m:Int)) a then ((Go.Sx.least_ex _ h).choose:Int) else 100001
theorem VC {l:Land} {p:Span} (h:OkLP l p) {v t w u:Int} {n:Nat} {a:List Nat} (e:Zl1 l p v t n (w,u) a) (ht:0<=t) (ht':t<=100000) (h0:0<=v) (h1:v < l.wells.length):Y7 l p v t n w<=u:=by
 have hb:=V9 h e.2 ht' h0 h1
 have eu:((u.toNat:Nat):Int)=u:=by omega
 have hex:∃ m:Nat,∃ a,Zl1 l p v t n (w,(m:Int)) a:=⟨u.toNat,a,by rw [eu];exact e⟩
 unfold Y7
 rw [dif_pos hex]
 have:=(Go.Sx.least_ex _ hex).choose_spec.2 u.toNat ⟨a,by rw [eu];exact e⟩
 omega
theorem Y3 {l:Land} {p:Span} {v t w:Int} {n:Nat}:Y7 l p v t n w=100001\/∃ a,Zl1 l p v t n (w,Y7 l p v t n w) a:=by
 unfold Y7
 by_cases hex:∃ m:Nat,∃ a,Zl1 l p v t n (w,(m:Int)) a
 . rw [dif_pos hex];exact .inr (Go.Sx.least_ex _ hex).choose_spec.1
 . rw [dif_neg hex];exact .inl rfl
theorem ZbA {l:Land} {p:Span} (h:OkLP l p) {v t w:Int} {n:Nat} (ht:0<=t) (ht':t<=100000) (h0:0<=v) (h1:v < l.wells.length):t<=Y7 l p v t n w/\Y7 l p v t n w<=100001:=by
 rcases Y3 (l:=l) (p:=p) (v:=v) (t:=t) (n:=n) (w:=w) with e | ⟨a,e⟩
 . omega
 . have:=V9 h e.2 ht' h0 h1;omega
theorem ZoD {l:Land} {p:Span} (h:OkLP l p) {v t w:Int} (ht:0<=t) (ht':t<=100000) (h0:0<=v) (h1:v < l.wells.length):Y7 l p v t 0 w=if w=v then t else 100001:=by
 rcases Y3 (l:=l) (p:=p) (v:=v) (t:=t) (n:=0) (w:=w) with e | ⟨a,e1,e2⟩
 . split
   . rename_i hw
     subst hw
     have:=VC (u:=t) (a:=[]) (n:=0) (w:=w) h ⟨rfl,rfl⟩ ht ht' h0 h1
     omega
   . exact e
 . rw [List.eq_nil_of_length_eq_zero e1] at e2
   simp only [goW,Option.some.injEq,Prod.mk.injEq] at e2
   rw [if_pos e2.1.symm];exact e2.2.symm
noncomputable def Zaw (l:Land) (p:Span) (v t:Int) (n:Nat):List Int:=(List.range l.wells.length).map fun w:Nat=>Y7 l p v t n (w:Int)
theorem ZcR {l:Land} {p:Span} {v t:Int} {n:Nat}:(Zaw l p v t n).length=l.wells.length:=by simp [Zaw]
theorem Zf9 {l:Land} {p:Span} {v t w:Int} {n:Nat} (h0:0<=w) (h1:w < l.wells.length):dv (Zaw l p v t n) w=Y7 l p v t n w:=by
 obtain ⟨i,rfl⟩:∃ i:Nat,w=(i:Int):=⟨w.toNat,by omega⟩
 rw [WO (by rw [ZcR];omega)]
 simp [Zaw]
structure Lst (l:Land) (p:Span) (c d:List Int) (j:Nat):Prop where
 len:d.length=l.wells.length
 ub:∀ w,dv d w<=100001
 le:∀ (i:Nat) (x:Leg) (v:Int),i < j->l.legs[i]? = some x->0<=Zk x v->dv d (Zk x v)<=ZK true x p (dv c v)
 real:∀ w,dv d w=100001\/∃ (i:Nat) (x:Leg) (v:Int),l.legs[i]? = some x/\0<=Zk x v/\Zk x v=w/\dv d w=ZK true x p (dv c v)
theorem Lst.start {l:Land} {p:Span} {c:List Int}:Lst l p c (List.replicate l.wells.length 100001) 0:=by
 have e:∀ w,dv (List.replicate l.wells.length 100001) w=100001:=fun w=>by
  by_cases hw:0<=w/\w < (List.replicate l.wells.length (100001:Int)).length
  . obtain ⟨i,rfl⟩:∃ i:Nat,w=(i:Int):=⟨w.toNat,by omega⟩
    rw [WO (by omega)];simp
  . exact ZyQ hw
 exact ⟨by simp,fun w=>by rw [e];exact Int.le_refl _,fun i x v h=>by omega,fun w=>.inl (e w)⟩
theorem Zeq {l:Land} {p:Span} {c d:List Int} {x:Leg} {v:Int} {w:Nat} (hlen:d.length=l.wells.length) (hw:w < d.length) {i:Nat} (hx:l.legs[i]? = some x) (ho:Zk x v=w) (hub:∀ w,dv d w<=100001) (hr:∀ w,dv d w=100001\/∃ (i:Nat) (x:Leg) (v:Int),l.legs[i]? = some x/\0<=Zk x v/\Zk x v=w/\dv d w=ZK true x p (dv c v)) :
 (∀ u,dv (d.set w (min (dv d w) (ZK true x p (dv c v)))) u<=dv d u)/\(dv (d.set w (min (dv d w) (ZK true x p (dv c v)))) w<=ZK true x p (dv c v)) /\
 ∀ u,dv (d.set w (min (dv d w) (ZK true x p (dv c v)))) u=100001\/∃ (i:Nat) (y:Leg) (v':Int),l.legs[i]? = some y/\0<=Zk y v'/\Zk y v'=u/\dv (d.set w (min (dv d w) (ZK true x p (dv c v)))) u=ZK true y p (dv c v'):=by
 refine ⟨fun u=>?_,?_,fun u=>?_⟩
 . rw [WR hw];split
   . rename_i hu;rw [hu];omega
   . exact Int.le_refl _
 . rw [WR hw,if_pos rfl];omega
 . rw [WR hw];split
   . rename_i hu
     by_cases hm:dv d w<=ZK true x p (dv c v)
     . rw [Int.min_eq_left hm,hu];exact hr w
     . rw [Int.min_eq_right (by omega)]
       exact .inr ⟨i,x,v,hx,by omega,by omega,rfl⟩
   . exact hr u
theorem Lst.step {l:Land} {p:Span} {c d:List Int} {j:Nat} (h:Lst l p c d j) (hg:OkLP l p) {x:Leg} (hx:l.legs[j]? = some x) {a b:Nat} (ha:x.a=a) (hb:x.b=b) :
 Lst l p c ((d.set b (min (dv d b) (ZK true x p (dv c a)))).set a (min (dv (d.set b (min (dv d b) (ZK true x p (dv c a)))) a) (ZK true x p (dv c b)))) (j+1):=by
 have hen:=hg.ends (List.mem_of_getElem? hx)
 have hbl:b < d.length:=by rw [h.len];omega
 have hal:a < d.length:=by rw [h.len];omega
 have o1:Zk x (a:Int)=(b:Int):=by rw [Zk,if_pos ha,hb]
 have o2:Zk x (b:Int)=(a:Int):=by rw [Zk,if_neg (by omega),if_pos hb,ha]
 obtain ⟨q1,q2,q3⟩:=Zeq (v:=(a:Int)) h.len hbl hx o1 h.ub h.real
 have hl1:(d.set b (min (dv d b) (ZK true x p (dv c a)))).length=d.length:=List.length_set
 generalize d.set b (min (dv d b) (ZK true x p (dv c a)))=d1 at q1 q2 q3 hl1
 obtain ⟨r1,r2,r3⟩:=Zeq (v:=(b:Int)) (hl1.trans h.len) (by omega:a < d1.length) hx o2 (fun w=>Int.le_trans (q1 w) (h.ub w)) q3
 have hl2:(d1.set a (min (dv d1 a) (ZK true x p (dv c b)))).length=d1.length:=List.length_set
 generalize d1.set a (min (dv d1 a) (ZK true x p (dv c b)))=d2 at r1 r2 r3 hl2
 refine ⟨by rw [hl2,hl1,h.len],fun w=>Int.le_trans (r1 w) (Int.le_trans (q1 w) (h.ub w)),fun i y v hi hy ho=>?_,r3⟩
 by_cases he:i=j
 . subst he
   rw [hx] at hy;cases hy
   rcases (ZW hg hx (v:=v) (by omega)).2.1 with ⟨e1,e2⟩ | ⟨e1,e2⟩
   . have ev:v=(a:Int):=by omega
     subst ev
     rw [o1]
     exact Int.le_trans (r1 _) q2
   . have ev:v=(b:Int):=by omega
     subst ev
     rw [o2];exact r2
 . exact Int.le_trans (r1 _) (Int.le_trans (q1 _) (h.le i y v (by omega) hy ho))
theorem Lst.done {l:Land} {p:Span} {v t:Int} {n:Nat} {d:List Int} (h:Lst l p (Zaw l p v t n) d l.legs.length) (hg:OkLP l p) (ht:0<=t) (ht':t<=100000) (h0:0<=v) (h1:v < l.wells.length):d=Zaw l p v t (n+1):=by
 refine List.ext_getElem (by rw [h.len,ZcR]) fun i hi hi'=>?_
 have hil:i < l.wells.length:=by rw [h.len] at hi;exact hi
 rw [show (Zaw l p v t (n+1))[i]=Y7 l p v t (n+1) i by simp [Zaw],<- WO hi]
 have hlow:Y7 l p v t (n+1) i<=dv d i:=by
  rcases h.real i with e | ⟨k,x,u,hx,ho,hou,e⟩
  . rw [e];exact (ZbA hg ht ht' h0 h1).2
  . have hin:=ZW hg hx (v:=u) (by omega)
    rw [Zf9 hin.2.2.1 hin.2.2.2] at e
    by_cases hr:dv d i=100001
    . rw [hr];exact (ZbA hg ht ht' h0 h1).2
    . have hub:=h.ub i
      have hb:=Xu (k:=true) (t:=Y7 l p v t n u) (hg.leg hx) hg.pace (ZbA hg ht ht' h0 h1).2
      rcases Y3 (l:=l) (p:=p) (v:=v) (t:=t) (n:=n) (w:=u) with e' | ⟨a,e1,e2⟩
      . omega
      . rw [e,<- hou]
        exact VC hg ⟨by simp [e1],ZaX e2 hx (by omega) (by omega)⟩ ht ht' h0 h1
 have hup:dv d i<=Y7 l p v t (n+1) i:=by
  rcases Y3 (l:=l) (p:=p) (v:=v) (t:=t) (n:=n+1) (w:=i) with e' | ⟨b,e1,e2⟩
  . rw [e'];exact h.ub i
  . obtain ⟨c,k,rfl⟩:∃ c k,b=c ++ [k]:=by
     rcases List.eq_nil_or_concat b with rfl | ⟨c,k,rfl⟩
     . simp at e1
     . exact ⟨c,k,by simp⟩
    obtain ⟨u,x,g1,g2,g3,g4,g5⟩:=Zf7 e2
    have hin:=ZW hg g2 (v:=u.1) (by omega)
    have:=h.le k x u.1 (List.getElem?_eq_some_iff.1 g2).1 g2 g3
    rw [Zf9 hin.2.2.1 hin.2.2.2] at this
    have hl:=VC (n:=n) (w:=u.1) (u:=u.2) hg ⟨by simpa using e1,g1⟩ ht ht' h0 h1
    have hm:=Zbf (k:=true) (hg.leg g2) hg.pace hl
    simp only [Prod.mk.injEq] at g5
    rw [<- g5.1] at this
    omega
 omega
structure Gr (l:Land) (p:Span) (s day to best:Int) (n0 n:Nat) (v t:Int) (out:List Nat):Prop where
 go:goW true l p s day out=some (v,t)
 len:out.length+n=n0
 least:Y7 l p v t n to=best
 pre:∀ b,b.length=n0->goW true l p s day b=some (to,best)->b.take out.length=out\/Vo out (b.take out.length)=true
def Fit (l:Land) (p:Span) (to best:Int) (n:Nat) (v t:Int) (i:Nat):Prop:=∃ x,l.legs[i]? = some x/\0<=Zk x v/\ZK true x p t < 100001/\Y7 l p (Zk x v) (ZK true x p t) n to=best
theorem Gr.start {l:Land} {p:Span} {s day to best:Int} {n:Nat} (h:Y7 l p s day n to=best):Gr l p s day to best n n s day []:=⟨rfl,by simp,h,fun _ _ _=>.inl (by simp)⟩
theorem ZoO {l:Land} {p:Span} {v t:Int} {i:Nat} {c:List Nat} {q:Int × Int} (h:goW true l p v t (i :: c)=some q):∃ x,l.legs[i]? = some x/\0<=Zk x v/\ZK true x p t<=100000/\goW true l p (Zk x v) (ZK true x p t) c=some q:=by
 simp only [goW] at h
 cases hx:l.legs[i]? with
 | none=>rw [hx] at h;cases h
 | some x =>
  rw [hx] at h
  simp only at h
  split at h
  . cases h
  . split at h
    . cases h
    . exact ⟨x,rfl,by omega,by omega,h⟩
theorem Gr.fit {l:Land} {p:Span} {s day to best:Int} {n0 n:Nat} {v t:Int} {out:List Nat} (h:Gr l p s day to best n0 (n+1) v t out) (hg:OkLP l p) (hd:0<=day) (hd':day<=100000) (h0:0<=s) (h1:s < l.wells.length) (hb:best=Y1 true l p s day to) {i:Nat} {c:List Nat} (hc:c.length=n)
 (hw:goW true l p v t (i :: c)=some (to,best)):Fit l p to best n v t i:=by
 obtain ⟨x,g1,g2,g3,g4⟩:=ZoO hw
 have hbd:=V9 hg h.go hd' h0 h1
 have hin:=ZW hg g1 (v:=v) (by omega)
 have ha:=Xu (k:=true) (t:=t) (hg.leg g1) hg.pace (by omega)
 have hle:=VC (n:=n) (w:=to) (u:=best) hg ⟨hc,g4⟩ (by omega) g3 hin.1.1 hin.1.2
 refine ⟨x,g1,g2,by omega,?_⟩
 rcases Y3 (l:=l) (p:=p) (v:=Zk x v) (t:=ZK true x p t) (n:=n) (w:=to) with e | ⟨a,e1,e2⟩
 . have:=V9 hg g4 g3 hin.1.1 hin.1.2;omega
 . have hgo:goW true l p s day (out ++ (i :: a))=some (to,Y7 l p (Zk x v) (ZK true x p t) n to):=by
    rw [Zbx,h.go]
    simp only [Option.bind_some,goW,g1]
    rw [if_neg (by omega),if_neg (by omega)]
    exact e2
   have:=Zbw hg hgo hd hd' h0 h1
   omega
theorem Gr.ex {l:Land} {p:Span} {s day to best:Int} {n0 n:Nat} {v t:Int} {out:List Nat} (h:Gr l p s day to best n0 (n+1) v t out) (hg:OkLP l p) (hd:0<=day) (hd':day<=100000) (h0:0<=s) (h1:s < l.wells.length) (hb:best=Y1 true l p s day to) (hb':best<=100000) :
 ∃ i,i < l.legs.length/\Fit l p to best n v t i:=by
 rcases Y3 (l:=l) (p:=p) (v:=v) (t:=t) (n:=n+1) (w:=to) with e | ⟨a,e1,e2⟩
 . have:=h.least;omega
 . rw [h.least] at e2
   cases a with
   | nil=>simp at e1
   | cons i c =>
    have hf:=h.fit hg hd hd' h0 h1 hb (by simpa using e1) e2
    have hf':=hf
    obtain ⟨x,hx,_⟩:=hf'
    exact ⟨i,(List.getElem?_eq_some_iff.1 hx).1,hf⟩
theorem Gr.step {l:Land} {p:Span} {s day to best:Int} {n0 n:Nat} {v t:Int} {out:List Nat} (h:Gr l p s day to best n0 (n+1) v t out) (hg:OkLP l p) (hd:0<=day) (hd':day<=100000) (h0:0<=s) (h1:s < l.wells.length) (hb:best=Y1 true l p s day to) {i:Nat} {x:Leg} (hx:l.legs[i]? = some x) (ho:0<=Zk x v) (ha:ZK true x p t < 100001)
 (hf:Y7 l p (Zk x v) (ZK true x p t) n to=best) (hm:∀ j,j < i->¬ Fit l p to best n v t j):Gr l p s day to best n0 n (Zk x v) (ZK true x p t) (out ++ [i]):=by
 refine ⟨ZaX h.go hx (by omega) (by omega),by have:=h.len;simp;omega,hf,fun b hbl hbw=>?_⟩
 have hlen:=h.len
 have hsplit:b.take (out ++ [i]).length=b.take out.length ++ (b[out.length]?).toList:=by
  rw [List.length_append,List.length_singleton];exact List.take_add_one
 have hlt:out.length < b.length:=by omega
 rw [hsplit,List.getElem?_eq_getElem hlt,Option.toList_some]
 have hl:out.length=(b.take out.length).length:=by rw [List.length_take];omega
 rcases h.pre b hbl hbw with e | e
 . rw [e]
   have hbeq:b=out ++ (b[out.length] :: b.drop (out.length+1)):=by
    conv=>lhs;rw [<- List.take_append_drop out.length b,e,List.drop_eq_getElem_cons hlt]
   have hw2:goW true l p v t (b[out.length] :: b.drop (out.length+1))=some (to,best):=by
    rw [hbeq,Zbx,h.go] at hbw
    simpa using hbw
   have hfit:=h.fit hg hd hd' h0 h1 hb (by rw [List.length_drop];omega) hw2
   by_cases heq:b[out.length]=i
   . left;rw [heq]
   . right
     have:¬ b[out.length] < i:=fun hlt'=>hm _ hlt' hfit
     rw [ZaH rfl]
     simp [Vo,W6]
     omega
 . right
   rw [ZaH hl,e];rfl
theorem Gr.done {l:Land} {p:Span} {s day to best:Int} {n0:Nat} {v t:Int} {out:List Nat} (h:Gr l p s day to best n0 0 v t out) (hg:OkLP l p) (hd:0<=day) (hd':day<=100000) (h0:0<=s) (h1:s < l.wells.length) (hb:best=Y1 true l p s day to) (hb':best<=100000)
 (hm:∀ m,m < n0->Y7 l p s day m to≠best):Zsp l p s to day out:=by
 have hbd:=V9 hg h.go hd' h0 h1
 have h2:=h.least
 rw [ZoD hg (by omega) (by omega) hbd.2.2.1 hbd.2.2.2] at h2
 split at h2
 case isFalse=>omega
 rename_i hv
 subst hv;subst h2
 have hlen:=h.len
 refine ⟨by rw [<- hb];exact h.go,fun b hbw=>?_⟩
 rw [<- hb] at hbw
 by_cases hlt:b.length < n0
 . refine absurd ?_ (hm b.length hlt)
   have q1:=VC (n:=b.length) hg ⟨rfl,hbw⟩ hd hd' h0 h1
   rcases Y3 (l:=l) (p:=p) (v:=s) (t:=day) (n:=b.length) (w:=to) with e | ⟨a,e1,e2⟩
   . omega
   . have:=Zbw hg e2 hd hd' h0 h1;omega
 . by_cases he:b.length=n0
   . refine .inr ⟨by omega,?_⟩
     have hpre:=h.pre b he hbw
     rw [List.take_of_length_le (by omega)] at hpre
     rcases hpre with rfl | hpre
     . exact W6 _
     . cases hq:Vo b out with
       | false=>rfl
       | true=>have:=WG hpre hq;rw [W6] at this;cases this
   . exact .inl (by omega)
structure Stop where
 leg:Int
 well:Int
 leaves:Span
 arrives:Span
deriving DecidableEq
def Wa (l:Land):Int->List Int->Nat->Option Nat
 | _,[],_=>none
 | v,i :: r,k=>if Vm l i v < 0 then some k else Wa l (Vm l i v) r (k+1)
def Ue (l:Land):Int->List Int->List Int
 | _,[]=>[]
 | v,i :: r=>if Vm l i v < 0 then [] else Vm l i v :: Ue l (Vm l i v) r
def goS (l:Land) (p:Span):Int->Int->Int->List Int->Nat->List Stop->List Stop × Int × Int
 | _,_,_,[],_,acc=>(acc,0,0)
 | v,a,b,i :: r,k,acc=>match l.legs[i.toNat]? with
  | none=>([],0,0)
  | some x=>if ZK true x p b > 100000 then ([],k,34)
   else goS l p (Zk x v) (ZK false x p a) (ZK true x p b) r (k+1) (acc ++ [⟨i,Zk x v,⟨leK false x p a,leK true x p b⟩,⟨ZK false x p a,ZK true x p b⟩⟩])
def YU (l:Land) (p:Span) (s day:Int) (legs:List Int):List Stop × Int × Int :=
 if ZaE l p≠0 then ([],0,ZaE l p)
 else if (inR 0 (l.wells.length - 1) s && inR 0 100000 day)=false then ([],0,2)
 else if legs.length > 24 then ([],0,4)
 else match Wa l s legs 0 with
  | some k=>([],k,8)
  | none=>goS l p s day day legs 0 []
theorem U4 {l:Land} {i v:Int} (h:¬ Vm l i v < 0):∃ k:Nat,∃ x,i=(k:Int)/\∃ hk:k < l.legs.length,l.legs[k]? = some x/\l.legs[k]=x/\Vm l i v=Zk x v:=by
 unfold Vm at h ⊢
 split at h
 . rename_i hk
   refine ⟨i.toNat,l.legs[i.toNat],by omega,hk.2,by simp [hk.2],rfl,?_⟩
   rw [dif_pos hk]
 . omega
theorem Zfd {l:Land} {i v:Int}:i < 0\/(l.legs.length:Int)<=i->Vm l i v = -1:=fun h=>by
 unfold Vm;rw [dif_neg (by omega)]
theorem ZbT {l:Land} {k:Nat} {v:Int} (hk:k < l.legs.length):Vm l k v=Zk l.legs[k] v:=by
 unfold Vm;rw [dif_pos ⟨by omega,by simpa using hk⟩];simp
theorem X3 {α : Type} {l:List α} {j:Nat} (h:j < l.length):l.drop j=l[j] :: l.drop (j+1):=List.drop_eq_getElem_cons h
theorem Zd1 {l:Land}:∀ {legs:List Int} {v:Int} {k:Nat},Wa l v legs k=none->(Ue l v legs).length=legs.length
 | [],_,_,_=>rfl
 | i :: r,v,k,h=>by
  simp only [Wa] at h
  simp only [Ue]
  split at h
  . cases h
  . rename_i hn;rw [if_neg hn,List.length_cons,List.length_cons,Zd1 h]
structure W1 (l:Land) (s:Int) (legs:List Int) (j:Nat) (v:Int) (ends:List Int):Prop where
 bad:Wa l s legs 0=Wa l v (legs.drop j) j
 eds:Ue l s legs=ends ++ Ue l v (legs.drop j)
 len:ends.length=j
 inn:0<=v/\v < l.wells.length
theorem W1.start {l:Land} {s:Int} {legs:List Int} (h:0<=s/\s < l.wells.length):W1 l s legs 0 s []:=⟨by simp,by simp,rfl,h⟩
theorem W1.step {l:Land} {p:Span} {s:Int} {legs:List Int} {j:Nat} {v:Int} {ends:List Int} (h:W1 l s legs j v ends) (hg:OkLP l p) (hj:j < legs.length) (he:¬ Vm l legs[j] v < 0):W1 l s legs (j+1) (Vm l legs[j] v) (ends ++ [Vm l legs[j] v]):=by
 obtain ⟨k,x,_,_,hx,_,e⟩:=U4 he
 refine ⟨?_,?_,by simp [h.len],by rw [e] at he ⊢;exact (ZW hg hx he).1⟩
 . rw [h.bad,X3 hj];simp only [Wa];rw [if_neg he]
 . rw [h.eds,X3 hj];simp only [Ue];rw [if_neg he];simp
theorem W1.stop {l:Land} {s:Int} {legs:List Int} {j:Nat} {v:Int} {ends:List Int} (h:W1 l s legs j v ends) (hj:j < legs.length) (he:Vm l legs[j] v < 0):Wa l s legs 0=some j:=by
 rw [h.bad,X3 hj];simp only [Wa];rw [if_pos he]
theorem W1.done {l:Land} {s:Int} {legs:List Int} {v:Int} {ends:List Int} (h:W1 l s legs legs.length v ends):Wa l s legs 0=none/\ends=Ue l s legs:=by
 have h1:=h.bad
 have h2:=h.eds
 rw [List.drop_of_length_le (Nat.le_refl _)] at h1 h2
 exact ⟨by rw [h1];rfl,by rw [h2];simp [Ue]⟩
structure W2 (l:Land) (p:Span) (s day:Int) (legs:List Int) (j:Nat) (v a b:Int) (acc:List Stop):Prop where
 eq:goS l p s day day legs 0 []=goS l p v a b (legs.drop j) j acc
 bad:Wa l v (legs.drop j) j=none
 ends:(Ue l s legs).drop j=Ue l v (legs.drop j)
 inn:0<=v/\v < l.wells.length
 da:0<=a/\a<=100001
 db:0<=b/\b<=100000
 len:acc.length=j
theorem W2.start {l:Land} {p:Span} {s day:Int} {legs:List Int} (h:Wa l s legs 0=none) (hs:0<=s/\s < l.wells.length) (hd:0<=day/\day<=100000):W2 l p s day legs 0 s day day []:=⟨by simp,by simpa using h,by simp,hs,⟨hd.1,by omega⟩,hd,rfl⟩
theorem W2.at {l:Land} {p:Span} {s day:Int} {legs:List Int} {j:Nat} {v a b:Int} {acc:List Stop} (h:W2 l p s day legs j v a b acc) (hj:j < legs.length):∃ k:Nat,∃ hk:k < l.legs.length,legs[j]=(k:Int)/\Vm l legs[j] v=Zk l.legs[k] v/\0<=Zk l.legs[k] v/\(Ue l s legs)[j]? = some (Zk l.legs[k] v):=by
 have hb:=h.bad
 have he:=h.ends
 rw [X3 hj] at hb he
 simp only [Wa] at hb
 simp only [Ue] at he
 split at hb
 . cases hb
 . rename_i hn
   rw [if_neg hn] at he
   obtain ⟨k,x,e1,hk,e2,e3,e4⟩:=U4 hn
   subst e3
   refine ⟨k,hk,e1,e4,by omega,?_⟩
   have:=congrArg (fun q=>q[0]?) he
   simp only [List.getElem?_drop,Nat.add_zero,List.getElem?_cons_zero] at this
   rw [this,e4]
theorem W2.step {l:Land} {p:Span} {s day:Int} {legs:List Int} {j:Nat} {v a b:Int} {acc:List Stop} (h:W2 l p s day legs j v a b acc) (hg:OkLP l p) (hj:j < legs.length) {k:Nat} (hk:k < l.legs.length) (hl:legs[j]=(k:Int)) (hr:¬ ZK true l.legs[k] p b > 100000) (ho:0<=Zk l.legs[k] v) :
 W2 l p s day legs (j+1) (Zk l.legs[k] v) (ZK false l.legs[k] p a) (ZK true l.legs[k] p b) (acc ++ [⟨k,Zk l.legs[k] v,⟨leK false l.legs[k] p a,leK true l.legs[k] p b⟩,⟨ZK false l.legs[k] p a,ZK true l.legs[k] p b⟩⟩]):=by
 have hx:l.legs[k]? = some l.legs[k]:=List.getElem?_eq_getElem hk
 have hend:Vm l legs[j] v=Zk l.legs[k] v:=by rw [hl];exact ZbT hk
 have hb:=h.bad
 have he:=h.ends
 rw [X3 hj] at hb he
 simp only [Wa,hend] at hb
 rw [if_neg (by omega)] at hb
 simp only [Ue,hend] at he
 rw [if_neg (by omega)] at he
 have ha:=Vs (k:=false) (hg.leg hx) hg.pace h.da.2
 have ha':=Xu (k:=false) (hg.leg hx) hg.pace h.da.2
 have hb':=Vs (k:=true) (t:=b) (hg.leg hx) hg.pace (by have:=h.db;omega)
 have h1:=h.da
 have h2:=h.db
 refine ⟨?_,hb,?_,(ZW hg hx (by omega)).1,by omega,by omega,by simp [h.len]⟩
 . rw [h.eq,X3 hj,hl]
   simp only [goS,Int.toNat_natCast,hx]
   rw [if_neg hr]
 . have:=congrArg (List.drop 1) he
   simpa [List.drop_drop,Nat.add_comm] using this
theorem W2.stop {l:Land} {p:Span} {s day:Int} {legs:List Int} {j:Nat} {v a b:Int} {acc:List Stop} (h:W2 l p s day legs j v a b acc) (hj:j < legs.length) {k:Nat} (hk:k < l.legs.length) (hl:legs[j]=(k:Int)) (hr:ZK true l.legs[k] p b > 100000):goS l p s day day legs 0 []=([],(j:Int),34):=by
 rw [h.eq,X3 hj,hl]
 simp only [goS,Int.toNat_natCast,List.getElem?_eq_getElem hk]
 rw [if_pos hr]
theorem W2.done {l:Land} {p:Span} {s day:Int} {legs:List Int} {v a b:Int} {acc:List Stop} (h:W2 l p s day legs legs.length v a b acc):goS l p s day day legs 0 []=(acc,0,0):=by
 rw [h.eq,List.drop_of_length_le (Nat.le_refl _)];rfl
def XM (l:Land) (p:Span) (to till:Int):Nat->List Int->Int->Int->List (List Nat)
 | 0,_,_,_=>[]
 | f+1,been,v,t =>
  if t > till then []
  else if v=to then [[]]
  else (List.range l.legs.length).flatMap fun i=>match l.legs[i]? with
   | none=>[]
   | some x=>if Zk x v < 0\/Zk x v ∈ v :: been then [] else (XM l p to till f (v :: been) (Zk x v) (ZK true x p t)).map (i :: ·)
def Xb (l:Land) (p:Span) (to till:Int) (f:Nat) (been:List Int) (v t:Int) (i:Nat):List (List Nat) :=
 match l.legs[i]? with
 | none=>[]
 | some x=>if Zk x v < 0\/Zk x v ∈ v :: been then [] else (XM l p to till f (v :: been) (Zk x v) (ZK true x p t)).map (i :: ·)
def Yd (l:Land) (p:Span) (to till:Int) (f:Nat) (been:List Int) (v t:Int) (j:Nat):List (List Nat):=(List.range j).flatMap (Xb l p to till f been v t)
theorem Zek {l:Land} {p:Span} {to till:Int} {f:Nat} {been:List Int} {v t:Int}:Yd l p to till f been v t 0=[]:=rfl
theorem Z4 {l:Land} {p:Span} {to till:Int} {f:Nat} {been:List Int} {v t:Int} {j:Nat}:Yd l p to till f been v t (j+1)=Yd l p to till f been v t j ++ Xb l p to till f been v t j:=by
 simp [Yd,List.range_succ]
theorem YI {l:Land} {p:Span} {to till:Int} {f:Nat} {been:List Int} {v t:Int}:XM l p to till (f+1) been v t=if t > till then [] else if v=to then [[]] else Yd l p to till f been v t l.legs.length:=rfl
theorem ZcG {l:Land} {p:Span} {to till:Int} {f:Nat} {been:List Int} {v t:Int} (h:t > till):XM l p to till f been v t=[]:=by
 cases f with
 | zero=>rfl
 | succ f=>rw [YI,if_pos h]
def cap (L:List (List Nat)):List (List Nat):=L.take 201
theorem Zdv {A B:List (List Nat)} (h:A.length > 200):cap (A ++ B)=cap A:=by
 unfold cap;rw [List.take_append_of_le_length (by omega)]
theorem Vx {A:List (List Nat)} (h:A.length<=201):cap A=A:=List.take_of_length_le h
def Zmx (l:Land) (f:Nat) (been:List Int):Prop:=been.Nodup/\(∀ v ∈ been,0<=v/\v < l.wells.length)/\f+been.length=l.wells.length+1
theorem Zer {n:Nat}:∀ {been:List Int},been.Nodup->(∀ v ∈ been,0<=v/\v < n)->been.length<=n:=by
 intro been hn hb
 have h1:(been.map Int.toNat).Nodup:=by
  rw [List.Nodup,List.pairwise_map]
  refine List.Pairwise.imp_of_mem (fun {a b} ha hb' hab=>?_) hn
  have:=hb a ha;have:=hb b hb';omega
 have h2:∀ x ∈ been.map Int.toNat,x ∈ List.range n:=fun x hx=>by
  obtain ⟨v,hv,rfl⟩:=List.mem_map.1 hx
  have:=hb v hv
  simp only [List.mem_range];omega
 have:=List.Nodup.length_le_of_subset h1 h2
 simpa using this
theorem Zmx.pos {l:Land} {f:Nat} {been:List Int} {v:Int} (h:Zmx l f been) (hv:v ∉ been) (hi:0<=v/\v < l.wells.length):∃ g,f=g+1/\Zmx l g (v :: been):=by
 obtain ⟨h1,h2,h3⟩:=h
 have hn:(v :: been).Nodup:=List.nodup_cons.2 ⟨hv,h1⟩
 have hb:∀ u ∈ v :: been,0<=u/\u < l.wells.length:=fun u hu=>by
  rcases List.mem_cons.1 hu with rfl | hu
  . exact hi
  . exact h2 u hu
 have:=Zer hn hb
 simp only [List.length_cons] at this
 exact ⟨f - 1,by omega,hn,hb,by simp only [List.length_cons];omega⟩
theorem Zmx.start {l:Land}:Zmx l (l.wells.length+1) []:=⟨List.nodup_nil,fun v h=>(by cases h),by simp⟩
def Zdd (l:Land) (p:Span) (s to day till:Int):Int :=
 if ZaE l p≠0 then ZaE l p
 else if (inR 0 (l.wells.length - 1) s && inR 0 (l.wells.length - 1) to && inR 0 100000 day && inR 0 100000 till)=false then 2
 else if (XM l p to till (l.wells.length+1) [] s day).length > 200 then 9 else 0
def Zaf (l:Land) (p:Span) (s to day till:Int):List (List Nat):=XM l p to till (l.wells.length+1) [] s day
end Go.Azalai
namespace Go.Proofs.YtiigiflofnjilaaGreat
open Go Go.Sx Go.Azalai
def ZT (s:Stop):List SV:=[I s.leg,I s.well,I s.leaves.lo,I s.leaves.hi,I s.arrives.lo,I s.arrives.hi]
def ZbN (r:List Stop × Int × Int):SV:=.tup [XQ r.2.2 6 (r.1.map ZT),I r.2.1,I r.2.2]
theorem Zo8 (r:List Stop × Int × Int):KF (ZbN r):=by
 unfold ZbN XQ;split<;>simp [KFL,KF,Za,ZT]
theorem ZnR (l:Land) (hs:Vl l) (s day:Int) (p:Span) (legs:List Int) (hl:legs.length<=1000) (c:Bool):Ct Tryz.prog 36 [.agg (Yo l),I s,I day,.agg (Zd p),.sl c 1 (legs.map Zo)] (ZbN (YU l p s day legs)):=by
 have hw:=hs.1
 have hleg:=hs.2.1
 refine t36.1 (by simp [Yo,Zg,Zm,Zh,Zd,Zo,Za,KFL,KF]) (Zo8 _) ?_
 dsimp only [c36,r36,Yo,Zd,go_sem,rA,rM,rS]
 by_cases ha:ZaE l p=0
 case neg =>
  refine call (Za1 l hs p ha) ?_
  dsimp only [go_sem,rA,rM,rS]
  refine Zv (by simpa using ha) ?_
  dsimp only [go_sem,rA,rM,rS]
  simp [YU,ha,ZbN,XQ]
 have hok:=ZiA ha
 refine call (ZdL l hs p ha) ?_
 dsimp only [ZO,go_sem,rA,rM,rS]
 refine Zw (by decide) ?_
 dsimp only [go_sem,rA,rM,rS]
 simp only [List.length_map]
 have h1:=U5 hok.land
 rw [Zf (n:=(l.wells.length:Int) - 1) (by omega) (by omega)]
 refine call (UX 0 (l.wells.length - 1) s true) ?_
 dsimp only [go_sem,rA,rM,rS]
 repeat (first | (refine gb ?_;dsimp only [go_sem,rA,rM,rS]) | (refine call (UX 0 100000 day true) ?_;dsimp only [go_sem,rA,rM,rS]))
 by_cases hr:(inR 0 (l.wells.length - 1) s && inR 0 100000 day)=true
 case neg =>
  refine Zv (by simpa [Bool.and_eq_true,<- Bool.not_and] using hr) ?_
  dsimp only [go_sem,rA,rM,rS]
  simp [YU,ha,ZbN,XQ,hr]
 refine Zw (by simpa [<- Bool.not_and] using hr) ?_
 dsimp only [go_sem,rA,rM,rS]
 simp only [List.length_map]
 by_cases hm:legs.length > 24
 . refine Zv (by simp;omega) ?_
   dsimp only [go_sem,rA,rM,rS]
   simp only [YU,ha,hr,ne_eq,not_true_eq_false,if_false,Bool.true_eq_false,hm,if_true,ZbN,XQ]
   simp
 refine Zw (by simp;omega) ?_
 dsimp only [go_sem,rA,rM,rS]
 simp only [List.length_map]
 have hF1:∀ k,Wa l s legs 0=some k->YU l p s day legs=([],(k:Int),8):=fun k h=>by
  simp only [YU,ha,hr,ne_eq,not_true_eq_false,if_false,Bool.true_eq_false,hm,h]
 have hF2:Wa l s legs 0=none->YU l p s day legs=goS l p s day day legs 0 []:=fun h=>by
  simp only [YU,ha,hr,ne_eq,not_true_eq_false,if_false,Bool.true_eq_false,hm,h]
 simp only [Bool.and_eq_true,inR,decide_eq_true_eq] at hr
 obtain ⟨hr1,hd⟩:=hr
 refine ZeN (Y5 14 1 3 rfl rfl) (fun q:Nat × Nat × Int × List Int=>[(54,I q.1),(14,.mr 3 q.2.1),(15,I q.2.2.1)]) (fun q=>[(3,.row q.2.1 1 (q.2.2.2.map Zo) 3)])
  (fun q=>q.1<=legs.length/\W1 l s legs q.1 q.2.2.1 q.2.2.2) (fun q=>legs.length - q.1) (0,0,s,[]) ⟨Nat.zero_le _,W1.start (by omega)⟩ ?_ ?_
 . (refine Zl ?_ ?_ ?_ rfl rfl<;>dsimp only [Zd,Zg,Zm,Zh,Zo,id,go_sem,rA,rM,rS]<;>simp [Zd,Zg,Zm,Zh,Zo,Za,Ze,KFR,KFL,KF,Zc,mtO,nbr])
 rintro ⟨j,v,well,ends⟩ ⟨hj,hI⟩
 simp only at hj hI
 dsimp only [go_sem,rA,rM,rS]
 by_cases hlt:j < legs.length
 . refine Zv (by simpa using hlt) ?_
   dsimp only [go_sem,rA,rM,rS]
   refine Zp j hlt rfl ?_
   dsimp only [Zo,go_sem,rA,rM,rS]
   refine call (ZzK l p legs[j] well hleg) ?_
   dsimp only [go_sem,rA,rM,rS]
   by_cases hn:Vm l legs[j] well < 0
   . refine Zv (by simpa using hn) ?_
     dsimp only [go_sem,rA,rM,rS]
     rw [hF1 j (hI.stop hlt hn)]
     simp [ZbN,XQ]
   refine Zw (by simpa using hn) ?_
   dsimp only [go_sem,rA,rM,rS]
   simp only [nbr]
   dsimp only [go_sem,rA,rM,rS]
   have hst:=hI.step hok hlt hn
   refine ⟨(by intro c hc;simp only [List.mem_singleton] at hc;subst hc;rfl),by have:=hI.len;simp;omega,?_⟩
   dsimp only [go_sem,rA,rM,rS]
   rw [Zf (n:=(j:Int)+1) (by omega) (by omega)]
   have e:ends.map Zo ++ [[SV.v (.int .i64 (Vm l legs[j] well))]]=(ends ++ [Vm l legs[j] well]).map Zo:=by simp [Zo]
   rw [e]
   refine ⟨(j+1,v+1,Vm l legs[j] well,ends ++ [Vm l legs[j] well]),⟨hlt,hst⟩,by simp only;omega,?_⟩
   (refine Zl ?_ ?_ ?_ rfl rfl<;>dsimp only [Zd,Zg,Zm,Zh,Zo,id,go_sem,rA,rM,rS]<;>simp [Zd,Zg,Zm,Zh,Zo,Za,Ze,KFR,KFL,KF,Zc,mtO,nbr])
 refine Zw (by simp;omega) ?_
 dsimp only [go_sem,rA,rM,rS]
 have hje:j=legs.length:=by omega
 subst hje
 obtain ⟨hbad,hends⟩:=hI.done
 subst hends
 have hF:=hF2 hbad
 have hlen:=Zd1 hbad
 have h2:=W2.start (p:=p) hbad (by omega) hd
 clear hI
 refine ZeN (Y5 10 6 94 rfl rfl) (fun q:Nat × Nat × Int × Int × Int × List Stop=>[(76,I q.1),(10,.mr 5 q.2.1)]) (fun q=>[(5,.row q.2.1 6 (q.2.2.2.2.2.map ZT) 94),(4,.cells [I q.2.2.2.1,I q.2.2.2.2.1] 165)])
  (fun q=>q.1<=legs.length/\W2 l p s day legs q.1 q.2.2.1 q.2.2.2.1 q.2.2.2.2.1 q.2.2.2.2.2) (fun q=>legs.length - q.1) (0,0,s,day,day,[]) ⟨Nat.zero_le _,h2⟩ ?_ ?_
 . (refine Zl ?_ ?_ ?_ rfl rfl<;>dsimp only [Zd,Zg,Zm,Zh,Zo,ZT,id,go_sem,rA,rM,rS]<;>simp [Zd,Zg,Zm,Zh,Zo,ZT,Za,Ze,KFR,KFL,KF,Zc,mtO,nbr])
 clear h2
 rintro ⟨j,u,wl,a,b,acc⟩ ⟨hj,hI⟩
 simp only at hj hI
 dsimp only [go_sem,rA,rM,rS]
 by_cases hlt:j < legs.length
 . refine Zv (by simpa using hlt) ?_
   dsimp only [go_sem,rA,rM,rS]
   refine Zp j hlt rfl ?_
   dsimp only [Zo,go_sem,rA,rM,rS]
   obtain ⟨k,hk,hlk,_,ho,hej⟩:=hI.at hlt
   have hgl:GoodLeg l.legs[k]:=XW hok.land _ (List.getElem_mem _)
   have hda:=hI.da
   have hdb:=hI.db
   have q0:inR 0 100001 a=true:=by simp only [inR,decide_eq_true_eq];omega
   have q1:inR 0 100001 b=true:=by simp only [inR,decide_eq_true_eq];omega
   simp only [hlk]
   refine call (We l p k hk a b hgl hok.pace q0 q1) ?_
   dsimp only [go_sem,rA,rM,rS]
   refine call (XZ l p k hk a b hgl hok.pace q0 q1) ?_
   dsimp only [go_sem,rA,rM,rS]
   refine ixa 1 rfl (by decide) ?_
   dsimp only [go_sem,rA,rM,rS]
   by_cases hR:ZK true l.legs[k] p b > 100000
   . refine Zv (by simpa using hR) ?_
     dsimp only [go_sem,rA,rM,rS]
     rw [hF,hI.stop hlt hk hlk hR]
     simp [ZbN,XQ]
   refine Zw (by simpa using hR) ?_
   dsimp only [go_sem,rA,rM,rS]
   simp only [nbr]
   dsimp only [go_sem,rA,rM,rS]
   have hjl:j < (Ue l s legs).length:=by omega
   simp only [List.length_map]
   refine ZdN j rfl hjl ?_
   dsimp only [go_sem,rA,rM,rS]
   simp only [nbr]
   dsimp only [go_sem,rA,rM,rS]
   refine ZgW hjl ?_
   dsimp only [Zo,go_sem,rA,rM,rS]
   have hej':(Ue l s legs)[j]=Zk l.legs[k] wl:=by rw [List.getElem?_eq_getElem hjl] at hej;exact Option.some.inj hej
   rw [hej']
   refine call (Zc2 _ _) ?_
   dsimp only [go_sem,rA,rM,rS]
   refine call (Zc2 _ _) ?_
   dsimp only [go_sem,rA,rM,rS]
   simp only [nbr]
   dsimp only [go_sem,rA,rM,rS]
   have hst:=hI.step hok hlt hk hlk hR ho
   refine ⟨(by intro c hc;simp only [List.mem_singleton] at hc;subst hc;rfl),by have:=hI.len;simp;omega,?_⟩
   dsimp only [go_sem,rA,rM,rS]
   rw [Zf (n:=(j:Int)+1) (by omega) (by omega)]
   have e:acc.map ZT ++ [[SV.v (.int .i64 (k:Int)),SV.v (.int .i64 (Zk l.legs[k] wl)),SV.v (.int .i64 (ZxQ l.legs[k] p a)),SV.v (.int .i64 (Zu6 l.legs[k] p b)),SV.v (.int .i64 (ZK false l.legs[k] p a)),SV.v (.int .i64 (ZK true l.legs[k] p b))]] =
    (acc ++ [(⟨(k:Int),Zk l.legs[k] wl,⟨leK false l.legs[k] p a,leK true l.legs[k] p b⟩,⟨ZK false l.legs[k] p a,ZK true l.legs[k] p b⟩⟩:Stop)]).map ZT:=by simp [ZT,leK]
   rw [e]
   refine ⟨(j+1,u+1,Zk l.legs[k] wl,ZK false l.legs[k] p a,ZK true l.legs[k] p b,_),⟨hlt,hst⟩,by simp only;omega,?_⟩
   (refine Zl ?_ ?_ ?_ rfl rfl<;>dsimp only [Zd,Zg,Zm,Zh,Zo,ZT,id,go_sem,rA,rM,rS]<;>simp [Zd,Zg,Zm,Zh,Zo,ZT,Za,Ze,KFR,KFL,KF,Zc,mtO,nbr])
 refine Zw (by simp;omega) ?_
 dsimp only [go_sem,rA,rM,rS]
 have hje:j=legs.length:=by omega
 subst hje
 simp only [nbr]
 dsimp only [go_sem,rA,rM,rS]
 rw [hF,hI.done]
 simp [ZbN,XQ,vwN]
end Go.Proofs.YtiigiflofnjilaaGreat
namespace Go.Sx
open Go Go.RowKit
def Xh (s s':SV):Prop:=∀ (w:World) (E:Env) (n ok:Nat->Prop) (y:Value),R w E n ok s y->R w E n ok s' y
theorem Xh.rfl {s:SV}:Xh s s:=fun _ _ _ _ _ h=>h
theorem YV {c:Bool} {m:Nat}:Xh (.v (.slice none 0 0)) (.sl c m []):=fun w E n ok y h=>by
 simp only [R] at h ⊢
 exact ⟨none,0,0,h,by simp,⟨Nat.le_refl _,fun _=>Eq.refl _⟩,by simp,by simp⟩
theorem ZcM {c:Bool} {m:Nat} {xs:List (List SV)}:Xh (.sl c m xs) (.sl false m xs):=fun w E n ok y h=>by
 simp only [R] at h ⊢
 obtain ⟨a,len,cap,h1,h2,h3,h4,h5⟩:=h
 exact ⟨a,len,cap,h1,h2,⟨h3.1,fun h=>by cases h⟩,h4,h5⟩
theorem Wi {l l':List SV} (h:∀ (w:World) (E:Env) (n ok:Nat->Prop) (ys:List Value),RL w E n ok l ys->RL w E n ok l' ys):Xh (.tup l) (.tup l'):=fun w E n ok y hy=>by
 simp only [R] at hy ⊢
 obtain ⟨cs,h1,h2⟩:=hy
 exact ⟨cs,h1,h _ _ _ _ _ h2⟩
theorem Z3 {s s':SV} {l l':List SV} (h1:Xh s s') (h2:∀ (w:World) (E:Env) (n ok:Nat->Prop) (ys:List Value),RL w E n ok l ys->RL w E n ok l' ys):∀ (w:World) (E:Env) (n ok:Nat->Prop) (ys:List Value),RL w E n ok (s :: l) ys->RL w E n ok (s' :: l') ys:=fun w E n ok ys h=>by
 simp only [RL] at h ⊢
 obtain ⟨y,r,q1,q2,q3⟩:=h
 exact ⟨y,r,q1,h1 _ _ _ _ _ q2,h2 _ _ _ _ _ q3⟩
def Zqm (rs:List RV) (res:SV):Ex->St->Prop
 | .ex _,_=>False
 | .n,σ=>∃ s,rvR rs σ = some s/\Xh s res
 | .ret,σ=>∃ s,rvR rs σ = some s/\Xh s res
 | .pan _,_=>False
theorem Zzw (rs:List RV) (res:SV) (σ : St):Zqm rs res .n σ = ∃ s,rvR rs σ = some s/\Xh s res:=rfl
theorem ZoQ (rs:List RV) (res:SV) (σ : St):Zqm rs res .ret σ = ∃ s,rvR rs σ = some s/\Xh s res:=rfl
attribute [go_sem] Zzw ZoQ
section
variable {P:Program}
theorem WU {f:FuncId} {fn:Func} {code:Code} {ir:SC} {args:List SV} {res:SV} {rs:List RV} {N:Nat} (hf:P.funcs[f]? = some fn) (hb:fn.body=some code) (hnm:YP P f=true) (hc:XK P ir code=true)
 (hr:Wx P rs fn.results.toList=true) (hN:fn.ntmps=N) (hA:args.length<=N) (ka:KFL args) (kr:KF res) (h:sx P Y0 0 ir (st0 args N) (Zqm rs res)):Ct P f args res:=by
 refine ⟨hnm,ka,kr,fun w ok vs hR=>?_⟩
 let C:Cx:=⟨w,ok,fun _ _=>False,[],none,E0,0⟩
 have hok:∀ b,ok b->okS C E0 [] b:=fun b hb=>⟨.inl hb,fun _ h=>h⟩
 refine UR (C:=C) (E:=E0) (hp0:=[]) (n0:=0) hf hb hc hN hA rfl rfl ⟨Nat.le_refl _,fun _ _ h=>h.elim⟩
  ⟨fun k _=>rfl,fun k=>trivial,fun k k' b h=>h.elim,fun k b h=>h.elim,⟨rfl,rfl,rfl,Nat.le_refl _,fun _ _ _=>rfl⟩,fun k hk=>absurd hk (Nat.not_lt_zero k)⟩
  (ZD (fun b hb _=>⟨hok b hb,rfl⟩) (fun _ h=>Ele.rfl) (fun _ h=>h.elim) _ _ hR) Za5 h fun e σ hk C' E a w' c1 c2 c3 c4 c5 hs=>?_
 have hpass:∀ k b,¬ C'.pass k b:=fun k b=>by rw [c3];exact fun h=>h
 have hend:(∃ s,rvR rs σ = some s/\Xh s res)->∃ v,(results fn a.tmps).run P w' = .ok v w'/\∃ y,Ending.returned v = .returned y/\R w' E0 (fun _=>False) (fun b=>ok b\/w.heap.size<=b) res y/\Below w.heap.size w w':=fun ⟨s,hrr,hw⟩=>by
  obtain ⟨v,h1,h2⟩:=UK (P:=P) (fn:=fn) (a:=a) (w:=w') (E:=E) (n:=ltn σ.n) (ok:=okF C') hrr fun l hl=>ZiB hs hpass rs _ l hr hl
  have hkp:=hs.hs.kp
  have e1:okF C'=fun b=>ok b\/w.heap.size<=b:=by funext b;simp only [okF,c1,c2];rfl
  rw [e1] at h2
  have e0:C'.w0=w:=c1
  refine ⟨v,h1,v,rfl,Zin res v kr (hw _ _ _ _ _ h2),?_⟩
  have q:=hkp
  exact ⟨by rw [<- e0];exact q.os,by rw [<- e0];exact q.tape,by rw [<- e0];exact q.output,by rw [<- e0];exact q.size,fun b hb=>by rw [<- e0];exact q.block b (by rw [e0];exact hb) (fun k=>hpass k b)⟩
 cases e with
 | ex i=>exact hk.elim
 | pan s=>exact hk.elim
 | n=>exact hend hk
 | ret=>exact hend hk
end
theorem Ct.args {P:Program} {f:FuncId} {args args0:List SV} {res:SV} (h:Ct P f args res) (ka:KFL args0) (hw:∀ (w:World) (E:Env) (n ok:Nat->Prop) (ys:List Value),RL w E n ok args0 ys->RL w E n ok args ys):Ct P f args0 res :=
 ⟨h.1,ka,h.3,fun w ok vs hR=>h.4 w ok vs (hw _ _ _ _ _ hR)⟩
end Go.Sx
namespace Go.Proofs.YtiigiflofnjilaaGreat
open Go Go.Sx Go.Azalai
def Ym (n:Nat):List SV:=[I (n:Int)]
def Z2 (a:List Nat):SV:=.sl false 1 (a.map Ym)
theorem ZsB (a:Int):Ct Tryz.prog 171 [I a] (B false):=by
 refine t171.1 (by simp [KFR,KFL,KF]) (by simp [KFL,KF]) ?_
 dsimp only [c171,r171,go_sem,rA,rM,rS]
 simp
def ZmF (a b:Int):Int:=if a < b then -1 else if a > b then 1 else 0
theorem Zw6 (a b:Int):Ct Tryz.prog 157 [I a,I b] (I (ZmF a b)):=by
 refine t157.1 (by simp [KFR,KFL,KF]) (by simp [KFL,KF]) ?_
 dsimp only [c157,r157,go_sem,rA,rM,rS]
 refine call (ZsB a) ?_
 dsimp only [go_sem,rA,rM,rS]
 refine call (ZsB b) ?_
 dsimp only [go_sem,rA,rM,rS]
 refine Zw rfl ?_
 dsimp only [go_sem,rA,rM,rS]
 refine Zw rfl ?_
 dsimp only [go_sem,rA,rM,rS]
 by_cases h:a < b
 . refine Zv (by simpa using h) ?_
   dsimp only [go_sem,rA,rM,rS]
   simp [ZmF,h]
 refine Zw (by simpa using h) ?_
 dsimp only [go_sem,rA,rM,rS]
 by_cases h':a > b
 . refine Zv (by simpa using h') ?_
   dsimp only [go_sem,rA,rM,rS]
   simp only [ZmF,if_neg h,if_pos h']
 refine Zw (by simpa using h') ?_
 dsimp only [go_sem,rA,rM,rS]
 simp only [ZmF,if_neg h,if_neg h']
def Zax:List Nat->List Nat->Int
 | [],[]=>0
 | [],_ :: _=>-1
 | _ :: _,[]=>1
 | x :: a,y :: b=>if x < y then -1 else if x > y then 1 else Zax a b
theorem ZgI:∀ {a b:List Nat},decide (Zax a b < 0)=Vo a b
 | [],[]=>rfl
 | [],_ :: _=>rfl
 | _ :: _,[]=>rfl
 | x :: a,y :: b=>by
  have ih:=ZgI (a:=a) (b:=b)
  have e:Zax (x :: a) (y :: b)=if x < y then -1 else if x > y then 1 else Zax a b:=rfl
  generalize Zax (x :: a) (y :: b)=c at e
  subst e
  simp only [Vo]
  by_cases h:x < y
  . simp [h]
  . by_cases h':x > y
    . have:(x == y)=false:=by simp;omega
      rw [this];simp [h,h']
    . have:(x == y)=true:=by simp;omega
      rw [this];simp [h,h',<- ih]
theorem Zg2 (a b:List Nat) (ha:a.length<=1000000) (hb:b.length<=1000000):Ct Tryz.prog 114 [Z2 a,Z2 b] (I (Zax a b)):=by
 refine t114.1 (by simp [Za,Z2,Ym,KFL,KF]) (by simp [KFL,KF]) ?_
 dsimp only [c114,r114,Z2,go_sem,rA,rM,rS]
 simp only [List.length_map]
 refine Xt (fun j:Nat=>[(11,I j)]) (fun _=>[]) (fun j=>j<=a.length/\Zax (a.drop j) (b.drop j)=Zax a b/\j<=b.length) (fun j=>a.length - j) 0 ⟨Nat.zero_le _,rfl,Nat.zero_le _⟩ ?_ ?_
 . (refine Zl ?_ ?_ ?_ rfl rfl<;>dsimp only [Ym,id,go_sem,rA,rM,rS]<;>simp [Ym,Za,Ze,KFR,KFL,KF,Zc,mtO,nbr])
 rintro j ⟨hj,hi,hjb⟩
 dsimp only [go_sem,rA,rM,rS]
 by_cases hlt:j < a.length
 . refine Zv (by simpa using hlt) ?_
   dsimp only [go_sem,rA,rM,rS]
   refine Zp j hlt rfl ?_
   dsimp only [Ym,go_sem,rA,rM,rS]
   simp only [List.length_map]
   rw [List.drop_eq_getElem_cons hlt] at hi
   by_cases hb:j < b.length
   . refine Zw (by simpa using hb) ?_
     dsimp only [go_sem,rA,rM,rS]
     refine Zp j hb rfl ?_
     dsimp only [Ym,go_sem,rA,rM,rS]
     refine call (Zw6 _ _) ?_
     dsimp only [go_sem,rA,rM,rS]
     rw [List.drop_eq_getElem_cons hb] at hi
     simp only [Zax] at hi
     by_cases h:a[j] < b[j]
     . rw [if_pos h] at hi
       have e:ZmF (a[j]:Int) (b[j]:Int) = -1:=by simp only [ZmF];rw [if_pos (by omega)]
       rw [e]
       refine Zv rfl ?_
       dsimp only [go_sem,rA,rM,rS]
       rw [<- hi]
     rw [if_neg h] at hi
     by_cases h':a[j] > b[j]
     . rw [if_pos h'] at hi
       have e:ZmF (a[j]:Int) (b[j]:Int)=1:=by simp only [ZmF];rw [if_neg (by omega),if_pos (by omega)]
       rw [e]
       refine Zv rfl ?_
       dsimp only [go_sem,rA,rM,rS]
       rw [<- hi]
     rw [if_neg h'] at hi
     have e:ZmF (a[j]:Int) (b[j]:Int)=0:=by simp only [ZmF];rw [if_neg (by omega),if_neg (by omega)]
     rw [e]
     refine Zw rfl ?_
     dsimp only [go_sem,rA,rM,rS]
     rw [Zf (n:=(j:Int)+1) (by omega) (by omega)]
     refine ⟨j+1,⟨hlt,hi,hb⟩,by omega,?_⟩
     (refine Zl ?_ ?_ ?_ rfl rfl<;>dsimp only [Ym,id,go_sem,rA,rM,rS]<;>simp [Ym,Za,Ze,KFR,KFL,KF,Zc,mtO,nbr])
   . refine Zv (by simp;omega) ?_
     dsimp only [go_sem,rA,rM,rS]
     rw [List.drop_of_length_le (l:=b) (i:=j) (by omega)] at hi
     simp only [Zax] at hi
     rw [<- hi]
 refine Zw (by simp;omega) ?_
 dsimp only [go_sem,rA,rM,rS]
 simp only [List.length_map]
 rw [List.drop_of_length_le (by omega)] at hi
 have hje:j=a.length:=by omega
 subst hje
 by_cases hb:a.length < b.length
 . refine Zv (by simpa using hb) ?_
   dsimp only [go_sem,rA,rM,rS]
   rw [List.drop_eq_getElem_cons hb] at hi
   simp only [Zax] at hi
   rw [<- hi]
 . refine Zw (by simpa using hb) ?_
   dsimp only [go_sem,rA,rM,rS]
   rw [List.drop_of_length_le (by omega)] at hi
   simp only [Zax] at hi
   rw [<- hi]
theorem u78 {args:List SV} {res:SV} (ka:KFL args) (kr:KF res) (h:sx Tryz.prog Y0 0 c110 (st0 args 8) (Zqm r110 res)) (hA:Nat.ble args.length 8=true:=by rfl):Ct Tryz.prog 110 args res:=WU Tryz.func110 rfl b110 ZuG ZvW n110 (Nat.le_of_ble_eq_true hA) ka kr h
theorem Zbg (a:List Nat) (ha:a.length<=1000000):Ct Tryz.prog 110 [Z2 a] (Z2 a):=by
 refine u78 (by simp [Za,Z2,Ym,KFL,KF]) (by simp [Za,Z2,Ym,KFL,KF]) ?_
 dsimp only [c110,r110,Z2,go_sem,rA,rM,rS]
 intro b hb
 dsimp only [go_sem,rA,rM,rS]
 refine br ?_ ?_
 . intro h
   have:=hb h
   dsimp only [go_sem,rA,rM,rS]
   rw [List.map_eq_nil_iff.1 this]
   exact ⟨_,rfl,YV⟩
 . intro h
   dsimp only [go_sem,rA,rM,rS]
   refine ZAv (by simp;omega) ?_
   dsimp only [go_sem,rA,rM,rS]
   exact ⟨_,rfl,Xh.rfl⟩
theorem ZtK (a:List Nat) (ha:a.length<=1000000):Ct Tryz.prog 154 [Z2 a] (.sl true 1 (a.map Ym)):=by
 refine t154.1 (by simp [Za,Z2,Ym,KFL,KF]) (by simp [Za,Z2,Ym,KFL,KF]) ?_
 dsimp only [c154,r154,Z2,go_sem,rA,rM,rS]
 refine ⟨ZQ.2 fun _=>⟨rfl,rfl⟩,?_⟩
 dsimp only [go_sem,rA,rM,rS]
theorem Zdg (a:List Nat) (i:Nat) (ha:a.length<=1000000):Ct Tryz.prog 112 [Z2 a,I i] (Z2 (a ++ [i])):=by
 refine t112.1 (by simp [Za,Z2,Ym,KFL,KF]) (by simp [KFL,KF,Z2,Za,Ym,Ze,KFR]) ?_
 dsimp only [c112,r112,go_sem,rA,rM,rS]
 refine call (Zbg a ha) ?_
 dsimp only [go_sem,rA,rM,rS]
 refine call (ZtK a ha) ?_
 dsimp only [go_sem,rA,rM,rS]
 refine ZAv (by simp;omega) ?_
 dsimp only [Z2,go_sem,rA,rM,rS]
 simp [Ym]
theorem Zz {K V:Type} {key:K->Value} {val:V->SV}:mpS key val ([]:List (Nat × K × V))=[]:=rfl
end Go.Proofs.YtiigiflofnjilaaGreat
