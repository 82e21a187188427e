/- Walks and plain laws that lead to the given statement, part 6 of 8. -/
import Derived.Test.YtiigiflofnjilaaQE
import Derived.Test.YtiigiflofnjilaaProg
set_option maxRecDepth 100000
set_option maxHeartbeats 8000000
set_option linter.all false
open Nat renaming reduceAdd->rA,reduceMul->rM,reduceSub->rS,beq_refl->nbr
namespace Go.Proofs.Ytiigiflofnjilaa
open Go Go.Sx Go.Azalai
theorem ZrU (a b d:Int) (c:Bool):Ct Try.prog 29 [.sl c 1 [[I a],[I b],[I d]]] (I (min (min a b) d)):=by
 refine t29.1 (by simp [KFR,KFL,KF]) (by simp [KFL,KF]) ?_
 dsimp only [c29,r29,go_sem,rA,rM,rS]
 refine Zv (by decide) ?_
 dsimp only [go_sem,rA,rM,rS]
 refine ixs 0 [I a] rfl rfl ?_
 dsimp only [go_sem,rA,rM,rS]
 refine Y4 3 ?_
 dsimp only [Zb,go_sem,rA,rM,rS]
 refine Zt (by decide) ?_
 dsimp only [Zb,go_sem,rA,rM,rS]
 refine ixs 1 [I b] rfl rfl ?_
 dsimp only [Zb,go_sem,rA,rM,rS]
 refine Zt (by decide) ?_
 dsimp only [Zb,go_sem,rA,rM,rS]
 refine ixs 2 [I d] rfl rfl ?_
 dsimp only [Zb,go_sem,rA,rM,rS]
 refine Zv (by decide) ?_
 dsimp only [go_sem,rA,rM,rS]
theorem Vc (a b:Int):Ct Try.prog 61 [.sl true 1 [[I a],[I b]]] (I (min (min a b) 100001)):=by
 refine t61.1 (by simp [KFR,KFL,KF]) (by simp [KFL,KF]) ?_
 dsimp only [c61,r61,go_sem,rA,rM,rS]
 refine Zw9 (by simp) ?_
 dsimp only [go_sem,rA,rM,rS]
 refine call (ZrU a b 100001 false) ?_
 dsimp only [go_sem,rA,rM,rS]
theorem ZdI {n day:Int} {o s:Gate->Int} (hn:1<=n):∀ {l:List Gate},(∀ g ∈ l,s g<=100000)->UW n day o s l<=100001
 | [],_=>by simp only [UW];omega
 | x :: l,h=>by
  have:=h x (by simp)
  have:=ZdI (day:=day) (o:=o) (s:=s) (l:=l) hn (fun g hg=>h g (by simp [hg]))
  simp only [UW];split<;>omega
def ZF (l:Land) (p:Span):List SV:=[.sl false 9 (l.wells.map Zg),.sl false 5 (l.legs.map Zo),I p.lo,I p.hi]
theorem Zcu (l:Land) (hs:Vg l) (p:Span) (ha:UU l p=0):Ct Try.prog 37 [.agg (YB l),.agg (Zd p)] (.tup [.agg (ZF l p),I 0]):=by
 obtain ⟨h1,h2⟩:=ask0 ha
 refine t37.1 (by simp [YB,Zg,Zo,Zh,Zd,Za,KFL,KF]) (by simp [ZF,Zg,Zo,Zh,Zd,Za,KFL,KF]) ?_
 dsimp only [c37,r37,YB,Zd,go_sem,rA,rM,rS]
 refine call (ZbW l hs) ?_
 dsimp only [go_sem,rA,rM,rS]
 refine Zv (by simp [h1]) ?_
 dsimp only [go_sem,rA,rM,rS]
 refine call (YZ 1 100000 p _) ?_
 dsimp only [go_sem,rA,rM,rS]
 refine Zv (by simpa [Z2] using h2) ?_
 dsimp only [ZF,go_sem,rA,rM,rS]
theorem UM (l:Land) (hs:Vg l) (p:Span) (ha:UU l p≠0):Ct Try.prog 37 [.agg (YB l),.agg (Zd p)] (.tup [.agg [.v (.slice none 0 0),.v (.slice none 0 0),I 0,I 0],I (UU l p)]):=by
 refine t37.1 (by simp [YB,Zg,Zo,Zh,Zd,Za,KFL,KF]) (by simp [KFL,KF]) ?_
 dsimp only [c37,r37,YB,Zd,go_sem,rA,rM,rS]
 refine call (ZbW l hs) ?_
 dsimp only [go_sem,rA,rM,rS]
 by_cases h1:Yf l=true
 case neg =>
  refine Zt (by simp [h1]) ?_
  dsimp only [go_sem,rA,rM,rS]
  simp [UU,h1]
 refine Zv (by simp [h1]) ?_
 dsimp only [go_sem,rA,rM,rS]
 refine call (YZ 1 100000 p _) ?_
 dsimp only [go_sem,rA,rM,rS]
 have h2:Z2 p=false:=by
  by_cases h2:Z2 p=true
  . exact absurd (by simp [UU,h1,h2]) ha
  . simpa using h2
 refine Zt (by simpa [Z2] using h2) ?_
 dsimp only [go_sem,rA,rM,rS]
 simp [UU,h1,h2]
theorem Zcx (l:Land) (p:Span) (k:Nat) (hk:k < l.legs.length) (hx:GoodLeg l.legs[k]) (hp:Z2 p=true):Ct Try.prog 60 [.agg (ZF l p),I k] (.agg (Zd (Zby l.legs[k] p))):=by
 have hb:=day_bd hx hp
 have hp':=hp
 simp only [Z2,Yt,decide_eq_true_eq] at hp'
 obtain ⟨h1,h2,h3,h4,h5⟩:=hx
 refine t60.1 (by simp [ZF,Zg,Zo,Zh,Zd,Za,KFL,KF]) (by simp [Zd,KFL,KF]) ?_
 dsimp only [c60,r60,ZF,go_sem,rA,rM,rS]
 refine Zs k hk rfl ?_
 dsimp only [Zo,go_sem,rA,rM,rS]
 rw [Zi (n:=l.legs[k].long.lo+p.hi) (by omega) (by omega),Zi (n:=l.legs[k].long.lo+p.hi - 1) (by omega) (by omega)]
 refine Zqw (by omega) ?_
 dsimp only [go_sem,rA,rM,rS]
 rw [Zi (n:=l.legs[k].long.hi+p.lo) (by omega) (by omega),Zi (n:=l.legs[k].long.hi+p.lo - 1) (by omega) (by omega)]
 refine Zqw (by omega) ?_
 dsimp only [Zd,go_sem,rA,rM,rS]
 simp only [Zby] at hb ⊢
 rw [Zi (n:=(l.legs[k].long.lo+p.hi - 1).tdiv p.hi) (by omega) (by omega),Zi (n:=(l.legs[k].long.hi+p.lo - 1).tdiv p.lo) (by omega) (by omega)]
theorem Zca (a b:Int):Ct Try.prog 72 [.agg [I a,I b]] (.agg [I a,I b]):=by
 refine t72.1 (by simp [KFL,KF]) (by simp [KFL,KF]) ?_
 dsimp only [c72,r72,go_sem,rA,rM,rS]
 refine ixa 0 rfl (by decide) ?_
 dsimp only [go_sem,rA,rM,rS]
 refine ixa 1 rfl (by decide) ?_
 dsimp only [go_sem,rA,rM,rS]
theorem Zmc (l:Land) (hs:Vg l) (leg:Int) (p:Span):Ct Try.prog 75 [.agg (YB l),I leg,.agg (Zd p)] (sres (XP l leg p)):=by
 have hw1:IntKind.i64.wrap ((l.legs.length:Int) - 1)=(l.legs.length:Int) - 1:=Zi (by omega) (by have:=hs.2.1;omega)
 refine t75.1 (by simp [YB,Zg,Zo,Zh,Zd,Za,KFL,KF]) (by simp [sres,Zd,KFL,KF]) ?_
 dsimp only [c75,r75,YB,Zd,go_sem,rA,rM,rS]
 by_cases ha:UU l p=0
 case neg =>
  refine call (UM l hs p ha) ?_
  dsimp only [go_sem,rA,rM,rS]
  refine Zt (by simpa using ha) ?_
  dsimp only [go_sem,rA,rM,rS]
  simp [XP,ha,sres,Zd]
 refine call (Zcu l hs p ha) ?_
 dsimp only [ZF,go_sem,rA,rM,rS]
 refine Zv (by decide) ?_
 dsimp only [go_sem,rA,rM,rS]
 simp only [List.length_map,hw1]
 repeat (first | (refine gb ?_;dsimp only [go_sem,rA,rM,rS]) | (refine call (Uf _ _ _ _) ?_;dsimp only [go_sem,rA,rM,rS]))
 by_cases hr:inR 0 (l.legs.length - 1) leg=true
 case neg =>
  refine Zt (by grind) ?_
  dsimp only [go_sem,rA,rM,rS]
  simp [XP,ha,hr,sres,Zd]
 refine Zv (by grind) ?_
 dsimp only [go_sem,rA,rM,rS]
 obtain ⟨k,hk,rfl,hget⟩:=Zrc hr
 obtain ⟨hol,hop⟩:=ask0 ha
 have hx:=Xz hol l.legs[k] (List.getElem_mem _)
 refine call (Zcx l p k hk hx hop) ?_
 dsimp only [Zd,go_sem,rA,rM,rS]
 refine call (Zca _ _) ?_
 dsimp only [go_sem,rA,rM,rS]
 simp only [XP,ha,hr,hget,sres,Zd]
 simp
theorem XT (l:Land) (p:Span) (k:Nat) (hk:k < l.legs.length) (d0 d1:Int) (hx:GoodLeg l.legs[k]) (hp:Z2 p=true) (h0:inR 0 100001 d0=true) (h1:inR 0 100001 d1=true) :
 Ct Try.prog 59 [.agg (ZF l p),I k,.agg [I d0,I d1]] (.agg [I (ZuI l.legs[k] p d0),I (Zq2 l.legs[k] p d1)]):=by
 have hb:=day_bd hx hp
 have hg:=Y8 hx.g2 (Int.le_refl _)
 have hl:=hx.g1
 simp only [inR,decide_eq_true_eq] at h0 h1
 refine t59.1 (by simp [ZF,Zg,Zo,Zh,Zd,Za,KFL,KF]) (by simp [KFL,KF]) ?_
 dsimp only [c59,r59,ZF,go_sem,rA,rM,rS]
 refine call (Zcx l p k hk hx hp) ?_
 dsimp only [Zd,go_sem,rA,rM,rS]
 refine Zs k hk rfl ?_
 dsimp only [Zo,go_sem,rA,rM,rS]
 have e0:Zcz (Zby l.legs[k] p).lo d0 (·.opens.lo) (·.shuts.hi) 100001 l.legs[k].gates=ZuI l.legs[k] p d0:=by
  rw [Zcm hb.1 (fun g h=>by omega) hx.g2 (Int.le_refl _) (by omega)]
  exact Int.min_eq_right (ZdI hb.1 (fun g h=>by have:=hg g h;omega))
 have e1:Zcz (Zby l.legs[k] p).hi d1 (·.opens.hi) (·.shuts.lo) 100001 l.legs[k].gates=Zq2 l.legs[k] p d1:=by
  rw [Zcm hb.2.2.1 (fun g h=>by omega) hx.g2 (Int.le_refl _) (by omega)]
  exact Int.min_eq_right (ZdI hb.2.2.1 (fun g h=>by have:=hg g h;omega))
 generalize hnl:(Zby l.legs[k] p).lo=nl at hb e0
 generalize hnh:(Zby l.legs[k] p).hi=nh at hb e1
 refine XO (fun s:Nat × Int × Int=>[(27,I s.1)]) (fun s=>[(4,.cells [I s.2.1,I s.2.2] 115)])
  (fun s=>s.1<=l.legs[k].gates.length/\Zcz nl d0 (·.opens.lo) (·.shuts.hi) s.2.1 (l.legs[k].gates.drop s.1)=ZuI l.legs[k] p d0/\Zcz nh d1 (·.opens.hi) (·.shuts.lo) s.2.2 (l.legs[k].gates.drop s.1)=Zq2 l.legs[k] p d1)
  (fun s=>l.legs[k].gates.length - s.1) (0,100001,100001) ⟨Nat.zero_le _,e0,e1⟩ ?_ ?_
 . (refine Zl ?_ ?_ ?_ rfl rfl<;>dsimp only [Zh,Zg,Zo,Zd,id,go_sem,rA,rM,rS]<;>simp [Zh,Zg,Zo,Zd,Za,Zf,KFR,KFL,KF,Zc,mtO,nbr])
 rintro ⟨j,m0,m1⟩ ⟨hj,i0,i1⟩
 simp only at hj i0 i1
 dsimp only [go_sem,rA,rM,rS]
 by_cases hlt:j < l.legs[k].gates.length
 . refine Zt (by simpa using hlt) ?_
   dsimp only [go_sem,rA,rM,rS]
   have hgk:=hg l.legs[k].gates[j] (List.getElem_mem _)
   rw [List.drop_eq_getElem_cons hlt,Zcz] at i0 i1
   refine Zs j hlt rfl ?_
   dsimp only [Zh,go_sem,rA,rM,rS]
   refine Y4 3 ?_
   dsimp only [Zb,go_sem,rA,rM,rS]
   refine Zt (by decide) ?_
   dsimp only [Zb,go_sem,rA,rM,rS]
   repeat (first | (refine ixa 0 rfl (by decide) ?_;dsimp only [Zb,go_sem,rA,rM,rS]) | (refine call (Vc _ _) ?_;dsimp only [Zb,go_sem,rA,rM,rS]))
   rw [Zi (n:=max d0 l.legs[k].gates[j].opens.lo+nl) (by omega) (by omega),Zi (n:=max d0 l.legs[k].gates[j].opens.lo+nl - 1) (by omega) (by omega)]
   refine br ?_ ?_
   . intro hA
     dsimp only [Zb,go_sem,rA,rM,rS]
     repeat (first | (refine ixa 0 rfl (by decide) ?_;dsimp only [Zb,go_sem,rA,rM,rS]) | (refine call (Vc _ _) ?_;dsimp only [Zb,go_sem,rA,rM,rS]))
     rw [if_pos (by simpa using hA)] at i0
     refine Zt (by decide) ?_
     dsimp only [Zb,go_sem,rA,rM,rS]
     repeat (first | (refine ixa 1 rfl (by decide) ?_;dsimp only [Zb,go_sem,rA,rM,rS]) | (refine call (Vc _ _) ?_;dsimp only [Zb,go_sem,rA,rM,rS]))
     rw [Zi (n:=max d1 l.legs[k].gates[j].opens.hi+nh) (by omega) (by omega),Zi (n:=max d1 l.legs[k].gates[j].opens.hi+nh - 1) (by omega) (by omega)]
     refine br ?_ ?_
     . intro hB
       dsimp only [Zb,go_sem,rA,rM,rS]
       repeat (first | (refine ixa 1 rfl (by decide) ?_;dsimp only [Zb,go_sem,rA,rM,rS]) | (refine call (Vc _ _) ?_;dsimp only [Zb,go_sem,rA,rM,rS]))
       rw [if_pos (by simpa using hB)] at i1
       refine Zv (by decide) ?_
       dsimp only [go_sem,rA,rM,rS]
       rw [Zi (n:=(j:Int)+1) (by omega) (by omega)]
       refine ⟨(j+1,min (min m0 (max d0 l.legs[k].gates[j].opens.lo)) 100001,min (min m1 (max d1 l.legs[k].gates[j].opens.hi)) 100001),⟨hlt,i0,i1⟩,by simp only;omega,?_⟩
       (refine Zl ?_ ?_ ?_ rfl rfl<;>dsimp only [Zh,Zg,Zo,Zd,id,go_sem,rA,rM,rS]<;>simp [Zh,Zg,Zo,Zd,Za,Zf,KFR,KFL,KF,Zc,mtO,nbr])
     . intro hB
       dsimp only [Zb,go_sem,rA,rM,rS]
       rw [if_neg (by simpa using hB)] at i1
       refine Zv (by decide) ?_
       dsimp only [go_sem,rA,rM,rS]
       rw [Zi (n:=(j:Int)+1) (by omega) (by omega)]
       refine ⟨(j+1,min (min m0 (max d0 l.legs[k].gates[j].opens.lo)) 100001,m1),⟨hlt,i0,i1⟩,by simp only;omega,?_⟩
       (refine Zl ?_ ?_ ?_ rfl rfl<;>dsimp only [Zh,Zg,Zo,Zd,id,go_sem,rA,rM,rS]<;>simp [Zh,Zg,Zo,Zd,Za,Zf,KFR,KFL,KF,Zc,mtO,nbr])
   . intro hA
     dsimp only [Zb,go_sem,rA,rM,rS]
     rw [if_neg (by simpa using hA)] at i0
     refine Zt (by decide) ?_
     dsimp only [Zb,go_sem,rA,rM,rS]
     repeat (first | (refine ixa 1 rfl (by decide) ?_;dsimp only [Zb,go_sem,rA,rM,rS]) | (refine call (Vc _ _) ?_;dsimp only [Zb,go_sem,rA,rM,rS]))
     rw [Zi (n:=max d1 l.legs[k].gates[j].opens.hi+nh) (by omega) (by omega),Zi (n:=max d1 l.legs[k].gates[j].opens.hi+nh - 1) (by omega) (by omega)]
     refine br ?_ ?_
     . intro hB
       dsimp only [Zb,go_sem,rA,rM,rS]
       repeat (first | (refine ixa 1 rfl (by decide) ?_;dsimp only [Zb,go_sem,rA,rM,rS]) | (refine call (Vc _ _) ?_;dsimp only [Zb,go_sem,rA,rM,rS]))
       rw [if_pos (by simpa using hB)] at i1
       refine Zv (by decide) ?_
       dsimp only [go_sem,rA,rM,rS]
       rw [Zi (n:=(j:Int)+1) (by omega) (by omega)]
       refine ⟨(j+1,m0,min (min m1 (max d1 l.legs[k].gates[j].opens.hi)) 100001),⟨hlt,i0,i1⟩,by simp only;omega,?_⟩
       (refine Zl ?_ ?_ ?_ rfl rfl<;>dsimp only [Zh,Zg,Zo,Zd,id,go_sem,rA,rM,rS]<;>simp [Zh,Zg,Zo,Zd,Za,Zf,KFR,KFL,KF,Zc,mtO,nbr])
     . intro hB
       dsimp only [Zb,go_sem,rA,rM,rS]
       rw [if_neg (by simpa using hB)] at i1
       refine Zv (by decide) ?_
       dsimp only [go_sem,rA,rM,rS]
       rw [Zi (n:=(j:Int)+1) (by omega) (by omega)]
       refine ⟨(j+1,m0,m1),⟨hlt,i0,i1⟩,by simp only;omega,?_⟩
       (refine Zl ?_ ?_ ?_ rfl rfl<;>dsimp only [Zh,Zg,Zo,Zd,id,go_sem,rA,rM,rS]<;>simp [Zh,Zg,Zo,Zd,Za,Zf,KFR,KFL,KF,Zc,mtO,nbr])
 refine Zv (by simp;omega) ?_
 dsimp only [go_sem,rA,rM,rS]
 have hke:j=l.legs[k].gates.length:=by omega
 subst hke
 rw [List.drop_length,Zcz] at i0 i1
 rw [<- i0,<- i1]
end Go.Proofs.Ytiigiflofnjilaa
namespace Go.Azalai
theorem Zh9 {n day:Int} {o s:Gate->Int} (hn:1<=n) (hd:day<=100001):∀ {l:List Gate},(∀ g ∈ l,s g<=100000)->(day<=UW n day o s l/\UW n day o s l<=100001)/\(UW n day o s l=100001\/UW n day o s l+n<=100001)
 | [],_=>⟨⟨by simp only [UW];omega,by simp only [UW];omega⟩,.inl rfl⟩
 | x :: l,h=>by
  have:=h x (by simp)
  have:=Zh9 (day:=day) (o:=o) (s:=s) (l:=l) hn hd (fun g hg=>h g (by simp [hg]))
  simp only [UW];split<;>omega
theorem ZdJ {n day:Int} {o s:Gate->Int} (hn:1<=n):∀ {l:List Gate},(∀ g ∈ l,s g<=100000)->UW n day o s l<=100001
 | [],_=>by simp only [UW];omega
 | x :: l,h=>by
  have:=h x (by simp)
  have:=ZdJ (day:=day) (o:=o) (s:=s) (l:=l) hn (fun g hg=>h g (by simp [hg]))
  simp only [UW];split<;>omega
def nK (k:Bool) (x:Leg) (p:Span):Int:=bif k then (Zby x p).hi else (Zby x p).lo
def leK (k:Bool) (x:Leg) (p:Span) (t:Int):Int:=bif k then Zq2 x p t else ZuI x p t
def ZM (k:Bool) (x:Leg) (p:Span) (t:Int):Int:=min 100001 (leK k x p t+nK k x p)
theorem Zme {k:Bool} {x:Leg} {p:Span} (h:GoodLeg x) (hp:Z2 p=true):1<=nK k x p/\nK k x p<=1000000:=by
 have:=day_bd h hp
 cases k<;>simp only [nK,cond_true,cond_false]<;>omega
theorem ZaN {k:Bool} {x:Leg} {p:Span} {t:Int} (h:GoodLeg x) (hp:Z2 p=true) :
 leK k x p t=Zcz (nK k x p) t (fun g=>bif k then g.opens.hi else g.opens.lo) (fun g=>bif k then g.shuts.lo else g.shuts.hi) 100001 x.gates /\
 leK k x p t=UW (nK k x p) t (fun g=>bif k then g.opens.hi else g.opens.lo) (fun g=>bif k then g.shuts.lo else g.shuts.hi) x.gates/\∀ g ∈ x.gates,(bif k then g.shuts.lo else g.shuts.hi)<=100000:=by
 have hn:=Zme (k:=k) h hp
 have hg:=Y8 h.g2 (Int.le_refl _)
 have h2:∀ g ∈ x.gates,(bif k then g.shuts.lo else g.shuts.hi)<=100000:=fun g hm=>by have:=hg g hm;cases k<;>simp only [cond_true,cond_false]<;>omega
 have h1:leK k x p t=UW (nK k x p) t (fun g=>bif k then g.opens.hi else g.opens.lo) (fun g=>bif k then g.shuts.lo else g.shuts.hi) x.gates:=by cases k<;>rfl
 refine ⟨?_,h1,h2⟩
 rw [Zcm hn.1 (fun g q=>by cases k<;>simp only [cond_true,cond_false]<;>omega) h.g2 (Int.le_refl _) (by omega),h1]
 have:=ZdJ (day:=t) (o:=fun g=>bif k then g.opens.hi else g.opens.lo) hn.1 h2
 omega
theorem ZcH {n:Int} {o s:Gate->Int} {d d':Int} (hn:1<=n) (hd:d<=d'):∀ {l:List Gate} {a a':Int},a<=a'->a'<=100001->(∀ g ∈ l,s g<=100000)->Zcz n d o s a l<=Zcz n d' o s a' l
 | [],a,a',ha,_,_=>by simpa only [Zcz] using ha
 | g :: l,a,a',ha,hb,hs=>by
  simp only [Zcz]
  have:=hs g (by simp)
  refine ZcH hn hd ?_ ?_ (fun g hg=>hs g (by simp [hg]))
  . repeat' split
    all_goals omega
  . split<;>omega
theorem ZaJ {k:Bool} {x:Leg} {p:Span} {t t':Int} (h:GoodLeg x) (hp:Z2 p=true) (ht:t<=t'):ZM k x p t<=ZM k x p t':=by
 have hn:=Zme (k:=k) h hp
 obtain ⟨a1,_,a3⟩:=ZaN (k:=k) (t:=t) h hp
 obtain ⟨b1,_,_⟩:=ZaN (k:=k) (t:=t') h hp
 have:=ZcH (o:=fun g=>bif k then g.opens.hi else g.opens.lo) hn.1 ht (Int.le_refl 100001) (Int.le_refl _) a3
 simp only [ZM];omega
theorem Xm {k:Bool} {x:Leg} {p:Span} {t:Int} (h:GoodLeg x) (hp:Z2 p=true) (ht:t<=100001):ZM k x p t<=100001/\(t+1<=ZM k x p t\/t=100001/\ZM k x p t=100001)/\(ZM k x p t < 100001->ZM k x p t=leK k x p t+nK k x p/\leK k x p t < 100001)/\(leK k x p t < 100001->leK k x p t+nK k x p<=100001)/\t<=leK k x p t/\leK k x p t<=100001:=by
 have hn:=Zme (k:=k) h hp
 obtain ⟨_,a2,a3⟩:=ZaN (k:=k) (t:=t) h hp
 have:=Zh9 (o:=fun g=>bif k then g.opens.hi else g.opens.lo) hn.1 ht a3
 rw [<- a2] at this
 simp only [ZM];omega
theorem Za3 {k:Bool} {x:Leg} {p:Span} {t:Int} (h:GoodLeg x) (hp:Z2 p=true) (ht:t<=100001):t<=ZM k x p t:=by
 have:=Xm (k:=k) h hp ht;omega
def Zk (x:Leg) (v:Int):Int:=if x.a=v then x.b else if x.b=v then x.a else -1
def goW (k:Bool) (l:Land) (p:Span):Int->Int->List Nat->Option (Int × Int)
 | v,t,[]=>some (v,t)
 | v,t,i :: r=>match l.legs[i]? with
  | none=>none
  | some x=>if Zk x v < 0 then none else if ZM k x p t > 100000 then none else goW k l p (Zk x v) (ZM k x p t) r
structure OkLP (l:Land) (p:Span):Prop where
 land:Yf l=true
 pace:Z2 p=true
theorem OkLP.leg {l:Land} {p:Span} (h:OkLP l p) {i:Nat} {x:Leg} (hx:l.legs[i]? = some x):GoodLeg x:=Xz h.land x (List.mem_of_getElem? hx)
theorem OkLP.ends {l:Land} {p:Span} (h:OkLP l p) {x:Leg} (hx:x ∈ l.legs):(0<=x.a/\x.a < l.wells.length)/\(0<=x.b/\x.b < l.wells.length)/\x.a≠x.b:=by
 have h1:=h.land
 simp only [Yf,Bool.and_eq_true,List.all_eq_true] at h1
 have:=h1.2 x hx
 simp only [Zba,inR,Bool.and_eq_true,decide_eq_true_eq,bne_iff_ne] at this
 obtain ⟨⟨⟨⟨⟨q1,q2⟩,q3⟩,_⟩,_⟩,_⟩:=this
 refine ⟨by omega,by omega,q3⟩
theorem ZS {l:Land} {p:Span} (h:OkLP l p) {i:Nat} {x:Leg} (hx:l.legs[i]? = some x) {v:Int} (ho:¬ Zk x v < 0):(0<=Zk x v/\Zk x v < l.wells.length)/\(x.a=v/\Zk x v=x.b\/x.b=v/\Zk x v=x.a)/\0<=v/\v < l.wells.length:=by
 have:=h.ends (List.mem_of_getElem? hx)
 unfold Zk at ho ⊢
 split
 . omega
 . split
   . omega
   . rw [if_neg (by assumption),if_neg (by assumption)] at ho;omega
theorem Zay {k:Bool} {l:Land} {p:Span}:∀ {a b:List Nat} {v t:Int},goW k l p v t (a ++ b)=(goW k l p v t a).bind fun s=>goW k l p s.1 s.2 b
 | [],b,v,t=>rfl
 | i :: a,b,v,t=>by
  simp only [List.cons_append,goW]
  cases l.legs[i]? with
  | none=>rfl
  | some x =>
   simp only
   split
   . rfl
   . split
     . rfl
     . exact Zay
theorem Vo {k:Bool} {l:Land} {p:Span} (h:OkLP l p):∀ {a:List Nat} {v t v' t':Int},goW k l p v t a=some (v',t')->t<=100000->0<=v->v < l.wells.length->t+a.length<=t'/\t'<=100000/\0<=v'/\v' < l.wells.length
 | [],v,t,v',t',e,ht,h0,h1=>by simp only [goW,Option.some.injEq,Prod.mk.injEq] at e;simp;omega
 | i :: a,v,t,v',t',e,ht,h0,h1=>by
  simp only [goW] at e
  cases hx:l.legs[i]? with
  | none=>rw [hx] at e;cases e
  | some x =>
   rw [hx] at e
   simp only at e
   by_cases ho:Zk x v < 0
   . rw [if_pos ho] at e;cases e
   . rw [if_neg ho] at e
     by_cases hr:ZM k x p t > 100000
     . rw [if_pos hr] at e;cases e
     . rw [if_neg hr] at e
       have hb:=Xm (k:=k) (h.leg hx) h.pace (show t<=100001 by omega)
       have ho':=ZS h hx ho
       have:=Vo h e (by omega) ho'.1.1 ho'.1.2
       simp only [List.length_cons];omega
def Ziz (k:Bool) (l:Land) (p:Span) (d:Int->Int):Prop:=∀ x ∈ l.legs,d x.b<=ZM k x p (d x.a)/\d x.a<=ZM k x p (d x.b)
theorem ZcC {k:Bool} {l:Land} {p:Span} {d:Int->Int} (h:OkLP l p) (hc:Ziz k l p d):∀ {a:List Nat} {v t v' t':Int},goW k l p v t a=some (v',t')->d v<=t->d v'<=t'
 | [],v,t,v',t',e,ht=>by simp only [goW,Option.some.injEq,Prod.mk.injEq] at e;rw [<- e.1];omega
 | i :: a,v,t,v',t',e,ht=>by
  simp only [goW] at e
  cases hx:l.legs[i]? with
  | none=>rw [hx] at e;cases e
  | some x =>
   rw [hx] at e
   simp only at e
   by_cases ho:Zk x v < 0
   . rw [if_pos ho] at e;cases e
   . rw [if_neg ho] at e
     by_cases hr:ZM k x p t > 100000
     . rw [if_pos hr] at e;cases e
     . rw [if_neg hr] at e
       refine ZcC h hc e ?_
       have hcx:=hc x (List.mem_of_getElem? hx)
       have hm:=ZaJ (k:=k) (h.leg hx) h.pace ht
       rcases (ZS h hx ho).2.1 with ⟨q1,q2⟩ | ⟨q1,q2⟩
       . rw [q2];rw [<- q1] at hm;omega
       . rw [q2];rw [<- q1] at hm;omega
open Classical in
noncomputable def YK (k:Bool) (l:Land) (p:Span) (s day v:Int):Int :=
 if h:∃ n:Nat,∃ a,goW k l p s day a=some (v,(n:Int)) then ((Go.Sx.least_ex _ h).choose:Int) else 100001
theorem ZaG {k:Bool} {l:Land} {p:Span} (h:OkLP l p) {s day v t:Int} {a:List Nat} (e:goW k l p s day a=some (v,t)) (hd:0<=day) (hd':day<=100000) (h0:0<=s) (h1:s < l.wells.length):YK k l p s day v<=t:=by
 have hb:=Vo h e hd' h0 h1
 have hex:∃ n:Nat,∃ a,goW k l p s day a=some (v,(n:Int)):=⟨t.toNat,a,by rw [e,show ((t.toNat:Nat):Int)=t by omega]⟩
 unfold YK
 rw [dif_pos hex]
 have:=(Go.Sx.least_ex _ hex).choose_spec.2 t.toNat ⟨a,by rw [e,show ((t.toNat:Nat):Int)=t by omega]⟩
 omega
theorem Zaq {k:Bool} {l:Land} {p:Span} {s day v:Int}:YK k l p s day v=100001\/∃ a,goW k l p s day a=some (v,YK k l p s day v):=by
 unfold YK
 by_cases hex:∃ n:Nat,∃ a,goW k l p s day a=some (v,(n:Int))
 . rw [dif_pos hex];exact .inr (Go.Sx.least_ex _ hex).choose_spec.1
 . rw [dif_neg hex];exact .inl rfl
theorem ZiZ {k:Bool} {l:Land} {p:Span} (h:OkLP l p) {s day v:Int} (hd:0<=day) (hd':day<=100000) (h0:0<=s) (h1:s < l.wells.length):day<=YK k l p s day v/\YK k l p s day v<=100001:=by
 rcases Zaq (k:=k) (l:=l) (p:=p) (s:=s) (day:=day) (v:=v) with e | ⟨a,e⟩
 . omega
 . have:=Vo h e hd' h0 h1;omega
theorem US {k:Bool} {l:Land} {p:Span} {a:List Nat} {s t v u:Int} {i:Nat} {x:Leg} (e:goW k l p s t a=some (v,u)) (hx:l.legs[i]? = some x) (ho:¬ Zk x v < 0) (hr:¬ ZM k x p u > 100000):goW k l p s t (a ++ [i])=some (Zk x v,ZM k x p u):=by
 rw [Zay,e]
 simp only [Option.bind_some,goW,hx]
 rw [if_neg ho,if_neg hr]
theorem U0 {k:Bool} {l:Land} {p:Span} (h:OkLP l p) {s day:Int} (hd:0<=day) (hd':day<=100000) (h0:0<=s) (h1:s < l.wells.length) {d:Int->Int} (hs:d s<=day) (hc:Ziz k l p d) (hb:∀ v,d v<=100001)
 (hr:∀ v,d v=100001\/∃ a,goW k l p s day a=some (v,d v)) (v:Int):d v=YK k l p s day v:=by
 have h2:YK k l p s day v<=d v:=by
  rcases hr v with e | ⟨a,e⟩
  . have:=ZiZ (k:=k) (v:=v) h hd hd' h0 h1;omega
  . exact ZaG h e hd hd' h0 h1
 have h3:d v<=YK k l p s day v:=by
  rcases Zaq (k:=k) (l:=l) (p:=p) (s:=s) (day:=day) (v:=v) with e | ⟨a,e⟩
  . have:=hb v;omega
  . exact ZcC h hc e hs
 omega
noncomputable def XU (k:Bool) (l:Land) (p:Span) (s day:Int):List Int:=(List.range l.wells.length).map fun v:Nat=>YK k l p s day (v:Int)
end Go.Azalai
namespace Go.Proofs.Ytiigiflofnjilaa
open Go Go.Sx
def c41:SC:=(.seq (.reg [
 o1 2 (.box (.t 0) 0 104),
 o1 3 (.box (.t 1) 0 3),
 o1 4 (.mv (.c (.nilFunc)))])
 (.seq (.reg [
 o1 5 (.mkf 58 [.t 2,.t 3]),
 m1 4 5])
 .ret))
def r41:List RV:=[.tmp 4]
theorem n41:Try.f41.ntmps=6:=by kernel_rfl
theorem b41:YE Try.prog 41=true:=by kernel_rfl
theorem ZvH:Xt Try.prog c41 ((Try.f41.body).getD .skip)=true:=by kernel_rfl
theorem Zu4:X8 Try.prog r41 Try.f41.results.toList=true:=by kernel_rfl
theorem m41 {n0:Nat} {hp0:List (Nat × HB)} {args:List SV} {ZX:Ot->Prop} (hh:hpb n0 hp0) (hx:∀ o,ZX o->KX o.res/\KXP o.hp) (h:sx Try.prog Y0 n0 c41 ⟨enum 0 args,hp0,n0,6,[]⟩ (retM r41 fun o=>∃ o',ZX o'/\Zd8 n0 o o')) (hA:Nat.ble args.length 6=true:=by rfl):CtM Try.prog 41 hp0 n0 args ZX:=XE Try.func41 rfl b41 ZvH Zu4 n41 (Nat.le_of_ble_eq_true hA) hh hx h
def c58:SC:=(.seq (.reg [
 o1 6 (.addo (.t 1) 0),
 o1 7 (.addo (.t 6) 1),
 o1 8 (.ld (.t 7) 1 false),
 o1 9 (.len (.t 8)),
 o1 10 (.mv (.c (.int .i64 0)))])
 (.block 0 (.loop (.seq (.reg [
  o1 11 (.bin .lss (.t 10) (.t 9))])
  (.seq (.cond (.t 11)
  .skip
  (.exit 0))
  (.seq (.block 1 (.seq (.reg [
   m1 12 10,
   o1 13 (.ixs (.t 8) (.t 10) 5),
   o1 14 (.ld (.t 13) 5 true),
   o1 5 (.alloc zv8 67),
   m1 4 12,
   ⟨none,.st (.t 5) (.t 14) 5,none,[]⟩])
   (.seq (.reg [
   o1 15 (.ld (.t 2) 1 false)])
   (.block 2 (.seq (.reg [
    o1 17 (.addo (.t 5) 0),
    o1 18 (.ld (.t 17) 1 false),
    o1 19 (.bin .eql (.t 15) (.t 18)),
    m1 16 19])
    (.cond (.t 16)
    (.seq (.reg [
     m1 20 0,
     m1 21 4,
     o1 22 (.addo (.t 5) 1),
     o1 23 (.ld (.t 22) 1 false),
     o1 24 (.calvm (.t 20) [.t 21,.t 23]),
     o1 25 (.un .not (.t 24))])
     (.cond (.t 25)
     .ret
     .skip))
    (.seq (.reg [
     o1 27 (.addo (.t 5) 1),
     o1 28 (.ld (.t 27) 1 false),
     o1 29 (.bin .eql (.t 15) (.t 28)),
     m1 26 29])
     (.cond (.t 26)
     (.seq (.reg [
      m1 30 0,
      m1 31 4,
      o1 32 (.addo (.t 5) 0),
      o1 33 (.ld (.t 32) 1 false),
      o1 34 (.calvm (.t 30) [.t 31,.t 33]),
      o1 35 (.un .not (.t 34))])
      (.cond (.t 35)
      .ret
      .skip))
     .skip))))))))
  (.reg [
  o1 36 (.bin .add (.t 10) (.c (.int .i64 1))),
  m1 10 36])))))))
def r58:List RV:=[]
theorem n58:Try.f58.ntmps=37:=by kernel_rfl
theorem b58:YE Try.prog 58=true:=by kernel_rfl
theorem Zu8:Xt Try.prog c58 ((Try.f58.body).getD .skip)=true:=by kernel_rfl
theorem ZvP:X8 Try.prog r58 Try.f58.results.toList=true:=by kernel_rfl
theorem y58 {Y:Hd} {n0:Nat} {hp0:List (Nat × HB)} {args:List SV} {ZX:Ot->Prop} (h:sx Try.prog Y n0 c58 ⟨enum 0 args,hp0,n0,37,[]⟩ (retM r58 ZX)) (hA:Nat.ble args.length 37=true:=by rfl):CtY Try.prog Y 58 hp0 n0 args ZX:=ZaD Try.func58 rfl Zu8 ZvP n58 (Nat.le_of_ble_eq_true hA) h
def c71:SC:=(.seq (.reg [
 o1 3 (.box (.t 0) 0 104),
 o1 4 (.box (.t 1) 0 3),
 o1 6 (.alloc [.int .i64 0] 3)])
 (.seq (.seq (.reg [
 o1 9 (.ld (.t 3) 4 true),
 m1 10 2,
 o1 11 (.callm 41 [.t 9,.t 10])])
 (.block 0 (.gh (.rfun (.t 11) [12,13] (.seq (.reg [
  m1 7 12])
  (.reg [
  m1 8 13]))
  (.block 1 (.seq (.reg [
   m1 14 7,
   o1 15 (.ld (.t 4) 1 false),
   o1 16 (.bin .eql (.t 14) (.t 15))])
   (.cond (.t 16)
   (.seq (.reg [
    m1 17 8,
    ⟨none,.st (.t 6) (.t 17) 1,none,[]⟩])
    .ret)
   .skip)))))))
 (.seq (.reg [
 ⟨none,.st (.t 6) (.c (.int .i64 (-1))) 1,none,[]⟩])
 .ret)))
def r71:List RV:=[.cell 6 1 false]
theorem t71:Qt1 Try.prog 71 c71 r71 18:=Yn Try.func71 rfl (by kernel_rfl) (by kernel_rfl) (by kernel_rfl) (by kernel_rfl)
def c42:SC:=(.seq (.reg [
 o1 3 (.box (.t 0) 0 104),
 o1 5 (.box (.t 2) 0 115),
 o1 6 (.alloc [.int .i64 0,.int .i64 0] 115)])
 (.seq (.regd [0,1,2,3,4,5,6,7,8,9,10] [
 .op (o1 10 (.ld (.t 3) 4 true)),
 .op (m1 11 1),
 .op (o1 12 (.ld (.t 5) 2 true)),
 .op ⟨some 13,.call 59 [.t 10,.t 11,.t 12],none,[0,1,2]⟩,
 .op (o1 14 (.ld (.t 3) 4 true)),
 .op (m1 15 1),
 .op ⟨some 16,.call 60 [.t 14,.t 15],none,[3,4,5]⟩] 2 2 [
 o1 7 (.alloc [.int .i64 0,.int .i64 0] 115),
 o1 8 (.alloc [.int .i64 0,.int .i64 0] 115),
 ⟨none,.st (.t 7) (.t 13) 2,none,[0,1,2,3,6,7,8]⟩,
 ⟨none,.st (.t 8) (.t 16) 2,none,[0,1,2,3,4,5,6,7,8,9]⟩])
 (.seq (.seq (.reg [
 o1 17 (.mv (.c (.int .i64 0)))])
 (.block 0 (.loop (.seq (.reg [
  o1 18 (.bin .lss (.t 17) (.c (.int .i64 2)))])
  (.seq (.cond (.t 18)
  .skip
  (.exit 0))
  (.seq (.block 1 (.seq (.reg [
   m1 19 17,
   m1 9 19])
   (.regd [0,1,2,3,4,5,6,7,8,9,10,11] [
   .op (m1 20 9),
   .op (m1 21 9),
   .op ⟨some 22,.ixa (.t 7) (.t 21) 2 1,none,[1]⟩,
   .op ⟨some 23,.ld (.t 22) 1 false,none,[2]⟩,
   .op (m1 24 9),
   .op ⟨some 25,.ixa (.t 8) (.t 24) 2 1,none,[4]⟩,
   .op ⟨some 26,.ld (.t 25) 1 false,none,[5]⟩,
   .op ⟨some 27,.bin .add (.t 23) (.t 26),none,[3,6]⟩,
   .op ⟨some 28,.bsl 1 3 [.t 27],none,[7]⟩,
   .op ⟨some 29,.call 61 [.t 28],none,[8]⟩,
   .op ⟨some 30,.ixa (.t 7) (.t 20) 2 1,none,[0,1,2,3,4,5,6,7,8,9]⟩] 0 1 [
   ⟨none,.st (.t 30) (.t 29) 1,none,[0,1,2,3,4,5,6,7,8,9,10]⟩])))
  (.reg [
  o1 31 (.bin .add (.t 17) (.c (.int .i64 1))),
  m1 17 31])))))))
 (.seq (.reg [
 o1 32 (.ld (.t 7) 2 true),
 ⟨none,.st (.t 6) (.t 32) 2,none,[]⟩])
 .ret))))
def r42:List RV:=[.cell 6 2 true]
theorem t42:Qt1 Try.prog 42 c42 r42 33:=Yn Try.func42 rfl (by kernel_rfl) (by kernel_rfl) (by kernel_rfl) (by kernel_rfl)
def c46:SC:=(.seq (.reg [
 o1 4 (.box (.t 0) 0 104),
 o1 7 (.box (.t 3) 0 3),
 o1 8 (.mv (.c (.slice none 0 0)))])
 (.seq (.reg [
 o1 16 (.bsl 1 3 [.c (.int .i64 100001)]),
 o1 17 (.addo (.t 4) 0),
 o1 18 (.addo (.t 17) 0),
 o1 19 (.ld (.t 18) 1 false),
 o1 20 (.len (.t 19)),
 o1 21 (.callm 67 [.t 16,.t 20]),
 o1 9 (.alloc [.slice none 0 0] 40),
 ⟨none,.st (.t 9) (.t 21) 1,none,[]⟩])
 (.seq (.reg [
 o1 22 (.ld (.t 9) 1 false),
 m1 23 1,
 m1 24 2,
 o1 25 (.ixs (.t 22) (.t 23) 1),
 ⟨none,.st (.t 25) (.t 24) 1,none,[]⟩])
 (.seq (.reg [
 o1 26 (.raw (Go.Op.makeMap 100 Option.none) 100),
 m1 10 26])
 (.seq (.seq (.reg [
 o1 27 (.ld (.t 9) 1 false),
 o1 28 (.len (.t 27)),
 o1 29 (.mv (.c (.int .i64 0)))])
 (.block 0 (.loop (.seq (.reg [
  o1 30 (.bin .lss (.t 29) (.t 28))])
  (.seq (.cond (.t 30)
  .skip
  (.exit 0))
  (.seq (.block 1 (.seq (.reg [
   m1 31 29,
   m1 11 31])
   (.reg [
   m1 32 10,
   m1 33 11,
   ⟨none,.raw (Go.Op.mapUpdate 100 (Go.Operand.tmp 32) (Go.Operand.tmp 33) (Go.Operand.const (Go.Value.bool Bool.true))) 0,none,[]⟩])))
  (.reg [
  o1 34 (.bin .add (.t 29) (.c (.int .i64 1))),
  m1 29 34])))))))
 (.seq (.block 2 (.loop (.seq (.seq (.reg [
  m1 35 10,
  o1 36 (.raw (Go.Op.call { callee:=(Go.Callee.builtin Go.Builtin.len),args:=#[(Go.Operand.tmp 35)],argTypes:=#[100] }) 3),
  o1 37 (.bin .gtr (.t 36) (.c (.int .i64 0)))])
  (.cond (.t 37)
  .skip
  (.exit 2)))
  (.block 3 (.seq (.reg [
   o1 12 (.alloc [.int .i64 0] 3),
   ⟨none,.st (.t 12) (.c (.int .i64 (-1))) 1,none,[]⟩])
   (.seq (.seq (.reg [
   m1 38 10,
   o1 39 (.raw (Go.Op.range 100 (Go.Operand.tmp 38)) 0)])
   (.block 4 (.loop (.seq (.reg [
    o1 40 (.raw (Go.Op.next (Go.Operand.tmp 39) Bool.false) 0),
    o1 41 (.ext (.t 40) 0)])
    (.seq (.cond (.t 41)
    .skip
    (.exit 4))
    (.block 5 (.seq (.reg [
     o1 42 (.raw (Go.Op.entry (Go.Operand.tmp 39)) 0),
     o1 43 (.ext (.t 42) 0),
     m1 13 43])
     (.seq (.regd [0,1,2,3,4,5,6,7,8,9,10,11,12,13,14,15,16,17,18,19,20,21,22,23,24,25,26,27,28] [
     .op (o1 44 (.ld (.t 12) 1 false)),
     .op ⟨some 45,.bin .lss (.t 44) (.c (.int .i64 0)),none,[0]⟩,
     .op ⟨some 46,.mv (.t 45),none,[1]⟩,
     .op ⟨some 47,.ld (.t 9) 1 false,some (46,false),[2]⟩,
     .op ⟨some 48,.mv (.t 13),some (46,false),[2]⟩,
     .op ⟨some 49,.ixs (.t 47) (.t 48) 1,some (46,false),[2,3,4]⟩,
     .op ⟨some 50,.ld (.t 49) 1 false,some (46,false),[2,5]⟩,
     .op ⟨some 51,.ld (.t 9) 1 false,some (46,false),[2]⟩,
     .op ⟨some 52,.ld (.t 12) 1 false,some (46,false),[2]⟩,
     .op ⟨some 53,.ixs (.t 51) (.t 52) 1,some (46,false),[2,7,8]⟩,
     .op ⟨some 54,.ld (.t 53) 1 false,some (46,false),[2,9]⟩,
     .op ⟨some 55,.bin .lss (.t 50) (.t 54),some (46,false),[2,6,10]⟩,
     .op ⟨some 56,.pick (.t 46) (.c (.bool true)) (.t 55),none,[2,11]⟩,
     .op ⟨some 57,.mv (.t 56),none,[2,12]⟩,
     .op ⟨some 58,.ld (.t 9) 1 false,some (57,false),[13]⟩,
     .op ⟨some 59,.mv (.t 13),some (57,false),[13]⟩,
     .op ⟨some 60,.ixs (.t 58) (.t 59) 1,some (57,false),[13,14,15]⟩,
     .op ⟨some 61,.ld (.t 60) 1 false,some (57,false),[13,16]⟩,
     .op ⟨some 62,.ld (.t 9) 1 false,some (57,false),[13]⟩,
     .op ⟨some 63,.ld (.t 12) 1 false,some (57,false),[13]⟩,
     .op ⟨some 64,.ixs (.t 62) (.t 63) 1,some (57,false),[13,18,19]⟩,
     .op ⟨some 65,.ld (.t 64) 1 false,some (57,false),[13,20]⟩,
     .op ⟨some 66,.bin .eql (.t 61) (.t 65),some (57,false),[13,17,21]⟩,
     .op ⟨some 67,.mv (.t 66),some (57,false),[13,22]⟩,
     .op ⟨some 68,.mv (.t 13),some (67,true),[23]⟩,
     .op ⟨some 69,.ld (.t 12) 1 false,some (67,true),[23]⟩,
     .op ⟨some 70,.bin .lss (.t 68) (.t 69),some (67,true),[23,24,25]⟩,
     .op ⟨some 71,.pick (.t 67) (.t 70) (.c (.bool false)),some (57,false),[13,23,26]⟩,
     .op ⟨some 72,.pick (.t 57) (.c (.bool true)) (.t 71),none,[13,27]⟩] 0 0 [
])
 (.cond (.t 72)
 (.reg [
  m1 73 13,
  ⟨none,.st (.t 12) (.t 73) 1,none,[]⟩])
 .skip)))))))))
 (.seq (.reg [
 m1 74 10,
 o1 75 (.ld (.t 12) 1 false),
 ⟨none,.raw (Go.Op.call { callee:=(Go.Callee.builtin Go.Builtin.delete),args:=#[(Go.Operand.tmp 74),(Go.Operand.tmp 75)],argTypes:=#[100,3] }) 0,none,[]⟩])
 (.seq (.reg [
 o1 76 (.ld (.t 4) 4 true),
 o1 77 (.ld (.t 12) 1 false),
 o1 78 (.callm 41 [.t 76,.t 77])])
 (.block 6 (.gh (.rfun (.t 78) [79,80] (.seq (.reg [
  m1 14 79])
  (.reg [
  m1 15 80]))
  (.block 7 (.regd [0,1,2,3,4,5,6,7,8,9,10,11,12,13,14,15,16,17,18,19,20,21,22] [
   .op (o1 81 (.ld (.t 9) 1 false)),
   .op (m1 82 15),
   .op (o1 83 (.ld (.t 9) 1 false)),
   .op (m1 84 15),
   .op ⟨some 85,.ixs (.t 83) (.t 84) 1,none,[2,3]⟩,
   .op ⟨some 86,.ld (.t 85) 1 false,none,[4]⟩,
   .op (o1 87 (.ld (.t 4) 4 true)),
   .op (m1 88 14),
   .op (o1 89 (.ld (.t 9) 1 false)),
   .op (o1 90 (.ld (.t 12) 1 false)),
   .op ⟨some 91,.ixs (.t 89) (.t 90) 1,none,[8,9]⟩,
   .op ⟨some 92,.ld (.t 91) 1 false,none,[10]⟩,
   .op (o1 93 (.ld (.t 9) 1 false)),
   .op (o1 94 (.ld (.t 12) 1 false)),
   .op ⟨some 95,.ixs (.t 93) (.t 94) 1,none,[12,13]⟩,
   .op ⟨some 96,.ld (.t 95) 1 false,none,[14]⟩,
   .op ⟨some 97,.build [.int .i64 0,.int .i64 0] [(0,1,.t 92),(1,1,.t 96)],none,[11,15]⟩,
   .op ⟨some 98,.call 42 [.t 87,.t 88,.t 97],none,[6,7,16]⟩,
   .op (o1 99 (.ld (.t 7) 1 false)),
   .op ⟨some 100,.idx (.t 98) (.t 99) 2 1 false,none,[17,18]⟩,
   .op ⟨some 101,.mm false [.t 86,.t 100],none,[5,19]⟩,
   .op ⟨some 102,.ixs (.t 81) (.t 82) 1,none,[0,1,2,3,4,5,6,7,8,9,10,11,12,13,14,15,16,17,18,19,20]⟩] 0 1 [
   ⟨none,.st (.t 102) (.t 101) 1,none,[0,1,2,3,4,5,6,7,8,9,10,11,12,13,14,15,16,17,18,19,20,21]⟩])))))))))))))
 (.seq (.reg [
 o1 103 (.ld (.t 9) 1 false),
 m1 8 103])
 .ret)))))))
def r46:List RV:=[.tmp 8]
theorem t46:Qt1 Try.prog 46 c46 r46 104:=Yn Try.func46 rfl (by kernel_rfl) (by kernel_rfl) (by kernel_rfl) (by kernel_rfl)
def c26:SC:=(.seq (.reg [
 o1 4 (.box (.t 0) 0 29),
 o1 7 (.box (.t 3) 0 31),
 o1 8 (.mv (.c (.slice none 0 0))),
 o1 9 (.mv (.c (.int .i64 0)))])
 (.seq (.reg [
 o1 17 (.ld (.t 4) 2 true),
 o1 18 (.ld (.t 7) 2 true),
 o1 19 (.call 37 [.t 17,.t 18]),
 m1 16 19,
 o1 20 (.ext (.t 16) 0),
 o1 21 (.ext (.t 16) 1),
 o1 10 (.alloc [.slice none 0 0,.slice none 0 0,.int .i64 0,.int .i64 0] 104),
 ⟨none,.st (.t 10) (.t 20) 4,none,[]⟩,
 m1 11 21])
 (.seq (.block 0 (.seq (.reg [
  m1 23 11,
  o1 24 (.bin .neq (.t 23) (.c (.int .i64 0))),
  m1 22 24])
  (.cond (.t 22)
  (.seq (.reg [
   m1 25 11,
   o1 8 (.mv (.c (.slice none 0 0))),
   m1 9 25])
   .ret)
  (.seq (.reg [
   o1 27 (.addo (.t 4) 0),
   o1 28 (.ld (.t 27) 1 false),
   o1 29 (.len (.t 28)),
   o1 30 (.bin .sub (.t 29) (.c (.int .i64 1))),
   m1 31 1,
   o1 32 (.bsl 1 3 [.t 31]),
   o1 33 (.call 38 [.c (.int .i64 0),.t 30,.t 32]),
   o1 34 (.un .not (.t 33)),
   m1 35 34,
   ⟨some 36,.mv (.t 2),some (35,false),[]⟩,
   ⟨some 37,.bsl 1 3 [.t 36],some (35,false),[]⟩,
   ⟨some 38,.call 38 [.c (.int .i64 0),.c (.int .i64 100000),.t 37],some (35,false),[]⟩,
   ⟨some 39,.un .not (.t 38),some (35,false),[]⟩,
   o1 40 (.pick (.t 35) (.c (.bool true)) (.t 39)),
   m1 26 40])
   (.cond (.t 26)
   (.seq (.reg [
    o1 8 (.mv (.c (.slice none 0 0))),
    o1 9 (.mv (.c (.int .i64 2)))])
    .ret)
   .skip)))))
 (.seq (.reg [
 o1 12 (.mv (.c (.slice none 0 0)))])
 (.seq (.reg [
 o1 41 (.ld (.t 10) 4 true),
 m1 42 1,
 m1 43 2,
 o1 44 (.call 46 [.t 41,.t 42,.t 43,.c (.int .i64 1)]),
 m1 13 44])
 (.seq (.seq (.reg [
 o1 45 (.ld (.t 10) 4 true),
 m1 46 1,
 m1 47 2,
 o1 48 (.call 46 [.t 45,.t 46,.t 47,.c (.int .i64 0)]),
 o1 49 (.len (.t 48)),
 o1 50 (.mv (.c (.int .i64 0)))])
 (.block 1 (.loop (.seq (.reg [
  o1 51 (.bin .lss (.t 50) (.t 49))])
  (.seq (.cond (.t 51)
  .skip
  (.exit 1))
  (.seq (.block 2 (.seq (.reg [
   m1 52 50,
   o1 53 (.ixs (.t 48) (.t 50) 1),
   o1 54 (.ld (.t 53) 1 false),
   m1 14 52,
   m1 15 54])
   (.reg [
   m1 55 12,
   m1 56 15,
   m1 57 13,
   m1 58 14,
   o1 59 (.ixs (.t 57) (.t 58) 1),
   o1 60 (.ld (.t 59) 1 false),
   o1 61 (.build [.int .i64 0,.int .i64 0] [(0,1,.t 56),(1,1,.t 60)]),
   o1 62 (.bsl 2 31 [.t 61]),
   o1 63 (.appm 2 16 31 (.t 55) (.t 62)),
   m1 12 63])))
  (.reg [
  o1 64 (.bin .add (.t 50) (.c (.int .i64 1))),
  m1 50 64])))))))
 (.seq (.reg [
 m1 65 12,
 m1 8 65,
 o1 9 (.mv (.c (.int .i64 0)))])
 .ret)))))))
def r26:List RV:=[.tmp 8,.tmp 9]
theorem t26:Qt1 Try.prog 26 c26 r26 66:=Yn Try.func26 rfl (by kernel_rfl) (by kernel_rfl) (by kernel_rfl) (by kernel_rfl)
def c51:SC:=(.seq (.reg [
 o1 5 (.box (.t 0) 0 29),
 o1 8 (.box (.t 3) 0 31),
 o1 10 (.mv (.c (.slice none 0 0))),
 o1 11 (.mv (.c (.int .i64 0))),
 o1 12 (.mv (.c (.int .i64 0)))])
 (.seq (.reg [
 o1 23 (.ld (.t 5) 2 true),
 o1 24 (.ld (.t 8) 2 true),
 o1 25 (.call 37 [.t 23,.t 24]),
 m1 22 25,
 o1 26 (.ext (.t 22) 0),
 o1 27 (.ext (.t 22) 1),
 o1 13 (.alloc [.slice none 0 0,.slice none 0 0,.int .i64 0,.int .i64 0] 104),
 ⟨none,.st (.t 13) (.t 26) 4,none,[]⟩,
 m1 12 27])
 (.seq (.block 0 (.seq (.reg [
  m1 29 12,
  o1 30 (.bin .neq (.t 29) (.c (.int .i64 0))),
  m1 28 30])
  (.cond (.t 28)
  (.seq (.reg [
   m1 31 12,
   o1 10 (.mv (.c (.slice none 0 0))),
   o1 11 (.mv (.c (.int .i64 0))),
   m1 12 31])
   .ret)
  (.seq (.reg [
   o1 33 (.addo (.t 5) 0),
   o1 34 (.ld (.t 33) 1 false),
   o1 35 (.len (.t 34)),
   o1 36 (.bin .sub (.t 35) (.c (.int .i64 1))),
   m1 37 1,
   o1 38 (.bsl 1 3 [.t 37]),
   o1 39 (.call 38 [.c (.int .i64 0),.t 36,.t 38]),
   o1 40 (.un .not (.t 39)),
   m1 41 40,
   ⟨some 42,.mv (.t 2),some (41,false),[]⟩,
   ⟨some 43,.bsl 1 3 [.t 42],some (41,false),[]⟩,
   ⟨some 44,.call 38 [.c (.int .i64 0),.c (.int .i64 100000),.t 43],some (41,false),[]⟩,
   ⟨some 45,.un .not (.t 44),some (41,false),[]⟩,
   o1 46 (.pick (.t 41) (.c (.bool true)) (.t 45)),
   m1 32 46])
   (.cond (.t 32)
   (.seq (.reg [
    o1 10 (.mv (.c (.slice none 0 0))),
    o1 11 (.mv (.c (.int .i64 0))),
    o1 12 (.mv (.c (.int .i64 2)))])
    .ret)
   (.seq (.reg [
    m1 48 4,
    o1 49 (.len (.t 48)),
    o1 50 (.bin .gtr (.t 49) (.c (.int .i64 24))),
    m1 47 50])
    (.cond (.t 47)
    (.seq (.reg [
     o1 10 (.mv (.c (.slice none 0 0))),
     o1 11 (.mv (.c (.int .i64 0))),
     o1 12 (.mv (.c (.int .i64 4)))])
     .ret)
    .skip)))))))
 (.seq (.reg [
 o1 14 (.mv (.c (.slice none 0 0)))])
 (.seq (.reg [
 m1 51 1,
 m1 15 51])
 (.seq (.seq (.reg [
 m1 52 4,
 o1 53 (.len (.t 52)),
 o1 54 (.mv (.c (.int .i64 0)))])
 (.block 1 (.loop (.seq (.reg [
  o1 55 (.bin .lss (.t 54) (.t 53))])
  (.seq (.cond (.t 55)
  .skip
  (.exit 1))
  (.seq (.block 2 (.seq (.reg [
   m1 56 54,
   o1 57 (.ixs (.t 52) (.t 54) 1),
   o1 58 (.ld (.t 57) 1 false),
   m1 16 56,
   m1 17 58])
   (.seq (.seq (.reg [
   o1 59 (.ld (.t 13) 4 true),
   m1 60 17,
   m1 61 15,
   o1 62 (.call 71 [.t 59,.t 60,.t 61]),
   m1 15 62])
   (.seq (.reg [
   m1 63 15,
   o1 64 (.bin .lss (.t 63) (.c (.int .i64 0)))])
   (.cond (.t 64)
   (.seq (.reg [
    m1 65 16,
    o1 10 (.mv (.c (.slice none 0 0))),
    m1 11 65,
    o1 12 (.mv (.c (.int .i64 8)))])
    .ret)
   .skip)))
   (.reg [
   m1 66 14,
   m1 67 15,
   o1 68 (.bsl 1 3 [.t 67]),
   o1 69 (.appm 1 8 3 (.t 66) (.t 68)),
   m1 14 69]))))
  (.reg [
  o1 70 (.bin .add (.t 54) (.c (.int .i64 1))),
  m1 54 70])))))))
 (.seq (.reg [
 m1 71 2,
 m1 72 2,
 o1 73 (.build [.int .i64 0,.int .i64 0] [(0,1,.t 71),(1,1,.t 72)]),
 o1 18 (.alloc [.int .i64 0,.int .i64 0] 115),
 ⟨none,.st (.t 18) (.t 73) 2,none,[]⟩])
 (.seq (.seq (.reg [
 m1 74 4,
 o1 75 (.len (.t 74)),
 o1 76 (.mv (.c (.int .i64 0)))])
 (.block 3 (.loop (.seq (.reg [
  o1 77 (.bin .lss (.t 76) (.t 75))])
  (.seq (.cond (.t 77)
  .skip
  (.exit 3))
  (.seq (.block 4 (.seq (.reg [
   m1 78 76,
   o1 79 (.ixs (.t 74) (.t 76) 1),
   o1 80 (.ld (.t 79) 1 false),
   m1 19 78,
   m1 20 80])
   (.seq (.reg [
   o1 81 (.ld (.t 13) 4 true),
   m1 82 20,
   o1 83 (.ld (.t 18) 2 true),
   o1 84 (.call 59 [.t 81,.t 82,.t 83]),
   o1 21 (.alloc [.int .i64 0,.int .i64 0] 115),
   ⟨none,.st (.t 21) (.t 84) 2,none,[]⟩])
   (.seq (.seq (.reg [
   o1 85 (.ld (.t 13) 4 true),
   m1 86 20,
   o1 87 (.ld (.t 18) 2 true),
   o1 88 (.call 42 [.t 85,.t 86,.t 87]),
   ⟨none,.st (.t 18) (.t 88) 2,none,[]⟩])
   (.seq (.reg [
   o1 89 (.ixa (.t 18) (.c (.int .i64 1)) 2 1),
   o1 90 (.ld (.t 89) 1 false),
   o1 91 (.bin .gtr (.t 90) (.c (.int .i64 100000)))])
   (.cond (.t 91)
   (.seq (.reg [
    m1 92 19,
    o1 10 (.mv (.c (.slice none 0 0))),
    m1 11 92,
    o1 12 (.mv (.c (.int .i64 34)))])
    .ret)
   .skip)))
   (.regs [0,1,2,3,4,5,6,7,8,9,10,11,12,13] ⟨[
   .op (m1 93 10),
   .op (m1 94 20),
   .op (m1 95 14),
   .op (m1 96 19),
   .op ⟨some 97,.ixs (.t 95) (.t 96) 1,none,[2,3]⟩,
   .op ⟨some 98,.ld (.t 97) 1 false,none,[4]⟩,
   .op (o1 99 (.ld (.t 21) 2 true)),
   .op ⟨some 100,.call 72 [.t 99],none,[6]⟩,
   .op (o1 101 (.ld (.t 18) 2 true)),
   .op ⟨some 102,.call 72 [.t 101],none,[7,8]⟩,
   .op ⟨some 103,.build zv6 [(0,1,.t 94),(1,1,.t 98),(2,2,.t 100),(4,2,.t 102)],none,[1,5,7,9]⟩,
   .op ⟨some 104,.bsl 6 120 [.t 103],none,[10]⟩],0,1,[
   ⟨some 105,.appm 6 48 120 (.t 93) (.t 104),none,[0,9,11]⟩]⟩ [⟨[
],0,1,[
 ⟨some 10,.mv (.t 105),none,[0,1,2,3,4,5,6,7,8,9,10,11,12]⟩]⟩])))))
 (.reg [
 o1 106 (.bin .add (.t 76) (.c (.int .i64 1))),
 m1 76 106])))))))
 (.seq (.reg [
 m1 107 10,
 m1 10 107,
 o1 11 (.mv (.c (.int .i64 0))),
 o1 12 (.mv (.c (.int .i64 0)))])
 .ret)))))))))
def r51:List RV:=[.tmp 10,.tmp 11,.tmp 12]
theorem t51:Qt1 Try.prog 51 c51 r51 108:=Yn Try.func51 rfl (by kernel_rfl) (by kernel_rfl) (by kernel_rfl) (by kernel_rfl)
def c43:SC:=(.seq (.reg [
 o1 4 (.mv (.c (.slice none 0 0)))])
 (.seq (.reg [
 m1 5 0,
 o1 6 (.call 40 [.t 5]),
 o1 7 (.call 62 [.t 6]),
 m1 8 1,
 o1 9 (.bsl 1 3 [.t 8]),
 o1 10 (.app 1 8 3 (.t 7) (.t 9)),
 m1 4 10])
 .ret))
def r43:List RV:=[.tmp 4]
theorem t43:Qt1 Try.prog 43 c43 r43 11:=Yn Try.func43 rfl (by kernel_rfl) (by kernel_rfl) (by kernel_rfl) (by kernel_rfl)
def c40:SC:=(.seq (.reg [
 o1 2 (.mv (.c (.slice none 0 0)))])
 (.seq (.seq (.reg [
 m1 3 0,
 o1 4 (.isn (.t 3))])
 (.cond (.t 4)
 (.seq (.reg [
  o1 2 (.mv (.c (.slice none 0 0)))])
  .ret)
 .skip))
 (.seq (.reg [
 o1 5 (.bsl 1 3 []),
 m1 6 0,
 o1 7 (.app 1 8 3 (.t 5) (.t 6)),
 m1 2 7])
 .ret)))
def r40:List RV:=[.tmp 2]
theorem n40:Try.f40.ntmps=8:=by kernel_rfl
theorem b40:YE Try.prog 40=true:=by kernel_rfl
theorem Zwc:Xt Try.prog c40 ((Try.f40.body).getD .skip)=true:=by kernel_rfl
theorem Zwr:X8 Try.prog r40 Try.f40.results.toList=true:=by kernel_rfl
def c62:SC:=(.seq (.reg [
 o1 2 (.mv (.c (.slice none 0 0)))])
 (.seq (.reg [
 m1 3 0,
 m1 4 0,
 o1 5 (.len (.t 4)),
 m1 6 0,
 o1 7 (.len (.t 6)),
 o1 8 (.slc (.t 3) (.t 5) (.t 7)),
 m1 2 8])
 .ret))
def r62:List RV:=[.tmp 2]
theorem t62:Qt1 Try.prog 62 c62 r62 9:=Yn Try.func62 rfl (by kernel_rfl) (by kernel_rfl) (by kernel_rfl) (by kernel_rfl)
def c45:SC:=(.seq (.reg [
 o1 4 (.mv (.c (.int .i64 0)))])
 (.seq (.seq (.reg [
 m1 9 0,
 o1 10 (.len (.t 9)),
 o1 11 (.mv (.c (.int .i64 0)))])
 (.block 0 (.loop (.seq (.reg [
  o1 12 (.bin .lss (.t 11) (.t 10))])
  (.seq (.cond (.t 12)
  .skip
  (.exit 0))
  (.seq (.block 1 (.seq (.reg [
   m1 13 11,
   o1 14 (.ixs (.t 9) (.t 11) 1),
   o1 15 (.ld (.t 14) 1 false),
   m1 5 13,
   m1 6 15])
   (.seq (.seq (.reg [
   m1 16 5,
   m1 17 1,
   o1 18 (.len (.t 17)),
   o1 19 (.bin .geq (.t 16) (.t 18))])
   (.cond (.t 19)
   (.seq (.reg [
    o1 4 (.mv (.c (.int .i64 1)))])
    .ret)
   .skip))
   (.seq (.reg [
   m1 20 1,
   m1 21 5,
   o1 22 (.ixs (.t 20) (.t 21) 1),
   o1 23 (.ld (.t 22) 1 false),
   m1 7 23])
   (.seq (.reg [
   m1 24 6,
   m1 25 7,
   o1 26 (.call 66 [.t 24,.t 25]),
   m1 8 26])
   (.seq (.reg [
   m1 27 8,
   o1 28 (.bin .neq (.t 27) (.c (.int .i64 0)))])
   (.cond (.t 28)
   (.seq (.reg [
    m1 29 8,
    m1 4 29])
    .ret)
   .skip)))))))
  (.reg [
  o1 30 (.bin .add (.t 11) (.c (.int .i64 1))),
  m1 11 30])))))))
 (.seq (.seq (.reg [
 m1 31 0,
 o1 32 (.len (.t 31)),
 m1 33 1,
 o1 34 (.len (.t 33)),
 o1 35 (.bin .lss (.t 32) (.t 34))])
 (.cond (.t 35)
 (.seq (.reg [
  o1 4 (.mv (.c (.int .i64 (-1))))])
  .ret)
 .skip))
 (.seq (.reg [
 o1 4 (.mv (.c (.int .i64 0)))])
 .ret))))
def r45:List RV:=[.tmp 4]
theorem t45:Qt1 Try.prog 45 c45 r45 36:=Yn Try.func45 rfl (by kernel_rfl) (by kernel_rfl) (by kernel_rfl) (by kernel_rfl)
def c66:SC:=(.seq (.reg [
 o1 4 (.mv (.c (.int .i64 0)))])
 (.seq (.reg [
 m1 7 0,
 o1 8 (.call 85 [.t 7]),
 m1 5 8])
 (.seq (.reg [
 m1 9 1,
 o1 10 (.call 85 [.t 9]),
 m1 6 10])
 (.seq (.seq (.reg [
 m1 11 5])
 (.cond (.t 11)
 (.seq (.seq (.reg [
  m1 12 6])
  (.cond (.t 12)
  (.seq (.reg [
   o1 4 (.mv (.c (.int .i64 0)))])
   .ret)
  .skip))
  (.seq (.reg [
  o1 4 (.mv (.c (.int .i64 (-1))))])
  .ret))
 .skip))
 (.seq (.seq (.reg [
 m1 13 6])
 (.cond (.t 13)
 (.seq (.reg [
  o1 4 (.mv (.c (.int .i64 1)))])
  .ret)
 .skip))
 (.seq (.seq (.reg [
 m1 14 0,
 m1 15 1,
 o1 16 (.bin .lss (.t 14) (.t 15))])
 (.cond (.t 16)
 (.seq (.reg [
  o1 4 (.mv (.c (.int .i64 (-1))))])
  .ret)
 .skip))
 (.seq (.seq (.reg [
 m1 17 0,
 m1 18 1,
 o1 19 (.bin .gtr (.t 17) (.t 18))])
 (.cond (.t 19)
 (.seq (.reg [
  o1 4 (.mv (.c (.int .i64 1)))])
  .ret)
 .skip))
 (.seq (.reg [
 o1 4 (.mv (.c (.int .i64 0)))])
 .ret))))))))
def r66:List RV:=[.tmp 4]
theorem t66:Qt1 Try.prog 66 c66 r66 20:=Yn Try.func66 rfl (by kernel_rfl) (by kernel_rfl) (by kernel_rfl) (by kernel_rfl)
def c85:SC:=(.seq (.reg [
 o1 2 (.mv (.c (.bool false)))])
 (.seq (.reg [
 m1 3 0,
 m1 4 0,
 o1 5 (.bin .neq (.t 3) (.t 4)),
 m1 2 5])
 .ret))
def r85:List RV:=[.tmp 2]
theorem t85:Qt1 Try.prog 85 c85 r85 6:=Yn Try.func85 rfl (by kernel_rfl) (by kernel_rfl) (by kernel_rfl) (by kernel_rfl)
def c67:SC:=(.seq (.reg [
 o1 4 (.mv (.c (.slice none 0 0)))])
 (.seq (.seq (.reg [
 m1 9 1,
 o1 10 (.bin .lss (.t 9) (.c (.int .i64 0)))])
 (.cond (.t 10)
 (.reg [
  o1 11 (.raw (Go.Op.makeInterface 9 (Go.Operand.const (Go.Value.string { data:=#[99,97,110,110,111,116,32,98,101,32,110,101,103,97,116,105,118,101] }))) 20),
  ⟨none,.raw (Go.Op.panic (Go.Operand.tmp 11)) 0,none,[]⟩])
 .skip))
 (.seq (.reg [
 m1 13 0,
 o1 14 (.len (.t 13)),
 o1 15 (.conv .u64 (.t 14)),
 m1 16 1,
 o1 17 (.conv .u64 (.t 16)),
 o1 18 (.call 86 [.t 15,.t 17]),
 m1 12 18,
 o1 19 (.ext (.t 12) 0),
 o1 20 (.ext (.t 12) 1),
 m1 5 19,
 m1 6 20])
 (.seq (.seq (.reg [
 m1 21 5,
 o1 22 (.bin .gtr (.t 21) (.c (.int .u64 0))),
 m1 23 22,
 ⟨some 24,.mv (.t 6),some (23,false),[]⟩,
 ⟨some 25,.bin .gtr (.t 24) (.c (.int .u64 9223372036854775807)),some (23,false),[]⟩,
 o1 26 (.pick (.t 23) (.c (.bool true)) (.t 25))])
 (.cond (.t 26)
 (.reg [
  o1 27 (.raw (Go.Op.makeInterface 9 (Go.Operand.const (Go.Value.string { data:=#[116,104,101,32,114,101,115,117,108,116,32,111,102,32,40,108,101,110,40,120,41,32,42,32,99,111,117,110,116,41,32,111,118,101,114,102,108,111,119,115] }))) 20),
  ⟨none,.raw (Go.Op.panic (Go.Operand.tmp 27)) 0,none,[]⟩])
 .skip))
 (.seq (.reg [
 m1 28 6,
 o1 29 (.conv .i64 (.t 28)),
 o1 30 (.mks 1 8 [.int .i64 0] 3 (.t 29)),
 m1 7 30])
 (.seq (.reg [
 m1 31 7,
 m1 32 0,
 o1 33 (.cpy 1 (.t 31) (.t 32)),
 m1 8 33])
 (.seq (.block 0 (.loop (.seq (.seq (.reg [
  m1 34 8,
  m1 35 7,
  o1 36 (.len (.t 35)),
  o1 37 (.bin .lss (.t 34) (.t 36))])
  (.cond (.t 37)
  .skip
  (.exit 0)))
  (.block 1 (.regd [1,2,3,4,5,6,0,7,8,9] [
   .op (m1 39 7),
   .op (m1 40 8),
   .op ⟨some 41,.sub 1 (.t 39) (some (.t 40)) none,none,[1,2]⟩,
   .op (m1 42 7),
   .op (m1 43 8),
   .op ⟨some 44,.sub 1 (.t 42) none (some (.t 43)),none,[4,5]⟩,
   .hide (.t 41),
   .op (m1 38 8)] 0 1 [
   ⟨some 45,.cpy 1 (.t 41) (.t 44),none,[3,6]⟩,
   ⟨some 46,.bin .add (.t 38) (.t 45),none,[0,7]⟩,
   ⟨some 8,.mv (.t 46),none,[0,1,2,3,4,5,6,7,8]⟩])))))
 (.seq (.reg [
 m1 47 7,
 m1 4 47])
 .ret))))))))
def r67:List RV:=[.tmp 4]
theorem n67:Try.f67.ntmps=48:=by kernel_rfl
theorem b67:YE Try.prog 67=true:=by kernel_rfl
theorem Zv6:Xt Try.prog c67 ((Try.f67.body).getD .skip)=true:=by kernel_rfl
theorem Zvv:X8 Try.prog r67 Try.f67.results.toList=true:=by kernel_rfl
theorem m67 {n0:Nat} {hp0:List (Nat × HB)} {args:List SV} {ZX:Ot->Prop} (hh:hpb n0 hp0) (hx:∀ o,ZX o->KX o.res/\KXP o.hp) (h:sx Try.prog Y0 n0 c67 ⟨enum 0 args,hp0,n0,48,[]⟩ (retM r67 fun o=>∃ o',ZX o'/\Zd8 n0 o o')) (hA:Nat.ble args.length 48=true:=by rfl):CtM Try.prog 67 hp0 n0 args ZX:=XE Try.func67 rfl b67 Zv6 Zvv n67 (Nat.le_of_ble_eq_true hA) hh hx h
def c86:SC:=(.seq (.reg [
 o1 4 (.mv (.c (.int .u64 0))),
 o1 5 (.mv (.c (.int .u64 0)))])
 (.seq (.cond (.c (.bool false))
 (.seq (.reg [
  m1 11 0,
  o1 12 (.conv .u32 (.t 11)),
  m1 13 1,
  o1 14 (.conv .u32 (.t 13)),
  o1 15 (.call 94 [.t 12,.t 14]),
  m1 10 15,
  o1 16 (.ext (.t 10) 0),
  o1 17 (.ext (.t 10) 1),
  m1 6 16,
  m1 7 17])
  (.seq (.reg [
  m1 18 6,
  o1 19 (.conv .u64 (.t 18)),
  m1 20 7,
  o1 21 (.conv .u64 (.t 20)),
  m1 4 19,
  m1 5 21])
  .ret))
 .skip)
 (.seq (.reg [
 m1 23 0,
 m1 24 1,
 o1 25 (.call 95 [.t 23,.t 24]),
 m1 22 25,
 o1 26 (.ext (.t 22) 0),
 o1 27 (.ext (.t 22) 1),
 m1 8 26,
 m1 9 27])
 (.seq (.reg [
 m1 28 8,
 m1 29 9,
 m1 4 28,
 m1 5 29])
 .ret))))
def r86:List RV:=[.tmp 4,.tmp 5]
theorem t86:Qt1 Try.prog 86 c86 r86 30:=Yn Try.func86 rfl (by kernel_rfl) (by kernel_rfl) (by kernel_rfl) (by kernel_rfl)
def c95:SC:=(.seq (.reg [
 o1 4 (.mv (.c (.int .u64 0))),
 o1 5 (.mv (.c (.int .u64 0)))])
 (.seq (.reg [
 m1 14 0,
 o1 15 (.raw (Go.Op.binOp Go.BinOp.and 169 (Go.Operand.tmp 14) (Go.Operand.const (Go.Value.int Go.IntKind.u64 4294967295)) 169) 169),
 m1 6 15])
 (.seq (.reg [
 m1 16 0,
 o1 17 (.raw (Go.Op.binOp Go.BinOp.shr 169 (Go.Operand.tmp 16) (Go.Operand.const (Go.Value.int Go.IntKind.u64 32)) 156) 169),
 m1 7 17])
 (.seq (.reg [
 m1 18 1,
 o1 19 (.raw (Go.Op.binOp Go.BinOp.and 169 (Go.Operand.tmp 18) (Go.Operand.const (Go.Value.int Go.IntKind.u64 4294967295)) 169) 169),
 m1 8 19])
 (.seq (.reg [
 m1 20 1,
 o1 21 (.raw (Go.Op.binOp Go.BinOp.shr 169 (Go.Operand.tmp 20) (Go.Operand.const (Go.Value.int Go.IntKind.u64 32)) 156) 169),
 m1 9 21])
 (.seq (.reg [
 m1 22 6,
 m1 23 8,
 o1 24 (.bin .mul (.t 22) (.t 23)),
 m1 10 24])
 (.seq (.reg [
 m1 25 7,
 m1 26 8,
 o1 27 (.bin .mul (.t 25) (.t 26)),
 m1 28 10,
 o1 29 (.raw (Go.Op.binOp Go.BinOp.shr 169 (Go.Operand.tmp 28) (Go.Operand.const (Go.Value.int Go.IntKind.u64 32)) 156) 169),
 o1 30 (.bin .add (.t 27) (.t 29)),
 m1 11 30])
 (.seq (.reg [
 m1 31 11,
 o1 32 (.raw (Go.Op.binOp Go.BinOp.and 169 (Go.Operand.tmp 31) (Go.Operand.const (Go.Value.int Go.IntKind.u64 4294967295)) 169) 169),
 m1 12 32])
 (.seq (.reg [
 m1 33 11,
 o1 34 (.raw (Go.Op.binOp Go.BinOp.shr 169 (Go.Operand.tmp 33) (Go.Operand.const (Go.Value.int Go.IntKind.u64 32)) 156) 169),
 m1 13 34])
 (.seq (.reg [
 m1 35 12,
 m1 36 6,
 m1 37 9,
 o1 38 (.bin .mul (.t 36) (.t 37)),
 o1 39 (.bin .add (.t 35) (.t 38)),
 m1 12 39])
 (.seq (.reg [
 m1 40 7,
 m1 41 9,
 o1 42 (.bin .mul (.t 40) (.t 41)),
 m1 43 13,
 o1 44 (.bin .add (.t 42) (.t 43)),
 m1 45 12,
 o1 46 (.raw (Go.Op.binOp Go.BinOp.shr 169 (Go.Operand.tmp 45) (Go.Operand.const (Go.Value.int Go.IntKind.u64 32)) 156) 169),
 o1 47 (.bin .add (.t 44) (.t 46)),
 m1 4 47])
 (.seq (.reg [
 m1 48 0,
 m1 49 1,
 o1 50 (.bin .mul (.t 48) (.t 49)),
 m1 5 50])
 .ret))))))))))))
def r95:List RV:=[.tmp 4,.tmp 5]
theorem t95:Qt1 Try.prog 95 c95 r95 51:=Yn Try.func95 rfl (by kernel_rfl) (by kernel_rfl) (by kernel_rfl) (by kernel_rfl)
def c30:SC:=(.seq (.reg [
 o1 4 (.mv (.c (.bool false)))])
 (.seq (.seq (.reg [
 m1 6 0,
 o1 7 (.len (.t 6)),
 m1 8 1,
 o1 9 (.len (.t 8)),
 o1 10 (.bin .neq (.t 7) (.t 9))])
 (.cond (.t 10)
 (.seq (.reg [
  o1 4 (.mv (.c (.bool false)))])
  .ret)
 .skip))
 (.seq (.seq (.reg [
 o1 5 (.mv (.c (.int .i64 0)))])
 (.block 0 (.loop (.seq (.seq (.reg [
  m1 11 5,
  m1 12 0,
  o1 13 (.len (.t 12)),
  o1 14 (.bin .lss (.t 11) (.t 13))])
  (.cond (.t 14)
  .skip
  (.exit 0)))
  (.seq (.block 1 (.seq (.regd [0,1,2,3,4,5,6,7,8] [
   .op (m1 17 0),
   .op (m1 18 5),
   .op ⟨some 19,.ixs (.t 17) (.t 18) 1,none,[0,1]⟩,
   .op ⟨some 20,.ld (.t 19) 1 false,none,[2]⟩,
   .op (m1 21 1),
   .op (m1 22 5),
   .op ⟨some 23,.ixs (.t 21) (.t 22) 1,none,[4,5]⟩,
   .op ⟨some 24,.ld (.t 23) 1 false,none,[6]⟩,
   .op ⟨some 25,.bin .neq (.t 20) (.t 24),none,[3,7]⟩] 0 0 [
])
 (.cond (.t 25)
 (.seq (.reg [
  o1 4 (.mv (.c (.bool false)))])
  .ret)
 .skip)))
 (.reg [
 m1 15 5,
 o1 16 (.bin .add (.t 15) (.c (.int .i64 1))),
 m1 5 16]))))))
 (.seq (.reg [
 o1 4 (.mv (.c (.bool true)))])
 .ret))))
def r30:List RV:=[.tmp 4]
theorem t30:Qt1 Try.prog 30 c30 r30 26:=Yn Try.func30 rfl (by kernel_rfl) (by kernel_rfl) (by kernel_rfl) (by kernel_rfl)
open Go.Azalai
theorem ZsJ (a b:Int) (c:Bool):Ct Try.prog 29 [.sl c 1 [[I a],[I b]]] (I (min a b)):=by
 refine t29.1 (by simp [KFR,KFL,KF]) (by simp [KFL,KF]) ?_
 dsimp only [c29,r29,go_sem,rA,rM,rS]
 refine Zv (by decide) ?_
 dsimp only [go_sem,rA,rM,rS]
 refine ixs 0 [I a] rfl rfl ?_
 dsimp only [go_sem,rA,rM,rS]
 refine Y4 2 ?_
 dsimp only [Zb,go_sem,rA,rM,rS]
 refine Zt (by decide) ?_
 dsimp only [Zb,go_sem,rA,rM,rS]
 refine ixs 1 [I b] rfl rfl ?_
 dsimp only [Zb,go_sem,rA,rM,rS]
 refine Zv (by decide) ?_
 dsimp only [go_sem,rA,rM,rS]
theorem ZcN (a:Int):Ct Try.prog 61 [.sl true 1 [[I a]]] (I (min a 100001)):=by
 refine t61.1 (by simp [KFR,KFL,KF]) (by simp [KFL,KF]) ?_
 dsimp only [c61,r61,go_sem,rA,rM,rS]
 refine Zw9 (by simp) ?_
 dsimp only [go_sem,rA,rM,rS]
 refine call (ZsJ a 100001 false) ?_
 dsimp only [go_sem,rA,rM,rS]
theorem XG (l:Land) (p:Span) (k:Nat) (hk:k < l.legs.length) (d0 d1:Int) (hx:GoodLeg l.legs[k]) (hp:Z2 p=true) (h0:inR 0 100001 d0=true) (h1:inR 0 100001 d1=true) :
 Ct Try.prog 42 [.agg (ZF l p),I k,.agg [I d0,I d1]] (.agg [I (ZM false l.legs[k] p d0),I (ZM true l.legs[k] p d1)]):=by
 have hb:=day_bd hx hp
 refine t42.1 (by simp [ZF,Zg,Zo,Zh,Zd,Za,KFL,KF]) (by simp [KFL,KF]) ?_
 dsimp only [c42,r42,ZF,go_sem,rA,rM,rS]
 refine call (XT l p k hk d0 d1 hx hp h0 h1) ?_
 dsimp only [ZF,go_sem,rA,rM,rS]
 refine call (Zcx l p k hk hx hp) ?_
 dsimp only [Zd,go_sem,rA,rM,rS]
 simp only [inR,decide_eq_true_eq] at h0 h1
 have a0:=Xm (k:=false) hx hp h0.2
 have a1:=Xm (k:=true) hx hp h1.2
 simp only [leK,nK,cond_true,cond_false] at a0 a1
 refine Y4 3 ?_
 dsimp only [Zb,go_sem,rA,rM,rS]
 refine Zt (by decide) ?_
 dsimp only [Zb,go_sem,rA,rM,rS]
 repeat (refine ixa 0 rfl (by decide) ?_;dsimp only [Zb,go_sem,rA,rM,rS])
 rw [Zi (n:=ZuI l.legs[k] p d0+(Zby l.legs[k] p).lo) (by omega) (by omega)]
 refine call (ZcN _) ?_
 dsimp only [Zb,go_sem,rA,rM,rS]
 repeat (refine ixa 0 rfl (by decide) ?_;dsimp only [Zb,go_sem,rA,rM,rS])
 refine Zt (by decide) ?_
 dsimp only [Zb,go_sem,rA,rM,rS]
 repeat (refine ixa 1 rfl (by decide) ?_;dsimp only [Zb,go_sem,rA,rM,rS])
 rw [Zi (n:=Zq2 l.legs[k] p d1+(Zby l.legs[k] p).hi) (by omega) (by omega)]
 refine call (ZcN _) ?_
 dsimp only [Zb,go_sem,rA,rM,rS]
 repeat (refine ixa 1 rfl (by decide) ?_;dsimp only [Zb,go_sem,rA,rM,rS])
 refine Zv (by decide) ?_
 dsimp only [go_sem,rA,rM,rS]
 simp only [ZM,leK,nK,cond_true,cond_false]
 rw [Int.min_comm,Int.min_comm 100001 (Zq2 l.legs[k] p d1+(Zby l.legs[k] p).hi)]
def U9 (l:Land) (p:Span) (v:Int):Ot:=⟨false,.cl 58 [.p 0 0,.p 1 0],[(1,.cells [I v] 3),(0,.cells (ZF l p) 104)],2⟩
theorem UO (l:Land) (p:Span) (v:Int):CtM Try.prog 41 [] 0 [.agg (ZF l p),I v] (fun o=>o=U9 l p v):=by
 refine m41 (by simp [hpb]) (fun o ho=>by subst ho;simp [U9,KX,KXL,KXP,KXH,Za,KFL,KF,ZF,Zg,Zo,Zh]) ?_
 dsimp only [c41,r41,ZF,go_sem,rA,rM,rS]
 refine ⟨_,rfl,?_⟩
 simp only [U9]
 (refine Z5 ?_ ?_ ?_ rfl<;>dsimp only [ZF,Zg,Zo,Zh,id,go_sem,rA,rM,rS]<;>simp [ZF,Zg,Zo,Zh,Za,Zf,KFR,KFL,KF,Zc,mtO,nbr])
end Go.Proofs.Ytiigiflofnjilaa
namespace Go.Azalai
def WM (l:Land) (leg v:Int):Int:=if h:0<=leg/\leg.toNat < l.legs.length then Zk l.legs[leg.toNat] v else -1
end Go.Azalai
namespace Go.Proofs.Ytiigiflofnjilaa
open Go Go.Sx Go.Azalai
theorem ZwT (l:Land) (p:Span) (leg v:Int) (hl:l.legs.length<=1000):Ct Try.prog 71 [.agg (ZF l p),I leg,I v] (I (WM l leg v)):=by
 refine t71.1 (by simp [ZF,Zg,Zo,Zh,Za,KFL,KF]) (by simp [KFL,KF]) ?_
 dsimp only [c71,r71,ZF,go_sem,rA,rM,rS]
 refine Zax [] (UO l p v) rfl rfl rfl ?_ ?_ ?_
 . exact Zc (by simp [ZF,Zg,Zo,Zh,Za,KFL,KF])
 . trivial
 dsimp only [U9,ZF,go_sem,rA,rM,rS]
 refine gh Ww ?_
 dsimp only [go_sem,rA,rM,rS]
 refine ⟨b58,fun rec=>?_⟩
 refine y58 ?_
 dsimp only [c58,r58,go_sem,rA,rM,rS]
 refine XO (fun j:Nat=>[(10,I j)]) (fun _=>[]) (fun j=>j<=l.legs.length/\(0<=leg->leg < j->WM l leg v = -1)) (fun j=>l.legs.length - j) 0 ⟨Nat.zero_le _,fun h1 h2=>by omega⟩ ?_ ?_
 . (refine Zl ?_ ?_ ?_ rfl rfl<;>dsimp only [ZF,Zg,Zo,Zh,id,go_sem,rA,rM,rS]<;>simp [ZF,Zg,Zo,Zh,Za,Zf,KFR,KFL,KF,Zc,mtO,nbr])
 rintro j ⟨hj,hi⟩
 dsimp only [go_sem,rA,rM,rS]
 simp only [List.length_map]
 by_cases hlt:j < l.legs.length
 . refine Zt (by simpa using hlt) ?_
   dsimp only [go_sem,rA,rM,rS]
   refine Zs j hlt rfl ?_
   dsimp only [Zo,go_sem,rA,rM,rS]
   have hend:leg=j->WM l leg v=Zk l.legs[j] v:=fun he=>by
    subst he
    unfold WM
    rw [dif_pos ⟨by omega,by simpa using hlt⟩]
    simp
   by_cases ha:v=l.legs[j].a
   . refine Zt (by simpa using ha) ?_
     dsimp only [go_sem,rA,rM,rS]
     refine ⟨rfl,rfl,?_⟩
     by_cases he:leg=j
     . refine Zt (by simp [he]) ?_
       dsimp only [go_sem,rA,rM,rS]
       refine ⟨rfl,?_⟩
       refine Zt (by decide) ?_
       dsimp only [go_sem,rA,rM,rS]
       rw [hend he,Zk,if_pos ha.symm]
     . refine Zv (by simp;omega) ?_
       dsimp only [go_sem,rA,rM,rS]
       refine ⟨rfl,?_⟩
       refine Zv (by decide) ?_
       dsimp only [go_sem,rA,rM,rS]
       rw [Zi (n:=(j:Int)+1) (by omega) (by omega)]
       refine ⟨j+1,⟨hlt,fun h1 h2=>hi h1 (by omega)⟩,by omega,?_⟩
       (refine Zl ?_ ?_ ?_ rfl rfl<;>dsimp only [ZF,Zg,Zo,Zh,id,go_sem,rA,rM,rS]<;>simp [ZF,Zg,Zo,Zh,Za,Zf,KFR,KFL,KF,Zc,mtO,nbr])
   refine Zv (by simpa using ha) ?_
   dsimp only [go_sem,rA,rM,rS]
   by_cases hb:v=l.legs[j].b
   . refine Zt (by simpa using hb) ?_
     dsimp only [go_sem,rA,rM,rS]
     refine ⟨rfl,rfl,?_⟩
     by_cases he:leg=j
     . refine Zt (by simp [he]) ?_
       dsimp only [go_sem,rA,rM,rS]
       refine ⟨rfl,?_⟩
       refine Zt (by decide) ?_
       dsimp only [go_sem,rA,rM,rS]
       rw [hend he,Zk,if_neg (fun e=>ha e.symm),if_pos hb.symm]
     . refine Zv (by simp;omega) ?_
       dsimp only [go_sem,rA,rM,rS]
       refine ⟨rfl,?_⟩
       refine Zv (by decide) ?_
       dsimp only [go_sem,rA,rM,rS]
       rw [Zi (n:=(j:Int)+1) (by omega) (by omega)]
       refine ⟨j+1,⟨hlt,fun h1 h2=>hi h1 (by omega)⟩,by omega,?_⟩
       (refine Zl ?_ ?_ ?_ rfl rfl<;>dsimp only [ZF,Zg,Zo,Zh,id,go_sem,rA,rM,rS]<;>simp [ZF,Zg,Zo,Zh,Za,Zf,KFR,KFL,KF,Zc,mtO,nbr])
   refine Zv (by simpa using hb) ?_
   dsimp only [go_sem,rA,rM,rS]
   rw [Zi (n:=(j:Int)+1) (by omega) (by omega)]
   refine ⟨j+1,⟨hlt,fun h1 h2=>?_⟩,by omega,?_⟩
   . by_cases he:leg=j
     . rw [hend he,Zk,if_neg (fun e=>ha e.symm),if_neg (fun e=>hb e.symm)]
     . exact hi h1 (by omega)
   (refine Zl ?_ ?_ ?_ rfl rfl<;>dsimp only [ZF,Zg,Zo,Zh,id,go_sem,rA,rM,rS]<;>simp [ZF,Zg,Zo,Zh,Za,Zf,KFR,KFL,KF,Zc,mtO,nbr])
 refine Zv (by simp;omega) ?_
 dsimp only [go_sem,rA,rM,rS]
 have hz:WM l leg v = -1:=by
  by_cases h1:0<=leg
  . by_cases h2:leg < j
    . exact hi h1 h2
    . unfold WM;rw [dif_neg (by omega)]
  . unfold WM;rw [dif_neg (by omega)]
 rw [hz]
def U64 (n:Int):SV:=.v (.int .u64 n)
theorem uw {n:Int} (h0:0<=n) (h1:n < 18446744073709551616):IntKind.u64.wrap n=n:=by
 have e:n % 2 ^ IntKind.u64.bits=n:=Int.emod_eq_of_lt h0 (by show n < 2 ^ 64;omega)
 simp only [IntKind.wrap,e,show IntKind.u64.signed=false from rfl,Bool.false_and]
 rfl
theorem ZlS (n:Int) (h0:0<=n) (h1:n<=1000000):Ct Try.prog 95 [U64 1,U64 n] (.tup [U64 0,U64 n]):=by
 refine t95.1 (by simp [U64,KFL,KF]) (by simp [U64,KFL,KF]) ?_
 dsimp only [c95,r95,U64,go_sem,rA,rM,rS]
 have sh:∀ (m:Int),0<=m->m < 4294967296->∀ w:World,(binOp .shr 168 (.int .u64 m) (.int .u64 32)).run Try.prog w = .ok (.int .u64 0) w:=fun m q0 q1 w=>by
  simp only [binOp,Op.shift]
  rw [if_neg (by decide)]
  have:m.fdiv (2 ^ 32)=0:=by rw [Int.fdiv_eq_ediv_of_nonneg _ (by decide)];omega
  show Result.ok (Value.int .u64 (m.fdiv (2 ^ (min (32:Int).toNat IntKind.u64.bits)))) w=_
  rw [show min (32:Int).toNat IntKind.u64.bits=32 from by decide,this]
 have an:∀ (m:Int),0<=m->m < 4294967296->∀ w:World,(binOp .and 168 (.int .u64 m) (.int .u64 4294967295)).run Try.prog w = .ok (.int .u64 m) w:=fun m q0 q1 w=>by
  obtain ⟨k,rfl⟩:=Int.eq_ofNat_of_zero_le q0
  have hk:k < 4294967296:=by omega
  have e:(BitVec.ofInt 64 (k:Int) &&& BitVec.ofInt 64 4294967295).toNat=k:=by
   rw [BitVec.toNat_and,show (BitVec.ofInt 64 4294967295).toNat=2 ^ 32 - 1 from by decide,Nat.and_two_pow_sub_one_eq_mod,BitVec.ofInt_natCast,BitVec.toNat_ofNat]
   omega
  show Result.ok (Value.int .u64 (IntKind.u64.wrap (((BitVec.ofInt 64 (k:Int) &&& BitVec.ofInt 64 4294967295).toNat:Nat):Int))) w=_
  rw [e,uw (by omega) (by omega)]
 refine WT rfl (.inl rfl) (an 1 (by omega) (by omega)) rfl ?_
 dsimp only [go_sem,rA,rM,rS]
 refine WT rfl (.inr rfl) (sh 1 (by omega) (by omega)) rfl ?_
 dsimp only [go_sem,rA,rM,rS]
 refine WT rfl (.inl rfl) (an n (by omega) (by omega)) rfl ?_
 dsimp only [go_sem,rA,rM,rS]
 refine WT rfl (.inr rfl) (sh n (by omega) (by omega)) rfl ?_
 dsimp only [go_sem,rA,rM,rS]
 simp (disch:=omega) only [uw,Int.one_mul,Int.zero_mul,Int.mul_zero,Int.add_zero,Int.zero_add]
 refine WT rfl (.inr rfl) (sh n (by omega) (by omega)) rfl ?_
 dsimp only [go_sem,rA,rM,rS]
 simp (disch:=omega) only [uw,Int.one_mul,Int.zero_mul,Int.mul_zero,Int.add_zero,Int.zero_add]
 refine WT rfl (.inl rfl) (an 0 (by omega) (by omega)) rfl ?_
 dsimp only [go_sem,rA,rM,rS]
 refine WT rfl (.inr rfl) (sh 0 (by omega) (by omega)) rfl ?_
 dsimp only [go_sem,rA,rM,rS]
 simp (disch:=omega) only [uw,Int.one_mul,Int.zero_mul,Int.mul_zero,Int.add_zero,Int.zero_add]
 refine WT rfl (.inr rfl) (sh 0 (by omega) (by omega)) rfl ?_
 dsimp only [go_sem,rA,rM,rS]
 simp (disch:=omega) only [uw,Int.one_mul,Int.zero_mul,Int.mul_zero,Int.add_zero,Int.zero_add]
theorem ZvS (n:Int) (h0:0<=n) (h1:n<=1000000):Ct Try.prog 86 [U64 1,U64 n] (.tup [U64 0,U64 n]):=by
 refine t86.1 (by simp [U64,KFL,KF]) (by simp [U64,KFL,KF]) ?_
 dsimp only [c86,r86,U64,go_sem,rA,rM,rS]
 refine Zv (by decide) ?_
 dsimp only [go_sem,rA,rM,rS]
 refine call (ZlS n h0 h1) ?_
 dsimp only [U64,go_sem,rA,rM,rS]
theorem Vq {r:List SV} (h:KFL r):∀ n,KFR (List.replicate n r)
 | 0=>trivial
 | n+1=>⟨h,Vq h n⟩
theorem ZrD (x:Int) (n:Nat) (h0:1<=n) (h1:n<=1000) (k:Bool):CtM Try.prog 67 [] 0 [.sl k 1 [[I x]],I n] (fun o=>o=⟨false,.mr 0 0,[(0,.row 0 1 (List.replicate n [I x]) 3)],1⟩):=by
 have hm:KFL [I x]:=by simp [KFL,KF]
 have hone:allOne [I x]=true:=rfl
 have hkr:=Vq hm n
 refine m67 (by simp [hpb]) (fun o ho=>by subst ho;simp only [KX,KXL,KXP,KXH];exact ⟨trivial,hkr,trivial⟩) ?_
 generalize [I x]=row at hm hone hkr
 dsimp only [c67,r67,go_sem,rA,rM,rS]
 refine Zv (by simp) ?_
 dsimp only [go_sem,rA,rM,rS]
 rw [show ((1:Nat):Int)=1 from rfl]
 simp (disch:=omega) only [uw]
 refine call (ZvS n (by omega) (by omega)) ?_
 dsimp only [U64,go_sem,rA,rM,rS]
 refine gb ?_
 dsimp only [go_sem,rA,rM,rS]
 refine gb ?_
 dsimp only [go_sem,rA,rM,rS]
 refine Zv (by simp;omega) ?_
 dsimp only [go_sem,rA,rM,rS]
 refine ⟨n,Zi (by omega) (by omega),by omega,?_⟩
 have hz:KFL [SV.v (Value.int IntKind.i64 0)]:=by simp [KFL,KF]
 generalize [SV.v (Value.int IntKind.i64 0)]=z at hz
 dsimp only [go_sem,rA,rM,rS]
 refine ⟨(by intro c hc;simp only [List.mem_singleton] at hc;subst hc;exact hone),by simp,?_⟩
 have hmin:min n 1=1:=by omega
 simp only [List.length_replicate,List.length_singleton,hmin,List.drop_replicate]
 dsimp only [go_sem,rA,rM,rS]
 refine XO (fun j:Nat=>[(8,I j)]) (fun j=>[(0,.row 0 1 (List.replicate j row ++ List.replicate (n - j) z) 3)]) (fun j=>1<=j/\j<=n) (fun j=>n - j) 1 ⟨Nat.le_refl _,h0⟩ ?_ ?_
 . refine Zl ?_ ?_ ?_ rfl rfl<;>dsimp only [id,go_sem,rA,rM,rS]<;>simp [Zf,Vq,hz,hm,Zc,mtO,nbr,KFR,KFL,KF]
 rintro j ⟨hj0,hj⟩
 dsimp only [go_sem,rA,rM,rS]
 simp only [List.length_append,List.length_replicate,show j+(n - j)=n from by omega]
 by_cases hlt:j < n
 . refine Zt (by simpa using hlt) ?_
   dsimp only [go_sem,rA,rM,rS]
   refine ⟨j,n,⟨rfl,by simp;omega,by omega,by simp;omega⟩,?_⟩
   dsimp only [go_sem,rA,rM,rS]
   refine ⟨0,j,⟨rfl,rfl,by omega,by simp⟩,?_⟩
   dsimp only [go_sem,rA,rM,rS]
   have hx:List.take (j - 0) (List.replicate j row ++ List.replicate (n - j) z)=List.replicate j row:=by rw [Nat.sub_zero];exact List.take_left' (by simp)
   have hx':List.take j (List.replicate j row ++ List.replicate (n - j) z)=List.replicate j row:=List.take_left' (by simp)
   rw [hx]
   refine ⟨by simp,(by intro c hc;rw [List.eq_of_mem_replicate hc];exact hone),by simp,?_⟩
   simp only [List.length_replicate]
   generalize hN:min (n - j) j=N
   have e:List.take j (List.replicate j row ++ List.replicate (n - j) z) ++ (List.take N (List.replicate j row) ++ List.drop (j+N) (List.replicate j row ++ List.replicate (n - j) z))=List.replicate (j+N) row ++ List.replicate (n - (j+N)) z:=by
    rw [hx',List.take_replicate,List.drop_append,List.drop_of_length_le (l:=List.replicate j row) (by simp),List.length_replicate,List.nil_append,List.drop_replicate,<- List.append_assoc,List.replicate_append_replicate,show min N j=N from by omega]
    congr 2;omega
   rw [e]
   dsimp only [go_sem,rA,rM,rS]
   rw [show (j:Int)+(N:Int)=((j+N:Nat):Int) from by omega,Zi (n:=((j+N:Nat):Int)) (by omega) (by omega)]
   refine ⟨j+N,⟨by omega,by omega⟩,by omega,?_⟩
   refine Zl ?_ ?_ ?_ rfl rfl<;>dsimp only [id,go_sem,rA,rM,rS]<;>simp [Zf,Vq,hz,hm,Zc,mtO,nbr,KFR,KFL,KF]
 refine Zv (by simp;omega) ?_
 dsimp only [go_sem,rA,rM,rS]
 have hje:j=n:=by omega
 subst hje
 simp only [Nat.sub_self,List.replicate_zero,List.append_nil]
 refine ⟨_,rfl,?_⟩
 refine Z5 ?_ ?_ ?_ rfl<;>dsimp only [id,go_sem,rA,rM,rS]<;>simp [Zf,Vq,hm,Zc,mtO,nbr,KFR,KFL,KF]
end Go.Proofs.Ytiigiflofnjilaa
namespace Go.Azalai
open Go.Sx
def dv (d:List Int) (v:Int):Int:=if 0<=v then d.getD v.toNat 100001 else 100001
theorem Wo {d:List Int} {i:Nat} (h:i < d.length):dv d i=d[i]:=by simp [dv,h]
theorem ZvA {d:List Int} {v:Int} (h:¬ (0<=v/\v < d.length)):dv d v=100001:=by
 unfold dv
 split
 . have:¬ v.toNat < d.length:=by omega
   simp [List.getD_eq_getElem?_getD,List.getElem?_eq_none (Nat.le_of_not_lt this)]
 . rfl
theorem Wi {d:List Int} {i:Nat} {x v:Int} (h:i < d.length):dv (d.set i x) v=if v=i then x else dv d v:=by
 unfold dv
 by_cases hv:0<=v
 . rw [if_pos hv,if_pos hv]
   by_cases he:v=i
   . subst he;simp [h]
   . rw [if_neg he]
     have:i≠v.toNat:=by omega
     simp [List.getD_eq_getElem?_getD,this]
 . rw [if_neg hv,if_neg hv,if_neg (by omega)]
structure Gone (k:Bool) (l:Land) (p:Span) (s day:Int) (d:List Int):Prop where
 len:d.length=l.wells.length
 ub:∀ v,dv d v<=100001
 real:∀ v,dv d v=100001\/∃ a,goW k l p s day a=some (v,dv d v)
 st:dv d s<=day
theorem Gone.lb {k:Bool} {l:Land} {p:Span} {s day:Int} {d:List Int} (h:Gone k l p s day d) (hg:OkLP l p) (hd:0<=day) (hd':day<=100000) (h0:0<=s) (h1:s < l.wells.length) (v:Int):day<=dv d v:=by
 rcases h.real v with e | ⟨a,e⟩
 . omega
 . have:=Vo hg e hd' h0 h1;omega
theorem Gone.relax {k:Bool} {l:Land} {p:Span} {s day:Int} {d:List Int} (h:Gone k l p s day d) (hg:OkLP l p) {i:Nat} {x:Leg} (hx:l.legs[i]? = some x) {v:Int} {w:Nat} (hw:Zk x v=w) (hd:0<=day) (hd':day<=100000) (h0:0<=s) (h1:s < l.wells.length) :
 Gone k l p s day (d.set w (min (dv d w) (ZM k x p (dv d v))))/\w < d.length:=by
 have hwl:=(ZS hg hx (v:=v) (by omega)).1
 have hwd:w < d.length:=by rw [h.len];omega
 refine ⟨⟨by simp [h.len],fun u=>?_,fun u=>?_,?_⟩,hwd⟩
 . rw [Wi hwd];split
   . have:=h.ub w;omega
   . exact h.ub u
 . rw [Wi hwd];split
   . rename_i hu
     by_cases hr:ZM k x p (dv d v) > 100000
     . have:=h.ub w
       have hb:=Xm (k:=k) (hg.leg hx) hg.pace (h.ub v)
       rw [show min (dv d w) (ZM k x p (dv d v))=dv d w by omega,hu]
       exact h.real w
     . by_cases hm:dv d w<=ZM k x p (dv d v)
       . rw [Int.min_eq_left hm,hu];exact h.real w
       . rw [Int.min_eq_right (by omega),hu]
         have hb:=Xm (k:=k) (hg.leg hx) hg.pace (h.ub v)
         rcases h.real v with e | ⟨a,e⟩
         . omega
         . refine .inr ⟨a ++ [i],?_⟩
           have:=US e hx (by omega) hr
           rw [hw] at this;exact this
   . exact h.real u
 . rw [Wi hwd];split
   . rename_i hs;have:=h.st;rw [hs] at this;omega
   . exact h.st
structure Dij (k:Bool) (l:Land) (p:Span) (s day:Int) (d:List Int) (left:Int->Prop):Prop where
 g:Gone k l p s day d
 cl:∀ x ∈ l.legs,∀ v:Int,0<=v->v < l.wells.length->¬ left v->0<=Zk x v->dv d (Zk x v)<=ZM k x p (dv d v)
 or:∀ u v:Int,0<=u->u < l.wells.length->¬ left u->0<=v->v < l.wells.length->left v->dv d u<=dv d v
theorem Dij.done {k:Bool} {l:Land} {p:Span} {s day:Int} {d:List Int} {left:Int->Prop} (h:Dij k l p s day d left) (hg:OkLP l p) (he:∀ v,¬ left v) (hd:0<=day) (hd':day<=100000) (h0:0<=s) (h1:s < l.wells.length):d=XU k l p s day:=by
 have hc:Ziz k l p (dv d):=fun x hx=>by
  have hen:=hg.ends hx
  have q1:=h.cl x hx x.a hen.1.1 hen.1.2 (he _) (by simp [Zk];omega)
  have q2:=h.cl x hx x.b hen.2.1.1 hen.2.1.2 (he _) (by simp [Zk,hen.2.2];omega)
  simp only [Zk,if_true] at q1
  simp only [Zk,if_neg hen.2.2,if_true] at q2
  exact ⟨q1,q2⟩
 have heq:=U0 (k:=k) hg hd hd' h0 h1 h.g.st hc h.g.ub h.g.real
 refine List.ext_getElem (by simp [XU,h.g.len]) fun i hi hi'=>?_
 simp only [XU,List.getElem_map,List.getElem_range]
 rw [<- heq,Wo hi]
structure Rnd (k:Bool) (l:Land) (p:Span) (s day:Int) (d0 d:List Int) (near:Int) (j:Nat):Prop where
 g:Gone k l p s day d
 le:∀ v,dv d v<=dv d0 v
 ch:∀ v,dv d v=dv d0 v\/dv d0 near<=dv d v
 nr:dv d near=dv d0 near
 cl:∀ i x,i < j->l.legs[i]? = some x->0<=Zk x near->dv d (Zk x near)<=ZM k x p (dv d0 near)
theorem Rnd.start {k:Bool} {l:Land} {p:Span} {s day:Int} {d:List Int} {near:Int} (h:Gone k l p s day d):Rnd k l p s day d d near 0 :=
 ⟨h,fun _=>Int.le_refl _,fun _=>.inl rfl,rfl,fun i x hi=>by omega⟩
theorem Rnd.skip {k:Bool} {l:Land} {p:Span} {s day:Int} {d0 d:List Int} {near:Int} {j:Nat} (h:Rnd k l p s day d0 d near j) {x:Leg} (hx:l.legs[j]? = some x) (ho:Zk x near < 0):Rnd k l p s day d0 d near (j+1) :=
 ⟨h.g,h.le,h.ch,h.nr,fun i y hi hy h0=>by
  by_cases he:i=j
  . subst he;rw [hx] at hy;cases hy;omega
  . exact h.cl i y (by omega) hy h0⟩
theorem Rnd.step {k:Bool} {l:Land} {p:Span} {s day:Int} {d0 d:List Int} {near:Int} {j:Nat} (h:Rnd k l p s day d0 d near j) (hg:OkLP l p) {x:Leg} (hx:l.legs[j]? = some x) {w:Nat} (hw:Zk x near=w) (hd:0<=day) (hd':day<=100000) (h0:0<=s) (h1:s < l.wells.length) :
 Rnd k l p s day d0 (d.set w (min (dv d w) (ZM k x p (dv d near)))) near (j+1):=by
 obtain ⟨q1,q2⟩:=h.g.relax hg hx hw hd hd' h0 h1
 have hge:=Za3 (k:=k) (hg.leg hx) hg.pace (h.g.ub near)
 have hwn:(w:Int)≠near:=fun e=>by
  have:=hg.ends (List.mem_of_getElem? hx)
  unfold Zk at hw
  split at hw
  . omega
  . split at hw
    . omega
    . omega
 rw [h.nr] at hge
 refine ⟨q1,fun v=>?_,fun v=>?_,?_,fun i y hi hy ho=>?_⟩
 . rw [Wi q2];split
   . rename_i hv;have:=h.le w;rw [hv];omega
   . exact h.le v
 . rw [Wi q2];split
   . rename_i hv;rw [hv,h.nr]
     have:=h.ch w
     have:=h.le w
     omega
   . exact h.ch v
 . rw [Wi q2,if_neg (fun e=>hwn e.symm)];exact h.nr
 . rw [Wi q2]
   by_cases he:i=j
   . subst he;rw [hx] at hy;cases hy;rw [if_pos hw,h.nr];omega
   . have:=h.cl i y (by omega) hy ho
     split
     . rename_i hv;rw [hv] at this;omega
     . exact this
theorem Rnd.finish {k:Bool} {l:Land} {p:Span} {s day:Int} {d0 d:List Int} {near:Int} {left left':Int->Prop} (hD:Dij k l p s day d0 left) (h:Rnd k l p s day d0 d near l.legs.length) (hn:left near) (hn0:0<=near) (hn1:near < l.wells.length)
 (hmin:∀ v:Int,0<=v->v < l.wells.length->left v->dv d0 near<=dv d0 v) (hl:∀ v,left' v↔left v/\v≠near) (hg:OkLP l p):Dij k l p s day d left':=by
 have keep:∀ u:Int,0<=u->u < l.wells.length->¬ left' u->dv d u=dv d0 u:=fun u q1 q2 q3=>by
  by_cases he:u=near
  . rw [he];exact h.nr
  . have hnl:¬ left u:=fun hh=>q3 ((hl u).2 ⟨hh,he⟩)
    have:=hD.or u near q1 q2 hnl hn0 hn1 hn
    have:=h.ch u
    have:=h.le u
    omega
 refine ⟨h.g,fun x hx v q1 q2 q3 ho=>?_,fun u v q1 q2 q3 q4 q5 q6=>?_⟩
 . by_cases he:v=near
   . subst he
     obtain ⟨i,hi⟩:=List.mem_iff_getElem?.1 hx
     have:=h.cl i x (by rcases List.getElem?_eq_some_iff.1 hi with ⟨a,_⟩;exact a) hi ho
     rw [keep _ q1 q2 q3];exact this
   . have hnl:¬ left v:=fun hh=>q3 ((hl v).2 ⟨hh,he⟩)
     have:=hD.cl x hx v q1 q2 hnl ho
     rw [keep v q1 q2 q3]
     have:=h.le (Zk x v)
     omega
 . rw [keep u q1 q2 q3]
   have hv:=(hl v).1 q6
   have hun:dv d0 u<=dv d0 near:=by
    by_cases he:u=near
    . rw [he];omega
    . exact hD.or u near q1 q2 (fun hh=>q3 ((hl u).2 ⟨hh,he⟩)) hn0 hn1 hn
   have:=hmin v q4 q5 hv.1
   have:=h.ch v
   omega
theorem Zfw {k:Bool} {l:Land} {p:Span} {s:Nat} {day:Int} (hs:s < l.wells.length) (hd:day<=100000):Gone k l p s day ((List.replicate l.wells.length 100001).set s day):=by
 have hl:s < (List.replicate l.wells.length (100001:Int)).length:=by simpa using hs
 have hz:∀ v,dv (List.replicate l.wells.length (100001:Int)) v=100001:=fun v=>by
  unfold dv
  split
  . simp only [List.getD_eq_getElem?_getD,List.getElem?_replicate];split<;>rfl
  . rfl
 refine ⟨by simp,fun v=>?_,fun v=>?_,?_⟩
 . rw [Wi hl,hz];split<;>omega
 . rw [Wi hl,hz];split
   . rename_i hv;exact .inr ⟨[],by rw [hv];rfl⟩
   . exact .inl rfl
 . rw [Wi hl,if_pos rfl];exact Int.le_refl _
theorem Zkx {k:Bool} {l:Land} {p:Span} {s day:Int} {d:List Int} {left:Int->Prop} (h:Gone k l p s day d) (hl:∀ v:Int,0<=v->v < l.wells.length->left v):Dij k l p s day d left :=
 ⟨h,fun _ _ v h0 h1 hn=>absurd (hl v h0 h1) hn,fun u _ h0 h1 hn=>absurd (hl u h0 h1) hn⟩
end Go.Azalai
namespace Go.Proofs.Ytiigiflofnjilaa
open Go Go.Sx Go.Azalai
theorem ZbR:Try.prog.underlying 100=some (.map 3 4):=by kernel_rfl
theorem u3:Try.prog.underlying 3=some (.int .i64):=by kernel_rfl
theorem Zck:KeyT Try.prog 3 (fun n:Int=>.int .i64 n) (fun n=>.v (.int .i64 n)):=Zwu u3
abbrev kI:Int->Value:=fun n=>.int .i64 n
abbrev sI:Int->SV:=fun n=>.v (.int .i64 n)
def mpR (n:Nat):List (Nat × Int × Bool):=(List.range n).map fun j=>(j,(j:Int),true)
theorem U1 (n:Nat):VD n (n:Int) true (mpR n)=mpR (n+1)/\Zbl n (n:Int) (mpR n)=n+1:=by
 have h:Xk (n:Int) (mpR n)=none:=by
  rw [Xh]
  intro e he
  simp only [mpR,List.mem_map,List.mem_range] at he
  obtain ⟨j,hj,rfl⟩:=he
  simp only;omega
 rw [UT h]
 exact ⟨by simp [mpR,List.range_succ],by simp [Zbl,h]⟩
theorem Zvr (n:Nat):MW (mpR n) n:=by
 induction n with
 | zero=>exact MW.nil
 | succ n ih =>
  have:=ih.set (k:=(n:Int)) true
  rw [(U1 n).1,(U1 n).2] at this
  exact this
theorem Zdj {K V:Type} {L:List (Nat × K × V)} (h:(L.map (·.1)).Nodup) {e e':Nat × K × V} (he:e ∈ L) (he':e' ∈ L) (hb:e.1=e'.1):e=e':=by
 induction L with
 | nil=>cases he
 | cons x l ih =>
  simp only [List.map_cons,List.nodup_cons] at h
  rcases List.mem_cons.1 he with h1 | h1<;>rcases List.mem_cons.1 he' with h2 | h2
  . rw [h1,h2]
  . exact absurd (by rw [<- h1,hb];exact List.mem_map.2 ⟨e',h2,rfl⟩) h.1
  . exact absurd (by rw [<- h2,<- hb];exact List.mem_map.2 ⟨e,h1,rfl⟩) h.1
  . exact ih h.2 h1 h2
theorem Ze8 (l:Land) (p:Span) (hs:Vg l) (hg:OkLP l p) (s:Nat) (hsl:s < l.wells.length) (day:Int) (hd:inR 0 100000 day=true) (k:Bool) :
 Ct Try.prog 46 [.agg (ZF l p),I s,I day,I (bif k then 1 else 0)] (.sl false 1 ((XU k l p s day).map Zp)):=by
 refine t46.1 (by simp [ZF,Zg,Zo,Zh,Za,KFL,KF]) (by simp [Za,Zp,KFL,KF]) ?_
 simp only [inR,decide_eq_true_eq] at hd
 have hw:=hs.1
 have hleg:=hs.2.1
 generalize hkk:(bif k then (1:Int) else 0)=kk
 have hkk':kk=((bif k then 1 else 0:Nat):Int):=by cases k<;>simp [<- hkk]
 dsimp only [c46,r46,ZF,go_sem,rA,rM,rS]
 simp only [List.length_map]
 refine Zax [] (ZrD 100001 l.wells.length (by omega) hw true) rfl rfl rfl ?_ ?_ ?_
 . exact Zc (by simp [KFR,KFL,KF])
 . trivial
 dsimp only [go_sem,rA,rM,rS]
 rw [show List.replicate l.wells.length [I 100001]=(List.replicate l.wells.length (100001:Int)).map Zp by simp [Zp]]
 refine Zfj s rfl (by simpa using hsl) ?_
 dsimp only [go_sem,rA,rM,rS]
 refine Zw6 day (by simpa using hsl) (by simp [Zp]) (by simp [Zp,splice]) ?_
 dsimp only [go_sem,rA,rM,rS]
 refine Zam rfl rfl rfl ?_
 dsimp only [go_sem,rA,rM,rS]
 have hgo:=Zfw (k:=k) (l:=l) (p:=p) (s:=s) (day:=day) hsl hd.2
 generalize (List.replicate l.wells.length (100001:Int)).set s day=d0 at hgo
 have hlen:=hgo.len
 simp only [List.length_map,hlen]
 refine XO (fun j:Nat=>[(29,I j)]) (fun j=>[(4,.map (mpS kI B (mpR j)) j)]) (fun j=>j<=l.wells.length) (fun j=>l.wells.length - j) 0 (Nat.zero_le _) ?_ ?_
 . (refine Zl ?_ ?_ ?_ rfl rfl<;>dsimp only [ZF,Zg,Zo,Zh,Zp,mpS,mpR,id,go_sem,rA,rM,rS]<;>simp [ZF,Zg,Zo,Zh,Zp,mpS,mpR,Za,Zf,KFR,KFL,KF,Zc,mtO,nbr])
 . intro j hj
   dsimp only [go_sem,rA,rM,rS]
   by_cases hlt:j < l.wells.length
   . refine Zt (by simpa using hlt) ?_
     dsimp only [go_sem,rA,rM,rS]
     refine ZaZ (ins:=false) (key:=kI) (val:=B) (L:=mpR j) (k:=(j:Int)) (v:=true) rfl rfl ZbR Zck rfl rfl (by simp) ?_
     dsimp only [go_sem,rA,rM,rS]
     rw [(U1 j).1,(U1 j).2,Zi (n:=(j:Int)+1) (by omega) (by omega)]
     refine ⟨j+1,hlt,by omega,?_⟩
     (refine Zl ?_ ?_ ?_ rfl rfl<;>dsimp only [ZF,Zg,Zo,Zh,Zp,mpS,mpR,id,go_sem,rA,rM,rS]<;>simp [ZF,Zg,Zo,Zh,Zp,mpS,mpR,Za,Zf,KFR,KFL,KF,Zc,mtO,nbr])
   refine Zv (by simp;omega) ?_
   dsimp only [go_sem,rA,rM,rS]
   have hje:j=l.wells.length:=by omega
   subst hje
   have hmem0:∀ v:Int,0<=v->v < l.wells.length->(Xk v (mpR l.wells.length)).isSome=true:=fun v h0 h1=>by
    cases hq:Xk v (mpR l.wells.length) with
    | some _=>rfl
    | none =>
     have:=Xh.1 hq (v.toNat,v,true) (by simp only [mpR,List.mem_map,List.mem_range];exact ⟨v.toNat,by omega,by simp;omega⟩)
     exact absurd rfl this
   refine XO (fun _:List Int × List (Nat × Int × Bool)=>[]) (fun q=>[(2,.row 0 1 (q.1.map Zp) 3),(4,.map (mpS kI B q.2) l.wells.length)])
    (fun q=>Dij k l p s day q.1 (fun v=>(Xk v q.2).isSome=true)/\MW q.2 l.wells.length/\∀ e ∈ q.2,0<=e.2.1/\e.2.1 < l.wells.length) (fun q=>q.2.length) (d0,mpR l.wells.length)
    ⟨Zkx hgo hmem0,Zvr _,fun e he=>(by simp only [mpR,List.mem_map,List.mem_range] at he;obtain ⟨i,hi,rfl⟩:=he;simp only;omega)⟩ ?_ ?_
   . (refine Zl ?_ ?_ ?_ rfl rfl<;>dsimp only [ZF,Zg,Zo,Zh,Zp,Zq,Zn,id,go_sem,rA,rM,rS]<;>simp [ZF,Zg,Zo,Zh,Zp,Zq,Zn,Za,Zf,KFR,KFL,KF,Zc,mtO,nbr])
   rintro ⟨d,L⟩ ⟨hD,hM,hb⟩
   simp only at hD hM hb
   have hdl:=hD.g.len
   dsimp only [go_sem,rA,rM,rS]
   refine Znc rfl rfl ZbR rfl ?_
   dsimp only [go_sem,rA,rM,rS]
   by_cases hL:L=[]
   . subst hL
     refine Zv (by simp [mpS]) ?_
     dsimp only [go_sem,rA,rM,rS]
     have:=hD.done hg (fun v=>by simp [Xk]) hd.1 hd.2 (by omega) (by omega)
     rw [this]
   refine Zt (by simp [mpS,List.length_pos_iff.2 hL]) ?_
   dsimp only [go_sem,rA,rM,rS]
   refine Zi0 rfl rfl ZbR rfl rfl ?_
   dsimp only [go_sem,rA,rM,rS]
   have hd0:∀ v,0<=dv d v/\dv d v<=100001:=fun v=>⟨by have:=hD.g.lb hg hd.1 hd.2 (by omega) (by omega) v;omega,hD.g.ub v⟩
   refine XO (fun _:List Nat × Int=>[]) (fun q=>[(5,.cells [I q.2] 3),(6,.it 4 l.wells.length q.1 l.wells.length)])
    (fun q=>(q.2 = -1/\∀ e ∈ L,e.1 ∉ q.1)\/(0<=q.2/\q.2 < l.wells.length/\(Xk q.2 L).isSome=true/\∀ e ∈ L,e.1 ∈ q.1->dv d q.2 < dv d e.2.1\/dv d q.2=dv d e.2.1/\q.2<=e.2.1))
    (fun q=>Znv L q.1) ([],-1) (.inl ⟨rfl,by simp⟩) ?_ ?_
   . (refine Zl ?_ ?_ ?_ rfl rfl<;>dsimp only [ZF,Zg,Zo,Zh,Zp,Zq,Zn,id,go_sem,rA,rM,rS]<;>simp [ZF,Zg,Zo,Zh,Zp,Zq,Zn,Za,Zf,KFR,KFL,KF,Zc,mtO,nbr])
   rintro ⟨seen,near⟩ hi
   simp only at hi
   dsimp only [go_sem,rA,rM,rS]
   refine ZlC (key:=kI) (sv:=sI) (val:=B) (L:=L) (c:=l.wells.length) rfl rfl rfl hM.bl (Nat.le_refl _) Zck ?_ ?_
   . intro hall
     dsimp only [go_sem,rA,rM,rS]
     refine Zv rfl ?_
     dsimp only [go_sem,rA,rM,rS]
     have hnn:(0<=near/\near < l.wells.length/\(Xk near L).isSome=true/\∀ e ∈ L,e.1 ∈ seen->dv d near < dv d e.2.1\/dv d near=dv d e.2.1/\near<=e.2.1):=by
      rcases hi with ⟨_,hi⟩ | hi
      . obtain ⟨e,he⟩:=List.exists_mem_of_ne_nil _ hL
        exact absurd (hall e he) (hi e he)
      . exact hi
     obtain ⟨hn0,hn1,hn2,hn3⟩:=hnn
     have hmin:∀ v:Int,0<=v->v < l.wells.length->(Xk v L).isSome=true->dv d near<=dv d v:=fun v _ _ hv=>by
      obtain ⟨y,hy⟩:=Option.isSome_iff_exists.1 hv
      obtain ⟨b,hbm⟩:=ZeG hy
      have:=hn3 _ hbm (hall _ hbm)
      simp only at this;omega
     obtain ⟨m,rfl⟩:∃ m:Nat,near=(m:Int):=⟨near.toNat,by omega⟩
     have hml:m < d.length:=by omega
     refine Zuv (key:=kI) (sv:=sI) (val:=B) (L:=L) (k:=(m:Int)) rfl rfl ZbR Zck rfl rfl ?_
     dsimp only [go_sem,rA,rM,rS]
     refine Zax [] (UO l p m) rfl rfl rfl ?_ ?_ ?_
     . exact Zc (by simp [ZF,Zg,Zo,Zh,Za,KFL,KF])
     . trivial
     dsimp only [U9,ZF,go_sem,rA,rM,rS]
     refine gh Ww ?_
     dsimp only [go_sem,rA,rM,rS]
     refine ⟨b58,fun rec=>?_⟩
     refine y58 ?_
     dsimp only [c58,r58,go_sem,rA,rM,rS]
     refine XO (fun q:Nat × List Int=>[(10,I q.1)]) (fun q=>[(2,.row 0 1 (q.2.map Zp) 3)]) (fun q=>q.1<=l.legs.length/\Rnd k l p s day d q.2 m q.1) (fun q=>l.legs.length - q.1) (0,d) ⟨Nat.zero_le _,.start hD.g⟩ ?_ ?_
     . (refine Zl ?_ ?_ ?_ rfl rfl<;>dsimp only [ZF,Zg,Zo,Zh,Zp,Zq,Zn,id,go_sem,rA,rM,rS]<;>simp [ZF,Zg,Zo,Zh,Zp,Zq,Zn,Za,Zf,KFR,KFL,KF,Zc,mtO,nbr])
     rintro ⟨j,d'⟩ ⟨hj,hR⟩
     simp only at hj hR
     have hdl':=hR.g.len
     dsimp only [go_sem,rA,rM,rS]
     simp only [List.length_map]
     by_cases hlt:j < l.legs.length
     . refine Zt (by simpa using hlt) ?_
       dsimp only [go_sem,rA,rM,rS]
       refine Zs j hlt rfl ?_
       dsimp only [Zo,go_sem,rA,rM,rS]
       have hgl:GoodLeg l.legs[j]:=Xz hg.land _ (List.getElem_mem _)
       have hends:=hg.ends (List.getElem_mem hlt)
       obtain ⟨wa,hwa⟩:∃ w:Nat,l.legs[j].a=(w:Int):=⟨l.legs[j].a.toNat,by omega⟩
       obtain ⟨wb,hwb⟩:∃ w:Nat,l.legs[j].b=(w:Int):=⟨l.legs[j].b.toNat,by omega⟩
       have hwal:wa < d'.length:=by omega
       have hwbl:wb < d'.length:=by omega
       have hml':m < d'.length:=by omega
       have hxj:l.legs[j]? = some l.legs[j]:=List.getElem?_eq_getElem hlt
       have hin:inR 0 100001 d'[m]=true:=by
        have q1:=hR.g.lb hg hd.1 hd.2 (by omega) (by omega) (m:Int)
        have q2:=hR.g.ub (m:Int)
        rw [Wo hml'] at q1 q2
        simp only [inR,decide_eq_true_eq];omega
       by_cases hca:(m:Int)=l.legs[j].a
       . refine Zt (by simpa using hca) ?_
         dsimp only [go_sem,rA,rM,rS]
         refine ⟨rfl,rfl,?_⟩
         simp only [hwb,List.length_map]
         refine Zfj wb rfl hwbl ?_
         dsimp only [go_sem,rA,rM,rS]
         refine ZjE hwbl ?_
         dsimp only [Zp,go_sem,rA,rM,rS]
         simp only [List.length_map]
         refine Zfj m rfl hml' ?_
         dsimp only [go_sem,rA,rM,rS]
         refine ZjE hml' ?_
         dsimp only [Zp,go_sem,rA,rM,rS]
         simp only [List.length_map]
         refine Zfj m rfl hml' ?_
         dsimp only [go_sem,rA,rM,rS]
         refine ZjE hml' ?_
         dsimp only [Zp,go_sem,rA,rM,rS]
         refine call (XG l p j hlt d'[m] d'[m] hgl hg.pace hin hin) ?_
         dsimp only [go_sem,rA,rM,rS]
         refine ixa (bif k then 1 else 0) hkk' (by cases k<;>decide) ?_
         rw [show nth [I (ZM false l.legs[j] p d'[m]),I (ZM true l.legs[j] p d'[m])] ((bif k then 1 else 0) * 1)=some (I (ZM k l.legs[j] p d'[m])) from by cases k<;>rfl]
         dsimp only [go_sem,rA,rM,rS]
         simp only [List.length_map]
         refine Zfj wb rfl hwbl ?_
         dsimp only [go_sem,rA,rM,rS]
         refine Zw6 (min d'[wb] (ZM k l.legs[j] p d'[m])) hwbl (by simp [Zp]) (by simp [Zp,splice]) ?_
         dsimp only [go_sem,rA,rM,rS]
         refine ⟨rfl,?_⟩
         refine Zv (by decide) ?_
         dsimp only [go_sem,rA,rM,rS]
         rw [Zi (n:=(j:Int)+1) (by omega) (by omega)]
         have hst:=hR.step hg hxj (w:=wb) (by rw [Zk,if_pos hca.symm,hwb]) hd.1 hd.2 (by omega) (by omega)
         rw [Wo hwbl,Wo hml'] at hst
         generalize d'.set wb (min d'[wb] (ZM k l.legs[j] p d'[m]))=d2 at hst ⊢
         refine ⟨(j+1,d2),⟨hlt,hst⟩,by simp only;omega,?_⟩
         (refine Zl ?_ ?_ ?_ rfl rfl<;>dsimp only [ZF,Zg,Zo,Zh,Zp,Zq,Zn,id,go_sem,rA,rM,rS]<;>simp [ZF,Zg,Zo,Zh,Zp,Zq,Zn,Za,Zf,KFR,KFL,KF,Zc,mtO,nbr])
       refine Zv (by simpa using hca) ?_
       dsimp only [go_sem,rA,rM,rS]
       by_cases hcb:(m:Int)=l.legs[j].b
       . refine Zt (by simpa using hcb) ?_
         dsimp only [go_sem,rA,rM,rS]
         refine ⟨rfl,rfl,?_⟩
         simp only [hwa,List.length_map]
         refine Zfj wa rfl hwal ?_
         dsimp only [go_sem,rA,rM,rS]
         refine ZjE hwal ?_
         dsimp only [Zp,go_sem,rA,rM,rS]
         simp only [List.length_map]
         refine Zfj m rfl hml' ?_
         dsimp only [go_sem,rA,rM,rS]
         refine ZjE hml' ?_
         dsimp only [Zp,go_sem,rA,rM,rS]
         simp only [List.length_map]
         refine Zfj m rfl hml' ?_
         dsimp only [go_sem,rA,rM,rS]
         refine ZjE hml' ?_
         dsimp only [Zp,go_sem,rA,rM,rS]
         refine call (XG l p j hlt d'[m] d'[m] hgl hg.pace hin hin) ?_
         dsimp only [go_sem,rA,rM,rS]
         refine ixa (bif k then 1 else 0) hkk' (by cases k<;>decide) ?_
         rw [show nth [I (ZM false l.legs[j] p d'[m]),I (ZM true l.legs[j] p d'[m])] ((bif k then 1 else 0) * 1)=some (I (ZM k l.legs[j] p d'[m])) from by cases k<;>rfl]
         dsimp only [go_sem,rA,rM,rS]
         simp only [List.length_map]
         refine Zfj wa rfl hwal ?_
         dsimp only [go_sem,rA,rM,rS]
         refine Zw6 (min d'[wa] (ZM k l.legs[j] p d'[m])) hwal (by simp [Zp]) (by simp [Zp,splice]) ?_
         dsimp only [go_sem,rA,rM,rS]
         refine ⟨rfl,?_⟩
         refine Zv (by decide) ?_
         dsimp only [go_sem,rA,rM,rS]
         rw [Zi (n:=(j:Int)+1) (by omega) (by omega)]
         have hst:=hR.step hg hxj (w:=wa) (by rw [Zk,if_neg (fun e=>hca e.symm),if_pos hcb.symm,hwa]) hd.1 hd.2 (by omega) (by omega)
         rw [Wo hwal,Wo hml'] at hst
         generalize d'.set wa (min d'[wa] (ZM k l.legs[j] p d'[m]))=d2 at hst ⊢
         refine ⟨(j+1,d2),⟨hlt,hst⟩,by simp only;omega,?_⟩
         (refine Zl ?_ ?_ ?_ rfl rfl<;>dsimp only [ZF,Zg,Zo,Zh,Zp,Zq,Zn,id,go_sem,rA,rM,rS]<;>simp [ZF,Zg,Zo,Zh,Zp,Zq,Zn,Za,Zf,KFR,KFL,KF,Zc,mtO,nbr])
       refine Zv (by simpa using hcb) ?_
       dsimp only [go_sem,rA,rM,rS]
       rw [Zi (n:=(j:Int)+1) (by omega) (by omega)]
       refine ⟨(j+1,d'),⟨hlt,hR.skip hxj (by rw [Zk,if_neg (fun e=>hca e.symm),if_neg (fun e=>hcb e.symm)];decide)⟩,by simp only;omega,?_⟩
       (refine Zl ?_ ?_ ?_ rfl rfl<;>dsimp only [ZF,Zg,Zo,Zh,Zp,Zq,Zn,id,go_sem,rA,rM,rS]<;>simp [ZF,Zg,Zo,Zh,Zp,Zq,Zn,Za,Zf,KFR,KFL,KF,Zc,mtO,nbr])
     refine Zv (by simp;omega) ?_
     dsimp only [go_sem,rA,rM,rS]
     have hje:j=l.legs.length:=by omega
     subst hje
     have hfin:=Rnd.finish (left':=fun v=>(Xk v (V7 (m:Int) L)).isSome=true) hD hR hn2 hn0 hn1 hmin (fun v=>by
      rw [ZeO hM.kn]
      by_cases hv:v=(m:Int)
      . simp [hv]
      . simp [hv]) hg
     refine ⟨(d',V7 (m:Int) L),⟨hfin,hM.del,fun e he=>hb e (VJ.subset he)⟩,by simp only;have:=Zev hn2;omega,?_⟩
     (refine Zl ?_ ?_ ?_ rfl rfl<;>dsimp only [ZF,Zg,Zo,Zh,Zp,Zq,Zn,id,go_sem,rA,rM,rS]<;>simp [ZF,Zg,Zo,Zh,Zp,Zq,Zn,Za,Zf,KFR,KFL,KF,Zc,mtO,nbr])
   intro e he hse
   dsimp only [go_sem,rA,rM,rS]
   refine Zt rfl ?_
   dsimp only [go_sem,rA,rM,rS]
   refine Zj8 (key:=kI) (sv:=sI) (val:=B) (L:=L) (c:=l.wells.length) (e:=e) rfl rfl rfl he hM.bn Zck ?_
   dsimp only [go_sem,rA,rM,rS]
   have hbe:=hb e he
   have hget:=ZkB hM.kn he
   obtain ⟨m,hm⟩:∃ m:Nat,e.2.1=(m:Int):=⟨e.2.1.toNat,by omega⟩
   rw [hm] at hbe hget
   simp only [hm]
   have hml:m < d.length:=by omega
   have hmeas:=ZmQ he hse
   have hnl:near.toNat < d.length:=by rcases hi with ⟨rfl,_⟩ | ⟨_,_,_⟩<;>omega
   refine gb ?_
   dsimp only [go_sem,rA,rM,rS]
   refine gb ?_
   dsimp only [go_sem,rA,rM,rS]
   refine gb ?_
   dsimp only [go_sem,rA,rM,rS]
   simp only [List.length_map]
   refine Zfj m rfl hml ?_
   dsimp only [go_sem,rA,rM,rS]
   refine gb ?_
   dsimp only [go_sem,rA,rM,rS]
   refine ZjE hml ?_
   dsimp only [Zp,go_sem,rA,rM,rS]
   refine gb ?_
   dsimp only [go_sem,rA,rM,rS]
   refine gb ?_
   dsimp only [go_sem,rA,rM,rS]
   refine gb ?_
   dsimp only [go_sem,rA,rM,rS]
   simp only [List.length_map]
   refine Zqz near.toNat rfl (fun h=>⟨by simp at h;omega,hnl⟩) ?_
   dsimp only [go_sem,rA,rM,rS]
   refine gb ?_
   dsimp only [go_sem,rA,rM,rS]
   refine ZjE hnl ?_
   dsimp only [Zp,go_sem,rA,rM,rS]
   refine gb ?_
   dsimp only [go_sem,rA,rM,rS]
   refine gb ?_
   dsimp only [go_sem,rA,rM,rS]
   refine gb ?_
   dsimp only [go_sem,rA,rM,rS]
   refine gb ?_
   dsimp only [go_sem,rA,rM,rS]
   simp only [List.length_map]
   refine Zfj m rfl hml ?_
   dsimp only [go_sem,rA,rM,rS]
   refine gb ?_
   dsimp only [go_sem,rA,rM,rS]
   refine ZjE hml ?_
   dsimp only [Zp,go_sem,rA,rM,rS]
   refine gb ?_
   dsimp only [go_sem,rA,rM,rS]
   refine gb ?_
   dsimp only [go_sem,rA,rM,rS]
   refine gb ?_
   dsimp only [go_sem,rA,rM,rS]
   simp only [List.length_map]
   refine Zqz near.toNat rfl (fun h=>⟨by simp at h;omega,hnl⟩) ?_
   dsimp only [go_sem,rA,rM,rS]
   refine gb ?_
   dsimp only [go_sem,rA,rM,rS]
   refine ZjE hnl ?_
   dsimp only [Zp,go_sem,rA,rM,rS]
   repeat (refine gb ?_;dsimp only [go_sem,rA,rM,rS])
   have hdm:dv d (m:Int)=d[m]:=Wo hml
   have hdn:0<=near->dv d near=d[near.toNat]:=fun h=>by
    have:=Wo hnl;rw [<- this];congr 1;omega
   have hse':∀ e' ∈ L,e'.1 ∈ seen ++ [e.1]->e'.1 ∈ seen\/e'.2.1=m:=fun e' he' h=>by
    rcases List.mem_append.1 h with h | h
    . exact .inl h
    . refine .inr ?_
      simp only [List.mem_singleton] at h
      have:e'=e:=Zdj hM.bn he' he h
      rw [this,hm]
   refine br ?_ ?_
   . intro hA
     dsimp only [go_sem,rA,rM,rS]
     refine ⟨(seen ++ [e.1],m),.inr ⟨by simp only;omega,by simp only;omega,by simp only;rw [hget];rfl,fun e' he' h=>?_⟩,hmeas,?_⟩
     . simp only [hdm]
       rcases hse' e' he' h with h | h
       . rcases hi with ⟨rfl,hi⟩ | ⟨hn0,hn1,hn2,hi⟩
         . exact absurd h (hi e' he')
         . have:=hi e' he' h
           rw [hdn hn0] at this
           simp only [Bool.or_eq_true,Bool.and_eq_true,decide_eq_true_eq,beq_iff_eq] at hA
           omega
       . rw [h,hdm];omega
     (refine Zl ?_ ?_ ?_ rfl rfl<;>dsimp only [ZF,Zg,Zo,Zh,Zp,Zq,Zn,id,go_sem,rA,rM,rS]<;>simp [ZF,Zg,Zo,Zh,Zp,Zq,Zn,Za,Zf,KFR,KFL,KF,Zc,mtO,nbr])
   . intro hA
     dsimp only [go_sem,rA,rM,rS]
     simp only [Bool.or_eq_false_iff,Bool.and_eq_false_iff,decide_eq_false_iff_not,beq_eq_false_iff_ne] at hA
     refine ⟨(seen ++ [e.1],near),.inr ?_,hmeas,?_⟩
     . rcases hi with ⟨rfl,hi⟩ | ⟨hn0,hn1,hn2,hi⟩
       . omega
       . refine ⟨hn0,hn1,hn2,fun e' he' h=>?_⟩
         simp only [hdn hn0]
         rcases hse' e' he' h with h | h
         . have:=hi e' he' h;rw [hdn hn0] at this;exact this
         . rw [h,hdm];omega
     (refine Zl ?_ ?_ ?_ rfl rfl<;>dsimp only [ZF,Zg,Zo,Zh,Zp,Zq,Zn,id,go_sem,rA,rM,rS]<;>simp [ZF,Zg,Zo,Zh,Zp,Zq,Zn,Za,Zf,KFR,KFL,KF,Zc,mtO,nbr])
end Go.Proofs.Ytiigiflofnjilaa
namespace Go.Azalai
noncomputable def YY (l:Land) (p:Span) (s day:Int):List Span:=List.zipWith Span.mk (XU false l p s day) (XU true l p s day)
def XX (l:Land) (p:Span) (s day:Int):Int:=if UU l p≠0 then UU l p else if (inR 0 (l.wells.length - 1) s && inR 0 100000 day)=false then 2 else 0
theorem W5 {k:Bool} {l:Land} {p:Span} {s day:Int}:(XU k l p s day).length=l.wells.length:=by simp [XU]
theorem Wc {l:Land} {p:Span} {s day:Int}:(YY l p s day).length=l.wells.length:=by simp [YY,W5]
theorem ZhF {l:Land} {p:Span} (h:UU l p=0):OkLP l p:=by
 unfold UU at h
 split at h
 . omega
 . split at h
   . omega
   . rename_i h1 h2;exact ⟨by simpa using h1,by simpa using h2⟩
end Go.Azalai
namespace Go.Proofs.Ytiigiflofnjilaa
open Go Go.Sx Go.Azalai
theorem Z9 {xs:List (List SV)} {n:Nat} (h:KFR xs):KFR (xs.take n):=by
 induction xs generalizing n with
 | nil=>simpa using h
 | cons x l ih=>cases n with
  | zero=>simp [KFR]
  | succ n=>simp only [List.take_succ_cons,KFR] at h ⊢;exact ⟨h.1,ih h.2⟩
def Xu (e:Int) (m:Nat) (xs:List (List SV)):SV:=if e=0 then .sl false m xs else .v (.slice none 0 0)
theorem ZcI (l:Land) (hs:Vg l) (s day:Int) (p:Span):Ct Try.prog 26 [.agg (YB l),I s,I day,.agg (Zd p)] (.tup [Xu (XX l p s day) 2 ((YY l p s day).map Zd),I (XX l p s day)]):=by
 have hw:=hs.1
 refine t26.1 (by simp [YB,Zg,Zo,Zh,Zd,Za,KFL,KF]) (by unfold Xu;split<;>simp [KFL,KF,Za,Zd]) ?_
 dsimp only [c26,r26,YB,Zd,go_sem,rA,rM,rS]
 by_cases ha:UU l p=0
 case neg =>
  refine call (UM l hs p ha) ?_
  dsimp only [go_sem,rA,rM,rS]
  refine Zt (by simpa using ha) ?_
  dsimp only [go_sem,rA,rM,rS]
  simp [XX,ha,Xu]
 have hok:=ZhF ha
 refine call (Zcu l hs p ha) ?_
 dsimp only [ZF,go_sem,rA,rM,rS]
 refine Zv (by decide) ?_
 dsimp only [go_sem,rA,rM,rS]
 simp only [List.length_map]
 have h1:=Uo hok.land
 rw [Zi (n:=(l.wells.length:Int) - 1) (by omega) (by omega)]
 refine call (Uf 0 (l.wells.length - 1) s true) ?_
 dsimp only [go_sem,rA,rM,rS]
 repeat (first | (refine gb ?_;dsimp only [go_sem,rA,rM,rS]) | (refine call (Uf 0 100000 day true) ?_;dsimp only [go_sem,rA,rM,rS]))
 by_cases hr:(inR 0 (l.wells.length - 1) s && inR 0 100000 day)=true
 case neg =>
  refine Zt (by simpa [Bool.and_eq_true,<- Bool.not_and] using hr) ?_
  dsimp only [go_sem,rA,rM,rS]
  simp [XX,ha,Xu,hr]
 refine Zv (by simpa [<- Bool.not_and] using hr) ?_
 dsimp only [go_sem,rA,rM,rS]
 have he:XX l p s day=0:=by simp [XX,ha,hr]
 rw [he]
 simp only [Bool.and_eq_true] at hr
 obtain ⟨hr1,hr2⟩:=hr
 obtain ⟨s0,hs0,rfl⟩:∃ s0:Nat,s0 < l.wells.length/\s=(s0:Int):=by
  simp only [inR,decide_eq_true_eq] at hr1
  exact ⟨s.toNat,by omega,by omega⟩
 refine call (Ze8 l p hs hok s0 hs0 day hr2 true) ?_
 dsimp only [go_sem,rA,rM,rS]
 refine call (Ze8 l p hs hok s0 hs0 day hr2 false) ?_
 dsimp only [go_sem,rA,rM,rS]
 simp only [List.length_map,W5]
 refine Zdb (YM 12 2 31 rfl rfl) (fun q:Nat × Nat=>[(50,I q.1),(12,.mr 3 q.2)]) (fun q=>[(3,.row q.2 2 (((YY l p s0 day).take q.1).map Zd) 31)]) (fun q=>q.1<=l.wells.length) (fun q=>l.wells.length - q.1) (0,0) (Nat.zero_le _) ?_ ?_
 . (refine Zl ?_ ?_ ?_ rfl rfl<;>dsimp only [Zd,Zg,Zo,Zh,Zp,Z9,id,go_sem,rA,rM,rS]<;>simp [Zd,Zg,Zo,Zh,Zp,Z9,Za,Zf,KFR,KFL,KF,Zc,mtO,nbr])
 rintro ⟨j,v⟩ hj
 simp only at hj
 dsimp only [go_sem,rA,rM,rS]
 by_cases hlt:j < l.wells.length
 . refine Zt (by simpa using hlt) ?_
   dsimp only [go_sem,rA,rM,rS]
   have hf0:j < (XU false l p s0 day).length:=by rw [W5];exact hlt
   have hf1:j < (XU true l p s0 day).length:=by rw [W5];exact hlt
   refine Zs j hf0 rfl ?_
   dsimp only [Zp,go_sem,rA,rM,rS]
   refine Zs j hf1 rfl ?_
   dsimp only [Zp,go_sem,rA,rM,rS]
   simp only [nbr]
   dsimp only [go_sem,rA,rM,rS]
   have hlen:(((YY l p s0 day).take j).map Zd).length=j:=by simp [Wc];omega
   refine ⟨(by intro c hc;simp only [List.mem_singleton] at hc;subst hc;rfl),by simp only [List.length_append,hlen,List.length_singleton];omega,?_⟩
   dsimp only [go_sem,rA,rM,rS]
   rw [Zi (n:=(j:Int)+1) (by omega) (by omega)]
   have hjl:j < (YY l p s0 day).length:=by rw [Wc];exact hlt
   have e:((YY l p s0 day).take j).map Zd ++ [[SV.v (.int .i64 (XU false l p s0 day)[j]),SV.v (.int .i64 (XU true l p s0 day)[j])]]=((YY l p s0 day).take (j+1)).map Zd:=by
    rw [List.take_succ_eq_append_getElem hjl,List.map_append]
    simp [YY,Zd]
   rw [e]
   refine ⟨(j+1,v+1),hlt,by simp only;omega,?_⟩
   (refine Zl ?_ ?_ ?_ rfl rfl<;>dsimp only [Zd,Zg,Zo,Zh,Zp,Z9,id,go_sem,rA,rM,rS]<;>simp [Zd,Zg,Zo,Zh,Zp,Z9,Za,Zf,KFR,KFL,KF,Zc,mtO,nbr])
 refine Zv (by simp;omega) ?_
 dsimp only [go_sem,rA,rM,rS]
 have hje:j=l.wells.length:=by omega
 subst hje
 have:(YY l p s0 day).take l.wells.length=YY l p s0 day:=List.take_of_length_le (by rw [Wc];exact Nat.le_refl _)
 rw [this]
 simp [Xu,vwN]
end Go.Proofs.Ytiigiflofnjilaa
namespace Go.Azalai
def ZgD (S:List Span):List Int:=S.map (·.lo)
def ZjN (S:List Span):List Int:=S.map (·.hi)
def Zu5 (p:Span) (S:List Span) (x:Leg) (v:Int):Prop:=0<=Zk x v->dv (ZgD S) (Zk x v)<=ZM false x p (dv (ZgD S) v)/\dv (ZjN S) (Zk x v)<=ZM true x p (dv (ZjN S) v)
def ZwZ (S:List Span):Nat:=(S.map fun s=>s.lo.toNat+s.hi.toNat).sum
def Zu0 (x:Leg) (c:Nat):Int:=if c % 2=0 then x.a else x.b
structure RI (l:Land) (p:Span) (s day:Int) (S0 S:List Span) (ch:Bool) (c:Nat):Prop where
 g0:Gone false l p s day (ZgD S)
 g1:Gone true l p s day (ZjN S)
 le:ZwZ S<=ZwZ S0
 dec:ch=true->ZwZ S < ZwZ S0
 same:ch=false->S=S0/\∀ c' x,c' < c->l.legs[c' / 2]? = some x->Zu5 p S0 x (Zu0 x c')
theorem RI.start {l:Land} {p:Span} {s day:Int} {S:List Span} (h0:Gone false l p s day (ZgD S)) (h1:Gone true l p s day (ZjN S)):RI l p s day S S false 0 :=
 ⟨h0,h1,Nat.le_refl _,fun h=>(by cases h),fun _=>⟨rfl,fun c' x h=>absurd h (Nat.not_lt_zero _)⟩⟩
theorem RI.len {l:Land} {p:Span} {s day:Int} {S0 S:List Span} {ch:Bool} {c:Nat} (h:RI l p s day S0 S ch c):S.length=l.wells.length:=by have:=h.g0.len;simpa [ZgD] using this
theorem Zqy {S:List Span} {i:Nat} (h:i < S.length):dv (ZgD S) i=S[i].lo/\dv (ZjN S) i=S[i].hi:=by
 constructor
 . rw [Wo (by simpa [ZgD] using h)];simp [ZgD]
 . rw [Wo (by simpa [ZjN] using h)];simp [ZjN]
theorem RI.in {l:Land} {p:Span} {s day:Int} {S0 S:List Span} {ch:Bool} {c:Nat} (h:RI l p s day S0 S ch c) (hg:OkLP l p) (hd:0<=day) (hd':day<=100000) (h0:0<=s) (h1:s < l.wells.length) {i:Nat} (hi:i < S.length) :
 (0<=S[i].lo/\S[i].lo<=100001)/\0<=S[i].hi/\S[i].hi<=100001:=by
 have q:=Zqy hi
 have a1:=h.g0.lb hg hd hd' h0 h1 i
 have a2:=h.g0.ub i
 have b1:=h.g1.lb hg hd hd' h0 h1 i
 have b2:=h.g1.ub i
 omega
theorem RI.done {l:Land} {p:Span} {s day:Int} {S0 S:List Span} {c:Nat} (h:RI l p s day S0 S false c) (hc:2 * l.legs.length<=c) (hg:OkLP l p) (hd:0<=day) (hd':day<=100000) (h0:0<=s) (h1:s < l.wells.length):S=YY l p s day:=by
 obtain ⟨q1,q2⟩:=h.same rfl
 subst q1
 have hcl:∀ x ∈ l.legs,(dv (ZgD S) x.b<=ZM false x p (dv (ZgD S) x.a)/\dv (ZgD S) x.a<=ZM false x p (dv (ZgD S) x.b))/\(dv (ZjN S) x.b<=ZM true x p (dv (ZjN S) x.a)/\dv (ZjN S) x.a<=ZM true x p (dv (ZjN S) x.b)):=fun x hx=>by
  obtain ⟨i,hi⟩:=List.mem_iff_getElem?.1 hx
  have hil:i < l.legs.length:=(List.getElem?_eq_some_iff.1 hi).1
  have hen:=hg.ends hx
  have k1:=q2 (2 * i) x (by omega) (by rw [show 2 * i / 2=i by omega];exact hi)
  have k2:=q2 (2 * i+1) x (by omega) (by rw [show (2 * i+1) / 2=i by omega];exact hi)
  simp only [Zu5,Zu0,show 2 * i % 2=0 by omega,show ¬ (2 * i+1) % 2=0 by omega,if_true,if_false,Zk,if_neg hen.2.2] at k1 k2
  have m1:=k1 hen.2.1.1
  have m2:=k2 hen.1.1
  exact ⟨⟨m1.1,m2.1⟩,⟨m1.2,m2.2⟩⟩
 have e0:=U0 (k:=false) hg hd hd' h0 h1 h.g0.st (fun x hx=>(hcl x hx).1) h.g0.ub h.g0.real
 have e1:=U0 (k:=true) hg hd hd' h0 h1 h.g1.st (fun x hx=>(hcl x hx).2) h.g1.ub h.g1.real
 have hl:=h.len
 refine List.ext_getElem (by rw [hl,Wc]) fun i hi hi'=>?_
 have d:=Zqy hi
 simp only [YY,List.getElem_zipWith,XU,List.getElem_map,List.getElem_range]
 rw [<- e0,<- e1,d.1,d.2]
theorem RI.again {l:Land} {p:Span} {s day:Int} {S0 S:List Span} {ch:Bool} {c:Nat} (h:RI l p s day S0 S ch c):RI l p s day S S false 0:=.start h.g0 h.g1
open Go.Sx
def WN:List Nat->List Nat->Bool
 | [],[]=>false
 | [],_ :: _=>true
 | _ :: _,[]=>false
 | x :: a,y :: b=>decide (x < y) || (x == y && WN a b)
theorem WE:∀ a:List Nat,WN a a=false
 | []=>rfl
 | x :: a=>by simp [WN,WE a]
theorem ZeH:∀ {a b:List Nat},WN a b=false->WN b a=false->a=b
 | [],[],_,_=>rfl
 | [],_ :: _,h,_=>by simp [WN] at h
 | _ :: _,[],_,h=>by simp [WN] at h
 | x :: a,y :: b,h,h'=>by
  simp only [WN,Bool.or_eq_false_iff,decide_eq_false_iff_not,Bool.and_eq_false_iff,beq_eq_false_iff_ne] at h h'
  have hxy:x=y:=by omega
  subst hxy
  rw [ZeH (a:=a) (b:=b) (by simpa using h.2) (by simpa using h'.2)]
theorem Wf:∀ {a b c:List Nat},WN a b=true->WN b c=true->WN a c=true
 | [],[],_,h,_=>by simp [WN] at h
 | [],_ :: _,[],_,h=>by simp [WN] at h
 | [],_ :: _,_ :: _,_,_=>rfl
 | _ :: _,[],_,h,_=>by simp [WN] at h
 | _ :: _,_ :: _,[],_,h=>by simp [WN] at h
 | x :: a,y :: b,z :: c,h,h'=>by
  simp only [WN,Bool.or_eq_true,decide_eq_true_eq,Bool.and_eq_true,beq_iff_eq] at h h' ⊢
  rcases h with h | ⟨rfl,h⟩
  . rcases h' with h' | ⟨rfl,h'⟩
    . exact .inl (by omega)
    . exact .inl h
  . rcases h' with h' | ⟨rfl,h'⟩
    . exact .inl h'
    . exact .inr ⟨rfl,Wf h h'⟩
theorem UQ:∀ {a b c d:List Nat},a.length=b.length->WN (a ++ c) (b ++ d)=(WN a b || (decide (a=b) && WN c d))
 | [],[],c,d,_=>by simp [WN]
 | x :: a,y :: b,c,d,h=>by
  rw [List.cons_append,List.cons_append,WN,WN,UQ (a:=a) (b:=b) (c:=c) (d:=d) (by simpa using h)]
  by_cases hxy:x=y
  . subst hxy;simp
  . have hb:(x == y)=false:=beq_eq_false_iff_ne.2 hxy
    have hc:decide (x :: a=y :: b)=false:=by simp [hxy]
    rw [hb,hc];simp
 | [],_ :: _,_,_,h=>by simp at h
 | _ :: _,[],_,_,h=>by simp at h
def Zvl (W:List Nat->Prop) (a:List Nat):Prop:=W a/\∀ b,W b->WN b a=false
theorem Zvl.congr {W W':List Nat->Prop} {a:List Nat} (h:Zvl W a) (hw:∀ b,W' b↔W b):Zvl W' a:=⟨(hw a).2 h.1,fun b hb=>h.2 b ((hw b).1 hb)⟩
def ZjM (l:Land) (p:Span) (s day:Int) (n:Nat) (q:Int × Int) (a:List Nat):Prop:=a.length=n/\goW true l p s day a=some q
theorem ZeL {l:Land} {p:Span} {s day:Int} {a:List Nat} {i:Nat} {q:Int × Int} (h:goW true l p s day (a ++ [i])=some q) :
 ∃ u x,goW true l p s day a=some u/\l.legs[i]? = some x/\0<=Zk x u.1/\ZM true x p u.2<=100000/\q=(Zk x u.1,ZM true x p u.2):=by
 rw [Zay] at h
 cases hu:goW true l p s day a with
 | none=>rw [hu] at h;simp at h
 | some u =>
  rw [hu] at h
  simp only [Option.bind_some,goW] at h
  cases hx:l.legs[i]? with
  | none=>rw [hx] at h;cases h
  | some x =>
   rw [hx] at h
   simp only at h
   split at h
   . cases h
   . split at h
     . cases h
     . exact ⟨u,x,rfl,rfl,by omega,by omega,by injection h with h;exact h.symm⟩
def Cand (l:Land) (p:Span) (G:Int) (L:Int × Int->Option (List Nat)) (done:Int × Int->Nat->Prop) (q:Int × Int) (a:List Nat):Prop :=
 ∃ u w i x,L u=some w/\done u i/\l.legs[i]? = some x/\0<=Zk x u.1/\ZM true x p u.2<=G/\q=(Zk x u.1,ZM true x p u.2)/\a=w ++ [i]
def Zcn (W:List Nat->Prop):Option (List Nat)->Prop
 | none=>∀ a,¬ W a
 | some a=>Zvl W a
theorem Zcn.congr {W W':List Nat->Prop} {o:Option (List Nat)} (h:Zcn W o) (hw:∀ b,W' b↔W b):Zcn W' o:=by
 cases o with
 | none=>exact fun a ha=>h a ((hw a).1 ha)
 | some a=>exact Zvl.congr h hw
def Zuo (c:List Nat):Option (List Nat)->Option (List Nat)
 | none=>some c
 | some d=>if WN c d=true then some c else some d
theorem Zcn.more {W W':List Nat->Prop} {o:Option (List Nat)} {c:List Nat} (h:Zcn W o) (hw:∀ b,W' b↔W b\/b=c) :
 Zcn W' (Zuo c o):=by
 cases o with
 | none=>exact ⟨(hw c).2 (.inr rfl),fun b hb=>by
  rcases (hw b).1 hb with hb | rfl
  . exact absurd hb (h b)
  . exact WE _⟩
 | some d =>
  simp only [Zuo]
  split
  . rename_i hcd
    refine ⟨(hw c).2 (.inr rfl),fun b hb=>?_⟩
    rcases (hw b).1 hb with hb | rfl
    . cases hq:WN b c with
      | false=>rfl
      | true=>have:=Wf hq hcd;rw [h.2 b hb] at this;cases this
    . exact WE _
  . rename_i hcd
    refine ⟨(hw d).2 (.inl h.1),fun b hb=>?_⟩
    rcases (hw b).1 hb with hb | rfl
    . exact h.2 b hb
    . simpa using hcd
def Nxt (l:Land) (p:Span) (G:Int) (L N:Int × Int->Option (List Nat)) (done:Int × Int->Nat->Prop):Prop:=∀ q,Zcn (Cand l p G L done q) (N q)
theorem Nxt.congr {l:Land} {p:Span} {G:Int} {L N N':Int × Int->Option (List Nat)} {done done':Int × Int->Nat->Prop} (h:Nxt l p G L N done) (hN:∀ q,N' q=N q) (hd:∀ u w i,L u=some w->i < l.legs.length->(done' u i↔done u i)):Nxt l p G L N' done':=fun q=>by
 rw [hN]
 refine (h q).congr fun b=>⟨?_,?_⟩
 . rintro ⟨u,w,i,x,h1,h2,h3⟩;exact ⟨u,w,i,x,h1,(hd u w i h1 (List.getElem?_eq_some_iff.1 h3.1).1).1 h2,h3⟩
 . rintro ⟨u,w,i,x,h1,h2,h3⟩;exact ⟨u,w,i,x,h1,(hd u w i h1 (List.getElem?_eq_some_iff.1 h3.1).1).2 h2,h3⟩
theorem Nxt.start {l:Land} {p:Span} {G:Int} {L N:Int × Int->Option (List Nat)} (hN:∀ q,N q=none):Nxt l p G L N (fun _ _=>False):=fun q=>by
 rw [hN];rintro a ⟨_,_,_,_,_,h,_⟩;exact h
theorem Nxt.skip {l:Land} {p:Span} {G:Int} {L N:Int × Int->Option (List Nat)} {done:Int × Int->Nat->Prop} (h:Nxt l p G L N done) {u:Int × Int} {i:Nat} {x:Leg} (hx:l.legs[i]? = some x) (hn:¬ (0<=Zk x u.1/\ZM true x p u.2<=G)) :
 Nxt l p G L N (fun u' i'=>done u' i'\/u'=u/\i'=i):=fun q=>(h q).congr fun b=>⟨by
  rintro ⟨u',w,i',x',h1,h2,h3,h4,h5,h6⟩
  rcases h2 with h2 | ⟨rfl,rfl⟩
  . exact ⟨u',w,i',x',h1,h2,h3,h4,h5,h6⟩
  . rw [hx] at h3;cases h3;exact absurd ⟨h4,h5⟩ hn,by
  rintro ⟨u',w,i',x',h1,h2,h3⟩;exact ⟨u',w,i',x',h1,.inl h2,h3⟩⟩
theorem Nxt.step {l:Land} {p:Span} {G:Int} {L N N':Int × Int->Option (List Nat)} {done:Int × Int->Nat->Prop} (h:Nxt l p G L N done) {u:Int × Int} {w:List Nat} {i:Nat} {x:Leg} (hL:L u=some w) (hx:l.legs[i]? = some x) (h0:0<=Zk x u.1) (h1:ZM true x p u.2<=G)
 (hN:∀ q,N' q=if q=(Zk x u.1,ZM true x p u.2) then Zuo (w ++ [i]) (N q) else N q) :
 Nxt l p G L N' (fun u' i'=>done u' i'\/u'=u/\i'=i):=fun q=>by
 rw [hN]
 by_cases hq:q=(Zk x u.1,ZM true x p u.2)
 . rw [if_pos hq]
   refine Zcn.more (h q) fun b=>⟨?_,?_⟩
   . rintro ⟨u',w',i',x',k1,k2,k3,k4,k5,k6,k7⟩
     rcases k2 with k2 | ⟨rfl,rfl⟩
     . exact .inl ⟨u',w',i',x',k1,k2,k3,k4,k5,k6,k7⟩
     . rw [hL] at k1;cases k1;exact .inr k7
   . rintro (⟨u',w',i',x',k1,k2,k3⟩ | rfl)
     . exact ⟨u',w',i',x',k1,.inl k2,k3⟩
     . exact ⟨u,w,i,x,hL,.inr ⟨rfl,rfl⟩,hx,h0,h1,hq,rfl⟩
 . rw [if_neg hq]
   refine (h q).congr fun b=>⟨?_,?_⟩
   . rintro ⟨u',w',i',x',k1,k2,k3,k4,k5,k6,k7⟩
     rcases k2 with k2 | ⟨rfl,rfl⟩
     . exact ⟨u',w',i',x',k1,k2,k3,k4,k5,k6,k7⟩
     . rw [hx] at k3;cases k3;exact absurd k6 hq
   . rintro ⟨u',w',i',x',k1,k2,k3⟩
     exact ⟨u',w',i',x',k1,.inl k2,k3⟩
def Rd (l:Land) (p:Span) (s day G:Int) (n:Nat) (L:Int × Int->Option (List Nat)):Prop:=∀ q,Zcn (fun a=>q.2<=G/\ZjM l p s day n q a) (L q)
theorem Rd.start {l:Land} {p:Span} {s day G:Int} {L:Int × Int->Option (List Nat)} (hG:day<=G) (hL:∀ q,L q=if q=(s,day) then some [] else none):Rd l p s day G 0 L:=fun q=>by
 rw [hL]
 split
 . rename_i hq
   subst hq
   exact ⟨⟨hG,rfl,rfl⟩,fun b hb=>by rw [List.eq_nil_of_length_eq_zero hb.2.1];rfl⟩
 . rename_i hq
   rintro a ⟨_,h1,h2⟩
   rw [List.eq_nil_of_length_eq_zero h1] at h2
   simp only [goW,Option.some.injEq] at h2
   exact hq h2.symm
theorem Rd.next {l:Land} {p:Span} {s day G:Int} {n:Nat} {L N:Int × Int->Option (List Nat)} {done:Int × Int->Nat->Prop} (hg:OkLP l p) (h:Rd l p s day G n L) (hN:Nxt l p G L N done) (hd:∀ u w i,L u=some w->i < l.legs.length->done u i) (hG:G<=100000)
 (hd':day<=100000) (h0:0<=s) (h1:s < l.wells.length):Rd l p s day G (n+1) N:=fun q=>by
 have hq:=hN q
 have one:∀ a,Cand l p G L done q a->q.2<=G/\ZjM l p s day (n+1) q a:=by
  rintro a ⟨u,w,i,x,k1,_,k3,k4,k5,rfl,rfl⟩
  have:=h u
  rw [k1] at this
  obtain ⟨⟨g1,g2,g3⟩,_⟩:=this
  exact ⟨k5,by simp [g2],US (v:=u.1) (u:=u.2) g3 k3 (by omega) (by omega)⟩
 have two:∀ b,(q.2<=G/\ZjM l p s day (n+1) q b)->∃ a,Cand l p G L done q a/\WN b a=false:=by
  rintro b ⟨k1,k2,k3⟩
  obtain ⟨c,i,rfl⟩:∃ c i,b=c ++ [i]:=by
   rcases List.eq_nil_or_concat b with rfl | ⟨c,i,rfl⟩
   . simp at k2
   . exact ⟨c,i,by simp⟩
  obtain ⟨u,x,g1,g2,g3,g4,g5⟩:=ZeL k3
  have hub:=Vo hg (v':=u.1) (t':=u.2) g1 hd' h0 h1
  have hge:=Za3 (k:=true) (t:=u.2) (hg.leg g2) hg.pace (by omega)
  have hq2:q.2=ZM true x p u.2:=by rw [g5]
  have hu:=h u
  cases hLu:L u with
  | none=>rw [hLu] at hu;exact absurd ⟨by omega,by simpa using k2,g1⟩ (hu c)
  | some w =>
   rw [hLu] at hu
   have hlen:c.length=w.length:=by rw [hu.1.2.1];simpa using k2
   refine ⟨w ++ [i],⟨u,w,i,x,hLu,hd u w i hLu (List.getElem?_eq_some_iff.1 g2).1,g2,g3,by omega,g5,rfl⟩,?_⟩
   rw [UQ hlen,hu.2 c ⟨by omega,by simpa using k2,g1⟩]
   simp [WN]
 cases hNq:N q with
 | none =>
  rw [hNq] at hq
  intro b hb
  obtain ⟨a,ha,_⟩:=two b hb
  exact hq a ha
 | some a =>
  rw [hNq] at hq
  refine ⟨one a hq.1,fun b hb=>?_⟩
  obtain ⟨c,hc,hbc⟩:=two b hb
  cases hba:WN b a with
  | false=>rfl
  | true =>
   have hca:=hq.2 c hc
   cases hcb:WN c b with
   | true=>have:=Wf hcb hba;rw [hca] at this;cases this
   | false=>rw [ZeH hbc hcb,hca] at hba;cases hba
def Zqx (l:Land) (p:Span) (s to day:Int) (a:List Nat):Prop :=
 goW true l p s day a=some (to,YK true l p s day to)/\∀ b,goW true l p s day b=some (to,YK true l p s day to)->a.length < b.length\/(a.length=b.length/\WN b a=false)
theorem Rd.sure {l:Land} {p:Span} {s to day G:Int} {n:Nat} {L:Int × Int->Option (List Nat)} {a:List Nat} (h:Rd l p s day G n L) (hG:G=YK true l p s day to) (hL:L (to,G)=some a) (hm:∀ m,m < n->∀ b,¬ ZjM l p s day m (to,G) b):Zqx l p s to day a:=by
 subst hG
 have hq:=h (to,YK true l p s day to)
 rw [hL] at hq
 refine ⟨hq.1.2.2,fun b hb=>?_⟩
 by_cases hlt:b.length < n
 . exact absurd ⟨rfl,hb⟩ (hm b.length hlt b)
 . have hn:=hq.1.2.1
   by_cases he:b.length=n
   . exact .inr ⟨by omega,hq.2 b ⟨Int.le_refl _,he,hb⟩⟩
   . exact .inl (by omega)
theorem Rd.not {l:Land} {p:Span} {s to day G:Int} {n:Nat} {L:Int × Int->Option (List Nat)} (h:Rd l p s day G n L) (hL:L (to,G)=none) (hm:∀ m,m < n->∀ b,¬ ZjM l p s day m (to,G) b):∀ m,m < n+1->∀ b,¬ ZjM l p s day m (to,G) b:=fun m hmn b hb=>by
 by_cases he:m=n
 . subst he
   have:=h (to,G)
   rw [hL] at this
   exact this b ⟨Int.le_refl _,hb⟩
 . exact hm m (by omega) b hb
open Classical in
noncomputable def YT (l:Land) (p:Span) (v t:Int) (n:Nat) (w:Int):Int :=
 if h:∃ m:Nat,∃ a,ZjM l p v t n (w,(m:Int)) a then ((Go.Sx.least_ex _ h).choose:Int) else 100001
theorem W3 {l:Land} {p:Span} (h:OkLP l p) {v t w u:Int} {n:Nat} {a:List Nat} (e:ZjM l p v t n (w,u) a) (ht:0<=t) (ht':t<=100000) (h0:0<=v) (h1:v < l.wells.length):YT l p v t n w<=u:=by
 have hb:=Vo h e.2 ht' h0 h1
 have eu:((u.toNat:Nat):Int)=u:=by omega
 have hex:∃ m:Nat,∃ a,ZjM l p v t n (w,(m:Int)) a:=⟨u.toNat,a,by rw [eu];exact e⟩
 unfold YT
 rw [dif_pos hex]
 have:=(Go.Sx.least_ex _ hex).choose_spec.2 u.toNat ⟨a,by rw [eu];exact e⟩
 omega
theorem YN {l:Land} {p:Span} {v t w:Int} {n:Nat}:YT l p v t n w=100001\/∃ a,ZjM l p v t n (w,YT l p v t n w) a:=by
 unfold YT
 by_cases hex:∃ m:Nat,∃ a,ZjM l p v t n (w,(m:Int)) a
 . rw [dif_pos hex];exact .inr (Go.Sx.least_ex _ hex).choose_spec.1
 . rw [dif_neg hex];exact .inl rfl
theorem ZaR {l:Land} {p:Span} (h:OkLP l p) {v t w:Int} {n:Nat} (ht:0<=t) (ht':t<=100000) (h0:0<=v) (h1:v < l.wells.length):t<=YT l p v t n w/\YT l p v t n w<=100001:=by
 rcases YN (l:=l) (p:=p) (v:=v) (t:=t) (n:=n) (w:=w) with e | ⟨a,e⟩
 . omega
 . have:=Vo h e.2 ht' h0 h1;omega
theorem ZnN {l:Land} {p:Span} (h:OkLP l p) {v t w:Int} (ht:0<=t) (ht':t<=100000) (h0:0<=v) (h1:v < l.wells.length):YT l p v t 0 w=if w=v then t else 100001:=by
 rcases YN (l:=l) (p:=p) (v:=v) (t:=t) (n:=0) (w:=w) with e | ⟨a,e1,e2⟩
 . split
   . rename_i hw
     subst hw
     have:=W3 (u:=t) (a:=[]) (n:=0) (w:=w) h ⟨rfl,rfl⟩ ht ht' h0 h1
     omega
   . exact e
 . rw [List.eq_nil_of_length_eq_zero e1] at e2
   simp only [goW,Option.some.injEq,Prod.mk.injEq] at e2
   rw [if_pos e2.1.symm];exact e2.2.symm
noncomputable def UE (l:Land) (p:Span) (v t:Int) (n:Nat):List Int:=(List.range l.wells.length).map fun w:Nat=>YT l p v t n (w:Int)
theorem ZbM {l:Land} {p:Span} {v t:Int} {n:Nat}:(UE l p v t n).length=l.wells.length:=by simp [UE]
theorem Zeu {l:Land} {p:Span} {v t w:Int} {n:Nat} (h0:0<=w) (h1:w < l.wells.length):dv (UE l p v t n) w=YT l p v t n w:=by
 obtain ⟨i,rfl⟩:∃ i:Nat,w=(i:Int):=⟨w.toNat,by omega⟩
 rw [Wo (by rw [ZbM];omega)]
 simp [UE]
structure Lst (l:Land) (p:Span) (c d:List Int) (j:Nat):Prop where
 len:d.length=l.wells.length
 ub:∀ w,dv d w<=100001
 le:∀ (i:Nat) (x:Leg) (v:Int),i < j->l.legs[i]? = some x->0<=Zk x v->dv d (Zk x v)<=ZM true x p (dv c v)
 real:∀ w,dv d w=100001\/∃ (i:Nat) (x:Leg) (v:Int),l.legs[i]? = some x/\0<=Zk x v/\Zk x v=w/\dv d w=ZM true x p (dv c v)
theorem Lst.start {l:Land} {p:Span} {c:List Int}:Lst l p c (List.replicate l.wells.length 100001) 0:=by
 have e:∀ w,dv (List.replicate l.wells.length 100001) w=100001:=fun w=>by
  by_cases hw:0<=w/\w < (List.replicate l.wells.length (100001:Int)).length
  . obtain ⟨i,rfl⟩:∃ i:Nat,w=(i:Int):=⟨w.toNat,by omega⟩
    rw [Wo (by omega)];simp
  . exact ZvA hw
 exact ⟨by simp,fun w=>by rw [e];exact Int.le_refl _,fun i x v h=>by omega,fun w=>.inl (e w)⟩
theorem ZcY {l:Land} {p:Span} {c d:List Int} {x:Leg} {v:Int} {w:Nat} (hlen:d.length=l.wells.length) (hw:w < d.length) {i:Nat} (hx:l.legs[i]? = some x) (ho:Zk x v=w) (hub:∀ w,dv d w<=100001) (hr:∀ w,dv d w=100001\/∃ (i:Nat) (x:Leg) (v:Int),l.legs[i]? = some x/\0<=Zk x v/\Zk x v=w/\dv d w=ZM true x p (dv c v)) :
 (∀ u,dv (d.set w (min (dv d w) (ZM true x p (dv c v)))) u<=dv d u)/\(dv (d.set w (min (dv d w) (ZM true x p (dv c v)))) w<=ZM true x p (dv c v)) /\
 ∀ u,dv (d.set w (min (dv d w) (ZM true x p (dv c v)))) u=100001\/∃ (i:Nat) (y:Leg) (v':Int),l.legs[i]? = some y/\0<=Zk y v'/\Zk y v'=u/\dv (d.set w (min (dv d w) (ZM true x p (dv c v)))) u=ZM true y p (dv c v'):=by
 refine ⟨fun u=>?_,?_,fun u=>?_⟩
 . rw [Wi hw];split
   . rename_i hu;rw [hu];omega
   . exact Int.le_refl _
 . rw [Wi hw,if_pos rfl];omega
 . rw [Wi hw];split
   . rename_i hu
     by_cases hm:dv d w<=ZM true x p (dv c v)
     . rw [Int.min_eq_left hm,hu];exact hr w
     . rw [Int.min_eq_right (by omega)]
       exact .inr ⟨i,x,v,hx,by omega,by omega,rfl⟩
   . exact hr u
theorem Lst.step {l:Land} {p:Span} {c d:List Int} {j:Nat} (h:Lst l p c d j) (hg:OkLP l p) {x:Leg} (hx:l.legs[j]? = some x) {a b:Nat} (ha:x.a=a) (hb:x.b=b) :
 Lst l p c ((d.set b (min (dv d b) (ZM true x p (dv c a)))).set a (min (dv (d.set b (min (dv d b) (ZM true x p (dv c a)))) a) (ZM true x p (dv c b)))) (j+1):=by
 have hen:=hg.ends (List.mem_of_getElem? hx)
 have hbl:b < d.length:=by rw [h.len];omega
 have hal:a < d.length:=by rw [h.len];omega
 have o1:Zk x (a:Int)=(b:Int):=by rw [Zk,if_pos ha,hb]
 have o2:Zk x (b:Int)=(a:Int):=by rw [Zk,if_neg (by omega),if_pos hb,ha]
 obtain ⟨q1,q2,q3⟩:=ZcY (v:=(a:Int)) h.len hbl hx o1 h.ub h.real
 have hl1:(d.set b (min (dv d b) (ZM true x p (dv c a)))).length=d.length:=List.length_set
 generalize d.set b (min (dv d b) (ZM true x p (dv c a)))=d1 at q1 q2 q3 hl1
 obtain ⟨r1,r2,r3⟩:=ZcY (v:=(b:Int)) (hl1.trans h.len) (by omega:a < d1.length) hx o2 (fun w=>Int.le_trans (q1 w) (h.ub w)) q3
 have hl2:(d1.set a (min (dv d1 a) (ZM true x p (dv c b)))).length=d1.length:=List.length_set
 generalize d1.set a (min (dv d1 a) (ZM true x p (dv c b)))=d2 at r1 r2 r3 hl2
 refine ⟨by rw [hl2,hl1,h.len],fun w=>Int.le_trans (r1 w) (Int.le_trans (q1 w) (h.ub w)),fun i y v hi hy ho=>?_,r3⟩
 by_cases he:i=j
 . subst he
   rw [hx] at hy;cases hy
   rcases (ZS hg hx (v:=v) (by omega)).2.1 with ⟨e1,e2⟩ | ⟨e1,e2⟩
   . have ev:v=(a:Int):=by omega
     subst ev
     rw [o1]
     exact Int.le_trans (r1 _) q2
   . have ev:v=(b:Int):=by omega
     subst ev
     rw [o2];exact r2
 . exact Int.le_trans (r1 _) (Int.le_trans (q1 _) (h.le i y v (by omega) hy ho))
theorem Lst.done {l:Land} {p:Span} {v t:Int} {n:Nat} {d:List Int} (h:Lst l p (UE l p v t n) d l.legs.length) (hg:OkLP l p) (ht:0<=t) (ht':t<=100000) (h0:0<=v) (h1:v < l.wells.length):d=UE l p v t (n+1):=by
 refine List.ext_getElem (by rw [h.len,ZbM]) fun i hi hi'=>?_
 have hil:i < l.wells.length:=by rw [h.len] at hi;exact hi
 rw [show (UE l p v t (n+1))[i]=YT l p v t (n+1) i by simp [UE],<- Wo hi]
 have hlow:YT l p v t (n+1) i<=dv d i:=by
  rcases h.real i with e | ⟨k,x,u,hx,ho,hou,e⟩
  . rw [e];exact (ZaR hg ht ht' h0 h1).2
  . have hin:=ZS hg hx (v:=u) (by omega)
    rw [Zeu hin.2.2.1 hin.2.2.2] at e
    by_cases hr:dv d i=100001
    . rw [hr];exact (ZaR hg ht ht' h0 h1).2
    . have hub:=h.ub i
      have hb:=Xm (k:=true) (t:=YT l p v t n u) (hg.leg hx) hg.pace (ZaR hg ht ht' h0 h1).2
      rcases YN (l:=l) (p:=p) (v:=v) (t:=t) (n:=n) (w:=u) with e' | ⟨a,e1,e2⟩
      . omega
      . rw [e,<- hou]
        exact W3 hg ⟨by simp [e1],US e2 hx (by omega) (by omega)⟩ ht ht' h0 h1
 have hup:dv d i<=YT l p v t (n+1) i:=by
  rcases YN (l:=l) (p:=p) (v:=v) (t:=t) (n:=n+1) (w:=i) with e' | ⟨b,e1,e2⟩
  . rw [e'];exact h.ub i
  . obtain ⟨c,k,rfl⟩:∃ c k,b=c ++ [k]:=by
     rcases List.eq_nil_or_concat b with rfl | ⟨c,k,rfl⟩
     . simp at e1
     . exact ⟨c,k,by simp⟩
    obtain ⟨u,x,g1,g2,g3,g4,g5⟩:=ZeL e2
    have hin:=ZS hg g2 (v:=u.1) (by omega)
    have:=h.le k x u.1 (List.getElem?_eq_some_iff.1 g2).1 g2 g3
    rw [Zeu hin.2.2.1 hin.2.2.2] at this
    have hl:=W3 (n:=n) (w:=u.1) (u:=u.2) hg ⟨by simpa using e1,g1⟩ ht ht' h0 h1
    have hm:=ZaJ (k:=true) (hg.leg g2) hg.pace hl
    simp only [Prod.mk.injEq] at g5
    rw [<- g5.1] at this
    omega
 omega
structure Gr (l:Land) (p:Span) (s day to best:Int) (n0 n:Nat) (v t:Int) (out:List Nat):Prop where
 go:goW true l p s day out=some (v,t)
 len:out.length+n=n0
 least:YT l p v t n to=best
 pre:∀ b,b.length=n0->goW true l p s day b=some (to,best)->b.take out.length=out\/WN out (b.take out.length)=true
def Fit (l:Land) (p:Span) (to best:Int) (n:Nat) (v t:Int) (i:Nat):Prop:=∃ x,l.legs[i]? = some x/\0<=Zk x v/\ZM true x p t < 100001/\YT l p (Zk x v) (ZM true x p t) n to=best
theorem Gr.start {l:Land} {p:Span} {s day to best:Int} {n:Nat} (h:YT l p s day n to=best):Gr l p s day to best n n s day []:=⟨rfl,by simp,h,fun _ _ _=>.inl (by simp)⟩
theorem Zn4 {l:Land} {p:Span} {v t:Int} {i:Nat} {c:List Nat} {q:Int × Int} (h:goW true l p v t (i :: c)=some q):∃ x,l.legs[i]? = some x/\0<=Zk x v/\ZM true x p t<=100000/\goW true l p (Zk x v) (ZM true x p t) c=some q:=by
 simp only [goW] at h
 cases hx:l.legs[i]? with
 | none=>rw [hx] at h;cases h
 | some x =>
  rw [hx] at h
  simp only at h
  split at h
  . cases h
  . split at h
    . cases h
    . exact ⟨x,rfl,by omega,by omega,h⟩
theorem Gr.fit {l:Land} {p:Span} {s day to best:Int} {n0 n:Nat} {v t:Int} {out:List Nat} (h:Gr l p s day to best n0 (n+1) v t out) (hg:OkLP l p) (hd:0<=day) (hd':day<=100000) (h0:0<=s) (h1:s < l.wells.length) (hb:best=YK true l p s day to) {i:Nat} {c:List Nat} (hc:c.length=n)
 (hw:goW true l p v t (i :: c)=some (to,best)):Fit l p to best n v t i:=by
 obtain ⟨x,g1,g2,g3,g4⟩:=Zn4 hw
 have hbd:=Vo hg h.go hd' h0 h1
 have hin:=ZS hg g1 (v:=v) (by omega)
 have ha:=Xm (k:=true) (t:=t) (hg.leg g1) hg.pace (by omega)
 have hle:=W3 (n:=n) (w:=to) (u:=best) hg ⟨hc,g4⟩ (by omega) g3 hin.1.1 hin.1.2
 refine ⟨x,g1,g2,by omega,?_⟩
 rcases YN (l:=l) (p:=p) (v:=Zk x v) (t:=ZM true x p t) (n:=n) (w:=to) with e | ⟨a,e1,e2⟩
 . have:=Vo hg g4 g3 hin.1.1 hin.1.2;omega
 . have hgo:goW true l p s day (out ++ (i :: a))=some (to,YT l p (Zk x v) (ZM true x p t) n to):=by
    rw [Zay,h.go]
    simp only [Option.bind_some,goW,g1]
    rw [if_neg (by omega),if_neg (by omega)]
    exact e2
   have:=ZaG hg hgo hd hd' h0 h1
   omega
theorem Gr.ex {l:Land} {p:Span} {s day to best:Int} {n0 n:Nat} {v t:Int} {out:List Nat} (h:Gr l p s day to best n0 (n+1) v t out) (hg:OkLP l p) (hd:0<=day) (hd':day<=100000) (h0:0<=s) (h1:s < l.wells.length) (hb:best=YK true l p s day to) (hb':best<=100000) :
 ∃ i,i < l.legs.length/\Fit l p to best n v t i:=by
 rcases YN (l:=l) (p:=p) (v:=v) (t:=t) (n:=n+1) (w:=to) with e | ⟨a,e1,e2⟩
 . have:=h.least;omega
 . rw [h.least] at e2
   cases a with
   | nil=>simp at e1
   | cons i c =>
    have hf:=h.fit hg hd hd' h0 h1 hb (by simpa using e1) e2
    have hf':=hf
    obtain ⟨x,hx,_⟩:=hf'
    exact ⟨i,(List.getElem?_eq_some_iff.1 hx).1,hf⟩
theorem Gr.step {l:Land} {p:Span} {s day to best:Int} {n0 n:Nat} {v t:Int} {out:List Nat} (h:Gr l p s day to best n0 (n+1) v t out) (hg:OkLP l p) (hd:0<=day) (hd':day<=100000) (h0:0<=s) (h1:s < l.wells.length) (hb:best=YK true l p s day to) {i:Nat} {x:Leg} (hx:l.legs[i]? = some x) (ho:0<=Zk x v) (ha:ZM true x p t < 100001)
 (hf:YT l p (Zk x v) (ZM true x p t) n to=best) (hm:∀ j,j < i->¬ Fit l p to best n v t j):Gr l p s day to best n0 n (Zk x v) (ZM true x p t) (out ++ [i]):=by
 refine ⟨US h.go hx (by omega) (by omega),by have:=h.len;simp;omega,hf,fun b hbl hbw=>?_⟩
 have hlen:=h.len
 have hsplit:b.take (out ++ [i]).length=b.take out.length ++ (b[out.length]?).toList:=by
  rw [List.length_append,List.length_singleton];exact List.take_add_one
 have hlt:out.length < b.length:=by omega
 rw [hsplit,List.getElem?_eq_getElem hlt,Option.toList_some]
 have hl:out.length=(b.take out.length).length:=by rw [List.length_take];omega
 rcases h.pre b hbl hbw with e | e
 . rw [e]
   have hbeq:b=out ++ (b[out.length] :: b.drop (out.length+1)):=by
    conv=>lhs;rw [<- List.take_append_drop out.length b,e,List.drop_eq_getElem_cons hlt]
   have hw2:goW true l p v t (b[out.length] :: b.drop (out.length+1))=some (to,best):=by
    rw [hbeq,Zay,h.go] at hbw
    simpa using hbw
   have hfit:=h.fit hg hd hd' h0 h1 hb (by rw [List.length_drop];omega) hw2
   by_cases heq:b[out.length]=i
   . left;rw [heq]
   . right
     have:¬ b[out.length] < i:=fun hlt'=>hm _ hlt' hfit
     rw [UQ rfl]
     simp [WN,WE]
     omega
 . right
   rw [UQ hl,e];rfl
theorem Gr.done {l:Land} {p:Span} {s day to best:Int} {n0:Nat} {v t:Int} {out:List Nat} (h:Gr l p s day to best n0 0 v t out) (hg:OkLP l p) (hd:0<=day) (hd':day<=100000) (h0:0<=s) (h1:s < l.wells.length) (hb:best=YK true l p s day to) (hb':best<=100000)
 (hm:∀ m,m < n0->YT l p s day m to≠best):Zqx l p s to day out:=by
 have hbd:=Vo hg h.go hd' h0 h1
 have h2:=h.least
 rw [ZnN hg (by omega) (by omega) hbd.2.2.1 hbd.2.2.2] at h2
 split at h2
 case isFalse=>omega
 rename_i hv
 subst hv;subst h2
 have hlen:=h.len
 refine ⟨by rw [<- hb];exact h.go,fun b hbw=>?_⟩
 rw [<- hb] at hbw
 by_cases hlt:b.length < n0
 . refine absurd ?_ (hm b.length hlt)
   have q1:=W3 (n:=b.length) hg ⟨rfl,hbw⟩ hd hd' h0 h1
   rcases YN (l:=l) (p:=p) (v:=s) (t:=day) (n:=b.length) (w:=to) with e | ⟨a,e1,e2⟩
   . omega
   . have:=ZaG hg e2 hd hd' h0 h1;omega
 . by_cases he:b.length=n0
   . refine .inr ⟨by omega,?_⟩
     have hpre:=h.pre b he hbw
     rw [List.take_of_length_le (by omega)] at hpre
     rcases hpre with rfl | hpre
     . exact WE _
     . cases hq:WN b out with
       | false=>rfl
       | true=>have:=Wf hpre hq;rw [WE] at this;cases this
   . exact .inl (by omega)
structure Stop where
 leg:Int
 well:Int
 leaves:Span
 arrives:Span
deriving DecidableEq
def Wa (l:Land):Int->List Int->Nat->Option Nat
 | _,[],_=>none
 | v,i :: r,k=>if WM l i v < 0 then some k else Wa l (WM l i v) r (k+1)
def Vr (l:Land):Int->List Int->List Int
 | _,[]=>[]
 | v,i :: r=>if WM l i v < 0 then [] else WM l i v :: Vr l (WM l i v) r
def goS (l:Land) (p:Span):Int->Int->Int->List Int->Nat->List Stop->List Stop × Int × Int
 | _,_,_,[],_,acc=>(acc,0,0)
 | v,a,b,i :: r,k,acc=>match l.legs[i.toNat]? with
  | none=>([],0,0)
  | some x=>if ZM true x p b > 100000 then ([],k,34)
   else goS l p (Zk x v) (ZM false x p a) (ZM true x p b) r (k+1) (acc ++ [⟨i,Zk x v,⟨leK false x p a,leK true x p b⟩,⟨ZM false x p a,ZM true x p b⟩⟩])
def Y9 (l:Land) (p:Span) (s day:Int) (legs:List Int):List Stop × Int × Int :=
 if UU l p≠0 then ([],0,UU l p)
 else if (inR 0 (l.wells.length - 1) s && inR 0 100000 day)=false then ([],0,2)
 else if legs.length > 24 then ([],0,4)
 else match Wa l s legs 0 with
  | some k=>([],k,8)
  | none=>goS l p s day day legs 0 []
theorem Za5 {l:Land} {i v:Int} (h:¬ WM l i v < 0):∃ k:Nat,∃ x,i=(k:Int)/\∃ hk:k < l.legs.length,l.legs[k]? = some x/\l.legs[k]=x/\WM l i v=Zk x v:=by
 unfold WM at h ⊢
 split at h
 . rename_i hk
   refine ⟨i.toNat,l.legs[i.toNat],by omega,hk.2,by simp [hk.2],rfl,?_⟩
   rw [dif_pos hk]
 . omega
theorem ZgW {l:Land} {i v:Int}:i < 0\/(l.legs.length:Int)<=i->WM l i v = -1:=fun h=>by
 unfold WM;rw [dif_neg (by omega)]
theorem Zcq {l:Land} {k:Nat} {v:Int} (hk:k < l.legs.length):WM l k v=Zk l.legs[k] v:=by
 unfold WM;rw [dif_pos ⟨by omega,by simpa using hk⟩];simp
theorem XC {α : Type} {l:List α} {j:Nat} (h:j < l.length):l.drop j=l[j] :: l.drop (j+1):=List.drop_eq_getElem_cons h
theorem Zdl {l:Land}:∀ {legs:List Int} {v:Int} {k:Nat},Wa l v legs k=none->(Vr l v legs).length=legs.length
 | [],_,_,_=>rfl
 | i :: r,v,k,h=>by
  simp only [Wa] at h
  simp only [Vr]
  split at h
  . cases h
  . rename_i hn;rw [if_neg hn,List.length_cons,List.length_cons,Zdl h]
structure W1 (l:Land) (s:Int) (legs:List Int) (j:Nat) (v:Int) (ends:List Int):Prop where
 bad:Wa l s legs 0=Wa l v (legs.drop j) j
 eds:Vr l s legs=ends ++ Vr l v (legs.drop j)
 len:ends.length=j
 inn:0<=v/\v < l.wells.length
theorem W1.start {l:Land} {s:Int} {legs:List Int} (h:0<=s/\s < l.wells.length):W1 l s legs 0 s []:=⟨by simp,by simp,rfl,h⟩
theorem W1.step {l:Land} {p:Span} {s:Int} {legs:List Int} {j:Nat} {v:Int} {ends:List Int} (h:W1 l s legs j v ends) (hg:OkLP l p) (hj:j < legs.length) (he:¬ WM l legs[j] v < 0):W1 l s legs (j+1) (WM l legs[j] v) (ends ++ [WM l legs[j] v]):=by
 obtain ⟨k,x,_,_,hx,_,e⟩:=Za5 he
 refine ⟨?_,?_,by simp [h.len],by rw [e] at he ⊢;exact (ZS hg hx he).1⟩
 . rw [h.bad,XC hj];simp only [Wa];rw [if_neg he]
 . rw [h.eds,XC hj];simp only [Vr];rw [if_neg he];simp
theorem W1.stop {l:Land} {s:Int} {legs:List Int} {j:Nat} {v:Int} {ends:List Int} (h:W1 l s legs j v ends) (hj:j < legs.length) (he:WM l legs[j] v < 0):Wa l s legs 0=some j:=by
 rw [h.bad,XC hj];simp only [Wa];rw [if_pos he]
theorem W1.done {l:Land} {s:Int} {legs:List Int} {v:Int} {ends:List Int} (h:W1 l s legs legs.length v ends):Wa l s legs 0=none/\ends=Vr l s legs:=by
 have h1:=h.bad
 have h2:=h.eds
 rw [List.drop_of_length_le (Nat.le_refl _)] at h1 h2
 exact ⟨by rw [h1];rfl,by rw [h2];simp [Vr]⟩
structure W2 (l:Land) (p:Span) (s day:Int) (legs:List Int) (j:Nat) (v a b:Int) (acc:List Stop):Prop where
 eq:goS l p s day day legs 0 []=goS l p v a b (legs.drop j) j acc
 bad:Wa l v (legs.drop j) j=none
 ends:(Vr l s legs).drop j=Vr l v (legs.drop j)
 inn:0<=v/\v < l.wells.length
 da:0<=a/\a<=100001
 db:0<=b/\b<=100000
 len:acc.length=j
theorem W2.start {l:Land} {p:Span} {s day:Int} {legs:List Int} (h:Wa l s legs 0=none) (hs:0<=s/\s < l.wells.length) (hd:0<=day/\day<=100000):W2 l p s day legs 0 s day day []:=⟨by simp,by simpa using h,by simp,hs,⟨hd.1,by omega⟩,hd,rfl⟩
theorem W2.at {l:Land} {p:Span} {s day:Int} {legs:List Int} {j:Nat} {v a b:Int} {acc:List Stop} (h:W2 l p s day legs j v a b acc) (hj:j < legs.length):∃ k:Nat,∃ hk:k < l.legs.length,legs[j]=(k:Int)/\WM l legs[j] v=Zk l.legs[k] v/\0<=Zk l.legs[k] v/\(Vr l s legs)[j]? = some (Zk l.legs[k] v):=by
 have hb:=h.bad
 have he:=h.ends
 rw [XC hj] at hb he
 simp only [Wa] at hb
 simp only [Vr] at he
 split at hb
 . cases hb
 . rename_i hn
   rw [if_neg hn] at he
   obtain ⟨k,x,e1,hk,e2,e3,e4⟩:=Za5 hn
   subst e3
   refine ⟨k,hk,e1,e4,by omega,?_⟩
   have:=congrArg (fun q=>q[0]?) he
   simp only [List.getElem?_drop,Nat.add_zero,List.getElem?_cons_zero] at this
   rw [this,e4]
theorem W2.step {l:Land} {p:Span} {s day:Int} {legs:List Int} {j:Nat} {v a b:Int} {acc:List Stop} (h:W2 l p s day legs j v a b acc) (hg:OkLP l p) (hj:j < legs.length) {k:Nat} (hk:k < l.legs.length) (hl:legs[j]=(k:Int)) (hr:¬ ZM true l.legs[k] p b > 100000) (ho:0<=Zk l.legs[k] v) :
 W2 l p s day legs (j+1) (Zk l.legs[k] v) (ZM false l.legs[k] p a) (ZM true l.legs[k] p b) (acc ++ [⟨k,Zk l.legs[k] v,⟨leK false l.legs[k] p a,leK true l.legs[k] p b⟩,⟨ZM false l.legs[k] p a,ZM true l.legs[k] p b⟩⟩]):=by
 have hx:l.legs[k]? = some l.legs[k]:=List.getElem?_eq_getElem hk
 have hend:WM l legs[j] v=Zk l.legs[k] v:=by rw [hl];exact Zcq hk
 have hb:=h.bad
 have he:=h.ends
 rw [XC hj] at hb he
 simp only [Wa,hend] at hb
 rw [if_neg (by omega)] at hb
 simp only [Vr,hend] at he
 rw [if_neg (by omega)] at he
 have ha:=Za3 (k:=false) (hg.leg hx) hg.pace h.da.2
 have ha':=Xm (k:=false) (hg.leg hx) hg.pace h.da.2
 have hb':=Za3 (k:=true) (t:=b) (hg.leg hx) hg.pace (by have:=h.db;omega)
 have h1:=h.da
 have h2:=h.db
 refine ⟨?_,hb,?_,(ZS hg hx (by omega)).1,by omega,by omega,by simp [h.len]⟩
 . rw [h.eq,XC hj,hl]
   simp only [goS,Int.toNat_natCast,hx]
   rw [if_neg hr]
 . have:=congrArg (List.drop 1) he
   simpa [List.drop_drop,Nat.add_comm] using this
theorem W2.stop {l:Land} {p:Span} {s day:Int} {legs:List Int} {j:Nat} {v a b:Int} {acc:List Stop} (h:W2 l p s day legs j v a b acc) (hj:j < legs.length) {k:Nat} (hk:k < l.legs.length) (hl:legs[j]=(k:Int)) (hr:ZM true l.legs[k] p b > 100000):goS l p s day day legs 0 []=([],(j:Int),34):=by
 rw [h.eq,XC hj,hl]
 simp only [goS,Int.toNat_natCast,List.getElem?_eq_getElem hk]
 rw [if_pos hr]
theorem W2.done {l:Land} {p:Span} {s day:Int} {legs:List Int} {v a b:Int} {acc:List Stop} (h:W2 l p s day legs legs.length v a b acc):goS l p s day day legs 0 []=(acc,0,0):=by
 rw [h.eq,List.drop_of_length_le (Nat.le_refl _)];rfl
end Go.Azalai
namespace Go.Proofs.Ytiigiflofnjilaa
open Go Go.Sx Go.Azalai
def ZN (s:Stop):List SV:=[I s.leg,I s.well,I s.leaves.lo,I s.leaves.hi,I s.arrives.lo,I s.arrives.hi]
def ZaY (r:List Stop × Int × Int):SV:=.tup [Xu r.2.2 6 (r.1.map ZN),I r.2.1,I r.2.2]
theorem ZmT (r:List Stop × Int × Int):KF (ZaY r):=by
 unfold ZaY Xu;split<;>simp [KFL,KF,Za,ZN]
theorem ZoB (l:Land) (hs:Vg l) (s day:Int) (p:Span) (legs:List Int) (hl:legs.length<=1000) (c:Bool):Ct Try.prog 51 [.agg (YB l),I s,I day,.agg (Zd p),.sl c 1 (legs.map Zp)] (ZaY (Y9 l p s day legs)):=by
 have hw:=hs.1
 have hleg:=hs.2.1
 refine t51.1 (by simp [YB,Zg,Zo,Zh,Zd,Zp,Za,KFL,KF]) (ZmT _) ?_
 dsimp only [c51,r51,YB,Zd,go_sem,rA,rM,rS]
 by_cases ha:UU l p=0
 case neg =>
  refine call (UM l hs p ha) ?_
  dsimp only [go_sem,rA,rM,rS]
  refine Zt (by simpa using ha) ?_
  dsimp only [go_sem,rA,rM,rS]
  simp [Y9,ha,ZaY,Xu]
 have hok:=ZhF ha
 refine call (Zcu l hs p ha) ?_
 dsimp only [ZF,go_sem,rA,rM,rS]
 refine Zv (by decide) ?_
 dsimp only [go_sem,rA,rM,rS]
 simp only [List.length_map]
 have h1:=Uo hok.land
 rw [Zi (n:=(l.wells.length:Int) - 1) (by omega) (by omega)]
 refine call (Uf 0 (l.wells.length - 1) s true) ?_
 dsimp only [go_sem,rA,rM,rS]
 repeat (first | (refine gb ?_;dsimp only [go_sem,rA,rM,rS]) | (refine call (Uf 0 100000 day true) ?_;dsimp only [go_sem,rA,rM,rS]))
 by_cases hr:(inR 0 (l.wells.length - 1) s && inR 0 100000 day)=true
 case neg =>
  refine Zt (by simpa [Bool.and_eq_true,<- Bool.not_and] using hr) ?_
  dsimp only [go_sem,rA,rM,rS]
  simp [Y9,ha,ZaY,Xu,hr]
 refine Zv (by simpa [<- Bool.not_and] using hr) ?_
 dsimp only [go_sem,rA,rM,rS]
 simp only [List.length_map]
 by_cases hm:legs.length > 24
 . refine Zt (by simp;omega) ?_
   dsimp only [go_sem,rA,rM,rS]
   simp only [Y9,ha,hr,ne_eq,not_true_eq_false,if_false,Bool.true_eq_false,hm,if_true,ZaY,Xu]
   simp
 refine Zv (by simp;omega) ?_
 dsimp only [go_sem,rA,rM,rS]
 simp only [List.length_map]
 have hF1:∀ k,Wa l s legs 0=some k->Y9 l p s day legs=([],(k:Int),8):=fun k h=>by
  simp only [Y9,ha,hr,ne_eq,not_true_eq_false,if_false,Bool.true_eq_false,hm,h]
 have hF2:Wa l s legs 0=none->Y9 l p s day legs=goS l p s day day legs 0 []:=fun h=>by
  simp only [Y9,ha,hr,ne_eq,not_true_eq_false,if_false,Bool.true_eq_false,hm,h]
 simp only [Bool.and_eq_true,inR,decide_eq_true_eq] at hr
 obtain ⟨hr1,hd⟩:=hr
 refine Zdb (YM 14 1 3 rfl rfl) (fun q:Nat × Nat × Int × List Int=>[(54,I q.1),(14,.mr 3 q.2.1),(15,I q.2.2.1)]) (fun q=>[(3,.row q.2.1 1 (q.2.2.2.map Zp) 3)])
  (fun q=>q.1<=legs.length/\W1 l s legs q.1 q.2.2.1 q.2.2.2) (fun q=>legs.length - q.1) (0,0,s,[]) ⟨Nat.zero_le _,W1.start (by omega)⟩ ?_ ?_
 . (refine Zl ?_ ?_ ?_ rfl rfl<;>dsimp only [Zd,Zg,Zo,Zh,Zp,id,go_sem,rA,rM,rS]<;>simp [Zd,Zg,Zo,Zh,Zp,Za,Zf,KFR,KFL,KF,Zc,mtO,nbr])
 rintro ⟨j,v,well,ends⟩ ⟨hj,hI⟩
 simp only at hj hI
 dsimp only [go_sem,rA,rM,rS]
 by_cases hlt:j < legs.length
 . refine Zt (by simpa using hlt) ?_
   dsimp only [go_sem,rA,rM,rS]
   refine Zs j hlt rfl ?_
   dsimp only [Zp,go_sem,rA,rM,rS]
   refine call (ZwT l p legs[j] well hleg) ?_
   dsimp only [go_sem,rA,rM,rS]
   by_cases hn:WM l legs[j] well < 0
   . refine Zt (by simpa using hn) ?_
     dsimp only [go_sem,rA,rM,rS]
     rw [hF1 j (hI.stop hlt hn)]
     simp [ZaY,Xu]
   refine Zv (by simpa using hn) ?_
   dsimp only [go_sem,rA,rM,rS]
   simp only [nbr]
   dsimp only [go_sem,rA,rM,rS]
   have hst:=hI.step hok hlt hn
   refine ⟨(by intro c hc;simp only [List.mem_singleton] at hc;subst hc;rfl),by have:=hI.len;simp;omega,?_⟩
   dsimp only [go_sem,rA,rM,rS]
   rw [Zi (n:=(j:Int)+1) (by omega) (by omega)]
   have e:ends.map Zp ++ [[SV.v (.int .i64 (WM l legs[j] well))]]=(ends ++ [WM l legs[j] well]).map Zp:=by simp [Zp]
   rw [e]
   refine ⟨(j+1,v+1,WM l legs[j] well,ends ++ [WM l legs[j] well]),⟨hlt,hst⟩,by simp only;omega,?_⟩
   (refine Zl ?_ ?_ ?_ rfl rfl<;>dsimp only [Zd,Zg,Zo,Zh,Zp,id,go_sem,rA,rM,rS]<;>simp [Zd,Zg,Zo,Zh,Zp,Za,Zf,KFR,KFL,KF,Zc,mtO,nbr])
 refine Zv (by simp;omega) ?_
 dsimp only [go_sem,rA,rM,rS]
 have hje:j=legs.length:=by omega
 subst hje
 obtain ⟨hbad,hends⟩:=hI.done
 subst hends
 have hF:=hF2 hbad
 have hlen:=Zdl hbad
 have h2:=W2.start (p:=p) hbad (by omega) hd
 clear hI
 refine Zdb (YM 10 6 120 rfl rfl) (fun q:Nat × Nat × Int × Int × Int × List Stop=>[(76,I q.1),(10,.mr 5 q.2.1)]) (fun q=>[(5,.row q.2.1 6 (q.2.2.2.2.2.map ZN) 120),(4,.cells [I q.2.2.2.1,I q.2.2.2.2.1] 115)])
  (fun q=>q.1<=legs.length/\W2 l p s day legs q.1 q.2.2.1 q.2.2.2.1 q.2.2.2.2.1 q.2.2.2.2.2) (fun q=>legs.length - q.1) (0,0,s,day,day,[]) ⟨Nat.zero_le _,h2⟩ ?_ ?_
 . (refine Zl ?_ ?_ ?_ rfl rfl<;>dsimp only [Zd,Zg,Zo,Zh,Zp,ZN,id,go_sem,rA,rM,rS]<;>simp [Zd,Zg,Zo,Zh,Zp,ZN,Za,Zf,KFR,KFL,KF,Zc,mtO,nbr])
 clear h2
 rintro ⟨j,u,wl,a,b,acc⟩ ⟨hj,hI⟩
 simp only at hj hI
 dsimp only [go_sem,rA,rM,rS]
 by_cases hlt:j < legs.length
 . refine Zt (by simpa using hlt) ?_
   dsimp only [go_sem,rA,rM,rS]
   refine Zs j hlt rfl ?_
   dsimp only [Zp,go_sem,rA,rM,rS]
   obtain ⟨k,hk,hlk,_,ho,hej⟩:=hI.at hlt
   have hgl:GoodLeg l.legs[k]:=Xz hok.land _ (List.getElem_mem _)
   have hda:=hI.da
   have hdb:=hI.db
   have q0:inR 0 100001 a=true:=by simp only [inR,decide_eq_true_eq];omega
   have q1:inR 0 100001 b=true:=by simp only [inR,decide_eq_true_eq];omega
   simp only [hlk]
   refine call (XT l p k hk a b hgl hok.pace q0 q1) ?_
   dsimp only [go_sem,rA,rM,rS]
   refine call (XG l p k hk a b hgl hok.pace q0 q1) ?_
   dsimp only [go_sem,rA,rM,rS]
   refine ixa 1 rfl (by decide) ?_
   dsimp only [go_sem,rA,rM,rS]
   by_cases hR:ZM true l.legs[k] p b > 100000
   . refine Zt (by simpa using hR) ?_
     dsimp only [go_sem,rA,rM,rS]
     rw [hF,hI.stop hlt hk hlk hR]
     simp [ZaY,Xu]
   refine Zv (by simpa using hR) ?_
   dsimp only [go_sem,rA,rM,rS]
   simp only [nbr]
   dsimp only [go_sem,rA,rM,rS]
   have hjl:j < (Vr l s legs).length:=by omega
   simp only [List.length_map]
   refine Zfj j rfl hjl ?_
   dsimp only [go_sem,rA,rM,rS]
   simp only [nbr]
   dsimp only [go_sem,rA,rM,rS]
   refine ZjE hjl ?_
   dsimp only [Zp,go_sem,rA,rM,rS]
   have hej':(Vr l s legs)[j]=Zk l.legs[k] wl:=by rw [List.getElem?_eq_getElem hjl] at hej;exact Option.some.inj hej
   rw [hej']
   refine call (Zca _ _) ?_
   dsimp only [go_sem,rA,rM,rS]
   refine call (Zca _ _) ?_
   dsimp only [go_sem,rA,rM,rS]
   simp only [nbr]
   dsimp only [go_sem,rA,rM,rS]
   have hst:=hI.step hok hlt hk hlk hR ho
   refine ⟨(by intro c hc;simp only [List.mem_singleton] at hc;subst hc;rfl),by have:=hI.len;simp;omega,?_⟩
   dsimp only [go_sem,rA,rM,rS]
   rw [Zi (n:=(j:Int)+1) (by omega) (by omega)]
   have e:acc.map ZN ++ [[SV.v (.int .i64 (k:Int)),SV.v (.int .i64 (Zk l.legs[k] wl)),SV.v (.int .i64 (ZuI l.legs[k] p a)),SV.v (.int .i64 (Zq2 l.legs[k] p b)),SV.v (.int .i64 (ZM false l.legs[k] p a)),SV.v (.int .i64 (ZM true l.legs[k] p b))]] =
    (acc ++ [(⟨(k:Int),Zk l.legs[k] wl,⟨leK false l.legs[k] p a,leK true l.legs[k] p b⟩,⟨ZM false l.legs[k] p a,ZM true l.legs[k] p b⟩⟩:Stop)]).map ZN:=by simp [ZN,leK]
   rw [e]
   refine ⟨(j+1,u+1,Zk l.legs[k] wl,ZM false l.legs[k] p a,ZM true l.legs[k] p b,_),⟨hlt,hst⟩,by simp only;omega,?_⟩
   (refine Zl ?_ ?_ ?_ rfl rfl<;>dsimp only [Zd,Zg,Zo,Zh,Zp,ZN,id,go_sem,rA,rM,rS]<;>simp [Zd,Zg,Zo,Zh,Zp,ZN,Za,Zf,KFR,KFL,KF,Zc,mtO,nbr])
 refine Zv (by simp;omega) ?_
 dsimp only [go_sem,rA,rM,rS]
 have hje:j=legs.length:=by omega
 subst hje
 simp only [nbr]
 dsimp only [go_sem,rA,rM,rS]
 rw [hF,hI.done]
 simp [ZaY,Xu,vwN]
end Go.Proofs.Ytiigiflofnjilaa
namespace Go.Azalai
open Go.Sx
structure Scene where
 heat:Span
 grass:Span
 yields:List Span
 prices:List Int
deriving DecidableEq
structure Season where
 land:Land
 pace:Span
 breed:Breed
 camel:Camel
 herd:Int
 hours:Int
 slab:Int
 cost:Int
 sale:Int
 start:Int
 day:Int
 till:Int
 scenes:List Scene
deriving DecidableEq
structure Plan where
 legs:List Int
 animals:Int
 slabs:Int
deriving DecidableEq
def Zp8 (x:Scene):Bool:=decide (x.yields.length > 20) || decide (x.prices.length > 20)
def Zkd (s:Season):Bool:=ZgZ s.land || decide (s.scenes.length > 8) || s.scenes.any Zp8
structure SmallS (s:Season):Prop where
 land:Vg s.land
 sc:s.scenes.length<=8
 each:∀ x ∈ s.scenes,x.yields.length<=20/\x.prices.length<=20
def Xn (n:Nat) (x:Scene):Bool :=
 Yt 0 60 x.heat && Yt 0 1000000 x.grass && decide (x.yields.length=n) && decide (x.prices.length=n) && x.yields.all (Yt 0 10000000) && x.prices.all (inR 0 1000000)
def Zcy (s:Season):Bool :=
 inR 1 30 s.herd && inR 1 24 s.hours && inR 1 1000000 s.slab && inR 0 1000000 s.cost && inR 0 1000000 s.sale && inR 0 s.till s.day && decide (s.till<=100000)
def ZQ (s:Season):Bool :=
 Yf s.land && Z2 s.pace && decide (ZcA s.breed s.camel=0) && Zcy s && inR 0 (s.land.wells.length - 1) s.start && inR 1 4 s.scenes.length && s.scenes.all (Xn s.land.wells.length)
theorem ZmF {l:Land} (h:ZgZ l=false):Vg l:=by
 simp only [ZgZ,Bool.or_eq_false_iff,decide_eq_false_iff_not,List.any_eq_false,decide_eq_true_eq] at h
 exact ⟨by omega,by omega,fun x hx=>by have:=h.2 x hx;omega⟩
theorem V3 {s:Season} (h:Zkd s=false):SmallS s:=by
 simp only [Zkd,Bool.or_eq_false_iff,decide_eq_false_iff_not,List.any_eq_false,Zp8,Bool.or_eq_true,decide_eq_true_eq] at h
 exact ⟨ZmF h.1.1,by omega,fun x hx=>by have:=h.2 x hx;omega⟩
end Go.Azalai
namespace Go.Proofs.Ytiigiflofnjilaa
open Go Go.Sx Go.Azalai
def Zm (x:Scene):List SV:=[I x.heat.lo,I x.heat.hi,I x.grass.lo,I x.grass.hi,.sl false 2 (x.yields.map Zd),.sl false 1 (x.prices.map Zp)]
def Zw (s:Season):List SV :=
 [.sl false 9 (s.land.wells.map Zg),.sl false 5 (s.land.legs.map Zo),I s.pace.lo,I s.pace.hi,
  I s.breed.full,I s.breed.fed,I s.breed.rest.lo,I s.breed.rest.hi,I s.breed.heat.lo,I s.breed.heat.hi,I s.breed.toil.lo,I s.breed.toil.hi,I s.breed.burn.lo,I s.breed.burn.hi,I s.breed.rub.lo,I s.breed.rub.hi,I s.breed.milk.lo,I s.breed.milk.hi,I s.breed.heal,I s.breed.strong.lo,I s.breed.strong.hi,
  I s.camel.water.lo,I s.camel.water.hi,I s.camel.fat.lo,I s.camel.fat.hi,I s.camel.sore.lo,I s.camel.sore.hi,B s.camel.milks,
  I s.herd,I s.hours,I s.slab,I s.cost,I s.sale,I s.start,I s.day,I s.till,.sl false 6 (s.scenes.map Zm)]
def ZD (p:Plan):List SV:=[.sl false 1 (p.legs.map Zp),I p.animals,I p.slabs]
theorem Zka (lo hi x:Int):Ct Try.prog 36 [I x,.ps [I lo] 0,.ps [I hi] 0] (B (!inR lo hi x)):=by
 refine t36.1 (by simp [KFL,KF]) (by simp [KFL,KF]) ?_
 dsimp only [c36,r36,go_sem,rA,rM,rS]
 repeat (refine gb ?_;dsimp only [go_sem,rA,rM,rS])
 (simp only [inR,Option.some.injEq,SV.v.injEq,Value.bool.injEq]<;>grind)
theorem Zap (lo hi:Int) (l:List Int) (hl:l.length < 4611686018427387904) (c:Bool):Ct Try.prog 21 [I lo,I hi,.sl c 1 (l.map Zp)] (B (l.all (inR lo hi))):=by
 refine t21.1 (by simp [Za,Zp,KFL,KF]) (by simp [KFL,KF]) ?_
 dsimp only [c21,r21,go_sem,rA,rM,rS]
 refine Zc5 (by simp [FLT]) (res:=B (l.any fun x=>!inR lo hi x)) ?_ ?_
 . dsimp only [go_sem,rA,rM,rS]
   exact ZvN 36 [.ps [I lo] 0,.ps [I hi] 0] (by simp [KFL,KF]) (fun x=>!inR lo hi x) l (fun x _=>Zka lo hi x) hl
 . dsimp only [go_sem,rA,rM,rS]
   simp [List.all_eq_not_any_not]
theorem ZeW (lo hi a:Int) (c:Bool):Ct Try.prog 21 [I lo,I hi,.sl c 1 [[I a]]] (B (inR lo hi a)):=by
 have:=Zap lo hi [a] (by simp) c
 simpa [Zp] using this
theorem ZpV (lo hi a b:Int) (c:Bool):Ct Try.prog 21 [I lo,I hi,.sl c 1 [[I a],[I b]]] (B (inR lo hi a && inR lo hi b)):=by
 have:=Zap lo hi [a,b] (by simp) c
 simpa [Zp] using this
theorem ZcG (lo hi:Int) (s:Span):Ct Try.prog 50 [.agg (Zd s),.ps [I lo] 0,.ps [I hi] 0] (B (!Yt lo hi s)):=by
 refine t50.1 (by simp [Zd,KFL,KF]) (by simp [KFL,KF]) ?_
 dsimp only [c50,r50,Zd,go_sem,rA,rM,rS]
 repeat (first | (refine gb ?_;dsimp only [go_sem,rA,rM,rS]) | (refine call (ZpV _ _ _ _ _) ?_;dsimp only [go_sem,rA,rM,rS]))
 (simp only [Yt,inR,Option.some.injEq,SV.v.injEq,Value.bool.injEq]<;>grind)
theorem Uz (lo hi:Int) (l:List Span) (hl:l.length < 4611686018427387904) (c:Bool):Ct Try.prog 28 [I lo,I hi,.sl c 2 (l.map Zd)] (B (l.all (Yt lo hi))):=by
 refine t28.1 (by simp [Za,Zd,KFL,KF]) (by simp [KFL,KF]) ?_
 dsimp only [c28,r28,go_sem,rA,rM,rS]
 refine Zc5 (by simp [FLT]) (res:=B (l.any fun x=>!Yt lo hi x)) ?_ ?_
 . dsimp only [go_sem,rA,rM,rS]
   exact Zp0 50 [.ps [I lo] 0,.ps [I hi] 0] (by simp [KFL,KF]) (fun x=>!Yt lo hi x) l (fun x _=>ZcG lo hi x) hl
 . dsimp only [go_sem,rA,rM,rS]
   simp [List.all_eq_not_any_not]
theorem Zdv (lo hi:Int) (s:Span) (c:Bool):Ct Try.prog 28 [I lo,I hi,.sl c 2 [[I s.lo,I s.hi]]] (B (Yt lo hi s)):=by
 have:=Uz lo hi [s] (by simp) c
 simpa [Zd] using this
end Go.Proofs.Ytiigiflofnjilaa
namespace Go.Sx
open Go Go.RowKit
theorem Ct.res {P:Program} {f:FuncId} {args:List SV} {res res0:SV} (h:Ct P f args res) (kr:KF res0) (hw:Z6 res res0):Ct P f args res0 :=
 ⟨h.1,h.2,kr,fun w ok vs hR=>Calls.mono (h.4 w ok vs hR) fun e w' q=>by
  obtain ⟨y,h1,h2,h3⟩:=q
  exact ⟨y,h1,hw _ _ _ _ _ h2,h3⟩⟩
theorem XF {l:List SV}:∀ (w:World) (E:Env) (n ok:Nat->Prop) (ys:List Value),RL w E n ok l ys->RL w E n ok l ys:=fun _ _ _ _ _ h=>h
def UH (fr:List (Nat × SV)):List Nat->List (Nat × SV)
 | []=>[]
 | t :: ts=>(t,lk t fr) :: UH fr ts
theorem Zj9 (fr:List (Nat × SV)):UH fr []=[]:=rfl
theorem Zgy (fr:List (Nat × SV)) (t:Nat) (ts:List Nat):UH fr (t :: ts)=(t,lk t fr) :: UH fr ts:=rfl
attribute [go_sem] Zj9 Zgy
theorem Zdy (fr:List (Nat × SV)):∀ ts,ZuL (UH fr ts) fr
 | []=>trivial
 | _ :: ts=>⟨rfl,Zdy fr ts⟩
theorem VX {m:Nat} {σ : St} (ts:List Nat) (hg:ZuJ (UH σ.fr ts)=true):Ent m σ ⟨UH σ.fr ts,σ.hp,σ.n,σ.N,[]⟩:=by
 intro C E a w _ h
 refine ⟨E,fun t=>?_,h.sz,h.df,fun t j b s ht=>absurd ht (Zeg hg t j b s),h.hs⟩
 have hfr:=h.fr t
 rcases Zg9 (Zdy σ.fr ts) t with h1 | h1
 . rw [h1];exact trivial
 . rw [h1]
   have:=Zeg hg t
   rw [h1] at this
   cases hq:lk t σ.fr<;>rw [hq] at hfr this<;>first | exact hfr | exact absurd rfl (this _ _ _)
theorem Ui {m:Nat} {f:CT} {σ : St} {K:Ex->St->Prop} {S:Type} (ts:List Nat) (hg:ZuJ (UH σ.fr ts)=true) (ov:S->List (Nat × SV)) (hv:S->List (Nat × HB)) (rel:S->Prop) (μ : S->Nat) (s0:S) (h0:rel s0)
 (he:Ent m ⟨UH σ.fr ts,σ.hp,σ.n,σ.N,[]⟩ (stO ⟨UH σ.fr ts,σ.hp,σ.n,σ.N,[]⟩ ov hv s0))
 (hb:∀ s,rel s->f (stO ⟨UH σ.fr ts,σ.hp,σ.n,σ.N,[]⟩ ov hv s) (Zog m (stO ⟨UH σ.fr ts,σ.hp,σ.n,σ.N,[]⟩ ov hv) rel μ s K)):Zsc m f σ K :=
 Zdb (VX ts hg) ov hv rel μ s0 h0 he hb
end Go.Sx
namespace Go.Proofs.Ytiigiflofnjilaa
open Go Go.Sx Go.Azalai
theorem Zlf {α : Type} (p:α->Bool) {l:List α} {k:Nat} (h:k < l.length):(l.drop k).all p=(p l[k] && (l.drop (k+1)).all p):=by
 rw [List.drop_eq_getElem_cons h,List.all_cons]
theorem ibne (a b:Nat):((a:Int) != (b:Int)) = !decide (a=b):=by
 rw [Bool.eq_iff_iff];simp [bne];omega
theorem okX1 (n:Nat) (x:Scene):(!Yt 0 60 x.heat || !Yt 0 1000000 x.grass || (x.yields.length:Int) != (n:Int) || !x.yields.all (Yt 0 10000000) || (x.prices.length:Int) != (n:Int) || !x.prices.all (inR 0 1000000)) = !Xn n x:=by
 simp only [ibne,Xn]
 generalize Yt 0 60 x.heat=a;generalize Yt 0 1000000 x.grass=b;generalize decide (x.yields.length=n)=c;generalize decide (x.prices.length=n)=d
 generalize x.yields.all (Yt 0 10000000)=e;generalize x.prices.all (inR 0 1000000)=f
 revert a b c d e f;decide
theorem Zjv (s:Season) (hs:SmallS s):∃ xs:List (List SV),KFR xs/\Ct Try.prog 26 [.agg (YB s.land),I s.start,I s.day,.agg (Zd s.pace)] (.tup [.sl false 2 xs,I (XX s.land s.pace s.start s.day)]):=by
 have h:=ZcI s.land hs.land s.start s.day s.pace
 unfold Xu at h;split at h
 . exact ⟨_,by simp [Za,Zd,KFL,KF],h⟩
 . exact ⟨[],trivial,h.res (res0:=.tup [.sl false 2 [],I (XX s.land s.pace s.start s.day)]) (by simp [Za,KFR,KFL,KF]) (XQ (ZL Yr XF))⟩
theorem Zje {s:Season}:XX s.land s.pace s.start s.day=0↔Yf s.land=true/\Z2 s.pace=true/\inR 0 (s.land.wells.length - 1) s.start=true/\inR 0 100000 s.day=true:=by
 unfold XX UU
 cases Yf s.land<;>cases Z2 s.pace<;>cases inR 0 (s.land.wells.length - 1) s.start<;>cases inR 0 100000 s.day<;>simp
theorem Zez (s:Season):ZQ s=((decide (XX s.land s.pace s.start s.day=0) && decide (ZcA s.breed s.camel=0) && Zcy s && inR 1 4 s.scenes.length) && s.scenes.all (Xn s.land.wells.length)):=by
 have hd:Zcy s=true->inR 0 100000 s.day=true:=fun h=>by
  simp only [Zcy,inR,Bool.and_eq_true,decide_eq_true_eq] at h ⊢;omega
 have hr:decide (XX s.land s.pace s.start s.day=0)=(Yf s.land && Z2 s.pace && inR 0 (s.land.wells.length - 1) s.start && inR 0 100000 s.day):=by
  rw [Bool.eq_iff_iff,decide_eq_true_eq,Zje];simp only [Bool.and_eq_true,and_assoc]
 rw [hr]
 simp only [ZQ]
 cases hn:Zcy s
 . simp
 . rw [hd hn]
   cases Yf s.land<;>cases Z2 s.pace<;>cases inR 0 (s.land.wells.length - 1) s.start<;>simp
theorem VU (s:Season) (hs:SmallS s):Ct Try.prog 12 [.agg (Zw s)] (I (if ZQ s=true then 0 else 90)):=by
 have hw:=hs.land.1
 have hsc:=hs.sc
 refine t12.1 (by simp [Zw,Zm,Zg,Zo,Zh,Zd,Zp,Za,KFL,KF]) (by simp [KFL,KF]) ?_
 dsimp only [c12,r12,Zw,go_sem,rA,rM,rS]
 obtain ⟨x,hx0,hc⟩:=Zjv s hs
 refine call hc ?_
 dsimp only [go_sem,rA,rM,rS]
 repeat (first | (refine gb ?_;dsimp only [go_sem,rA,rM,rS]) | (refine call (ZeW _ _ _ _) ?_;dsimp only [go_sem,rA,rM,rS]) | (refine call (ZpV _ _ _ _ _) ?_;dsimp only [go_sem,rA,rM,rS]) | (refine call (Cm.checkCamel_ok s.breed s.camel) ?_;dsimp only [go_sem,rA,rM,rS]))
 simp only [List.length_map]
 by_cases hA:(decide (XX s.land s.pace s.start s.day=0) && decide (ZcA s.breed s.camel=0) && Zcy s && inR 1 4 s.scenes.length)=true
 case neg =>
  refine Zt ?_ ?_
  . simp only [Zcy] at hA;grind
  dsimp only [go_sem,rA,rM,rS]
  rw [Zez,Bool.eq_false_iff.2 hA,Bool.false_and];rfl
 refine Zv ?_ ?_
 . simp only [Zcy] at hA;grind
 dsimp only [go_sem,rA,rM,rS]
 rw [Zez,hA,Bool.true_and]
 simp only [List.length_map]
 refine Ui [1,3,85,86,87] rfl (fun k:Nat=>[(87,I k)]) (fun _=>[]) (fun k=>k<=s.scenes.length/\(s.scenes.drop k).all (Xn s.land.wells.length)=s.scenes.all (Xn s.land.wells.length)) (fun k=>s.scenes.length - k) 0 ⟨Nat.zero_le _,rfl⟩ ?_ ?_
 . (refine Zl ?_ ?_ ?_ rfl rfl<;>dsimp only [Zh,Zg,Zo,Zm,Zd,Zp,hx0,id,go_sem,rA,rM,rS]<;>simp [Zh,Zg,Zo,Zm,Zd,Zp,hx0,Za,Zf,KFR,KFL,KF,Zc,mtO,nbr])
 intro k ⟨hk,hi⟩
 dsimp only [go_sem,rA,rM,rS]
 by_cases hlt:k < s.scenes.length
 . refine Zt (by simpa using hlt) ?_
   dsimp only [go_sem,rA,rM,rS]
   have hx:=hs.each _ (List.getElem_mem hlt)
   refine Zs k hlt rfl ?_
   dsimp only [Zm,go_sem,rA,rM,rS]
   repeat (first | (refine gb ?_;dsimp only [go_sem,rA,rM,rS]) | (refine call (Zdv _ _ s.scenes[k].heat _) ?_;dsimp only [go_sem,rA,rM,rS]) | (refine call (Zdv _ _ s.scenes[k].grass _) ?_;dsimp only [go_sem,rA,rM,rS]) | (refine call (Uz _ _ s.scenes[k].yields (by omega) _) ?_;dsimp only [go_sem,rA,rM,rS]) | (refine call (Zap _ _ s.scenes[k].prices (by omega) _) ?_;dsimp only [go_sem,rA,rM,rS]))
   simp only [List.length_map]
   rw [Zlf _ hlt] at hi
   rw [okX1]
   refine br ?_ ?_
   . intro hb
     dsimp only [go_sem,rA,rM,rS]
     rw [<- hi,(by simpa using hb:Xn s.land.wells.length s.scenes[k]=false)];rfl
   intro hb
   dsimp only [go_sem,rA,rM,rS]
   rw [Zi (n:=(k:Int)+1) (by omega) (by omega)]
   rw [(by simpa using hb:Xn s.land.wells.length s.scenes[k]=true),Bool.true_and] at hi
   refine ⟨k+1,⟨hlt,hi⟩,by omega,?_⟩
   (refine Zl ?_ ?_ ?_ rfl rfl<;>dsimp only [Zh,Zg,Zo,Zm,Zd,Zp,hx0,id,go_sem,rA,rM,rS]<;>simp [Zh,Zg,Zo,Zm,Zd,Zp,hx0,Za,Zf,KFR,KFL,KF,Zc,mtO,nbr])
 refine Zv (by simp;omega) ?_
 dsimp only [go_sem,rA,rM,rS]
 rw [<- hi,List.drop_eq_nil_of_le (by omega)]
 rfl
end Go.Proofs.Ytiigiflofnjilaa
namespace Go.Azalai
open Go.Sx
def Xs (l:Land) (p:Span) (to till:Int):Nat->List Int->Int->Int->List (List Nat)
 | 0,_,_,_=>[]
 | f+1,been,v,t =>
  if t > till then []
  else if v=to then [[]]
  else (List.range l.legs.length).flatMap fun i=>match l.legs[i]? with
   | none=>[]
   | some x=>if Zk x v < 0\/Zk x v ∈ v :: been then [] else (Xs l p to till f (v :: been) (Zk x v) (ZM true x p t)).map (i :: ·)
def YU (l:Land) (p:Span) (to till:Int) (f:Nat) (been:List Int) (v t:Int) (i:Nat):List (List Nat) :=
 match l.legs[i]? with
 | none=>[]
 | some x=>if Zk x v < 0\/Zk x v ∈ v :: been then [] else (Xs l p to till f (v :: been) (Zk x v) (ZM true x p t)).map (i :: ·)
def Z0 (l:Land) (p:Span) (to till:Int) (f:Nat) (been:List Int) (v t:Int) (j:Nat):List (List Nat):=(List.range j).flatMap (YU l p to till f been v t)
theorem ZcD {l:Land} {p:Span} {to till:Int} {f:Nat} {been:List Int} {v t:Int}:Z0 l p to till f been v t 0=[]:=rfl
theorem ZV {l:Land} {p:Span} {to till:Int} {f:Nat} {been:List Int} {v t:Int} {j:Nat}:Z0 l p to till f been v t (j+1)=Z0 l p to till f been v t j ++ YU l p to till f been v t j:=by
 simp [Z0,List.range_succ]
theorem Yx {l:Land} {p:Span} {to till:Int} {f:Nat} {been:List Int} {v t:Int}:Xs l p to till (f+1) been v t=if t > till then [] else if v=to then [[]] else Z0 l p to till f been v t l.legs.length:=rfl
theorem ZbN {l:Land} {p:Span} {to till:Int} {f:Nat} {been:List Int} {v t:Int} (h:t > till):Xs l p to till f been v t=[]:=by
 cases f with
 | zero=>rfl
 | succ f=>rw [Yx,if_pos h]
def cap (L:List (List Nat)):List (List Nat):=L.take 201
theorem Zcf {A B:List (List Nat)} (h:A.length > 200):cap (A ++ B)=cap A:=by
 unfold cap;rw [List.take_append_of_le_length (by omega)]
theorem WO {A:List (List Nat)} (h:A.length<=201):cap A=A:=List.take_of_length_le h
def ZkC (l:Land) (f:Nat) (been:List Int):Prop:=been.Nodup/\(∀ v ∈ been,0<=v/\v < l.wells.length)/\f+been.length=l.wells.length+1
theorem Zc4 {n:Nat}:∀ {been:List Int},been.Nodup->(∀ v ∈ been,0<=v/\v < n)->been.length<=n:=by
 intro been hn hb
 have h1:(been.map Int.toNat).Nodup:=by
  rw [List.Nodup,List.pairwise_map]
  refine List.Pairwise.imp_of_mem (fun {a b} ha hb' hab=>?_) hn
  have:=hb a ha;have:=hb b hb';omega
 have h2:∀ x ∈ been.map Int.toNat,x ∈ List.range n:=fun x hx=>by
  obtain ⟨v,hv,rfl⟩:=List.mem_map.1 hx
  have:=hb v hv
  simp only [List.mem_range];omega
 have:=List.Nodup.length_le_of_subset h1 h2
 simpa using this
theorem ZkC.pos {l:Land} {f:Nat} {been:List Int} {v:Int} (h:ZkC l f been) (hv:v ∉ been) (hi:0<=v/\v < l.wells.length):∃ g,f=g+1/\ZkC l g (v :: been):=by
 obtain ⟨h1,h2,h3⟩:=h
 have hn:(v :: been).Nodup:=List.nodup_cons.2 ⟨hv,h1⟩
 have hb:∀ u ∈ v :: been,0<=u/\u < l.wells.length:=fun u hu=>by
  rcases List.mem_cons.1 hu with rfl | hu
  . exact hi
  . exact h2 u hu
 have:=Zc4 hn hb
 simp only [List.length_cons] at this
 exact ⟨f - 1,by omega,hn,hb,by simp only [List.length_cons];omega⟩
theorem ZkC.start {l:Land}:ZkC l (l.wells.length+1) []:=⟨List.nodup_nil,fun v h=>(by cases h),by simp⟩
def ZbY (l:Land) (p:Span) (s to day till:Int):Int :=
 if UU l p≠0 then UU l p
 else if (inR 0 (l.wells.length - 1) s && inR 0 (l.wells.length - 1) to && inR 0 100000 day && inR 0 100000 till)=false then 2
 else if (Xs l p to till (l.wells.length+1) [] s day).length > 200 then 9 else 0
def Ut (l:Land) (p:Span) (s to day till:Int):List (List Nat):=Xs l p to till (l.wells.length+1) [] s day
end Go.Azalai
namespace Go.Proofs.Ytiigiflofnjilaa
open Go Go.Sx Go.Azalai
def Yb (n:Nat):List SV:=[I (n:Int)]
def ZU (a:List Nat):SV:=.sl false 1 (a.map Yb)
theorem Zqn (a:Int):Ct Try.prog 85 [I a] (B false):=by
 refine t85.1 (by simp [KFR,KFL,KF]) (by simp [KFL,KF]) ?_
 dsimp only [c85,r85,go_sem,rA,rM,rS]
 simp
def ZkF (a b:Int):Int:=if a < b then -1 else if a > b then 1 else 0
theorem Zsq (a b:Int):Ct Try.prog 66 [I a,I b] (I (ZkF a b)):=by
 refine t66.1 (by simp [KFR,KFL,KF]) (by simp [KFL,KF]) ?_
 dsimp only [c66,r66,go_sem,rA,rM,rS]
 refine call (Zqn a) ?_
 dsimp only [go_sem,rA,rM,rS]
 refine call (Zqn b) ?_
 dsimp only [go_sem,rA,rM,rS]
 refine Zv rfl ?_
 dsimp only [go_sem,rA,rM,rS]
 refine Zv rfl ?_
 dsimp only [go_sem,rA,rM,rS]
 by_cases h:a < b
 . refine Zt (by simpa using h) ?_
   dsimp only [go_sem,rA,rM,rS]
   simp [ZkF,h]
 refine Zv (by simpa using h) ?_
 dsimp only [go_sem,rA,rM,rS]
 by_cases h':a > b
 . refine Zt (by simpa using h') ?_
   dsimp only [go_sem,rA,rM,rS]
   simp only [ZkF,if_neg h,if_pos h']
 refine Zv (by simpa using h') ?_
 dsimp only [go_sem,rA,rM,rS]
 simp only [ZkF,if_neg h,if_neg h']
def Ux:List Nat->List Nat->Int
 | [],[]=>0
 | [],_ :: _=>-1
 | _ :: _,[]=>1
 | x :: a,y :: b=>if x < y then -1 else if x > y then 1 else Ux a b
theorem ZeD:∀ {a b:List Nat},decide (Ux a b < 0)=WN a b
 | [],[]=>rfl
 | [],_ :: _=>rfl
 | _ :: _,[]=>rfl
 | x :: a,y :: b=>by
  have ih:=ZeD (a:=a) (b:=b)
  have e:Ux (x :: a) (y :: b)=if x < y then -1 else if x > y then 1 else Ux a b:=rfl
  generalize Ux (x :: a) (y :: b)=c at e
  subst e
  simp only [WN]
  by_cases h:x < y
  . simp [h]
  . by_cases h':x > y
    . have:(x == y)=false:=by simp;omega
      rw [this];simp [h,h']
    . have:(x == y)=true:=by simp;omega
      rw [this];simp [h,h',<- ih]
theorem Zfe (a b:List Nat) (ha:a.length<=1000000) (hb:b.length<=1000000):Ct Try.prog 45 [ZU a,ZU b] (I (Ux a b)):=by
 refine t45.1 (by simp [Za,ZU,Yb,KFL,KF]) (by simp [KFL,KF]) ?_
 dsimp only [c45,r45,ZU,go_sem,rA,rM,rS]
 simp only [List.length_map]
 refine XO (fun j:Nat=>[(11,I j)]) (fun _=>[]) (fun j=>j<=a.length/\Ux (a.drop j) (b.drop j)=Ux a b/\j<=b.length) (fun j=>a.length - j) 0 ⟨Nat.zero_le _,rfl,Nat.zero_le _⟩ ?_ ?_
 . (refine Zl ?_ ?_ ?_ rfl rfl<;>dsimp only [Yb,id,go_sem,rA,rM,rS]<;>simp [Yb,Za,Zf,KFR,KFL,KF,Zc,mtO,nbr])
 rintro j ⟨hj,hi,hjb⟩
 dsimp only [go_sem,rA,rM,rS]
 by_cases hlt:j < a.length
 . refine Zt (by simpa using hlt) ?_
   dsimp only [go_sem,rA,rM,rS]
   refine Zs j hlt rfl ?_
   dsimp only [Yb,go_sem,rA,rM,rS]
   simp only [List.length_map]
   rw [List.drop_eq_getElem_cons hlt] at hi
   by_cases hb:j < b.length
   . refine Zv (by simpa using hb) ?_
     dsimp only [go_sem,rA,rM,rS]
     refine Zs j hb rfl ?_
     dsimp only [Yb,go_sem,rA,rM,rS]
     refine call (Zsq _ _) ?_
     dsimp only [go_sem,rA,rM,rS]
     rw [List.drop_eq_getElem_cons hb] at hi
     simp only [Ux] at hi
     by_cases h:a[j] < b[j]
     . rw [if_pos h] at hi
       have e:ZkF (a[j]:Int) (b[j]:Int) = -1:=by simp only [ZkF];rw [if_pos (by omega)]
       rw [e]
       refine Zt rfl ?_
       dsimp only [go_sem,rA,rM,rS]
       rw [<- hi]
     rw [if_neg h] at hi
     by_cases h':a[j] > b[j]
     . rw [if_pos h'] at hi
       have e:ZkF (a[j]:Int) (b[j]:Int)=1:=by simp only [ZkF];rw [if_neg (by omega),if_pos (by omega)]
       rw [e]
       refine Zt rfl ?_
       dsimp only [go_sem,rA,rM,rS]
       rw [<- hi]
     rw [if_neg h'] at hi
     have e:ZkF (a[j]:Int) (b[j]:Int)=0:=by simp only [ZkF];rw [if_neg (by omega),if_neg (by omega)]
     rw [e]
     refine Zv rfl ?_
     dsimp only [go_sem,rA,rM,rS]
     rw [Zi (n:=(j:Int)+1) (by omega) (by omega)]
     refine ⟨j+1,⟨hlt,hi,hb⟩,by omega,?_⟩
     (refine Zl ?_ ?_ ?_ rfl rfl<;>dsimp only [Yb,id,go_sem,rA,rM,rS]<;>simp [Yb,Za,Zf,KFR,KFL,KF,Zc,mtO,nbr])
   . refine Zt (by simp;omega) ?_
     dsimp only [go_sem,rA,rM,rS]
     rw [List.drop_of_length_le (l:=b) (i:=j) (by omega)] at hi
     simp only [Ux] at hi
     rw [<- hi]
 refine Zv (by simp;omega) ?_
 dsimp only [go_sem,rA,rM,rS]
 simp only [List.length_map]
 rw [List.drop_of_length_le (by omega)] at hi
 have hje:j=a.length:=by omega
 subst hje
 by_cases hb:a.length < b.length
 . refine Zt (by simpa using hb) ?_
   dsimp only [go_sem,rA,rM,rS]
   rw [List.drop_eq_getElem_cons hb] at hi
   simp only [Ux] at hi
   rw [<- hi]
 . refine Zv (by simpa using hb) ?_
   dsimp only [go_sem,rA,rM,rS]
   rw [List.drop_of_length_le (by omega)] at hi
   simp only [Ux] at hi
   rw [<- hi]
theorem u78 {args:List SV} {res:SV} (ka:KFL args) (kr:KF res) (h:sx Try.prog Y0 0 c40 (st0 args 8) (Znw r40 res)) (hA:Nat.ble args.length 8=true:=by rfl):Ct Try.prog 40 args res:=X9 Try.func40 rfl b40 Zwc Zwr n40 (Nat.le_of_ble_eq_true hA) ka kr h
theorem ZaW (a:List Nat) (ha:a.length<=1000000):Ct Try.prog 40 [ZU a] (ZU a):=by
 refine u78 (by simp [Za,ZU,Yb,KFL,KF]) (by simp [Za,ZU,Yb,KFL,KF]) ?_
 dsimp only [c40,r40,ZU,go_sem,rA,rM,rS]
 intro b hb
 dsimp only [go_sem,rA,rM,rS]
 refine br ?_ ?_
 . intro h
   have:=hb h
   dsimp only [go_sem,rA,rM,rS]
   rw [List.map_eq_nil_iff.1 this]
   exact ⟨_,rfl,Yr⟩
 . intro h
   dsimp only [go_sem,rA,rM,rS]
   refine Zw9 (by simp;omega) ?_
   dsimp only [go_sem,rA,rM,rS]
   exact ⟨_,rfl,Z6.rfl⟩
theorem ZsQ (a:List Nat) (ha:a.length<=1000000):Ct Try.prog 62 [ZU a] (.sl true 1 (a.map Yb)):=by
 refine t62.1 (by simp [Za,ZU,Yb,KFL,KF]) (by simp [Za,ZU,Yb,KFL,KF]) ?_
 dsimp only [c62,r62,ZU,go_sem,rA,rM,rS]
 refine ⟨ZI.2 fun _=>⟨rfl,rfl⟩,?_⟩
 dsimp only [go_sem,rA,rM,rS]
theorem ZbZ (a:List Nat) (i:Nat) (ha:a.length<=1000000):Ct Try.prog 43 [ZU a,I i] (ZU (a ++ [i])):=by
 refine t43.1 (by simp [Za,ZU,Yb,KFL,KF]) (by simp [KFL,KF,ZU,Za,Yb,Zf,KFR]) ?_
 dsimp only [c43,r43,go_sem,rA,rM,rS]
 refine call (ZaW a ha) ?_
 dsimp only [go_sem,rA,rM,rS]
 refine call (ZsQ a ha) ?_
 dsimp only [go_sem,rA,rM,rS]
 refine Zw9 (by simp;omega) ?_
 dsimp only [ZU,go_sem,rA,rM,rS]
 simp [Yb]
theorem Zu {K V:Type} {key:K->Value} {val:V->SV}:mpS key val ([]:List (Nat × K × V))=[]:=rfl
def c39:FB:=(.seq (.gh (.reg [
 o1 8 (.box (.t 0) 0 109),
 o1 9 (.box (.t 1) 0 40),
 o1 10 (.alloc [.bool false] 4)]))
 (.seq (.seq (.reg [
 o1 13 (.addo (.t 8) 1),
 o1 14 (.ld (.t 13) 1 false),
 o1 15 (.ld (.t 2) 1 false),
 o1 16 (.bin .gtr (.t 14) (.t 15))])
 (.cond (.t 16)
 (.seq (.reg [
  ⟨none,.st (.t 10) (.c (.bool true)) 1,none,[]⟩])
  .ret)
 .skip))
 (.seq (.seq (.reg [
 o1 17 (.addo (.t 8) 0),
 o1 18 (.ld (.t 17) 1 false),
 o1 19 (.ld (.t 3) 1 false),
 o1 20 (.bin .eql (.t 18) (.t 19))])
 (.cond (.t 20)
 (.seq (.regd [0,1,2,3,4,5] [
  .op (o1 21 (.ld (.t 4) 1 false)),
  .op (o1 22 (.ld (.t 9) 1 false)),
  .op ⟨some 23,.call 40 [.t 22],none,[1]⟩,
  .op ⟨some 24,.bsl 1 40 [.t 23],none,[2]⟩] 0 2 [
  ⟨some 25,.appm 1 24 40 (.t 21) (.t 24),none,[0,2,3]⟩,
  ⟨none,.st (.t 4) (.t 25) 1,none,[0,1,2,3,4]⟩])
  (.seq (.reg [
  o1 26 (.ld (.t 4) 1 false),
  o1 27 (.len (.t 26)),
  o1 28 (.bin .leq (.t 27) (.c (.int .i64 200))),
  ⟨none,.st (.t 10) (.t 28) 1,none,[]⟩])
  .ret))
 .skip))
 (.seq (.reg [
 o1 29 (.ld (.t 5) 1 false),
 o1 30 (.addo (.t 8) 0),
 o1 31 (.ld (.t 30) 1 false),
 ⟨none,.raw (Go.Op.mapUpdate 100 (Go.Operand.tmp 29) (Go.Operand.tmp 31) (Go.Operand.const (Go.Value.bool Bool.true))) 0,none,[]⟩])
 (.dfr [
 o1 32 (.ld (.t 5) 1 false),
 o1 33 (.addo (.t 8) 0),
 o1 34 (.ld (.t 33) 1 false)] (.t 32) (.t 34) 100
 (.tail (.seq (.seq (.reg [
 o1 35 (.ld (.t 6) 4 true),
 o1 36 (.addo (.t 8) 0),
 o1 37 (.ld (.t 36) 1 false),
 o1 38 (.callm 41 [.t 35,.t 37])])
 (.block 0 (.gh (.rfun (.t 38) [39,40] (.seq (.reg [
  m1 11 39])
  (.reg [
  m1 12 40]))
  (.block 1 (.seq (.regs [0,1,2,3,4,5,6,7,8,9,10,11,12,13,14,15,16,17,18,19,20,21,22] ⟨[
   .op (o1 41 (.ld (.t 5) 1 false)),
   .op (m1 42 12)],0,0,[
   ⟨some 43,.raw (Go.Op.lookup 100 (Go.Operand.tmp 41) (Go.Operand.tmp 42) Bool.false) 4,none,[0,1]⟩]⟩ [⟨[
   .op ⟨some 44,.un .not (.t 43),none,[2]⟩,
   .op ⟨some 45,.mv (.t 44),none,[3]⟩,
   .op ⟨some 46,.ld (.t 7) 1 false,some (45,true),[4]⟩,
   .op ⟨some 47,.mv (.t 12),some (45,true),[4]⟩,
   .op ⟨some 48,.ld (.t 6) 4 true,some (45,true),[4]⟩,
   .op ⟨some 49,.mv (.t 11),some (45,true),[4]⟩,
   .op ⟨some 50,.addo (.t 8) 1,some (45,true),[4]⟩,
   .op ⟨some 51,.ld (.t 50) 1 false,some (45,true),[4,9]⟩,
   .op ⟨some 52,.addo (.t 8) 1,some (45,true),[4]⟩,
   .op ⟨some 53,.ld (.t 52) 1 false,some (45,true),[4,11]⟩,
   .op ⟨some 54,.build [.int .i64 0,.int .i64 0] [(0,1,.t 51),(1,1,.t 53)],some (45,true),[4,10,12]⟩,
   .op ⟨some 55,.call 42 [.t 48,.t 49,.t 54],some (45,true),[4,7,8,13]⟩,
   .op ⟨some 56,.idx (.t 55) (.c (.int .i64 1)) 2 1 false,some (45,true),[4,14]⟩,
   .op ⟨some 57,.build [.int .i64 0,.int .i64 0] [(0,1,.t 47),(1,1,.t 56)],some (45,true),[4,6,15]⟩,
   .op ⟨some 58,.ld (.t 9) 1 false,some (45,true),[4]⟩,
   .op ⟨some 59,.mv (.t 11),some (45,true),[4]⟩,
   .op ⟨some 60,.call 43 [.t 58,.t 59],some (45,true),[4,14,17,18]⟩],0,0,[
   ⟨some 61,.calvm (.t 46) [.t 57,.t 60],some (45,true),[4,5,16,19]⟩,
   ⟨some 62,.un .not (.t 61),some (45,true),[4,20]⟩,
   ⟨some 63,.pick (.t 45) (.t 62) (.c (.bool false)),none,[4,21]⟩]⟩])
   (.cond (.t 63)
   (.seq (.reg [
    ⟨none,.st (.t 10) (.c (.bool false)) 1,none,[]⟩])
    .ret)
   .skip)))))))
 (.seq (.reg [
 ⟨none,.st (.t 10) (.c (.bool true)) 1,none,[]⟩])
 .ret))))))))
def r39:List RV:=[.cell 10 1 false]
theorem n39:Try.f39.ntmps=64:=by kernel_rfl
theorem b39:YE Try.prog 39=true:=by kernel_rfl
theorem ZwN:UI Try.prog c39 ((Try.f39.body).getD .skip)=true:=by kernel_rfl
theorem Zvq:X8 Try.prog r39 Try.f39.results.toList=true:=by kernel_rfl
theorem m39 {n0:Nat} {hp0:List (Nat × HB)} {args:List SV} {ZX:Ot->Prop} (hh:hpb n0 hp0) (hx:∀ o,ZX o->KX o.res/\KXP o.hp) (h:fx Try.prog n0 c39 ⟨enum 0 args,hp0,n0,64,[]⟩ (retM r39 fun o=>∃ o',ZX o'/\Zd8 n0 o o')) (hA:Nat.ble args.length 64=true:=by rfl):CtM Try.prog 39 hp0 n0 args ZX:=ZbE Try.func39 rfl b39 ZwN Zvq n39 (Nat.le_of_ble_eq_true hA) hh hx h
def c23:SC:=(.seq (.reg [
 o1 6 (.box (.t 0) 0 29),
 o1 8 (.box (.t 2) 0 3),
 o1 10 (.box (.t 4) 0 3),
 o1 11 (.box (.t 5) 0 31),
 o1 12 (.mv (.c (.slice none 0 0))),
 o1 13 (.mv (.c (.int .i64 0)))])
 (.seq (.reg [
 o1 20 (.ld (.t 6) 2 true),
 o1 21 (.ld (.t 11) 2 true),
 o1 22 (.call 37 [.t 20,.t 21]),
 m1 19 22,
 o1 23 (.ext (.t 19) 0),
 o1 24 (.ext (.t 19) 1),
 o1 14 (.alloc [.slice none 0 0,.slice none 0 0,.int .i64 0,.int .i64 0] 104),
 ⟨none,.st (.t 14) (.t 23) 4,none,[]⟩,
 m1 15 24])
 (.seq (.block 0 (.seq (.reg [
  m1 26 15,
  o1 27 (.bin .neq (.t 26) (.c (.int .i64 0))),
  m1 25 27])
  (.cond (.t 25)
  (.seq (.reg [
   m1 28 15,
   o1 12 (.mv (.c (.slice none 0 0))),
   m1 13 28])
   .ret)
  (.seq (.reg [
   o1 30 (.addo (.t 6) 0),
   o1 31 (.ld (.t 30) 1 false),
   o1 32 (.len (.t 31)),
   o1 33 (.bin .sub (.t 32) (.c (.int .i64 1))),
   m1 34 1,
   o1 35 (.ld (.t 8) 1 false),
   o1 36 (.bsl 1 3 [.t 34,.t 35]),
   o1 37 (.call 38 [.c (.int .i64 0),.t 33,.t 36]),
   o1 38 (.un .not (.t 37)),
   m1 39 38,
   ⟨some 40,.mv (.t 3),some (39,false),[]⟩,
   ⟨some 41,.ld (.t 10) 1 false,some (39,false),[]⟩,
   ⟨some 42,.bsl 1 3 [.t 40,.t 41],some (39,false),[]⟩,
   ⟨some 43,.call 38 [.c (.int .i64 0),.c (.int .i64 100000),.t 42],some (39,false),[]⟩,
   ⟨some 44,.un .not (.t 43),some (39,false),[]⟩,
   o1 45 (.pick (.t 39) (.c (.bool true)) (.t 44)),
   m1 29 45])
   (.cond (.t 29)
   (.seq (.reg [
    o1 12 (.mv (.c (.slice none 0 0))),
    o1 13 (.mv (.c (.int .i64 2)))])
    .ret)
   .skip)))))
 (.seq (.reg [
 o1 16 (.alloc [.slice none 0 0] 83)])
 (.seq (.reg [
 o1 46 (.raw (Go.Op.makeMap 100 Option.none) 100),
 o1 17 (.alloc [.map none] 100),
 ⟨none,.st (.t 17) (.t 46) 1,none,[]⟩])
 (.seq (.reg [
 o1 18 (.alloc [.nilFunc] 107)])
 (.seq (.reg [
 o1 47 (.mkf 39 [.t 10,.t 8,.t 16,.t 17,.t 14,.t 18]),
 ⟨none,.st (.t 18) (.t 47) 1,none,[]⟩])
 (.seq (.seq (.gh (.reg [
 o1 48 (.ld (.t 18) 1 false),
 m1 49 1,
 m1 50 3,
 o1 51 (.build [.int .i64 0,.int .i64 0] [(0,1,.t 49),(1,1,.t 50)]),
 o1 52 (.calvm (.t 48) [.t 51,.c (.slice none 0 0)]),
 o1 53 (.un .not (.t 52))]))
 (.cond (.t 53)
 (.seq (.reg [
  o1 12 (.mv (.c (.slice none 0 0))),
  o1 13 (.mv (.c (.int .i64 9)))])
  .ret)
 .skip))
 (.seq (.reg [
 o1 54 (.ld (.t 16) 1 false),
 m1 12 54,
 o1 13 (.mv (.c (.int .i64 0)))])
 .ret)))))))))
def r23:List RV:=[.tmp 12,.tmp 13]
theorem t23:Qt1 Try.prog 23 c23 r23 55:=Yn Try.func23 rfl (by kernel_rfl) (by kernel_rfl) (by kernel_rfl) (by kernel_rfl)
end Go.Proofs.Ytiigiflofnjilaa
namespace Go.Azalai
open Go.Sx
theorem Y1 {l:Land} {p:Span} {to till:Int} {f:Nat} {been:List Int} {v t:Int} {j:Nat}:∀ (k:Nat),∃ R,Z0 l p to till f been v t (j+k)=Z0 l p to till f been v t j ++ R
 | 0=>⟨[],by simp⟩
 | k+1=>by
  obtain ⟨R,h⟩:=Y1 k
  exact ⟨R ++ YU l p to till f been v t (j+k),by rw [<- Nat.add_assoc,ZV,h,List.append_assoc]⟩
theorem X7 {l:Land} {p:Span} {to till:Int} {f:Nat} {been:List Int} {v t:Int} {j:Nat} {x:Leg} (hx:l.legs[j]? = some x) (h:Zk x v < 0\/Zk x v ∈ v :: been):YU l p to till f been v t j=[]:=by
 simp only [YU,hx];rw [if_pos h]
theorem Wk {l:Land} {p:Span} {to till:Int} {f:Nat} {been:List Int} {v t:Int} {j:Nat} {x:Leg} (hx:l.legs[j]? = some x) (h0:¬ Zk x v < 0) (h:Zk x v ∉ v :: been) :
 YU l p to till f been v t j=(Xs l p to till f (v :: been) (Zk x v) (ZM true x p t)).map (j :: ·):=by
 simp only [YU,hx];rw [if_neg (fun q=>q.elim h0 h)]
end Go.Azalai
namespace Go.Proofs.Ytiigiflofnjilaa
open Go Go.Sx Go.Azalai
def Ym (w:List Nat):List SV:=[ZU w]
def YA (l:Land) (p:Span) (till to:Int) (all:List (List Nat)) (ver:Nat) (L:List (Nat × Int × Bool)) (clk:Nat):List (Nat × HB) :=
 [(0,.cells [I till] 3),(1,.cells [I to] 3),(2,.cells [.mr 6 ver] 83),(3,.cells [.mp 7] 100),(4,.cells (ZF l p) 104),(5,.cells [.cl 39 [.p 0 0,.p 1 0,.p 2 0,.p 3 0,.p 4 0,.p 5 0]] 107),(6,.row ver 1 (all.map Ym) 40),(7,.map (mpS kI B L) clk)]
def lookP (l:Land) (p:Span) (till to:Int) (all:List (List Nat)) (L:List (Nat × Int × Bool)) (W:List (List Nat)):Ot->Prop:=fun o =>
 ∃ ver clk,MW L clk/\o=⟨false,B (decide ((all ++ W).length<=200)),YA l p till to (cap (all ++ W)) ver L clk,8⟩
def Zdu (been:List Int) (L:List (Nat × Int × Bool)):Prop:=∀ u:Int,Xk u L=if u ∈ been then some true else none
theorem ZeN {L:List (Nat × Int × Bool)} {c:Nat} {v:Int} {b:Bool} (h:Xk v L=none):V7 v (VD c v b L)=L:=by
 rw [UT h]
 have key:∀ (L:List (Nat × Int × Bool)),Xk v L=none->V7 v (L ++ [(c,v,b)])=L:=by
  intro L
  induction L with
  | nil=>intro _;simp [V7]
  | cons e L ih =>
   intro h
   have hne:e.2.1≠v:=Xh.1 h e (by simp)
   have hL:Xk v L=none:=Xh.2 fun x hx=>Xh.1 h x (by simp [hx])
   have:=ih hL
   obtain ⟨e1,e2,e3⟩:=e
   simp only at hne
   simp only [List.cons_append,V7]
   rw [this]
   simp [hne,Ne.symm hne]
 exact key L h
theorem ZtK (l:Land) (p:Span) (hs:Vg l) (hok:OkLP l p) (till to:Int):∀ (f:Nat) (been:List Int) (v t:Int) (way:List Nat) (all:List (List Nat)) (ver clk:Nat) (L:List (Nat × Int × Bool)) (s1:SV),ZkC l f been->v ∉ been->(0<=v/\v < l.wells.length)->(0<=t/\t<=100001) ->
 way.length+f<=1000->all.length<=200->MW L clk->Zdu been L->(s1=ZU way\/s1 = .v (.slice none 0 0)/\way=[]) ->
 CtM Try.prog 39 (YA l p till to all ver L clk) 8 [.agg [I v,I t],s1,.p 0 0,.p 1 0,.p 2 0,.p 3 0,.p 4 0,.p 5 0] (lookP l p till to all L ((Xs l p to till f been v t).map (way ++ ·))):=by
 intro f
 induction f with
 | zero =>
  intro been v t way all ver clk L s1 hR hv hvi
  obtain ⟨g,h,_⟩:=hR.pos hv hvi
  omega
 | succ f ih =>
 intro been v t way all ver clk L s1 hR hv hvi ht hlen hall hM hbL hs1
 obtain ⟨g,hg,hR'⟩:=hR.pos hv hvi
 have hgf:g=f:=by omega
 subst hgf
 have hleg:=hs.2.1
 refine m39 (by simp [hpb,YA]) (fun o ho=>?_) ?_
 . obtain ⟨ver',clk',_,rfl⟩:=ho
   simp [YA,KX,KXL,KXP,KXH,Za,KFL,KF,ZF,Zg,Zo,Zh,Ym,ZU,Yb,Zq,Zn]
 dsimp only [c39,r39,YA,go_sem,rA,rM,rS]
 rcases hs1 with rfl | ⟨rfl,hw0⟩
 . refine gh Ww ?_
   dsimp only [ZU,go_sem,rA,rM,rS]
   refine br ?_ ?_
   . intro hlate
     have hlate:t > till:=of_decide_eq_true hlate
     dsimp only [go_sem,rA,rM,rS]
     refine ⟨_,⟨ver,clk,hM,rfl⟩,?_⟩
     rw [ZbN hlate,List.map_nil,List.append_nil,WO (by omega),decide_eq_true hall]
     (refine Z5 ?_ ?_ ?_ rfl<;>dsimp only [ZF,Zg,Zo,Zh,Ym,ZU,Yb,Zu,Zq,Zn,Za,YA,id,go_sem,rA,rM,rS]<;>simp [ZF,Zg,Zo,Zh,Ym,ZU,Yb,Zu,Zq,Zn,Za,YA,Za,Zf,KFR,KFL,KF,Zc,mtO,nbr])
   intro hlate
   have hlate:¬ t > till:=of_decide_eq_false hlate
   dsimp only [go_sem,rA,rM,rS]
   refine br ?_ ?_
   . intro hto
     have hto:v=to:=by simpa using hto
     dsimp only [go_sem,rA,rM,rS]
     refine call (ZaW way (by omega)) ?_
     dsimp only [ZU,go_sem,rA,rM,rS]
     simp only [nbr]
     dsimp only [go_sem,rA,rM,rS]
     refine ⟨(by intro c hc;simp only [List.mem_singleton] at hc;subst hc;rfl),by simp;omega,?_⟩
     dsimp only [go_sem,rA,rM,rS]
     simp only [nbr]
     dsimp only [go_sem,rA,rM,rS]
     have e:all.map Ym ++ [[SV.sl false 1 (way.map Yb)]]=(all ++ [way]).map Ym:=by simp [Ym,ZU]
     rw [e]
     refine ⟨_,⟨ver+1,clk,hM,rfl⟩,?_⟩
     rw [Yx,if_neg hlate,if_pos hto]
     simp only [List.map_cons,List.map_nil,List.append_nil,List.length_map]
     rw [WO (by simp;omega)]
     have hd:decide (((all ++ [way]).length:Int)<=200)=decide ((all ++ [way]).length<=200):=by simp;omega
     rw [hd]
     (refine Z5 ?_ ?_ ?_ rfl<;>dsimp only [ZF,Zg,Zo,Zh,Ym,ZU,Yb,Zu,Zq,Zn,Za,YA,id,go_sem,rA,rM,rS]<;>simp [ZF,Zg,Zo,Zh,Ym,ZU,Yb,Zu,Zq,Zn,Za,YA,Za,Zf,KFR,KFL,KF,Zc,mtO,nbr])
   intro hto
   have hto:¬ v=to:=by simpa using hto
   dsimp only [go_sem,rA,rM,rS]
   refine ZaZ (ins:=false) (key:=kI) (val:=B) (L:=L) (k:=v) (v:=true) rfl rfl ZbR Zck rfl rfl (by simp) ?_
   dsimp only [go_sem,rA,rM,rS]
   refine ⟨rfl,?_⟩
   have hvL:Xk v L=none:=by rw [hbL,if_neg hv]
   have hM1:=hM.set (k:=v) true
   have hL1:Zdu (v :: been) (VD clk v true L):=fun u=>by
    rw [VQ]
    by_cases hu:u=v
    . simp [hu]
    . rw [if_neg hu,hbL]
      simp [hu]
   have hdel:=ZeN (L:=L) (c:=clk) (b:=true) hvL
   generalize VD clk v true L=L1 at hM1 hL1 hdel ⊢
   generalize Zbl clk v L=clk1 at hM1 ⊢
   refine Zax [] (UO l p v) rfl rfl rfl ?_ ?_ ?_
   . exact Zc (by simp [ZF,Zg,Zo,Zh,Za,KFL,KF])
   . trivial
   dsimp only [U9,ZF,go_sem,rA,rM,rS]
   refine gh Ww ?_
   dsimp only [go_sem,rA,rM,rS]
   refine ⟨b58,fun rec=>?_⟩
   refine y58 ?_
   dsimp only [c58,r58,go_sem,rA,rM,rS]
   refine XO (fun q:Nat × List (List Nat) × Nat × Nat=>[(10,I q.1)]) (fun q=>[(2,.cells [.mr 6 q.2.2.1] 83),(6,.row q.2.2.1 1 (q.2.1.map Ym) 40),(7,.map (mpS kI B L1) q.2.2.2)])
    (fun q=>q.1<=l.legs.length/\MW L1 q.2.2.2/\q.2.1=all ++ (Z0 l p to till g been v t q.1).map (way ++ ·)/\q.2.1.length<=200) (fun q=>l.legs.length - q.1) (0,all,ver,clk1) ⟨Nat.zero_le _,hM1,by simp [ZcD],hall⟩ ?_ ?_
   . (refine Zl ?_ ?_ ?_ rfl rfl<;>dsimp only [ZF,Zg,Zo,Zh,Ym,ZU,Yb,Zu,Zq,Zn,Za,id,go_sem,rA,rM,rS]<;>simp [ZF,Zg,Zo,Zh,Ym,ZU,Yb,Zu,Zq,Zn,Za,Za,Zf,KFR,KFL,KF,Zc,mtO,nbr])
   rintro ⟨j,allj,ver,clk⟩ ⟨hj,hMj,hallj,hlenj⟩
   simp only at hj hMj hallj hlenj
   dsimp only [go_sem,rA,rM,rS]
   simp only [List.length_map]
   by_cases hlt:j < l.legs.length
   . refine Zt (by simpa using hlt) ?_
     dsimp only [go_sem,rA,rM,rS]
     refine Zs j hlt rfl ?_
     dsimp only [Zo,go_sem,rA,rM,rS]
     have hgl:GoodLeg l.legs[j]:=Xz hok.land _ (List.getElem_mem _)
     have hends:=hok.ends (List.getElem_mem hlt)
     have hxj:l.legs[j]? = some l.legs[j]:=List.getElem?_eq_getElem hlt
     have hin:inR 0 100001 t=true:=by simp only [inR,decide_eq_true_eq];omega
     have hab:=Xm (k:=true) (t:=t) hgl hok.pace (by omega)
     by_cases hca:v=l.legs[j].a
     . refine Zt (by simpa using hca) ?_
       have hoth:Zk l.legs[j] v=l.legs[j].b:=by rw [Zk,if_pos hca.symm]
       dsimp only [go_sem,rA,rM,rS]
       refine ⟨rfl,rfl,?_⟩
       refine ZaC (key:=kI) (sv:=sI) (val:=B) (L:=L1) (k:=l.legs[j].b) (z:=.bool false) (zs:=B false) rfl rfl ZbR Zck rfl (by kernel_rfl) (fun w E n ok=>by simp only [R]) ?_ ?_
       . intro b hget
         have hb:b=true/\Zk l.legs[j] v ∈ v :: been:=by
          have h:=hL1 l.legs[j].b
          rw [hget] at h
          rw [hoth]
          split at h
          . rename_i hm;exact ⟨Option.some.inj h,hm⟩
          . cases h
         obtain ⟨rfl,hmem⟩:=hb
         dsimp only [Bool.not_true,go_sem,rA,rM,rS]
         repeat (refine ZbV (by decide) ?_;dsimp only [go_sem,rA,rM,rS])
         refine Zv (by decide) ?_
         dsimp only [go_sem,rA,rM,rS]
         refine ⟨rfl,?_⟩
         refine Zv (by decide) ?_
         dsimp only [go_sem,rA,rM,rS]
         rw [Zi (n:=(j:Int)+1) (by omega) (by omega)]
         refine ⟨(j+1,allj,ver,clk),⟨hlt,hMj,by rw [ZV,X7 hxj (.inr hmem),List.append_nil];exact hallj,hlenj⟩,by simp only;omega,?_⟩
         (refine Zl ?_ ?_ ?_ rfl rfl<;>dsimp only [ZF,Zg,Zo,Zh,Ym,ZU,Yb,Zu,Zq,Zn,Za,id,go_sem,rA,rM,rS]<;>simp [ZF,Zg,Zo,Zh,Ym,ZU,Yb,Zu,Zq,Zn,Za,Za,Zf,KFR,KFL,KF,Zc,mtO,nbr])
       intro hget
       have hnb:Zk l.legs[j] v ∉ v :: been:=fun hm=>by
        have h:=hL1 l.legs[j].b
        rw [hoth] at hm
        rw [hget,if_pos hm] at h;cases h
       have hn0:¬ Zk l.legs[j] v < 0:=by rw [hoth];omega
       dsimp only [Bool.not_false,go_sem,rA,rM,rS]
       iterate 10 (refine YH rfl ?_;dsimp only [go_sem,rA,rM,rS])
       refine call (XG l p j hlt t t hgl hok.pace hin hin) ?_
       dsimp only [go_sem,rA,rM,rS]
       refine YH rfl ?_
       dsimp only [go_sem,rA,rM,rS]
       refine ixa 1 rfl (by decide) ?_
       dsimp only [go_sem,rA,rM,rS]
       iterate 4 (refine YH rfl ?_;dsimp only [go_sem,rA,rM,rS])
       refine call (ZbZ way j (by omega)) ?_
       dsimp only [ZU,go_sem,rA,rM,rS]
       refine YH rfl ?_
       dsimp only [go_sem,rA,rM,rS]
       have hot:=ZS hok hxj hn0
       have hih:=ih (v :: been) (Zk l.legs[j] v) (ZM true l.legs[j] p t) (way ++ [j]) allj ver clk L1 (ZU (way ++ [j])) hR' hnb hot.1 (by omega) (by simp;omega) hlenj hMj hL1 (.inl rfl)
       have hWj:(Xs l p to till g (v :: been) (Zk l.legs[j] v) (ZM true l.legs[j] p t)).map (way ++ [j] ++ ·)=(YU l p to till g been v t j).map (way ++ ·):=by
        rw [Wk hxj hn0 hnb,List.map_map]
        simp [Function.comp_def]
       rw [hWj,hoth] at hih
       refine YI [0,1,2,3,4,5,6,7] hih rfl rfl ?_ ?_ ?_ ?_
       . rfl
       . dsimp only [rho,ZU,go_sem,rA,rM,rS]
         simp [Za,Zf,KFR,KFL,KF,Zc,mtO,nbr,ZF,Zg,Zo,Zh,Ym,ZU,Yb,Zq,Zn]
       . dsimp only [rho,YA,ZF,go_sem,rA,rM,rS]
         simp [Za,Zf,KFR,KFL,KF,Zc,mtO,nbr,ZF,Zg,Zo,Zh,Ym,ZU,Yb,Zq,Zn]
       rintro o ⟨ver',clk',hM',rfl⟩
       dsimp only [YA,ZF,go_sem,rA,rM,rS]
       refine YH rfl ?_
       dsimp only [Bool.not_false,go_sem,rA,rM,rS]
       have hnext:all ++ (Z0 l p to till g been v t (j+1)).map (way ++ ·)=allj ++ (YU l p to till g been v t j).map (way ++ ·):=by
        rw [ZV,List.map_append,<- List.append_assoc,<- hallj]
       generalize hWW:(YU l p to till g been v t j).map (way ++ ·)=Wj at hnext ⊢
       by_cases hsm:(allj ++ Wj).length<=200
       . refine Zv (by simp only [hsm,decide_true];rfl) ?_
         dsimp only [go_sem,rA,rM,rS]
         refine ⟨rfl,?_⟩
         refine Zv (by decide) ?_
         dsimp only [go_sem,rA,rM,rS]
         rw [Zi (n:=(j:Int)+1) (by omega) (by omega),WO (by omega)]
         rw [<- hnext] at hsm ⊢
         refine ⟨(j+1,_,ver',clk'),⟨hlt,hM',rfl,hsm⟩,by simp only;omega,?_⟩
         generalize all ++ (Z0 l p to till g been v t (j+1)).map (way ++ ·)=alln
         (refine Zl ?_ ?_ ?_ rfl rfl<;>dsimp only [ZF,Zg,Zo,Zh,Ym,ZU,Yb,Zu,Zq,Zn,Za,id,go_sem,rA,rM,rS]<;>simp [ZF,Zg,Zo,Zh,Ym,ZU,Yb,Zu,Zq,Zn,Za,Za,Zf,KFR,KFL,KF,Zc,mtO,nbr])
       . refine Zt (by simp only [hsm,decide_false];rfl) ?_
         dsimp only [go_sem,rA,rM,rS]
         refine ⟨rfl,?_⟩
         refine Zt rfl ?_
         dsimp only [go_sem,rA,rM,rS]
         have hWs:Xs l p to till (g+1) been v t=Z0 l p to till g been v t l.legs.length:=by rw [Yx,if_neg hlate,if_neg hto]
         obtain ⟨R,hRs⟩:=Y1 (l:=l) (p:=p) (to:=to) (till:=till) (f:=g) (been:=been) (v:=v) (t:=t) (j:=j+1) (l.legs.length - (j+1))
         rw [show j+1+(l.legs.length - (j+1))=l.legs.length by omega] at hRs
         have hall2:all ++ (Xs l p to till (g+1) been v t).map (way ++ ·)=allj ++ Wj ++ R.map (way ++ ·):=by
          rw [hWs,hRs,List.map_append,<- List.append_assoc,hnext]
         have hlong:¬ (allj ++ Wj ++ R.map (way ++ ·)).length<=200:=by rw [List.length_append];omega
         refine ⟨_,ZuR (key:=kI) (val:=B) (sv:=sI) (L:=L1) (k:=v) ZbR Zck,?_⟩
         rw [hdel]
         have hMf:MW L clk':=by have:=hM'.del (k:=v);rw [hdel] at this;exact this
         refine ⟨_,⟨ver',clk',hMf,rfl⟩,?_⟩
         have hc2:cap (allj ++ Wj ++ R.map (way ++ ·))=cap (allj ++ Wj):=Zcf (by omega)
         rw [hall2,hc2,decide_eq_false hlong]
         generalize cap (allj ++ Wj)=alln
         (refine Z5 ?_ ?_ ?_ rfl<;>dsimp only [ZF,Zg,Zo,Zh,Ym,ZU,Yb,Zu,Zq,Zn,Za,YA,id,go_sem,rA,rM,rS]<;>simp [ZF,Zg,Zo,Zh,Ym,ZU,Yb,Zu,Zq,Zn,Za,YA,Za,Zf,KFR,KFL,KF,Zc,mtO,nbr])
     refine Zv (by simpa using hca) ?_
     dsimp only [go_sem,rA,rM,rS]
     by_cases hcb:v=l.legs[j].b
     . refine Zt (by simpa using hcb) ?_
       have hoth:Zk l.legs[j] v=l.legs[j].a:=by rw [Zk,if_neg (fun h=>hca h.symm),if_pos hcb.symm]
       dsimp only [go_sem,rA,rM,rS]
       refine ⟨rfl,rfl,?_⟩
       refine ZaC (key:=kI) (sv:=sI) (val:=B) (L:=L1) (k:=l.legs[j].a) (z:=.bool false) (zs:=B false) rfl rfl ZbR Zck rfl (by kernel_rfl) (fun w E n ok=>by simp only [R]) ?_ ?_
       . intro b hget
         have hb:b=true/\Zk l.legs[j] v ∈ v :: been:=by
          have h:=hL1 l.legs[j].a
          rw [hget] at h
          rw [hoth]
          split at h
          . rename_i hm;exact ⟨Option.some.inj h,hm⟩
          . cases h
         obtain ⟨rfl,hmem⟩:=hb
         dsimp only [Bool.not_true,go_sem,rA,rM,rS]
         repeat (refine ZbV (by decide) ?_;dsimp only [go_sem,rA,rM,rS])
         refine Zv (by decide) ?_
         dsimp only [go_sem,rA,rM,rS]
         refine ⟨rfl,?_⟩
         refine Zv (by decide) ?_
         dsimp only [go_sem,rA,rM,rS]
         rw [Zi (n:=(j:Int)+1) (by omega) (by omega)]
         refine ⟨(j+1,allj,ver,clk),⟨hlt,hMj,by rw [ZV,X7 hxj (.inr hmem),List.append_nil];exact hallj,hlenj⟩,by simp only;omega,?_⟩
         (refine Zl ?_ ?_ ?_ rfl rfl<;>dsimp only [ZF,Zg,Zo,Zh,Ym,ZU,Yb,Zu,Zq,Zn,Za,id,go_sem,rA,rM,rS]<;>simp [ZF,Zg,Zo,Zh,Ym,ZU,Yb,Zu,Zq,Zn,Za,Za,Zf,KFR,KFL,KF,Zc,mtO,nbr])
       intro hget
       have hnb:Zk l.legs[j] v ∉ v :: been:=fun hm=>by
        have h:=hL1 l.legs[j].a
        rw [hoth] at hm
        rw [hget,if_pos hm] at h;cases h
       have hn0:¬ Zk l.legs[j] v < 0:=by rw [hoth];omega
       dsimp only [Bool.not_false,go_sem,rA,rM,rS]
       iterate 10 (refine YH rfl ?_;dsimp only [go_sem,rA,rM,rS])
       refine call (XG l p j hlt t t hgl hok.pace hin hin) ?_
       dsimp only [go_sem,rA,rM,rS]
       refine YH rfl ?_
       dsimp only [go_sem,rA,rM,rS]
       refine ixa 1 rfl (by decide) ?_
       dsimp only [go_sem,rA,rM,rS]
       iterate 4 (refine YH rfl ?_;dsimp only [go_sem,rA,rM,rS])
       refine call (ZbZ way j (by omega)) ?_
       dsimp only [ZU,go_sem,rA,rM,rS]
       refine YH rfl ?_
       dsimp only [go_sem,rA,rM,rS]
       have hot:=ZS hok hxj hn0
       have hih:=ih (v :: been) (Zk l.legs[j] v) (ZM true l.legs[j] p t) (way ++ [j]) allj ver clk L1 (ZU (way ++ [j])) hR' hnb hot.1 (by omega) (by simp;omega) hlenj hMj hL1 (.inl rfl)
       have hWj:(Xs l p to till g (v :: been) (Zk l.legs[j] v) (ZM true l.legs[j] p t)).map (way ++ [j] ++ ·)=(YU l p to till g been v t j).map (way ++ ·):=by
        rw [Wk hxj hn0 hnb,List.map_map]
        simp [Function.comp_def]
       rw [hWj,hoth] at hih
       refine YI [0,1,2,3,4,5,6,7] hih rfl rfl ?_ ?_ ?_ ?_
       . rfl
       . dsimp only [rho,ZU,go_sem,rA,rM,rS]
         simp [Za,Zf,KFR,KFL,KF,Zc,mtO,nbr,ZF,Zg,Zo,Zh,Ym,ZU,Yb,Zq,Zn]
       . dsimp only [rho,YA,ZF,go_sem,rA,rM,rS]
         simp [Za,Zf,KFR,KFL,KF,Zc,mtO,nbr,ZF,Zg,Zo,Zh,Ym,ZU,Yb,Zq,Zn]
       rintro o ⟨ver',clk',hM',rfl⟩
       dsimp only [YA,ZF,go_sem,rA,rM,rS]
       refine YH rfl ?_
       dsimp only [Bool.not_false,go_sem,rA,rM,rS]
       have hnext:all ++ (Z0 l p to till g been v t (j+1)).map (way ++ ·)=allj ++ (YU l p to till g been v t j).map (way ++ ·):=by
        rw [ZV,List.map_append,<- List.append_assoc,<- hallj]
       generalize hWW:(YU l p to till g been v t j).map (way ++ ·)=Wj at hnext ⊢
       by_cases hsm:(allj ++ Wj).length<=200
       . refine Zv (by simp only [hsm,decide_true];rfl) ?_
         dsimp only [go_sem,rA,rM,rS]
         refine ⟨rfl,?_⟩
         refine Zv (by decide) ?_
         dsimp only [go_sem,rA,rM,rS]
         rw [Zi (n:=(j:Int)+1) (by omega) (by omega),WO (by omega)]
         rw [<- hnext] at hsm ⊢
         refine ⟨(j+1,_,ver',clk'),⟨hlt,hM',rfl,hsm⟩,by simp only;omega,?_⟩
         generalize all ++ (Z0 l p to till g been v t (j+1)).map (way ++ ·)=alln
         (refine Zl ?_ ?_ ?_ rfl rfl<;>dsimp only [ZF,Zg,Zo,Zh,Ym,ZU,Yb,Zu,Zq,Zn,Za,id,go_sem,rA,rM,rS]<;>simp [ZF,Zg,Zo,Zh,Ym,ZU,Yb,Zu,Zq,Zn,Za,Za,Zf,KFR,KFL,KF,Zc,mtO,nbr])
       . refine Zt (by simp only [hsm,decide_false];rfl) ?_
         dsimp only [go_sem,rA,rM,rS]
         refine ⟨rfl,?_⟩
         refine Zt rfl ?_
         dsimp only [go_sem,rA,rM,rS]
         have hWs:Xs l p to till (g+1) been v t=Z0 l p to till g been v t l.legs.length:=by rw [Yx,if_neg hlate,if_neg hto]
         obtain ⟨R,hRs⟩:=Y1 (l:=l) (p:=p) (to:=to) (till:=till) (f:=g) (been:=been) (v:=v) (t:=t) (j:=j+1) (l.legs.length - (j+1))
         rw [show j+1+(l.legs.length - (j+1))=l.legs.length by omega] at hRs
         have hall2:all ++ (Xs l p to till (g+1) been v t).map (way ++ ·)=allj ++ Wj ++ R.map (way ++ ·):=by
          rw [hWs,hRs,List.map_append,<- List.append_assoc,hnext]
         have hlong:¬ (allj ++ Wj ++ R.map (way ++ ·)).length<=200:=by rw [List.length_append];omega
         refine ⟨_,ZuR (key:=kI) (val:=B) (sv:=sI) (L:=L1) (k:=v) ZbR Zck,?_⟩
         rw [hdel]
         have hMf:MW L clk':=by have:=hM'.del (k:=v);rw [hdel] at this;exact this
         refine ⟨_,⟨ver',clk',hMf,rfl⟩,?_⟩
         have hc2:cap (allj ++ Wj ++ R.map (way ++ ·))=cap (allj ++ Wj):=Zcf (by omega)
         rw [hall2,hc2,decide_eq_false hlong]
         generalize cap (allj ++ Wj)=alln
         (refine Z5 ?_ ?_ ?_ rfl<;>dsimp only [ZF,Zg,Zo,Zh,Ym,ZU,Yb,Zu,Zq,Zn,Za,YA,id,go_sem,rA,rM,rS]<;>simp [ZF,Zg,Zo,Zh,Ym,ZU,Yb,Zu,Zq,Zn,Za,YA,Za,Zf,KFR,KFL,KF,Zc,mtO,nbr])
     refine Zv (by simpa using hcb) ?_
     dsimp only [go_sem,rA,rM,rS]
     rw [Zi (n:=(j:Int)+1) (by omega) (by omega)]
     have hoth:Zk l.legs[j] v = -1:=by rw [Zk,if_neg (fun h=>hca h.symm),if_neg (fun h=>hcb h.symm)]
     refine ⟨(j+1,allj,ver,clk),⟨hlt,hMj,by rw [ZV,X7 hxj (.inl (by omega)),List.append_nil];exact hallj,hlenj⟩,by simp only;omega,?_⟩
     (refine Zl ?_ ?_ ?_ rfl rfl<;>dsimp only [ZF,Zg,Zo,Zh,Ym,ZU,Yb,Zu,Zq,Zn,Za,id,go_sem,rA,rM,rS]<;>simp [ZF,Zg,Zo,Zh,Ym,ZU,Yb,Zu,Zq,Zn,Za,Za,Zf,KFR,KFL,KF,Zc,mtO,nbr])
   refine Zv (by simp;omega) ?_
   dsimp only [go_sem,rA,rM,rS]
   have hje:j=l.legs.length:=by omega
   subst hje
   have hWs:Xs l p to till (g+1) been v t=Z0 l p to till g been v t l.legs.length:=by rw [Yx,if_neg hlate,if_neg hto]
   refine ⟨_,ZuR (key:=kI) (val:=B) (sv:=sI) (L:=L1) (k:=v) ZbR Zck,?_⟩
   rw [hdel]
   have hMf:MW L clk:=by have:=hMj.del (k:=v);rw [hdel] at this;exact this
   refine ⟨_,⟨ver,clk,hMf,rfl⟩,?_⟩
   rw [hWs,<- hallj,WO (by omega),decide_eq_true hlenj]
   (refine Z5 ?_ ?_ ?_ rfl<;>dsimp only [ZF,Zg,Zo,Zh,Ym,ZU,Yb,Zu,Zq,Zn,Za,YA,id,go_sem,rA,rM,rS]<;>simp [ZF,Zg,Zo,Zh,Ym,ZU,Yb,Zu,Zq,Zn,Za,YA,Za,Zf,KFR,KFL,KF,Zc,mtO,nbr])
 . refine gh (Zaz (s':=.sl false 1 (way.map Yb)) 1 rfl (by subst hw0;exact Yr) (fun _ _ _ h=>by cases h)) ?_
   dsimp only [ZU,go_sem,rA,rM,rS]
   refine br ?_ ?_
   . intro hlate
     have hlate:t > till:=of_decide_eq_true hlate
     dsimp only [go_sem,rA,rM,rS]
     refine ⟨_,⟨ver,clk,hM,rfl⟩,?_⟩
     rw [ZbN hlate,List.map_nil,List.append_nil,WO (by omega),decide_eq_true hall]
     (refine Z5 ?_ ?_ ?_ rfl<;>dsimp only [ZF,Zg,Zo,Zh,Ym,ZU,Yb,Zu,Zq,Zn,Za,YA,id,go_sem,rA,rM,rS]<;>simp [ZF,Zg,Zo,Zh,Ym,ZU,Yb,Zu,Zq,Zn,Za,YA,Za,Zf,KFR,KFL,KF,Zc,mtO,nbr])
   intro hlate
   have hlate:¬ t > till:=of_decide_eq_false hlate
   dsimp only [go_sem,rA,rM,rS]
   refine br ?_ ?_
   . intro hto
     have hto:v=to:=by simpa using hto
     dsimp only [go_sem,rA,rM,rS]
     refine call (ZaW way (by omega)) ?_
     dsimp only [ZU,go_sem,rA,rM,rS]
     simp only [nbr]
     dsimp only [go_sem,rA,rM,rS]
     refine ⟨(by intro c hc;simp only [List.mem_singleton] at hc;subst hc;rfl),by simp;omega,?_⟩
     dsimp only [go_sem,rA,rM,rS]
     simp only [nbr]
     dsimp only [go_sem,rA,rM,rS]
     have e:all.map Ym ++ [[SV.sl false 1 (way.map Yb)]]=(all ++ [way]).map Ym:=by simp [Ym,ZU]
     rw [e]
     refine ⟨_,⟨ver+1,clk,hM,rfl⟩,?_⟩
     rw [Yx,if_neg hlate,if_pos hto]
     simp only [List.map_cons,List.map_nil,List.append_nil,List.length_map]
     rw [WO (by simp;omega)]
     have hd:decide (((all ++ [way]).length:Int)<=200)=decide ((all ++ [way]).length<=200):=by simp;omega
     rw [hd]
     (refine Z5 ?_ ?_ ?_ rfl<;>dsimp only [ZF,Zg,Zo,Zh,Ym,ZU,Yb,Zu,Zq,Zn,Za,YA,id,go_sem,rA,rM,rS]<;>simp [ZF,Zg,Zo,Zh,Ym,ZU,Yb,Zu,Zq,Zn,Za,YA,Za,Zf,KFR,KFL,KF,Zc,mtO,nbr])
   intro hto
   have hto:¬ v=to:=by simpa using hto
   dsimp only [go_sem,rA,rM,rS]
   refine ZaZ (ins:=false) (key:=kI) (val:=B) (L:=L) (k:=v) (v:=true) rfl rfl ZbR Zck rfl rfl (by simp) ?_
   dsimp only [go_sem,rA,rM,rS]
   refine ⟨rfl,?_⟩
   have hvL:Xk v L=none:=by rw [hbL,if_neg hv]
   have hM1:=hM.set (k:=v) true
   have hL1:Zdu (v :: been) (VD clk v true L):=fun u=>by
    rw [VQ]
    by_cases hu:u=v
    . simp [hu]
    . rw [if_neg hu,hbL]
      simp [hu]
   have hdel:=ZeN (L:=L) (c:=clk) (b:=true) hvL
   generalize VD clk v true L=L1 at hM1 hL1 hdel ⊢
   generalize Zbl clk v L=clk1 at hM1 ⊢
   refine Zax [] (UO l p v) rfl rfl rfl ?_ ?_ ?_
   . exact Zc (by simp [ZF,Zg,Zo,Zh,Za,KFL,KF])
   . trivial
   dsimp only [U9,ZF,go_sem,rA,rM,rS]
   refine gh Ww ?_
   dsimp only [go_sem,rA,rM,rS]
   refine ⟨b58,fun rec=>?_⟩
   refine y58 ?_
   dsimp only [c58,r58,go_sem,rA,rM,rS]
   refine XO (fun q:Nat × List (List Nat) × Nat × Nat=>[(10,I q.1)]) (fun q=>[(2,.cells [.mr 6 q.2.2.1] 83),(6,.row q.2.2.1 1 (q.2.1.map Ym) 40),(7,.map (mpS kI B L1) q.2.2.2)])
    (fun q=>q.1<=l.legs.length/\MW L1 q.2.2.2/\q.2.1=all ++ (Z0 l p to till g been v t q.1).map (way ++ ·)/\q.2.1.length<=200) (fun q=>l.legs.length - q.1) (0,all,ver,clk1) ⟨Nat.zero_le _,hM1,by simp [ZcD],hall⟩ ?_ ?_
   . (refine Zl ?_ ?_ ?_ rfl rfl<;>dsimp only [ZF,Zg,Zo,Zh,Ym,ZU,Yb,Zu,Zq,Zn,Za,id,go_sem,rA,rM,rS]<;>simp [ZF,Zg,Zo,Zh,Ym,ZU,Yb,Zu,Zq,Zn,Za,Za,Zf,KFR,KFL,KF,Zc,mtO,nbr])
   rintro ⟨j,allj,ver,clk⟩ ⟨hj,hMj,hallj,hlenj⟩
   simp only at hj hMj hallj hlenj
   dsimp only [go_sem,rA,rM,rS]
   simp only [List.length_map]
   by_cases hlt:j < l.legs.length
   . refine Zt (by simpa using hlt) ?_
     dsimp only [go_sem,rA,rM,rS]
     refine Zs j hlt rfl ?_
     dsimp only [Zo,go_sem,rA,rM,rS]
     have hgl:GoodLeg l.legs[j]:=Xz hok.land _ (List.getElem_mem _)
     have hends:=hok.ends (List.getElem_mem hlt)
     have hxj:l.legs[j]? = some l.legs[j]:=List.getElem?_eq_getElem hlt
     have hin:inR 0 100001 t=true:=by simp only [inR,decide_eq_true_eq];omega
     have hab:=Xm (k:=true) (t:=t) hgl hok.pace (by omega)
     by_cases hca:v=l.legs[j].a
     . refine Zt (by simpa using hca) ?_
       have hoth:Zk l.legs[j] v=l.legs[j].b:=by rw [Zk,if_pos hca.symm]
       dsimp only [go_sem,rA,rM,rS]
       refine ⟨rfl,rfl,?_⟩
       refine ZaC (key:=kI) (sv:=sI) (val:=B) (L:=L1) (k:=l.legs[j].b) (z:=.bool false) (zs:=B false) rfl rfl ZbR Zck rfl (by kernel_rfl) (fun w E n ok=>by simp only [R]) ?_ ?_
       . intro b hget
         have hb:b=true/\Zk l.legs[j] v ∈ v :: been:=by
          have h:=hL1 l.legs[j].b
          rw [hget] at h
          rw [hoth]
          split at h
          . rename_i hm;exact ⟨Option.some.inj h,hm⟩
          . cases h
         obtain ⟨rfl,hmem⟩:=hb
         dsimp only [Bool.not_true,go_sem,rA,rM,rS]
         repeat (refine ZbV (by decide) ?_;dsimp only [go_sem,rA,rM,rS])
         refine Zv (by decide) ?_
         dsimp only [go_sem,rA,rM,rS]
         refine ⟨rfl,?_⟩
         refine Zv (by decide) ?_
         dsimp only [go_sem,rA,rM,rS]
         rw [Zi (n:=(j:Int)+1) (by omega) (by omega)]
         refine ⟨(j+1,allj,ver,clk),⟨hlt,hMj,by rw [ZV,X7 hxj (.inr hmem),List.append_nil];exact hallj,hlenj⟩,by simp only;omega,?_⟩
         (refine Zl ?_ ?_ ?_ rfl rfl<;>dsimp only [ZF,Zg,Zo,Zh,Ym,ZU,Yb,Zu,Zq,Zn,Za,id,go_sem,rA,rM,rS]<;>simp [ZF,Zg,Zo,Zh,Ym,ZU,Yb,Zu,Zq,Zn,Za,Za,Zf,KFR,KFL,KF,Zc,mtO,nbr])
       intro hget
       have hnb:Zk l.legs[j] v ∉ v :: been:=fun hm=>by
        have h:=hL1 l.legs[j].b
        rw [hoth] at hm
        rw [hget,if_pos hm] at h;cases h
       have hn0:¬ Zk l.legs[j] v < 0:=by rw [hoth];omega
       dsimp only [Bool.not_false,go_sem,rA,rM,rS]
       iterate 10 (refine YH rfl ?_;dsimp only [go_sem,rA,rM,rS])
       refine call (XG l p j hlt t t hgl hok.pace hin hin) ?_
       dsimp only [go_sem,rA,rM,rS]
       refine YH rfl ?_
       dsimp only [go_sem,rA,rM,rS]
       refine ixa 1 rfl (by decide) ?_
       dsimp only [go_sem,rA,rM,rS]
       iterate 4 (refine YH rfl ?_;dsimp only [go_sem,rA,rM,rS])
       refine call (ZbZ way j (by omega)) ?_
       dsimp only [ZU,go_sem,rA,rM,rS]
       refine YH rfl ?_
       dsimp only [go_sem,rA,rM,rS]
       have hot:=ZS hok hxj hn0
       have hih:=ih (v :: been) (Zk l.legs[j] v) (ZM true l.legs[j] p t) (way ++ [j]) allj ver clk L1 (ZU (way ++ [j])) hR' hnb hot.1 (by omega) (by simp;omega) hlenj hMj hL1 (.inl rfl)
       have hWj:(Xs l p to till g (v :: been) (Zk l.legs[j] v) (ZM true l.legs[j] p t)).map (way ++ [j] ++ ·)=(YU l p to till g been v t j).map (way ++ ·):=by
        rw [Wk hxj hn0 hnb,List.map_map]
        simp [Function.comp_def]
       rw [hWj,hoth] at hih
       refine YI [0,1,2,3,4,5,6,7] hih rfl rfl ?_ ?_ ?_ ?_
       . rfl
       . dsimp only [rho,ZU,go_sem,rA,rM,rS]
         simp [Za,Zf,KFR,KFL,KF,Zc,mtO,nbr,ZF,Zg,Zo,Zh,Ym,ZU,Yb,Zq,Zn]
       . dsimp only [rho,YA,ZF,go_sem,rA,rM,rS]
         simp [Za,Zf,KFR,KFL,KF,Zc,mtO,nbr,ZF,Zg,Zo,Zh,Ym,ZU,Yb,Zq,Zn]
       rintro o ⟨ver',clk',hM',rfl⟩
       dsimp only [YA,ZF,go_sem,rA,rM,rS]
       refine YH rfl ?_
       dsimp only [Bool.not_false,go_sem,rA,rM,rS]
       have hnext:all ++ (Z0 l p to till g been v t (j+1)).map (way ++ ·)=allj ++ (YU l p to till g been v t j).map (way ++ ·):=by
        rw [ZV,List.map_append,<- List.append_assoc,<- hallj]
       generalize hWW:(YU l p to till g been v t j).map (way ++ ·)=Wj at hnext ⊢
       by_cases hsm:(allj ++ Wj).length<=200
       . refine Zv (by simp only [hsm,decide_true];rfl) ?_
         dsimp only [go_sem,rA,rM,rS]
         refine ⟨rfl,?_⟩
         refine Zv (by decide) ?_
         dsimp only [go_sem,rA,rM,rS]
         rw [Zi (n:=(j:Int)+1) (by omega) (by omega),WO (by omega)]
         rw [<- hnext] at hsm ⊢
         refine ⟨(j+1,_,ver',clk'),⟨hlt,hM',rfl,hsm⟩,by simp only;omega,?_⟩
         generalize all ++ (Z0 l p to till g been v t (j+1)).map (way ++ ·)=alln
         (refine Zl ?_ ?_ ?_ rfl rfl<;>dsimp only [ZF,Zg,Zo,Zh,Ym,ZU,Yb,Zu,Zq,Zn,Za,id,go_sem,rA,rM,rS]<;>simp [ZF,Zg,Zo,Zh,Ym,ZU,Yb,Zu,Zq,Zn,Za,Za,Zf,KFR,KFL,KF,Zc,mtO,nbr])
       . refine Zt (by simp only [hsm,decide_false];rfl) ?_
         dsimp only [go_sem,rA,rM,rS]
         refine ⟨rfl,?_⟩
         refine Zt rfl ?_
         dsimp only [go_sem,rA,rM,rS]
         have hWs:Xs l p to till (g+1) been v t=Z0 l p to till g been v t l.legs.length:=by rw [Yx,if_neg hlate,if_neg hto]
         obtain ⟨R,hRs⟩:=Y1 (l:=l) (p:=p) (to:=to) (till:=till) (f:=g) (been:=been) (v:=v) (t:=t) (j:=j+1) (l.legs.length - (j+1))
         rw [show j+1+(l.legs.length - (j+1))=l.legs.length by omega] at hRs
         have hall2:all ++ (Xs l p to till (g+1) been v t).map (way ++ ·)=allj ++ Wj ++ R.map (way ++ ·):=by
          rw [hWs,hRs,List.map_append,<- List.append_assoc,hnext]
         have hlong:¬ (allj ++ Wj ++ R.map (way ++ ·)).length<=200:=by rw [List.length_append];omega
         refine ⟨_,ZuR (key:=kI) (val:=B) (sv:=sI) (L:=L1) (k:=v) ZbR Zck,?_⟩
         rw [hdel]
         have hMf:MW L clk':=by have:=hM'.del (k:=v);rw [hdel] at this;exact this
         refine ⟨_,⟨ver',clk',hMf,rfl⟩,?_⟩
         have hc2:cap (allj ++ Wj ++ R.map (way ++ ·))=cap (allj ++ Wj):=Zcf (by omega)
         rw [hall2,hc2,decide_eq_false hlong]
         generalize cap (allj ++ Wj)=alln
         (refine Z5 ?_ ?_ ?_ rfl<;>dsimp only [ZF,Zg,Zo,Zh,Ym,ZU,Yb,Zu,Zq,Zn,Za,YA,id,go_sem,rA,rM,rS]<;>simp [ZF,Zg,Zo,Zh,Ym,ZU,Yb,Zu,Zq,Zn,Za,YA,Za,Zf,KFR,KFL,KF,Zc,mtO,nbr])
     refine Zv (by simpa using hca) ?_
     dsimp only [go_sem,rA,rM,rS]
     by_cases hcb:v=l.legs[j].b
     . refine Zt (by simpa using hcb) ?_
       have hoth:Zk l.legs[j] v=l.legs[j].a:=by rw [Zk,if_neg (fun h=>hca h.symm),if_pos hcb.symm]
       dsimp only [go_sem,rA,rM,rS]
       refine ⟨rfl,rfl,?_⟩
       refine ZaC (key:=kI) (sv:=sI) (val:=B) (L:=L1) (k:=l.legs[j].a) (z:=.bool false) (zs:=B false) rfl rfl ZbR Zck rfl (by kernel_rfl) (fun w E n ok=>by simp only [R]) ?_ ?_
       . intro b hget
         have hb:b=true/\Zk l.legs[j] v ∈ v :: been:=by
          have h:=hL1 l.legs[j].a
          rw [hget] at h
          rw [hoth]
          split at h
          . rename_i hm;exact ⟨Option.some.inj h,hm⟩
          . cases h
         obtain ⟨rfl,hmem⟩:=hb
         dsimp only [Bool.not_true,go_sem,rA,rM,rS]
         repeat (refine ZbV (by decide) ?_;dsimp only [go_sem,rA,rM,rS])
         refine Zv (by decide) ?_
         dsimp only [go_sem,rA,rM,rS]
         refine ⟨rfl,?_⟩
         refine Zv (by decide) ?_
         dsimp only [go_sem,rA,rM,rS]
         rw [Zi (n:=(j:Int)+1) (by omega) (by omega)]
         refine ⟨(j+1,allj,ver,clk),⟨hlt,hMj,by rw [ZV,X7 hxj (.inr hmem),List.append_nil];exact hallj,hlenj⟩,by simp only;omega,?_⟩
         (refine Zl ?_ ?_ ?_ rfl rfl<;>dsimp only [ZF,Zg,Zo,Zh,Ym,ZU,Yb,Zu,Zq,Zn,Za,id,go_sem,rA,rM,rS]<;>simp [ZF,Zg,Zo,Zh,Ym,ZU,Yb,Zu,Zq,Zn,Za,Za,Zf,KFR,KFL,KF,Zc,mtO,nbr])
       intro hget
       have hnb:Zk l.legs[j] v ∉ v :: been:=fun hm=>by
        have h:=hL1 l.legs[j].a
        rw [hoth] at hm
        rw [hget,if_pos hm] at h;cases h
       have hn0:¬ Zk l.legs[j] v < 0:=by rw [hoth];omega
       dsimp only [Bool.not_false,go_sem,rA,rM,rS]
       iterate 10 (refine YH rfl ?_;dsimp only [go_sem,rA,rM,rS])
       refine call (XG l p j hlt t t hgl hok.pace hin hin) ?_
       dsimp only [go_sem,rA,rM,rS]
       refine YH rfl ?_
       dsimp only [go_sem,rA,rM,rS]
       refine ixa 1 rfl (by decide) ?_
       dsimp only [go_sem,rA,rM,rS]
       iterate 4 (refine YH rfl ?_;dsimp only [go_sem,rA,rM,rS])
       refine call (ZbZ way j (by omega)) ?_
       dsimp only [ZU,go_sem,rA,rM,rS]
       refine YH rfl ?_
       dsimp only [go_sem,rA,rM,rS]
       have hot:=ZS hok hxj hn0
       have hih:=ih (v :: been) (Zk l.legs[j] v) (ZM true l.legs[j] p t) (way ++ [j]) allj ver clk L1 (ZU (way ++ [j])) hR' hnb hot.1 (by omega) (by simp;omega) hlenj hMj hL1 (.inl rfl)
       have hWj:(Xs l p to till g (v :: been) (Zk l.legs[j] v) (ZM true l.legs[j] p t)).map (way ++ [j] ++ ·)=(YU l p to till g been v t j).map (way ++ ·):=by
        rw [Wk hxj hn0 hnb,List.map_map]
        simp [Function.comp_def]
       rw [hWj,hoth] at hih
       refine YI [0,1,2,3,4,5,6,7] hih rfl rfl ?_ ?_ ?_ ?_
       . rfl
       . dsimp only [rho,ZU,go_sem,rA,rM,rS]
         simp [Za,Zf,KFR,KFL,KF,Zc,mtO,nbr,ZF,Zg,Zo,Zh,Ym,ZU,Yb,Zq,Zn]
       . dsimp only [rho,YA,ZF,go_sem,rA,rM,rS]
         simp [Za,Zf,KFR,KFL,KF,Zc,mtO,nbr,ZF,Zg,Zo,Zh,Ym,ZU,Yb,Zq,Zn]
       rintro o ⟨ver',clk',hM',rfl⟩
       dsimp only [YA,ZF,go_sem,rA,rM,rS]
       refine YH rfl ?_
       dsimp only [Bool.not_false,go_sem,rA,rM,rS]
       have hnext:all ++ (Z0 l p to till g been v t (j+1)).map (way ++ ·)=allj ++ (YU l p to till g been v t j).map (way ++ ·):=by
        rw [ZV,List.map_append,<- List.append_assoc,<- hallj]
       generalize hWW:(YU l p to till g been v t j).map (way ++ ·)=Wj at hnext ⊢
       by_cases hsm:(allj ++ Wj).length<=200
       . refine Zv (by simp only [hsm,decide_true];rfl) ?_
         dsimp only [go_sem,rA,rM,rS]
         refine ⟨rfl,?_⟩
         refine Zv (by decide) ?_
         dsimp only [go_sem,rA,rM,rS]
         rw [Zi (n:=(j:Int)+1) (by omega) (by omega),WO (by omega)]
         rw [<- hnext] at hsm ⊢
         refine ⟨(j+1,_,ver',clk'),⟨hlt,hM',rfl,hsm⟩,by simp only;omega,?_⟩
         generalize all ++ (Z0 l p to till g been v t (j+1)).map (way ++ ·)=alln
         (refine Zl ?_ ?_ ?_ rfl rfl<;>dsimp only [ZF,Zg,Zo,Zh,Ym,ZU,Yb,Zu,Zq,Zn,Za,id,go_sem,rA,rM,rS]<;>simp [ZF,Zg,Zo,Zh,Ym,ZU,Yb,Zu,Zq,Zn,Za,Za,Zf,KFR,KFL,KF,Zc,mtO,nbr])
       . refine Zt (by simp only [hsm,decide_false];rfl) ?_
         dsimp only [go_sem,rA,rM,rS]
         refine ⟨rfl,?_⟩
         refine Zt rfl ?_
         dsimp only [go_sem,rA,rM,rS]
         have hWs:Xs l p to till (g+1) been v t=Z0 l p to till g been v t l.legs.length:=by rw [Yx,if_neg hlate,if_neg hto]
         obtain ⟨R,hRs⟩:=Y1 (l:=l) (p:=p) (to:=to) (till:=till) (f:=g) (been:=been) (v:=v) (t:=t) (j:=j+1) (l.legs.length - (j+1))
         rw [show j+1+(l.legs.length - (j+1))=l.legs.length by omega] at hRs
         have hall2:all ++ (Xs l p to till (g+1) been v t).map (way ++ ·)=allj ++ Wj ++ R.map (way ++ ·):=by
          rw [hWs,hRs,List.map_append,<- List.append_assoc,hnext]
         have hlong:¬ (allj ++ Wj ++ R.map (way ++ ·)).length<=200:=by rw [List.length_append];omega
         refine ⟨_,ZuR (key:=kI) (val:=B) (sv:=sI) (L:=L1) (k:=v) ZbR Zck,?_⟩
         rw [hdel]
         have hMf:MW L clk':=by have:=hM'.del (k:=v);rw [hdel] at this;exact this
         refine ⟨_,⟨ver',clk',hMf,rfl⟩,?_⟩
         have hc2:cap (allj ++ Wj ++ R.map (way ++ ·))=cap (allj ++ Wj):=Zcf (by omega)
         rw [hall2,hc2,decide_eq_false hlong]
         generalize cap (allj ++ Wj)=alln
         (refine Z5 ?_ ?_ ?_ rfl<;>dsimp only [ZF,Zg,Zo,Zh,Ym,ZU,Yb,Zu,Zq,Zn,Za,YA,id,go_sem,rA,rM,rS]<;>simp [ZF,Zg,Zo,Zh,Ym,ZU,Yb,Zu,Zq,Zn,Za,YA,Za,Zf,KFR,KFL,KF,Zc,mtO,nbr])
     refine Zv (by simpa using hcb) ?_
     dsimp only [go_sem,rA,rM,rS]
     rw [Zi (n:=(j:Int)+1) (by omega) (by omega)]
     have hoth:Zk l.legs[j] v = -1:=by rw [Zk,if_neg (fun h=>hca h.symm),if_neg (fun h=>hcb h.symm)]
     refine ⟨(j+1,allj,ver,clk),⟨hlt,hMj,by rw [ZV,X7 hxj (.inl (by omega)),List.append_nil];exact hallj,hlenj⟩,by simp only;omega,?_⟩
     (refine Zl ?_ ?_ ?_ rfl rfl<;>dsimp only [ZF,Zg,Zo,Zh,Ym,ZU,Yb,Zu,Zq,Zn,Za,id,go_sem,rA,rM,rS]<;>simp [ZF,Zg,Zo,Zh,Ym,ZU,Yb,Zu,Zq,Zn,Za,Za,Zf,KFR,KFL,KF,Zc,mtO,nbr])
   refine Zv (by simp;omega) ?_
   dsimp only [go_sem,rA,rM,rS]
   have hje:j=l.legs.length:=by omega
   subst hje
   have hWs:Xs l p to till (g+1) been v t=Z0 l p to till g been v t l.legs.length:=by rw [Yx,if_neg hlate,if_neg hto]
   refine ⟨_,ZuR (key:=kI) (val:=B) (sv:=sI) (L:=L1) (k:=v) ZbR Zck,?_⟩
   rw [hdel]
   have hMf:MW L clk:=by have:=hMj.del (k:=v);rw [hdel] at this;exact this
   refine ⟨_,⟨ver,clk,hMf,rfl⟩,?_⟩
   rw [hWs,<- hallj,WO (by omega),decide_eq_true hlenj]
   (refine Z5 ?_ ?_ ?_ rfl<;>dsimp only [ZF,Zg,Zo,Zh,Ym,ZU,Yb,Zu,Zq,Zn,Za,YA,id,go_sem,rA,rM,rS]<;>simp [ZF,Zg,Zo,Zh,Ym,ZU,Yb,Zu,Zq,Zn,Za,YA,Za,Zf,KFR,KFL,KF,Zc,mtO,nbr])
end Go.Proofs.Ytiigiflofnjilaa
