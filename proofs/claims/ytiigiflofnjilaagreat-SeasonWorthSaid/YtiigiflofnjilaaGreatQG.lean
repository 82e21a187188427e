/- Walks and plain laws that lead to the given statement, part 7 of 9. -/
import Derived.Test.YtiigiflofnjilaaGreatQF
import Derived.Test.YtiigiflofnjilaaGreatProg
import Derived.WideLaws
set_option maxRecDepth 100000
set_option maxHeartbeats 8000000
set_option linter.all false
open Nat renaming reduceAdd->rA,reduceMul->rM,reduceSub->rS,beq_refl->nbr
namespace Go.Proofs.YtiigiflofnjilaaGreat
open Go Go.Sx Go.Azalai
theorem Zqv (a b d:Int) (c:Bool):Ct Tryz.prog 71 [.sl c 1 [[I a],[I b],[I d]]] (I (min (min a b) d)):=by
 refine t71.1 (by simp [KFR,KFL,KF]) (by simp [KFL,KF]) ?_
 dsimp only [c71,r71,go_sem,rA,rM,rS]
 refine Zs (by decide) ?_
 dsimp only [go_sem,rA,rM,rS]
 refine ixs 0 [I a] rfl rfl ?_
 dsimp only [go_sem,rA,rM,rS]
 refine Xa 3 ?_
 dsimp only [Zb,go_sem,rA,rM,rS]
 refine Zr (by decide) ?_
 dsimp only [Zb,go_sem,rA,rM,rS]
 refine ixs 1 [I b] rfl rfl ?_
 dsimp only [Zb,go_sem,rA,rM,rS]
 refine Zr (by decide) ?_
 dsimp only [Zb,go_sem,rA,rM,rS]
 refine ixs 2 [I d] rfl rfl ?_
 dsimp only [Zb,go_sem,rA,rM,rS]
 refine Zs (by decide) ?_
 dsimp only [go_sem,rA,rM,rS]
theorem WR (a b:Int):Ct Tryz.prog 122 [.sl true 1 [[I a],[I b]]] (I (min (min a b) 100001)):=by
 refine t122.1 (by simp [KFR,KFL,KF]) (by simp [KFL,KF]) ?_
 dsimp only [c122,r122,go_sem,rA,rM,rS]
 refine app0 (by simp) ?_
 dsimp only [go_sem,rA,rM,rS]
 refine call (Zqv a b 100001 false) ?_
 dsimp only [go_sem,rA,rM,rS]
theorem ZdR {n day:Int} {o s:Gate->Int} (hn:1<=n):∀ {l:List Gate},(∀ g ∈ l,s g<=100000)->Vy n day o s l<=100001
 | [],_=>by simp only [Vy];omega
 | x :: l,h=>by
  have:=h x (by simp)
  have:=ZdR (day:=day) (o:=o) (s:=s) (l:=l) hn (fun g hg=>h g (by simp [hg]))
  simp only [Vy];split<;>omega
def YM (l:Land) (p:Span):List SV:=[.sl false 9 (l.wells.map Zf),.sl false 5 (l.legs.map Zl),I p.lo,I p.hi]
theorem Zdk (l:Land) (hs:XM l) (p:Span) (ha:Us l p=0):Ct Tryz.prog 75 [.agg (ZH l),.agg (Zc p)] (.tup [.agg (YM l p),I 0]):=by
 obtain ⟨h1,h2⟩:=ask0 ha
 refine t75.1 (by simp [ZH,Zf,Zl,Zh,Zc,Za,KFL,KF]) (by simp [YM,Zf,Zl,Zh,Zc,Za,KFL,KF]) ?_
 dsimp only [c75,r75,ZH,Zc,go_sem,rA,rM,rS]
 refine call (ZbV l hs) ?_
 dsimp only [go_sem,rA,rM,rS]
 refine Zs (by simp [h1]) ?_
 dsimp only [go_sem,rA,rM,rS]
 refine call (YS 1 100000 p _) ?_
 dsimp only [go_sem,rA,rM,rS]
 refine Zs (by simpa [ZU] using h2) ?_
 dsimp only [YM,go_sem,rA,rM,rS]
theorem Zcf (l:Land) (hs:XM l) (p:Span) (ha:Us l p≠0):Ct Tryz.prog 75 [.agg (ZH l),.agg (Zc p)] (.tup [.agg [.v (.slice none 0 0),.v (.slice none 0 0),I 0,I 0],I (Us l p)]):=by
 refine t75.1 (by simp [ZH,Zf,Zl,Zh,Zc,Za,KFL,KF]) (by simp [KFL,KF]) ?_
 dsimp only [c75,r75,ZH,Zc,go_sem,rA,rM,rS]
 refine call (ZbV l hs) ?_
 dsimp only [go_sem,rA,rM,rS]
 by_cases h1:ZS l=true
 case neg =>
  refine Zr (by simp [h1]) ?_
  dsimp only [go_sem,rA,rM,rS]
  simp [Us,h1]
 refine Zs (by simp [h1]) ?_
 dsimp only [go_sem,rA,rM,rS]
 refine call (YS 1 100000 p _) ?_
 dsimp only [go_sem,rA,rM,rS]
 have h2:ZU p=false:=by
  by_cases h2:ZU p=true
  . exact absurd (by simp [Us,h1,h2]) ha
  . simpa using h2
 refine Zr (by simpa [ZU] using h2) ?_
 dsimp only [go_sem,rA,rM,rS]
 simp [Us,h1,h2]
theorem ZbE (l:Land) (p:Span) (k:Nat) (hk:k < l.legs.length) (hx:GoodLeg l.legs[k]) (hp:ZU p=true):Ct Tryz.prog 82 [.agg (YM l p),I k] (.agg (Zc (Vz l.legs[k] p))):=by
 have hb:=day_bd hx hp
 have hp':=hp
 simp only [ZU,Z0,decide_eq_true_eq] at hp'
 obtain ⟨h1,h2,h3,h4,h5⟩:=hx
 refine t82.1 (by simp [YM,Zf,Zl,Zh,Zc,Za,KFL,KF]) (by simp [Zc,KFL,KF]) ?_
 dsimp only [c82,r82,YM,go_sem,rA,rM,rS]
 refine Zm k hk rfl ?_
 dsimp only [Zl,go_sem,rA,rM,rS]
 rw [Ze (n:=l.legs[k].long.lo+p.hi) (by omega) (by omega),Ze (n:=l.legs[k].long.lo+p.hi - 1) (by omega) (by omega)]
 refine ZcI (by omega) ?_
 dsimp only [go_sem,rA,rM,rS]
 rw [Ze (n:=l.legs[k].long.hi+p.lo) (by omega) (by omega),Ze (n:=l.legs[k].long.hi+p.lo - 1) (by omega) (by omega)]
 refine ZcI (by omega) ?_
 dsimp only [Zc,go_sem,rA,rM,rS]
 simp only [Vz] at hb ⊢
 rw [Ze (n:=(l.legs[k].long.lo+p.hi - 1).tdiv p.hi) (by omega) (by omega),Ze (n:=(l.legs[k].long.hi+p.lo - 1).tdiv p.lo) (by omega) (by omega)]
theorem ZbN (a b:Int):Ct Tryz.prog 80 [.agg [I a,I b]] (.agg [I a,I b]):=by
 refine t80.1 (by simp [KFL,KF]) (by simp [KFL,KF]) ?_
 dsimp only [c80,r80,go_sem,rA,rM,rS]
 refine ixa 0 rfl (by decide) ?_
 dsimp only [go_sem,rA,rM,rS]
 refine ixa 1 rfl (by decide) ?_
 dsimp only [go_sem,rA,rM,rS]
theorem Zkf (l:Land) (hs:XM l) (leg:Int) (p:Span):Ct Tryz.prog 39 [.agg (ZH l),I leg,.agg (Zc p)] (sres (Yz l leg p)):=by
 have hw1:IntKind.i64.wrap ((l.legs.length:Int) - 1)=(l.legs.length:Int) - 1:=Ze (by omega) (by have:=hs.2.1;omega)
 refine t39.1 (by simp [ZH,Zf,Zl,Zh,Zc,Za,KFL,KF]) (by simp [sres,Zc,KFL,KF]) ?_
 dsimp only [c39,r39,ZH,Zc,go_sem,rA,rM,rS]
 by_cases ha:Us l p=0
 case neg =>
  refine call (Zcf l hs p ha) ?_
  dsimp only [go_sem,rA,rM,rS]
  refine Zr (by simpa using ha) ?_
  dsimp only [go_sem,rA,rM,rS]
  simp [Yz,ha,sres,Zc]
 refine call (Zdk l hs p ha) ?_
 dsimp only [YM,go_sem,rA,rM,rS]
 refine Zs (by decide) ?_
 dsimp only [go_sem,rA,rM,rS]
 simp only [List.length_map,hw1]
 repeat (first | (refine gb ?_;dsimp only [go_sem,rA,rM,rS]) | (refine call (Ua _ _ _ _) ?_;dsimp only [go_sem,rA,rM,rS]))
 by_cases hr:inR 0 (l.legs.length - 1) leg=true
 case neg =>
  refine Zr (by grind) ?_
  dsimp only [go_sem,rA,rM,rS]
  simp [Yz,ha,hr,sres,Zc]
 refine Zs (by grind) ?_
 dsimp only [go_sem,rA,rM,rS]
 obtain ⟨k,hk,rfl,hget⟩:=Zha hr
 obtain ⟨hol,hop⟩:=ask0 ha
 have hx:=Xn hol l.legs[k] (List.getElem_mem _)
 refine call (ZbE l p k hk hx hop) ?_
 dsimp only [Zc,go_sem,rA,rM,rS]
 refine call (ZbN _ _) ?_
 dsimp only [go_sem,rA,rM,rS]
 simp only [Yz,ha,hr,hget,sres,Zc]
 simp
theorem XH (l:Land) (p:Span) (k:Nat) (hk:k < l.legs.length) (d0 d1:Int) (hx:GoodLeg l.legs[k]) (hp:ZU p=true) (h0:inR 0 100001 d0=true) (h1:inR 0 100001 d1=true) :
 Ct Tryz.prog 78 [.agg (YM l p),I k,.agg [I d0,I d1]] (.agg [I (Zih l.legs[k] p d0),I (Zeo l.legs[k] p d1)]):=by
 have hb:=day_bd hx hp
 have hg:=YF hx.g2 (Int.le_refl _)
 have hl:=hx.g1
 simp only [inR,decide_eq_true_eq] at h0 h1
 refine t78.1 (by simp [YM,Zf,Zl,Zh,Zc,Za,KFL,KF]) (by simp [KFL,KF]) ?_
 dsimp only [c78,r78,YM,go_sem,rA,rM,rS]
 refine call (ZbE l p k hk hx hp) ?_
 dsimp only [Zc,go_sem,rA,rM,rS]
 refine Zm k hk rfl ?_
 dsimp only [Zl,go_sem,rA,rM,rS]
 have e0:ZdX (Vz l.legs[k] p).lo d0 (·.opens.lo) (·.shuts.hi) 100001 l.legs[k].gates=Zih l.legs[k] p d0:=by
  rw [Zb0 hb.1 (fun g h=>by omega) hx.g2 (Int.le_refl _) (by omega)]
  exact Int.min_eq_right (ZdR hb.1 (fun g h=>by have:=hg g h;omega))
 have e1:ZdX (Vz l.legs[k] p).hi d1 (·.opens.hi) (·.shuts.lo) 100001 l.legs[k].gates=Zeo l.legs[k] p d1:=by
  rw [Zb0 hb.2.2.1 (fun g h=>by omega) hx.g2 (Int.le_refl _) (by omega)]
  exact Int.min_eq_right (ZdR hb.2.2.1 (fun g h=>by have:=hg g h;omega))
 generalize hnl:(Vz l.legs[k] p).lo=nl at hb e0
 generalize hnh:(Vz l.legs[k] p).hi=nh at hb e1
 refine YV (fun s:Nat × Int × Int=>[(27,I s.1)]) (fun s=>[(4,.cells [I s.2.1,I s.2.2] 165)])
  (fun s=>s.1<=l.legs[k].gates.length/\ZdX nl d0 (·.opens.lo) (·.shuts.hi) s.2.1 (l.legs[k].gates.drop s.1)=Zih l.legs[k] p d0/\ZdX nh d1 (·.opens.hi) (·.shuts.lo) s.2.2 (l.legs[k].gates.drop s.1)=Zeo l.legs[k] p d1)
  (fun s=>l.legs[k].gates.length - s.1) (0,100001,100001) ⟨Nat.zero_le _,e0,e1⟩ ?_ ?_
 . (refine Zk ?_ ?_ ?_ rfl rfl<;>dsimp only [Zh,Zf,Zl,Zc,id,go_sem,rA,rM,rS]<;>simp [Zh,Zf,Zl,Zc,Za,Zi,KFR,KFL,KF,Zd,mtO,nbr])
 rintro ⟨j,m0,m1⟩ ⟨hj,i0,i1⟩
 simp only at hj i0 i1
 dsimp only [go_sem,rA,rM,rS]
 by_cases hlt:j < l.legs[k].gates.length
 . refine Zr (by simpa using hlt) ?_
   dsimp only [go_sem,rA,rM,rS]
   have hgk:=hg l.legs[k].gates[j] (List.getElem_mem _)
   rw [List.drop_eq_getElem_cons hlt,ZdX] at i0 i1
   refine Zm j hlt rfl ?_
   dsimp only [Zh,go_sem,rA,rM,rS]
   refine Xa 3 ?_
   dsimp only [Zb,go_sem,rA,rM,rS]
   refine Zr (by decide) ?_
   dsimp only [Zb,go_sem,rA,rM,rS]
   repeat (first | (refine ixa 0 rfl (by decide) ?_;dsimp only [Zb,go_sem,rA,rM,rS]) | (refine call (WR _ _) ?_;dsimp only [Zb,go_sem,rA,rM,rS]))
   rw [Ze (n:=max d0 l.legs[k].gates[j].opens.lo+nl) (by omega) (by omega),Ze (n:=max d0 l.legs[k].gates[j].opens.lo+nl - 1) (by omega) (by omega)]
   refine br ?_ ?_
   . intro hA
     dsimp only [Zb,go_sem,rA,rM,rS]
     repeat (first | (refine ixa 0 rfl (by decide) ?_;dsimp only [Zb,go_sem,rA,rM,rS]) | (refine call (WR _ _) ?_;dsimp only [Zb,go_sem,rA,rM,rS]))
     rw [if_pos (by simpa using hA)] at i0
     refine Zr (by decide) ?_
     dsimp only [Zb,go_sem,rA,rM,rS]
     repeat (first | (refine ixa 1 rfl (by decide) ?_;dsimp only [Zb,go_sem,rA,rM,rS]) | (refine call (WR _ _) ?_;dsimp only [Zb,go_sem,rA,rM,rS]))
     rw [Ze (n:=max d1 l.legs[k].gates[j].opens.hi+nh) (by omega) (by omega),Ze (n:=max d1 l.legs[k].gates[j].opens.hi+nh - 1) (by omega) (by omega)]
     refine br ?_ ?_
     . intro hB
       dsimp only [Zb,go_sem,rA,rM,rS]
       repeat (first | (refine ixa 1 rfl (by decide) ?_;dsimp only [Zb,go_sem,rA,rM,rS]) | (refine call (WR _ _) ?_;dsimp only [Zb,go_sem,rA,rM,rS]))
       rw [if_pos (by simpa using hB)] at i1
       refine Zs (by decide) ?_
       dsimp only [go_sem,rA,rM,rS]
       rw [Ze (n:=(j:Int)+1) (by omega) (by omega)]
       refine ⟨(j+1,min (min m0 (max d0 l.legs[k].gates[j].opens.lo)) 100001,min (min m1 (max d1 l.legs[k].gates[j].opens.hi)) 100001),⟨hlt,i0,i1⟩,by simp only;omega,?_⟩
       (refine Zk ?_ ?_ ?_ rfl rfl<;>dsimp only [Zh,Zf,Zl,Zc,id,go_sem,rA,rM,rS]<;>simp [Zh,Zf,Zl,Zc,Za,Zi,KFR,KFL,KF,Zd,mtO,nbr])
     . intro hB
       dsimp only [Zb,go_sem,rA,rM,rS]
       rw [if_neg (by simpa using hB)] at i1
       refine Zs (by decide) ?_
       dsimp only [go_sem,rA,rM,rS]
       rw [Ze (n:=(j:Int)+1) (by omega) (by omega)]
       refine ⟨(j+1,min (min m0 (max d0 l.legs[k].gates[j].opens.lo)) 100001,m1),⟨hlt,i0,i1⟩,by simp only;omega,?_⟩
       (refine Zk ?_ ?_ ?_ rfl rfl<;>dsimp only [Zh,Zf,Zl,Zc,id,go_sem,rA,rM,rS]<;>simp [Zh,Zf,Zl,Zc,Za,Zi,KFR,KFL,KF,Zd,mtO,nbr])
   . intro hA
     dsimp only [Zb,go_sem,rA,rM,rS]
     rw [if_neg (by simpa using hA)] at i0
     refine Zr (by decide) ?_
     dsimp only [Zb,go_sem,rA,rM,rS]
     repeat (first | (refine ixa 1 rfl (by decide) ?_;dsimp only [Zb,go_sem,rA,rM,rS]) | (refine call (WR _ _) ?_;dsimp only [Zb,go_sem,rA,rM,rS]))
     rw [Ze (n:=max d1 l.legs[k].gates[j].opens.hi+nh) (by omega) (by omega),Ze (n:=max d1 l.legs[k].gates[j].opens.hi+nh - 1) (by omega) (by omega)]
     refine br ?_ ?_
     . intro hB
       dsimp only [Zb,go_sem,rA,rM,rS]
       repeat (first | (refine ixa 1 rfl (by decide) ?_;dsimp only [Zb,go_sem,rA,rM,rS]) | (refine call (WR _ _) ?_;dsimp only [Zb,go_sem,rA,rM,rS]))
       rw [if_pos (by simpa using hB)] at i1
       refine Zs (by decide) ?_
       dsimp only [go_sem,rA,rM,rS]
       rw [Ze (n:=(j:Int)+1) (by omega) (by omega)]
       refine ⟨(j+1,m0,min (min m1 (max d1 l.legs[k].gates[j].opens.hi)) 100001),⟨hlt,i0,i1⟩,by simp only;omega,?_⟩
       (refine Zk ?_ ?_ ?_ rfl rfl<;>dsimp only [Zh,Zf,Zl,Zc,id,go_sem,rA,rM,rS]<;>simp [Zh,Zf,Zl,Zc,Za,Zi,KFR,KFL,KF,Zd,mtO,nbr])
     . intro hB
       dsimp only [Zb,go_sem,rA,rM,rS]
       rw [if_neg (by simpa using hB)] at i1
       refine Zs (by decide) ?_
       dsimp only [go_sem,rA,rM,rS]
       rw [Ze (n:=(j:Int)+1) (by omega) (by omega)]
       refine ⟨(j+1,m0,m1),⟨hlt,i0,i1⟩,by simp only;omega,?_⟩
       (refine Zk ?_ ?_ ?_ rfl rfl<;>dsimp only [Zh,Zf,Zl,Zc,id,go_sem,rA,rM,rS]<;>simp [Zh,Zf,Zl,Zc,Za,Zi,KFR,KFL,KF,Zd,mtO,nbr])
 refine Zs (by simp;omega) ?_
 dsimp only [go_sem,rA,rM,rS]
 have hke:j=l.legs[k].gates.length:=by omega
 subst hke
 rw [List.drop_length,ZdX] at i0 i1
 rw [<- i0,<- i1]
end Go.Proofs.YtiigiflofnjilaaGreat
namespace Go.Azalai
theorem ZiM {n day:Int} {o s:Gate->Int} (hn:1<=n) (hd:day<=100001):∀ {l:List Gate},(∀ g ∈ l,s g<=100000)->(day<=Vy n day o s l/\Vy n day o s l<=100001)/\(Vy n day o s l=100001\/Vy n day o s l+n<=100001)
 | [],_=>⟨⟨by simp only [Vy];omega,by simp only [Vy];omega⟩,.inl rfl⟩
 | x :: l,h=>by
  have:=h x (by simp)
  have:=ZiM (day:=day) (o:=o) (s:=s) (l:=l) hn hd (fun g hg=>h g (by simp [hg]))
  simp only [Vy];split<;>omega
theorem ZgU {n day:Int} {o s:Gate->Int} (hn:1<=n):∀ {l:List Gate},(∀ g ∈ l,s g<=100000)->Vy n day o s l<=100001
 | [],_=>by simp only [Vy];omega
 | x :: l,h=>by
  have:=h x (by simp)
  have:=ZgU (day:=day) (o:=o) (s:=s) (l:=l) hn (fun g hg=>h g (by simp [hg]))
  simp only [Vy];split<;>omega
def nK (k:Bool) (x:Leg) (p:Span):Int:=bif k then (Vz x p).hi else (Vz x p).lo
def leK (k:Bool) (x:Leg) (p:Span) (t:Int):Int:=bif k then Zeo x p t else Zih x p t
def ZO (k:Bool) (x:Leg) (p:Span) (t:Int):Int:=min 100001 (leK k x p t+nK k x p)
theorem ZqH {k:Bool} {x:Leg} {p:Span} (h:GoodLeg x) (hp:ZU p=true):1<=nK k x p/\nK k x p<=1000000:=by
 have:=day_bd h hp
 cases k<;>simp only [nK,cond_true,cond_false]<;>omega
theorem Zdz {k:Bool} {x:Leg} {p:Span} {t:Int} (h:GoodLeg x) (hp:ZU p=true) :
 leK k x p t=ZdX (nK k x p) t (fun g=>bif k then g.opens.hi else g.opens.lo) (fun g=>bif k then g.shuts.lo else g.shuts.hi) 100001 x.gates /\
 leK k x p t=Vy (nK k x p) t (fun g=>bif k then g.opens.hi else g.opens.lo) (fun g=>bif k then g.shuts.lo else g.shuts.hi) x.gates/\∀ g ∈ x.gates,(bif k then g.shuts.lo else g.shuts.hi)<=100000:=by
 have hn:=ZqH (k:=k) h hp
 have hg:=YF h.g2 (Int.le_refl _)
 have h2:∀ g ∈ x.gates,(bif k then g.shuts.lo else g.shuts.hi)<=100000:=fun g hm=>by have:=hg g hm;cases k<;>simp only [cond_true,cond_false]<;>omega
 have h1:leK k x p t=Vy (nK k x p) t (fun g=>bif k then g.opens.hi else g.opens.lo) (fun g=>bif k then g.shuts.lo else g.shuts.hi) x.gates:=by cases k<;>rfl
 refine ⟨?_,h1,h2⟩
 rw [Zb0 hn.1 (fun g q=>by cases k<;>simp only [cond_true,cond_false]<;>omega) h.g2 (Int.le_refl _) (by omega),h1]
 have:=ZgU (day:=t) (o:=fun g=>bif k then g.opens.hi else g.opens.lo) hn.1 h2
 omega
theorem Zck {n:Int} {o s:Gate->Int} {d d':Int} (hn:1<=n) (hd:d<=d'):∀ {l:List Gate} {a a':Int},a<=a'->a'<=100001->(∀ g ∈ l,s g<=100000)->ZdX n d o s a l<=ZdX n d' o s a' l
 | [],a,a',ha,_,_=>by simpa only [ZdX] using ha
 | g :: l,a,a',ha,hb,hs=>by
  simp only [ZdX]
  have:=hs g (by simp)
  refine Zck hn hd ?_ ?_ (fun g hg=>hs g (by simp [hg]))
  . repeat' split
    all_goals omega
  . split<;>omega
theorem Zcu {k:Bool} {x:Leg} {p:Span} {t t':Int} (h:GoodLeg x) (hp:ZU p=true) (ht:t<=t'):ZO k x p t<=ZO k x p t':=by
 have hn:=ZqH (k:=k) h hp
 obtain ⟨a1,_,a3⟩:=Zdz (k:=k) (t:=t) h hp
 obtain ⟨b1,_,_⟩:=Zdz (k:=k) (t:=t') h hp
 have:=Zck (o:=fun g=>bif k then g.opens.hi else g.opens.lo) hn.1 ht (Int.le_refl 100001) (Int.le_refl _) a3
 simp only [ZO];omega
theorem Xd {k:Bool} {x:Leg} {p:Span} {t:Int} (h:GoodLeg x) (hp:ZU p=true) (ht:t<=100001):ZO k x p t<=100001/\(t+1<=ZO k x p t\/t=100001/\ZO k x p t=100001)/\(ZO k x p t < 100001->ZO k x p t=leK k x p t+nK k x p/\leK k x p t < 100001)/\(leK k x p t < 100001->leK k x p t+nK k x p<=100001)/\t<=leK k x p t/\leK k x p t<=100001:=by
 have hn:=ZqH (k:=k) h hp
 obtain ⟨_,a2,a3⟩:=Zdz (k:=k) (t:=t) h hp
 have:=ZiM (o:=fun g=>bif k then g.opens.hi else g.opens.lo) hn.1 ht a3
 rw [<- a2] at this
 simp only [ZO];omega
theorem Zcd {k:Bool} {x:Leg} {p:Span} {t:Int} (h:GoodLeg x) (hp:ZU p=true) (ht:t<=100001):t<=ZO k x p t:=by
 have:=Xd (k:=k) h hp ht;omega
def Zn (x:Leg) (v:Int):Int:=if x.a=v then x.b else if x.b=v then x.a else -1
def goW (k:Bool) (l:Land) (p:Span):Int->Int->List Nat->Option (Int × Int)
 | v,t,[]=>some (v,t)
 | v,t,i :: r=>match l.legs[i]? with
  | none=>none
  | some x=>if Zn x v < 0 then none else if ZO k x p t > 100000 then none else goW k l p (Zn x v) (ZO k x p t) r
structure OkLP (l:Land) (p:Span):Prop where
 land:ZS l=true
 pace:ZU p=true
theorem OkLP.leg {l:Land} {p:Span} (h:OkLP l p) {i:Nat} {x:Leg} (hx:l.legs[i]? = some x):GoodLeg x:=Xn h.land x (List.mem_of_getElem? hx)
theorem OkLP.ends {l:Land} {p:Span} (h:OkLP l p) {x:Leg} (hx:x ∈ l.legs):(0<=x.a/\x.a < l.wells.length)/\(0<=x.b/\x.b < l.wells.length)/\x.a≠x.b:=by
 have h1:=h.land
 simp only [ZS,Bool.and_eq_true,List.all_eq_true] at h1
 have:=h1.2 x hx
 simp only [XX,inR,Bool.and_eq_true,decide_eq_true_eq,bne_iff_ne] at this
 obtain ⟨⟨⟨⟨⟨q1,q2⟩,q3⟩,_⟩,_⟩,_⟩:=this
 refine ⟨by omega,by omega,q3⟩
theorem YB {l:Land} {p:Span} (h:OkLP l p) {i:Nat} {x:Leg} (hx:l.legs[i]? = some x) {v:Int} (ho:¬ Zn x v < 0):(0<=Zn x v/\Zn x v < l.wells.length)/\(x.a=v/\Zn x v=x.b\/x.b=v/\Zn x v=x.a)/\0<=v/\v < l.wells.length:=by
 have:=h.ends (List.mem_of_getElem? hx)
 unfold Zn at ho ⊢
 split
 . omega
 . split
   . omega
   . rw [if_neg (by assumption),if_neg (by assumption)] at ho;omega
theorem Zau {k:Bool} {l:Land} {p:Span}:∀ {a b:List Nat} {v t:Int},goW k l p v t (a ++ b)=(goW k l p v t a).bind fun s=>goW k l p s.1 s.2 b
 | [],b,v,t=>rfl
 | i :: a,b,v,t=>by
  simp only [List.cons_append,goW]
  cases l.legs[i]? with
  | none=>rfl
  | some x =>
   simp only
   split
   . rfl
   . split
     . rfl
     . exact Zau
theorem Vc {k:Bool} {l:Land} {p:Span} (h:OkLP l p):∀ {a:List Nat} {v t v' t':Int},goW k l p v t a=some (v',t')->t<=100000->0<=v->v < l.wells.length->t+a.length<=t'/\t'<=100000/\0<=v'/\v' < l.wells.length
 | [],v,t,v',t',e,ht,h0,h1=>by simp only [goW,Option.some.injEq,Prod.mk.injEq] at e;simp;omega
 | i :: a,v,t,v',t',e,ht,h0,h1=>by
  simp only [goW] at e
  cases hx:l.legs[i]? with
  | none=>rw [hx] at e;cases e
  | some x =>
   rw [hx] at e
   simp only at e
   by_cases ho:Zn x v < 0
   . rw [if_pos ho] at e;cases e
   . rw [if_neg ho] at e
     by_cases hr:ZO k x p t > 100000
     . rw [if_pos hr] at e;cases e
     . rw [if_neg hr] at e
       have hb:=Xd (k:=k) (h.leg hx) h.pace (show t<=100001 by omega)
       have ho':=YB h hx ho
       have:=Vc h e (by omega) ho'.1.1 ho'.1.2
       simp only [List.length_cons];omega
def Zjc (k:Bool) (l:Land) (p:Span) (d:Int->Int):Prop:=∀ x ∈ l.legs,d x.b<=ZO k x p (d x.a)/\d x.a<=ZO k x p (d x.b)
theorem ZcT {k:Bool} {l:Land} {p:Span} {d:Int->Int} (h:OkLP l p) (hc:Zjc k l p d):∀ {a:List Nat} {v t v' t':Int},goW k l p v t a=some (v',t')->d v<=t->d v'<=t'
 | [],v,t,v',t',e,ht=>by simp only [goW,Option.some.injEq,Prod.mk.injEq] at e;rw [<- e.1];omega
 | i :: a,v,t,v',t',e,ht=>by
  simp only [goW] at e
  cases hx:l.legs[i]? with
  | none=>rw [hx] at e;cases e
  | some x =>
   rw [hx] at e
   simp only at e
   by_cases ho:Zn x v < 0
   . rw [if_pos ho] at e;cases e
   . rw [if_neg ho] at e
     by_cases hr:ZO k x p t > 100000
     . rw [if_pos hr] at e;cases e
     . rw [if_neg hr] at e
       refine ZcT h hc e ?_
       have hcx:=hc x (List.mem_of_getElem? hx)
       have hm:=Zcu (k:=k) (h.leg hx) h.pace ht
       rcases (YB h hx ho).2.1 with ⟨q1,q2⟩ | ⟨q1,q2⟩
       . rw [q2];rw [<- q1] at hm;omega
       . rw [q2];rw [<- q1] at hm;omega
open Classical in
noncomputable def YR (k:Bool) (l:Land) (p:Span) (s day v:Int):Int :=
 if h:∃ n:Nat,∃ a,goW k l p s day a=some (v,(n:Int)) then ((Go.Sx.least_ex _ h).choose:Int) else 100001
theorem ZaH {k:Bool} {l:Land} {p:Span} (h:OkLP l p) {s day v t:Int} {a:List Nat} (e:goW k l p s day a=some (v,t)) (hd:0<=day) (hd':day<=100000) (h0:0<=s) (h1:s < l.wells.length):YR k l p s day v<=t:=by
 have hb:=Vc h e hd' h0 h1
 have hex:∃ n:Nat,∃ a,goW k l p s day a=some (v,(n:Int)):=⟨t.toNat,a,by rw [e,show ((t.toNat:Nat):Int)=t by omega]⟩
 unfold YR
 rw [dif_pos hex]
 have:=(Go.Sx.least_ex _ hex).choose_spec.2 t.toNat ⟨a,by rw [e,show ((t.toNat:Nat):Int)=t by omega]⟩
 omega
theorem Zas {k:Bool} {l:Land} {p:Span} {s day v:Int}:YR k l p s day v=100001\/∃ a,goW k l p s day a=some (v,YR k l p s day v):=by
 unfold YR
 by_cases hex:∃ n:Nat,∃ a,goW k l p s day a=some (v,(n:Int))
 . rw [dif_pos hex];exact .inr (Go.Sx.least_ex _ hex).choose_spec.1
 . rw [dif_neg hex];exact .inl rfl
theorem Zgz {k:Bool} {l:Land} {p:Span} (h:OkLP l p) {s day v:Int} (hd:0<=day) (hd':day<=100000) (h0:0<=s) (h1:s < l.wells.length):day<=YR k l p s day v/\YR k l p s day v<=100001:=by
 rcases Zas (k:=k) (l:=l) (p:=p) (s:=s) (day:=day) (v:=v) with e | ⟨a,e⟩
 . omega
 . have:=Vc h e hd' h0 h1;omega
theorem UZ {k:Bool} {l:Land} {p:Span} {a:List Nat} {s t v u:Int} {i:Nat} {x:Leg} (e:goW k l p s t a=some (v,u)) (hx:l.legs[i]? = some x) (ho:¬ Zn x v < 0) (hr:¬ ZO k x p u > 100000):goW k l p s t (a ++ [i])=some (Zn x v,ZO k x p u):=by
 rw [Zau,e]
 simp only [Option.bind_some,goW,hx]
 rw [if_neg ho,if_neg hr]
theorem Zb8 {k:Bool} {l:Land} {p:Span} (h:OkLP l p) {s day:Int} (hd:0<=day) (hd':day<=100000) (h0:0<=s) (h1:s < l.wells.length) {d:Int->Int} (hs:d s<=day) (hc:Zjc k l p d) (hb:∀ v,d v<=100001)
 (hr:∀ v,d v=100001\/∃ a,goW k l p s day a=some (v,d v)) (v:Int):d v=YR k l p s day v:=by
 have h2:YR k l p s day v<=d v:=by
  rcases hr v with e | ⟨a,e⟩
  . have:=Zgz (k:=k) (v:=v) h hd hd' h0 h1;omega
  . exact ZaH h e hd hd' h0 h1
 have h3:d v<=YR k l p s day v:=by
  rcases Zas (k:=k) (l:=l) (p:=p) (s:=s) (day:=day) (v:=v) with e | ⟨a,e⟩
  . have:=hb v;omega
  . exact ZcT h hc e hs
 omega
noncomputable def XU (k:Bool) (l:Land) (p:Span) (s day:Int):List Int:=(List.range l.wells.length).map fun v:Nat=>YR k l p s day (v:Int)
end Go.Azalai
namespace Go.Proofs.YtiigiflofnjilaaGreat
open Go Go.Sx
def c111:SC:=(.seq (.reg [
 o1 2 (.box (.t 0) 0 160),
 o1 3 (.box (.t 1) 0 3),
 o1 4 (.mv (.c (.nilFunc)))])
 (.seq (.reg [
 o1 5 (.mkf 153 [.t 2,.t 3]),
 m1 4 5])
 .ret))
def r111:List RV:=[.tmp 4]
theorem n111:Tryz.f111.ntmps=6:=by kernel_rfl
theorem b111:YO Tryz.prog 111=true:=by kernel_rfl
theorem Zqo:Xv Tryz.prog c111 ((Tryz.f111.body).getD .skip)=true:=by kernel_rfl
theorem Zs5:Ww Tryz.prog r111 Tryz.f111.results.toList=true:=by kernel_rfl
theorem m111 {n0:Nat} {hp0:List (Nat × HB)} {args:List SV} {ZV:Ot->Prop} (hh:hpb n0 hp0) (hx:∀ o,ZV o->KX o.res/\KXP o.hp) (h:sx Tryz.prog Y0 n0 c111 ⟨enum 0 args,hp0,n0,6,[]⟩ (retM r111 fun o=>∃ o',ZV o'/\ZdT n0 o o')) (hA:Nat.ble args.length 6=true:=by rfl):CtM Tryz.prog 111 hp0 n0 args ZV:=Y9 Tryz.func111 rfl b111 Zqo Zs5 n111 (Nat.le_of_ble_eq_true hA) hh hx h
def Zwk:SC:=(.seq (.reg [
 o1 6 (.addo (.t 1) 0),
 o1 7 (.addo (.t 6) 1),
 o1 8 (.ld (.t 7) 1 false),
 o1 9 (.len (.t 8)),
 o1 10 (.mv (.c (.int .i64 0)))])
 (.block 0 (.loop (.seq (.reg [
  o1 11 (.bin .lss (.t 10) (.t 9))])
  (.seq (.cond (.t 11)
  .skip
  (.exit 0))
  (.seq (.block 1 (.seq (.reg [
   m1 12 10,
   o1 13 (.ixs (.t 8) (.t 10) 5),
   o1 14 (.ld (.t 13) 5 true),
   o1 5 (.alloc zv8 83),
   m1 4 12,
   ⟨none,.st (.t 5) (.t 14) 5,none,[]⟩])
   (.seq (.reg [
   o1 15 (.ld (.t 2) 1 false)])
   (.block 2 (.seq (.reg [
    o1 17 (.addo (.t 5) 0),
    o1 18 (.ld (.t 17) 1 false),
    o1 19 (.bin .eql (.t 15) (.t 18)),
    m1 16 19])
    (.cond (.t 16)
    (.seq (.reg [
     m1 20 0,
     m1 21 4,
     o1 22 (.addo (.t 5) 1),
     o1 23 (.ld (.t 22) 1 false),
     o1 24 (.calvm (.t 20) [.t 21,.t 23]),
     o1 25 (.un .not (.t 24))])
     (.cond (.t 25)
     .ret
     .skip))
    (.seq (.reg [
     o1 27 (.addo (.t 5) 1),
     o1 28 (.ld (.t 27) 1 false),
     o1 29 (.bin .eql (.t 15) (.t 28)),
     m1 26 29])
     (.cond (.t 26)
     (.seq (.reg [
      m1 30 0,
      m1 31 4,
      o1 32 (.addo (.t 5) 0),
      o1 33 (.ld (.t 32) 1 false),
      o1 34 (.calvm (.t 30) [.t 31,.t 33]),
      o1 35 (.un .not (.t 34))])
      (.cond (.t 35)
      .ret
      .skip))
     .skip))))))))
  (.reg [
  o1 36 (.bin .add (.t 10) (.c (.int .i64 1))),
  m1 10 36])))))))
def Zwa:List RV:=[]
theorem n153:Tryz.f153.ntmps=37:=by kernel_rfl
theorem b153:YO Tryz.prog 153=true:=by kernel_rfl
theorem ZrS:Xv Tryz.prog Zwk ((Tryz.f153.body).getD .skip)=true:=by kernel_rfl
theorem Zrp:Ww Tryz.prog Zwa Tryz.f153.results.toList=true:=by kernel_rfl
theorem y153 {Y:Hd} {n0:Nat} {hp0:List (Nat × HB)} {args:List SV} {ZV:Ot->Prop} (h:sx Tryz.prog Y n0 Zwk ⟨enum 0 args,hp0,n0,37,[]⟩ (retM Zwa ZV)) (hA:Nat.ble args.length 37=true:=by rfl):CtY Tryz.prog Y 153 hp0 n0 args ZV:=Za2 Tryz.func153 rfl ZrS Zrp n153 (Nat.le_of_ble_eq_true hA) h
def c77:SC:=(.seq (.reg [
 o1 3 (.box (.t 0) 0 160),
 o1 4 (.box (.t 1) 0 3),
 o1 6 (.alloc [.int .i64 0] 3)])
 (.seq (.seq (.reg [
 o1 9 (.ld (.t 3) 4 true),
 m1 10 2,
 o1 11 (.callm 111 [.t 9,.t 10])])
 (.block 0 (.gh (.rfun (.t 11) [12,13] (.seq (.reg [
  m1 7 12])
  (.reg [
  m1 8 13]))
  (.block 1 (.seq (.reg [
   m1 14 7,
   o1 15 (.ld (.t 4) 1 false),
   o1 16 (.bin .eql (.t 14) (.t 15))])
   (.cond (.t 16)
   (.seq (.reg [
    m1 17 8,
    ⟨none,.st (.t 6) (.t 17) 1,none,[]⟩])
    .ret)
   .skip)))))))
 (.seq (.reg [
 ⟨none,.st (.t 6) (.c (.int .i64 (-1))) 1,none,[]⟩])
 .ret)))
def r77:List RV:=[.cell 6 1 false]
theorem t77:Qt1 Tryz.prog 77 c77 r77 18:=ZT Tryz.func77 rfl (by kernel_rfl) (by kernel_rfl) (by kernel_rfl) (by kernel_rfl)
def c79:SC:=(.seq (.reg [
 o1 3 (.box (.t 0) 0 160),
 o1 5 (.box (.t 2) 0 165),
 o1 6 (.alloc [.int .i64 0,.int .i64 0] 165)])
 (.seq (.regd [0,1,2,3,4,5,6,7,8,9,10] [
 .op (o1 10 (.ld (.t 3) 4 true)),
 .op (m1 11 1),
 .op (o1 12 (.ld (.t 5) 2 true)),
 .op ⟨some 13,.call 78 [.t 10,.t 11,.t 12],none,[0,1,2]⟩,
 .op (o1 14 (.ld (.t 3) 4 true)),
 .op (m1 15 1),
 .op ⟨some 16,.call 82 [.t 14,.t 15],none,[3,4,5]⟩] 2 2 [
 o1 7 (.alloc [.int .i64 0,.int .i64 0] 165),
 o1 8 (.alloc [.int .i64 0,.int .i64 0] 165),
 ⟨none,.st (.t 7) (.t 13) 2,none,[0,1,2,3,6,7,8]⟩,
 ⟨none,.st (.t 8) (.t 16) 2,none,[0,1,2,3,4,5,6,7,8,9]⟩])
 (.seq (.seq (.reg [
 o1 17 (.mv (.c (.int .i64 0)))])
 (.block 0 (.loop (.seq (.reg [
  o1 18 (.bin .lss (.t 17) (.c (.int .i64 2)))])
  (.seq (.cond (.t 18)
  .skip
  (.exit 0))
  (.seq (.block 1 (.seq (.reg [
   m1 19 17,
   m1 9 19])
   (.regd [0,1,2,3,4,5,6,7,8,9,10,11] [
   .op (m1 20 9),
   .op (m1 21 9),
   .op ⟨some 22,.ixa (.t 7) (.t 21) 2 1,none,[1]⟩,
   .op ⟨some 23,.ld (.t 22) 1 false,none,[2]⟩,
   .op (m1 24 9),
   .op ⟨some 25,.ixa (.t 8) (.t 24) 2 1,none,[4]⟩,
   .op ⟨some 26,.ld (.t 25) 1 false,none,[5]⟩,
   .op ⟨some 27,.bin .add (.t 23) (.t 26),none,[3,6]⟩,
   .op ⟨some 28,.bsl 1 3 [.t 27],none,[7]⟩,
   .op ⟨some 29,.call 122 [.t 28],none,[8]⟩,
   .op ⟨some 30,.ixa (.t 7) (.t 20) 2 1,none,[0,1,2,3,4,5,6,7,8,9]⟩] 0 1 [
   ⟨none,.st (.t 30) (.t 29) 1,none,[0,1,2,3,4,5,6,7,8,9,10]⟩])))
  (.reg [
  o1 31 (.bin .add (.t 17) (.c (.int .i64 1))),
  m1 17 31])))))))
 (.seq (.reg [
 o1 32 (.ld (.t 7) 2 true),
 ⟨none,.st (.t 6) (.t 32) 2,none,[]⟩])
 .ret))))
def r79:List RV:=[.cell 6 2 true]
theorem t79:Qt1 Tryz.prog 79 c79 r79 33:=ZT Tryz.func79 rfl (by kernel_rfl) (by kernel_rfl) (by kernel_rfl) (by kernel_rfl)
def c97:SC:=(.seq (.reg [
 o1 4 (.box (.t 0) 0 160),
 o1 7 (.box (.t 3) 0 3),
 o1 8 (.mv (.c (.slice none 0 0)))])
 (.seq (.reg [
 o1 16 (.bsl 1 3 [.c (.int .i64 100001)]),
 o1 17 (.addo (.t 4) 0),
 o1 18 (.addo (.t 17) 0),
 o1 19 (.ld (.t 18) 1 false),
 o1 20 (.len (.t 19)),
 o1 21 (.callm 140 [.t 16,.t 20]),
 o1 9 (.alloc [.slice none 0 0] 35),
 ⟨none,.st (.t 9) (.t 21) 1,none,[]⟩])
 (.seq (.reg [
 o1 22 (.ld (.t 9) 1 false),
 m1 23 1,
 m1 24 2,
 o1 25 (.ixs (.t 22) (.t 23) 1),
 ⟨none,.st (.t 25) (.t 24) 1,none,[]⟩])
 (.seq (.reg [
 o1 26 (.raw (Go.Op.makeMap 189 Option.none) 189),
 m1 10 26])
 (.seq (.seq (.reg [
 o1 27 (.ld (.t 9) 1 false),
 o1 28 (.len (.t 27)),
 o1 29 (.mv (.c (.int .i64 0)))])
 (.block 0 (.loop (.seq (.reg [
  o1 30 (.bin .lss (.t 29) (.t 28))])
  (.seq (.cond (.t 30)
  .skip
  (.exit 0))
  (.seq (.block 1 (.seq (.reg [
   m1 31 29,
   m1 11 31])
   (.reg [
   m1 32 10,
   m1 33 11,
   ⟨none,.raw (Go.Op.mapUpdate 189 (Go.Operand.tmp 32) (Go.Operand.tmp 33) (Go.Operand.const (Go.Value.bool Bool.true))) 0,none,[]⟩])))
  (.reg [
  o1 34 (.bin .add (.t 29) (.c (.int .i64 1))),
  m1 29 34])))))))
 (.seq (.block 2 (.loop (.seq (.seq (.reg [
  m1 35 10,
  o1 36 (.raw (Go.Op.call { callee:=(Go.Callee.builtin Go.Builtin.len),args:=#[(Go.Operand.tmp 35)],argTypes:=#[189] }) 3),
  o1 37 (.bin .gtr (.t 36) (.c (.int .i64 0)))])
  (.cond (.t 37)
  .skip
  (.exit 2)))
  (.block 3 (.seq (.reg [
   o1 12 (.alloc [.int .i64 0] 3),
   ⟨none,.st (.t 12) (.c (.int .i64 (-1))) 1,none,[]⟩])
   (.seq (.seq (.reg [
   m1 38 10,
   o1 39 (.raw (Go.Op.range 189 (Go.Operand.tmp 38)) 0)])
   (.block 4 (.loop (.seq (.reg [
    o1 40 (.raw (Go.Op.next (Go.Operand.tmp 39) Bool.false) 0),
    o1 41 (.ext (.t 40) 0)])
    (.seq (.cond (.t 41)
    .skip
    (.exit 4))
    (.block 5 (.seq (.reg [
     o1 42 (.raw (Go.Op.entry (Go.Operand.tmp 39)) 0),
     o1 43 (.ext (.t 42) 0),
     m1 13 43])
     (.seq (.regd [0,1,2,3,4,5,6,7,8,9,10,11,12,13,14,15,16,17,18,19,20,21,22,23,24,25,26,27,28] [
     .op (o1 44 (.ld (.t 12) 1 false)),
     .op ⟨some 45,.bin .lss (.t 44) (.c (.int .i64 0)),none,[0]⟩,
     .op ⟨some 46,.mv (.t 45),none,[1]⟩,
     .op ⟨some 47,.ld (.t 9) 1 false,some (46,false),[2]⟩,
     .op ⟨some 48,.mv (.t 13),some (46,false),[2]⟩,
     .op ⟨some 49,.ixs (.t 47) (.t 48) 1,some (46,false),[2,3,4]⟩,
     .op ⟨some 50,.ld (.t 49) 1 false,some (46,false),[2,5]⟩,
     .op ⟨some 51,.ld (.t 9) 1 false,some (46,false),[2]⟩,
     .op ⟨some 52,.ld (.t 12) 1 false,some (46,false),[2]⟩,
     .op ⟨some 53,.ixs (.t 51) (.t 52) 1,some (46,false),[2,7,8]⟩,
     .op ⟨some 54,.ld (.t 53) 1 false,some (46,false),[2,9]⟩,
     .op ⟨some 55,.bin .lss (.t 50) (.t 54),some (46,false),[2,6,10]⟩,
     .op ⟨some 56,.pick (.t 46) (.c (.bool true)) (.t 55),none,[2,11]⟩,
     .op ⟨some 57,.mv (.t 56),none,[2,12]⟩,
     .op ⟨some 58,.ld (.t 9) 1 false,some (57,false),[13]⟩,
     .op ⟨some 59,.mv (.t 13),some (57,false),[13]⟩,
     .op ⟨some 60,.ixs (.t 58) (.t 59) 1,some (57,false),[13,14,15]⟩,
     .op ⟨some 61,.ld (.t 60) 1 false,some (57,false),[13,16]⟩,
     .op ⟨some 62,.ld (.t 9) 1 false,some (57,false),[13]⟩,
     .op ⟨some 63,.ld (.t 12) 1 false,some (57,false),[13]⟩,
     .op ⟨some 64,.ixs (.t 62) (.t 63) 1,some (57,false),[13,18,19]⟩,
     .op ⟨some 65,.ld (.t 64) 1 false,some (57,false),[13,20]⟩,
     .op ⟨some 66,.bin .eql (.t 61) (.t 65),some (57,false),[13,17,21]⟩,
     .op ⟨some 67,.mv (.t 66),some (57,false),[13,22]⟩,
     .op ⟨some 68,.mv (.t 13),some (67,true),[23]⟩,
     .op ⟨some 69,.ld (.t 12) 1 false,some (67,true),[23]⟩,
     .op ⟨some 70,.bin .lss (.t 68) (.t 69),some (67,true),[23,24,25]⟩,
     .op ⟨some 71,.pick (.t 67) (.t 70) (.c (.bool false)),some (57,false),[13,23,26]⟩,
     .op ⟨some 72,.pick (.t 57) (.c (.bool true)) (.t 71),none,[13,27]⟩] 0 0 [
])
 (.cond (.t 72)
 (.reg [
  m1 73 13,
  ⟨none,.st (.t 12) (.t 73) 1,none,[]⟩])
 .skip)))))))))
 (.seq (.reg [
 m1 74 10,
 o1 75 (.ld (.t 12) 1 false),
 ⟨none,.raw (Go.Op.call { callee:=(Go.Callee.builtin Go.Builtin.delete),args:=#[(Go.Operand.tmp 74),(Go.Operand.tmp 75)],argTypes:=#[189,3] }) 0,none,[]⟩])
 (.seq (.reg [
 o1 76 (.ld (.t 4) 4 true),
 o1 77 (.ld (.t 12) 1 false),
 o1 78 (.callm 111 [.t 76,.t 77])])
 (.block 6 (.gh (.rfun (.t 78) [79,80] (.seq (.reg [
  m1 14 79])
  (.reg [
  m1 15 80]))
  (.block 7 (.regd [0,1,2,3,4,5,6,7,8,9,10,11,12,13,14,15,16,17,18,19,20,21,22] [
   .op (o1 81 (.ld (.t 9) 1 false)),
   .op (m1 82 15),
   .op (o1 83 (.ld (.t 9) 1 false)),
   .op (m1 84 15),
   .op ⟨some 85,.ixs (.t 83) (.t 84) 1,none,[2,3]⟩,
   .op ⟨some 86,.ld (.t 85) 1 false,none,[4]⟩,
   .op (o1 87 (.ld (.t 4) 4 true)),
   .op (m1 88 14),
   .op (o1 89 (.ld (.t 9) 1 false)),
   .op (o1 90 (.ld (.t 12) 1 false)),
   .op ⟨some 91,.ixs (.t 89) (.t 90) 1,none,[8,9]⟩,
   .op ⟨some 92,.ld (.t 91) 1 false,none,[10]⟩,
   .op (o1 93 (.ld (.t 9) 1 false)),
   .op (o1 94 (.ld (.t 12) 1 false)),
   .op ⟨some 95,.ixs (.t 93) (.t 94) 1,none,[12,13]⟩,
   .op ⟨some 96,.ld (.t 95) 1 false,none,[14]⟩,
   .op ⟨some 97,.build [.int .i64 0,.int .i64 0] [(0,1,.t 92),(1,1,.t 96)],none,[11,15]⟩,
   .op ⟨some 98,.call 79 [.t 87,.t 88,.t 97],none,[6,7,16]⟩,
   .op (o1 99 (.ld (.t 7) 1 false)),
   .op ⟨some 100,.idx (.t 98) (.t 99) 2 1 false,none,[17,18]⟩,
   .op ⟨some 101,.mm false [.t 86,.t 100],none,[5,19]⟩,
   .op ⟨some 102,.ixs (.t 81) (.t 82) 1,none,[0,1,2,3,4,5,6,7,8,9,10,11,12,13,14,15,16,17,18,19,20]⟩] 0 1 [
   ⟨none,.st (.t 102) (.t 101) 1,none,[0,1,2,3,4,5,6,7,8,9,10,11,12,13,14,15,16,17,18,19,20,21]⟩])))))))))))))
 (.seq (.reg [
 o1 103 (.ld (.t 9) 1 false),
 m1 8 103])
 .ret)))))))
def r97:List RV:=[.tmp 8]
theorem t97:Qt1 Tryz.prog 97 c97 r97 104:=ZT Tryz.func97 rfl (by kernel_rfl) (by kernel_rfl) (by kernel_rfl) (by kernel_rfl)
def c52:SC:=(.seq (.reg [
 o1 4 (.box (.t 0) 0 25),
 o1 7 (.box (.t 3) 0 27),
 o1 8 (.mv (.c (.slice none 0 0))),
 o1 9 (.mv (.c (.int .i64 0)))])
 (.seq (.reg [
 o1 17 (.ld (.t 4) 2 true),
 o1 18 (.ld (.t 7) 2 true),
 o1 19 (.call 75 [.t 17,.t 18]),
 m1 16 19,
 o1 20 (.ext (.t 16) 0),
 o1 21 (.ext (.t 16) 1),
 o1 10 (.alloc [.slice none 0 0,.slice none 0 0,.int .i64 0,.int .i64 0] 160),
 ⟨none,.st (.t 10) (.t 20) 4,none,[]⟩,
 m1 11 21])
 (.seq (.block 0 (.seq (.reg [
  m1 23 11,
  o1 24 (.bin .neq (.t 23) (.c (.int .i64 0))),
  m1 22 24])
  (.cond (.t 22)
  (.seq (.reg [
   m1 25 11,
   o1 8 (.mv (.c (.slice none 0 0))),
   m1 9 25])
   .ret)
  (.seq (.reg [
   o1 27 (.addo (.t 4) 0),
   o1 28 (.ld (.t 27) 1 false),
   o1 29 (.len (.t 28)),
   o1 30 (.bin .sub (.t 29) (.c (.int .i64 1))),
   m1 31 1,
   o1 32 (.bsl 1 3 [.t 31]),
   o1 33 (.call 76 [.c (.int .i64 0),.t 30,.t 32]),
   o1 34 (.un .not (.t 33)),
   m1 35 34,
   ⟨some 36,.mv (.t 2),some (35,false),[]⟩,
   ⟨some 37,.bsl 1 3 [.t 36],some (35,false),[]⟩,
   ⟨some 38,.call 76 [.c (.int .i64 0),.c (.int .i64 100000),.t 37],some (35,false),[]⟩,
   ⟨some 39,.un .not (.t 38),some (35,false),[]⟩,
   o1 40 (.pick (.t 35) (.c (.bool true)) (.t 39)),
   m1 26 40])
   (.cond (.t 26)
   (.seq (.reg [
    o1 8 (.mv (.c (.slice none 0 0))),
    o1 9 (.mv (.c (.int .i64 2)))])
    .ret)
   .skip)))))
 (.seq (.reg [
 o1 12 (.mv (.c (.slice none 0 0)))])
 (.seq (.reg [
 o1 41 (.ld (.t 10) 4 true),
 m1 42 1,
 m1 43 2,
 o1 44 (.call 97 [.t 41,.t 42,.t 43,.c (.int .i64 1)]),
 m1 13 44])
 (.seq (.seq (.reg [
 o1 45 (.ld (.t 10) 4 true),
 m1 46 1,
 m1 47 2,
 o1 48 (.call 97 [.t 45,.t 46,.t 47,.c (.int .i64 0)]),
 o1 49 (.len (.t 48)),
 o1 50 (.mv (.c (.int .i64 0)))])
 (.block 1 (.loop (.seq (.reg [
  o1 51 (.bin .lss (.t 50) (.t 49))])
  (.seq (.cond (.t 51)
  .skip
  (.exit 1))
  (.seq (.block 2 (.seq (.reg [
   m1 52 50,
   o1 53 (.ixs (.t 48) (.t 50) 1),
   o1 54 (.ld (.t 53) 1 false),
   m1 14 52,
   m1 15 54])
   (.reg [
   m1 55 12,
   m1 56 15,
   m1 57 13,
   m1 58 14,
   o1 59 (.ixs (.t 57) (.t 58) 1),
   o1 60 (.ld (.t 59) 1 false),
   o1 61 (.build [.int .i64 0,.int .i64 0] [(0,1,.t 56),(1,1,.t 60)]),
   o1 62 (.bsl 2 27 [.t 61]),
   o1 63 (.appm 2 16 27 (.t 55) (.t 62)),
   m1 12 63])))
  (.reg [
  o1 64 (.bin .add (.t 50) (.c (.int .i64 1))),
  m1 50 64])))))))
 (.seq (.reg [
 m1 65 12,
 m1 8 65,
 o1 9 (.mv (.c (.int .i64 0)))])
 .ret)))))))
def r52:List RV:=[.tmp 8,.tmp 9]
theorem t52:Qt1 Tryz.prog 52 c52 r52 66:=ZT Tryz.func52 rfl (by kernel_rfl) (by kernel_rfl) (by kernel_rfl) (by kernel_rfl)
def c36:SC:=(.seq (.reg [
 o1 5 (.box (.t 0) 0 25),
 o1 8 (.box (.t 3) 0 27),
 o1 10 (.mv (.c (.slice none 0 0))),
 o1 11 (.mv (.c (.int .i64 0))),
 o1 12 (.mv (.c (.int .i64 0)))])
 (.seq (.reg [
 o1 23 (.ld (.t 5) 2 true),
 o1 24 (.ld (.t 8) 2 true),
 o1 25 (.call 75 [.t 23,.t 24]),
 m1 22 25,
 o1 26 (.ext (.t 22) 0),
 o1 27 (.ext (.t 22) 1),
 o1 13 (.alloc [.slice none 0 0,.slice none 0 0,.int .i64 0,.int .i64 0] 160),
 ⟨none,.st (.t 13) (.t 26) 4,none,[]⟩,
 m1 12 27])
 (.seq (.block 0 (.seq (.reg [
  m1 29 12,
  o1 30 (.bin .neq (.t 29) (.c (.int .i64 0))),
  m1 28 30])
  (.cond (.t 28)
  (.seq (.reg [
   m1 31 12,
   o1 10 (.mv (.c (.slice none 0 0))),
   o1 11 (.mv (.c (.int .i64 0))),
   m1 12 31])
   .ret)
  (.seq (.reg [
   o1 33 (.addo (.t 5) 0),
   o1 34 (.ld (.t 33) 1 false),
   o1 35 (.len (.t 34)),
   o1 36 (.bin .sub (.t 35) (.c (.int .i64 1))),
   m1 37 1,
   o1 38 (.bsl 1 3 [.t 37]),
   o1 39 (.call 76 [.c (.int .i64 0),.t 36,.t 38]),
   o1 40 (.un .not (.t 39)),
   m1 41 40,
   ⟨some 42,.mv (.t 2),some (41,false),[]⟩,
   ⟨some 43,.bsl 1 3 [.t 42],some (41,false),[]⟩,
   ⟨some 44,.call 76 [.c (.int .i64 0),.c (.int .i64 100000),.t 43],some (41,false),[]⟩,
   ⟨some 45,.un .not (.t 44),some (41,false),[]⟩,
   o1 46 (.pick (.t 41) (.c (.bool true)) (.t 45)),
   m1 32 46])
   (.cond (.t 32)
   (.seq (.reg [
    o1 10 (.mv (.c (.slice none 0 0))),
    o1 11 (.mv (.c (.int .i64 0))),
    o1 12 (.mv (.c (.int .i64 2)))])
    .ret)
   (.seq (.reg [
    m1 48 4,
    o1 49 (.len (.t 48)),
    o1 50 (.bin .gtr (.t 49) (.c (.int .i64 24))),
    m1 47 50])
    (.cond (.t 47)
    (.seq (.reg [
     o1 10 (.mv (.c (.slice none 0 0))),
     o1 11 (.mv (.c (.int .i64 0))),
     o1 12 (.mv (.c (.int .i64 4)))])
     .ret)
    .skip)))))))
 (.seq (.reg [
 o1 14 (.mv (.c (.slice none 0 0)))])
 (.seq (.reg [
 m1 51 1,
 m1 15 51])
 (.seq (.seq (.reg [
 m1 52 4,
 o1 53 (.len (.t 52)),
 o1 54 (.mv (.c (.int .i64 0)))])
 (.block 1 (.loop (.seq (.reg [
  o1 55 (.bin .lss (.t 54) (.t 53))])
  (.seq (.cond (.t 55)
  .skip
  (.exit 1))
  (.seq (.block 2 (.seq (.reg [
   m1 56 54,
   o1 57 (.ixs (.t 52) (.t 54) 1),
   o1 58 (.ld (.t 57) 1 false),
   m1 16 56,
   m1 17 58])
   (.seq (.seq (.reg [
   o1 59 (.ld (.t 13) 4 true),
   m1 60 17,
   m1 61 15,
   o1 62 (.call 77 [.t 59,.t 60,.t 61]),
   m1 15 62])
   (.seq (.reg [
   m1 63 15,
   o1 64 (.bin .lss (.t 63) (.c (.int .i64 0)))])
   (.cond (.t 64)
   (.seq (.reg [
    m1 65 16,
    o1 10 (.mv (.c (.slice none 0 0))),
    m1 11 65,
    o1 12 (.mv (.c (.int .i64 8)))])
    .ret)
   .skip)))
   (.reg [
   m1 66 14,
   m1 67 15,
   o1 68 (.bsl 1 3 [.t 67]),
   o1 69 (.appm 1 8 3 (.t 66) (.t 68)),
   m1 14 69]))))
  (.reg [
  o1 70 (.bin .add (.t 54) (.c (.int .i64 1))),
  m1 54 70])))))))
 (.seq (.reg [
 m1 71 2,
 m1 72 2,
 o1 73 (.build [.int .i64 0,.int .i64 0] [(0,1,.t 71),(1,1,.t 72)]),
 o1 18 (.alloc [.int .i64 0,.int .i64 0] 165),
 ⟨none,.st (.t 18) (.t 73) 2,none,[]⟩])
 (.seq (.seq (.reg [
 m1 74 4,
 o1 75 (.len (.t 74)),
 o1 76 (.mv (.c (.int .i64 0)))])
 (.block 3 (.loop (.seq (.reg [
  o1 77 (.bin .lss (.t 76) (.t 75))])
  (.seq (.cond (.t 77)
  .skip
  (.exit 3))
  (.seq (.block 4 (.seq (.reg [
   m1 78 76,
   o1 79 (.ixs (.t 74) (.t 76) 1),
   o1 80 (.ld (.t 79) 1 false),
   m1 19 78,
   m1 20 80])
   (.seq (.reg [
   o1 81 (.ld (.t 13) 4 true),
   m1 82 20,
   o1 83 (.ld (.t 18) 2 true),
   o1 84 (.call 78 [.t 81,.t 82,.t 83]),
   o1 21 (.alloc [.int .i64 0,.int .i64 0] 165),
   ⟨none,.st (.t 21) (.t 84) 2,none,[]⟩])
   (.seq (.seq (.reg [
   o1 85 (.ld (.t 13) 4 true),
   m1 86 20,
   o1 87 (.ld (.t 18) 2 true),
   o1 88 (.call 79 [.t 85,.t 86,.t 87]),
   ⟨none,.st (.t 18) (.t 88) 2,none,[]⟩])
   (.seq (.reg [
   o1 89 (.ixa (.t 18) (.c (.int .i64 1)) 2 1),
   o1 90 (.ld (.t 89) 1 false),
   o1 91 (.bin .gtr (.t 90) (.c (.int .i64 100000)))])
   (.cond (.t 91)
   (.seq (.reg [
    m1 92 19,
    o1 10 (.mv (.c (.slice none 0 0))),
    m1 11 92,
    o1 12 (.mv (.c (.int .i64 34)))])
    .ret)
   .skip)))
   (.regs [0,1,2,3,4,5,6,7,8,9,10,11,12,13] ⟨[
   .op (m1 93 10),
   .op (m1 94 20),
   .op (m1 95 14),
   .op (m1 96 19),
   .op ⟨some 97,.ixs (.t 95) (.t 96) 1,none,[2,3]⟩,
   .op ⟨some 98,.ld (.t 97) 1 false,none,[4]⟩,
   .op (o1 99 (.ld (.t 21) 2 true)),
   .op ⟨some 100,.call 80 [.t 99],none,[6]⟩,
   .op (o1 101 (.ld (.t 18) 2 true)),
   .op ⟨some 102,.call 80 [.t 101],none,[7,8]⟩,
   .op ⟨some 103,.build zv6 [(0,1,.t 94),(1,1,.t 98),(2,2,.t 100),(4,2,.t 102)],none,[1,5,7,9]⟩,
   .op ⟨some 104,.bsl 6 94 [.t 103],none,[10]⟩],0,1,[
   ⟨some 105,.appm 6 48 94 (.t 93) (.t 104),none,[0,9,11]⟩]⟩ [⟨[
],0,1,[
 ⟨some 10,.mv (.t 105),none,[0,1,2,3,4,5,6,7,8,9,10,11,12]⟩]⟩])))))
 (.reg [
 o1 106 (.bin .add (.t 76) (.c (.int .i64 1))),
 m1 76 106])))))))
 (.seq (.reg [
 m1 107 10,
 m1 10 107,
 o1 11 (.mv (.c (.int .i64 0))),
 o1 12 (.mv (.c (.int .i64 0)))])
 .ret)))))))))
def r36:List RV:=[.tmp 10,.tmp 11,.tmp 12]
theorem t36:Qt1 Tryz.prog 36 c36 r36 108:=ZT Tryz.func36 rfl (by kernel_rfl) (by kernel_rfl) (by kernel_rfl) (by kernel_rfl)
def c140:SC:=(.seq (.reg [
 o1 4 (.mv (.c (.slice none 0 0)))])
 (.seq (.seq (.reg [
 m1 9 1,
 o1 10 (.bin .lss (.t 9) (.c (.int .i64 0)))])
 (.cond (.t 10)
 (.reg [
  o1 11 (.raw (Go.Op.makeInterface 9 (Go.Operand.const (Go.Value.string { data:=#[99,97,110,110,111,116,32,98,101,32,110,101,103,97,116,105,118,101] }))) 20),
  ⟨none,.raw (Go.Op.panic (Go.Operand.tmp 11)) 0,none,[]⟩])
 .skip))
 (.seq (.reg [
 m1 13 0,
 o1 14 (.len (.t 13)),
 o1 15 (.conv .u64 (.t 14)),
 m1 16 1,
 o1 17 (.conv .u64 (.t 16)),
 o1 18 (.call 167 [.t 15,.t 17]),
 m1 12 18,
 o1 19 (.ext (.t 12) 0),
 o1 20 (.ext (.t 12) 1),
 m1 5 19,
 m1 6 20])
 (.seq (.seq (.reg [
 m1 21 5,
 o1 22 (.bin .gtr (.t 21) (.c (.int .u64 0))),
 m1 23 22,
 ⟨some 24,.mv (.t 6),some (23,false),[]⟩,
 ⟨some 25,.bin .gtr (.t 24) (.c (.int .u64 9223372036854775807)),some (23,false),[]⟩,
 o1 26 (.pick (.t 23) (.c (.bool true)) (.t 25))])
 (.cond (.t 26)
 (.reg [
  o1 27 (.raw (Go.Op.makeInterface 9 (Go.Operand.const (Go.Value.string { data:=#[116,104,101,32,114,101,115,117,108,116,32,111,102,32,40,108,101,110,40,120,41,32,42,32,99,111,117,110,116,41,32,111,118,101,114,102,108,111,119,115] }))) 20),
  ⟨none,.raw (Go.Op.panic (Go.Operand.tmp 27)) 0,none,[]⟩])
 .skip))
 (.seq (.reg [
 m1 28 6,
 o1 29 (.conv .i64 (.t 28)),
 o1 30 (.mks 1 8 [.int .i64 0] 3 (.t 29)),
 m1 7 30])
 (.seq (.reg [
 m1 31 7,
 m1 32 0,
 o1 33 (.cpy 1 (.t 31) (.t 32)),
 m1 8 33])
 (.seq (.block 0 (.loop (.seq (.seq (.reg [
  m1 34 8,
  m1 35 7,
  o1 36 (.len (.t 35)),
  o1 37 (.bin .lss (.t 34) (.t 36))])
  (.cond (.t 37)
  .skip
  (.exit 0)))
  (.block 1 (.regd [1,2,3,4,5,6,0,7,8,9] [
   .op (m1 39 7),
   .op (m1 40 8),
   .op ⟨some 41,.sub 1 (.t 39) (some (.t 40)) none,none,[1,2]⟩,
   .op (m1 42 7),
   .op (m1 43 8),
   .op ⟨some 44,.sub 1 (.t 42) none (some (.t 43)),none,[4,5]⟩,
   .hide (.t 41),
   .op (m1 38 8)] 0 1 [
   ⟨some 45,.cpy 1 (.t 41) (.t 44),none,[3,6]⟩,
   ⟨some 46,.bin .add (.t 38) (.t 45),none,[0,7]⟩,
   ⟨some 8,.mv (.t 46),none,[0,1,2,3,4,5,6,7,8]⟩])))))
 (.seq (.reg [
 m1 47 7,
 m1 4 47])
 .ret))))))))
def r140:List RV:=[.tmp 4]
theorem n140:Tryz.f140.ntmps=48:=by kernel_rfl
theorem b140:YO Tryz.prog 140=true:=by kernel_rfl
theorem ZtZ:Xv Tryz.prog c140 ((Tryz.f140.body).getD .skip)=true:=by kernel_rfl
theorem ZqD:Ww Tryz.prog r140 Tryz.f140.results.toList=true:=by kernel_rfl
theorem m140 {n0:Nat} {hp0:List (Nat × HB)} {args:List SV} {ZV:Ot->Prop} (hh:hpb n0 hp0) (hx:∀ o,ZV o->KX o.res/\KXP o.hp) (h:sx Tryz.prog Y0 n0 c140 ⟨enum 0 args,hp0,n0,48,[]⟩ (retM r140 fun o=>∃ o',ZV o'/\ZdT n0 o o')) (hA:Nat.ble args.length 48=true:=by rfl):CtM Tryz.prog 140 hp0 n0 args ZV:=Y9 Tryz.func140 rfl b140 ZtZ ZqD n140 (Nat.le_of_ble_eq_true hA) hh hx h
def c167:SC:=(.seq (.reg [
 o1 4 (.mv (.c (.int .u64 0))),
 o1 5 (.mv (.c (.int .u64 0)))])
 (.seq (.cond (.c (.bool false))
 (.seq (.reg [
  m1 11 0,
  o1 12 (.conv .u32 (.t 11)),
  m1 13 1,
  o1 14 (.conv .u32 (.t 13)),
  o1 15 (.call 173 [.t 12,.t 14]),
  m1 10 15,
  o1 16 (.ext (.t 10) 0),
  o1 17 (.ext (.t 10) 1),
  m1 6 16,
  m1 7 17])
  (.seq (.reg [
  m1 18 6,
  o1 19 (.conv .u64 (.t 18)),
  m1 20 7,
  o1 21 (.conv .u64 (.t 20)),
  m1 4 19,
  m1 5 21])
  .ret))
 .skip)
 (.seq (.reg [
 m1 23 0,
 m1 24 1,
 o1 25 (.call 174 [.t 23,.t 24]),
 m1 22 25,
 o1 26 (.ext (.t 22) 0),
 o1 27 (.ext (.t 22) 1),
 m1 8 26,
 m1 9 27])
 (.seq (.reg [
 m1 28 8,
 m1 29 9,
 m1 4 28,
 m1 5 29])
 .ret))))
def r167:List RV:=[.tmp 4,.tmp 5]
theorem t167:Qt1 Tryz.prog 167 c167 r167 30:=ZT Tryz.func167 rfl (by kernel_rfl) (by kernel_rfl) (by kernel_rfl) (by kernel_rfl)
def c174:SC:=(.seq (.reg [
 o1 4 (.mv (.c (.int .u64 0))),
 o1 5 (.mv (.c (.int .u64 0)))])
 (.seq (.reg [
 m1 14 0,
 o1 15 (.raw (Go.Op.binOp Go.BinOp.and 257 (Go.Operand.tmp 14) (Go.Operand.const (Go.Value.int Go.IntKind.u64 4294967295)) 257) 257),
 m1 6 15])
 (.seq (.reg [
 m1 16 0,
 o1 17 (.raw (Go.Op.binOp Go.BinOp.shr 257 (Go.Operand.tmp 16) (Go.Operand.const (Go.Value.int Go.IntKind.u64 32)) 247) 257),
 m1 7 17])
 (.seq (.reg [
 m1 18 1,
 o1 19 (.raw (Go.Op.binOp Go.BinOp.and 257 (Go.Operand.tmp 18) (Go.Operand.const (Go.Value.int Go.IntKind.u64 4294967295)) 257) 257),
 m1 8 19])
 (.seq (.reg [
 m1 20 1,
 o1 21 (.raw (Go.Op.binOp Go.BinOp.shr 257 (Go.Operand.tmp 20) (Go.Operand.const (Go.Value.int Go.IntKind.u64 32)) 247) 257),
 m1 9 21])
 (.seq (.reg [
 m1 22 6,
 m1 23 8,
 o1 24 (.bin .mul (.t 22) (.t 23)),
 m1 10 24])
 (.seq (.reg [
 m1 25 7,
 m1 26 8,
 o1 27 (.bin .mul (.t 25) (.t 26)),
 m1 28 10,
 o1 29 (.raw (Go.Op.binOp Go.BinOp.shr 257 (Go.Operand.tmp 28) (Go.Operand.const (Go.Value.int Go.IntKind.u64 32)) 247) 257),
 o1 30 (.bin .add (.t 27) (.t 29)),
 m1 11 30])
 (.seq (.reg [
 m1 31 11,
 o1 32 (.raw (Go.Op.binOp Go.BinOp.and 257 (Go.Operand.tmp 31) (Go.Operand.const (Go.Value.int Go.IntKind.u64 4294967295)) 257) 257),
 m1 12 32])
 (.seq (.reg [
 m1 33 11,
 o1 34 (.raw (Go.Op.binOp Go.BinOp.shr 257 (Go.Operand.tmp 33) (Go.Operand.const (Go.Value.int Go.IntKind.u64 32)) 247) 257),
 m1 13 34])
 (.seq (.reg [
 m1 35 12,
 m1 36 6,
 m1 37 9,
 o1 38 (.bin .mul (.t 36) (.t 37)),
 o1 39 (.bin .add (.t 35) (.t 38)),
 m1 12 39])
 (.seq (.reg [
 m1 40 7,
 m1 41 9,
 o1 42 (.bin .mul (.t 40) (.t 41)),
 m1 43 13,
 o1 44 (.bin .add (.t 42) (.t 43)),
 m1 45 12,
 o1 46 (.raw (Go.Op.binOp Go.BinOp.shr 257 (Go.Operand.tmp 45) (Go.Operand.const (Go.Value.int Go.IntKind.u64 32)) 247) 257),
 o1 47 (.bin .add (.t 44) (.t 46)),
 m1 4 47])
 (.seq (.reg [
 m1 48 0,
 m1 49 1,
 o1 50 (.bin .mul (.t 48) (.t 49)),
 m1 5 50])
 .ret))))))))))))
def r174:List RV:=[.tmp 4,.tmp 5]
theorem t174:Qt1 Tryz.prog 174 c174 r174 51:=ZT Tryz.func174 rfl (by kernel_rfl) (by kernel_rfl) (by kernel_rfl) (by kernel_rfl)
def c118:SC:=(.seq (.reg [
 o1 3 (.box (.t 0) 0 83),
 o1 4 (.box (.t 1) 0 27),
 o1 5 (.box (.t 2) 0 27),
 o1 6 (.alloc [.int .i64 0,.int .i64 0] 27)])
 (.seq (.reg [
 o1 10 (.build [.int .i64 0,.int .i64 0] [(0,1,.c (.int .i64 100001)),(1,1,.c (.int .i64 100001))]),
 o1 7 (.alloc [.int .i64 0,.int .i64 0] 27),
 ⟨none,.st (.t 7) (.t 10) 2,none,[]⟩])
 (.seq (.seq (.reg [
 o1 11 (.ld (.t 3) 5 true),
 o1 12 (.addo (.t 4) 0),
 o1 13 (.ld (.t 12) 1 false),
 o1 14 (.ld (.t 5) 2 true),
 o1 15 (.call 145 [.t 11,.t 13,.t 14]),
 m1 8 15])
 (.seq (.reg [
 m1 16 8,
 o1 17 (.bin .lss (.t 16) (.c (.int .i64 100001)))])
 (.cond (.t 17)
 (.reg [
  m1 18 8,
  o1 19 (.ld (.t 3) 5 true),
  o1 20 (.ld (.t 5) 2 true),
  o1 21 (.call 149 [.t 19,.t 20]),
  o1 22 (.fld (.t 21) 0 1 false),
  o1 23 (.bin .add (.t 18) (.t 22)),
  o1 24 (.mm false [.c (.int .i64 100001),.t 23]),
  o1 25 (.addo (.t 7) 0),
  ⟨none,.st (.t 25) (.t 24) 1,none,[]⟩])
 .skip)))
 (.seq (.seq (.reg [
 o1 26 (.ld (.t 3) 5 true),
 o1 27 (.addo (.t 4) 1),
 o1 28 (.ld (.t 27) 1 false),
 o1 29 (.ld (.t 5) 2 true),
 o1 30 (.call 146 [.t 26,.t 28,.t 29]),
 m1 9 30])
 (.seq (.reg [
 m1 31 9,
 o1 32 (.bin .lss (.t 31) (.c (.int .i64 100001)))])
 (.cond (.t 32)
 (.reg [
  m1 33 9,
  o1 34 (.ld (.t 3) 5 true),
  o1 35 (.ld (.t 5) 2 true),
  o1 36 (.call 149 [.t 34,.t 35]),
  o1 37 (.fld (.t 36) 1 1 false),
  o1 38 (.bin .add (.t 33) (.t 37)),
  o1 39 (.mm false [.c (.int .i64 100001),.t 38]),
  o1 40 (.addo (.t 7) 1),
  ⟨none,.st (.t 40) (.t 39) 1,none,[]⟩])
 .skip)))
 (.seq (.reg [
 o1 41 (.ld (.t 7) 2 true),
 ⟨none,.st (.t 6) (.t 41) 2,none,[]⟩])
 .ret)))))
def r118:List RV:=[.cell 6 2 true]
theorem t118:Qt1 Tryz.prog 118 c118 r118 42:=ZT Tryz.func118 rfl (by kernel_rfl) (by kernel_rfl) (by kernel_rfl) (by kernel_rfl)
def c104:SC:=(.seq (.reg [
 o1 5 (.box (.t 0) 0 25),
 o1 8 (.box (.t 3) 0 27),
 o1 10 (.mv (.c (.slice none 0 0))),
 o1 11 (.mv (.c (.int .i64 0))),
 o1 12 (.mv (.c (.int .i64 0)))])
 (.seq (.seq (.reg [
 o1 21 (.ld (.t 5) 2 true),
 o1 22 (.ld (.t 8) 2 true),
 o1 23 (.call 115 [.t 21,.t 22]),
 m1 13 23])
 (.seq (.reg [
 m1 24 13,
 o1 25 (.bin .neq (.t 24) (.c (.int .i64 0)))])
 (.cond (.t 25)
 (.seq (.reg [
  m1 26 13,
  o1 10 (.mv (.c (.slice none 0 0))),
  o1 11 (.mv (.c (.int .i64 0))),
  m1 12 26])
  .ret)
 .skip)))
 (.seq (.seq (.reg [
 m1 27 1,
 o1 28 (.addo (.t 5) 0),
 o1 29 (.ld (.t 28) 1 false),
 o1 30 (.len (.t 29)),
 o1 31 (.bin .sub (.t 30) (.c (.int .i64 1))),
 o1 32 (.call 88 [.t 27,.c (.int .i64 0),.t 31]),
 o1 33 (.un .not (.t 32)),
 m1 34 33,
 ⟨some 35,.mv (.t 2),some (34,false),[]⟩,
 ⟨some 36,.call 88 [.t 35,.c (.int .i64 0),.c (.int .i64 100000)],some (34,false),[]⟩,
 ⟨some 37,.un .not (.t 36),some (34,false),[]⟩,
 o1 38 (.pick (.t 34) (.c (.bool true)) (.t 37))])
 (.cond (.t 38)
 (.seq (.reg [
  o1 10 (.mv (.c (.slice none 0 0))),
  o1 11 (.mv (.c (.int .i64 0))),
  o1 12 (.mv (.c (.int .i64 2)))])
  .ret)
 .skip))
 (.seq (.seq (.reg [
 m1 39 4,
 o1 40 (.len (.t 39)),
 o1 41 (.bin .gtr (.t 40) (.c (.int .i64 24)))])
 (.cond (.t 41)
 (.seq (.reg [
  o1 10 (.mv (.c (.slice none 0 0))),
  o1 11 (.mv (.c (.int .i64 0))),
  o1 12 (.mv (.c (.int .i64 4)))])
  .ret)
 .skip))
 (.seq (.reg [
 m1 42 1,
 m1 14 42])
 (.seq (.seq (.reg [
 o1 15 (.mv (.c (.int .i64 0)))])
 (.block 0 (.loop (.seq (.seq (.reg [
  m1 43 15,
  m1 44 4,
  o1 45 (.len (.t 44)),
  o1 46 (.bin .lss (.t 43) (.t 45))])
  (.cond (.t 46)
  .skip
  (.exit 0)))
  (.seq (.block 1 (.seq (.seq (.regd [0,1,2,3,4,5,6,7,8,9,10,11,12,13,14,15,16,17,18,19,20,21,22] [
   .op (m1 49 4),
   .op (m1 50 15),
   .op ⟨some 51,.ixs (.t 49) (.t 50) 1,none,[0,1]⟩,
   .op ⟨some 52,.ld (.t 51) 1 false,none,[2]⟩,
   .op (o1 53 (.addo (.t 5) 1)),
   .op ⟨some 54,.ld (.t 53) 1 false,none,[4]⟩,
   .op ⟨some 55,.len (.t 54),none,[5]⟩,
   .op ⟨some 56,.bin .sub (.t 55) (.c (.int .i64 1)),none,[6]⟩,
   .op ⟨some 57,.call 88 [.t 52,.c (.int .i64 0),.t 56],none,[3,7]⟩,
   .op ⟨some 58,.un .not (.t 57),none,[8]⟩,
   .op ⟨some 59,.mv (.t 58),none,[8,9]⟩,
   .op ⟨some 60,.addo (.t 5) 1,some (59,false),[10]⟩,
   .op ⟨some 61,.ld (.t 60) 1 false,some (59,false),[10,11]⟩,
   .op ⟨some 62,.mv (.t 4),some (59,false),[10]⟩,
   .op ⟨some 63,.mv (.t 15),some (59,false),[10]⟩,
   .op ⟨some 64,.ixs (.t 62) (.t 63) 1,some (59,false),[10,13,14]⟩,
   .op ⟨some 65,.ld (.t 64) 1 false,some (59,false),[10,15]⟩,
   .op ⟨some 66,.ixs (.t 61) (.t 65) 5,some (59,false),[10,12,16]⟩,
   .op ⟨some 67,.ld (.t 66) 5 true,some (59,false),[10,17]⟩,
   .op ⟨some 68,.mv (.t 14),some (59,false),[10]⟩,
   .op ⟨some 69,.call 144 [.t 67,.t 68],some (59,false),[10,18,19]⟩,
   .op ⟨some 70,.bin .lss (.t 69) (.c (.int .i64 0)),some (59,false),[10,20]⟩,
   .op ⟨some 71,.pick (.t 59) (.c (.bool true)) (.t 70),none,[10,21]⟩] 0 0 [
])
 (.cond (.t 71)
 (.seq (.reg [
  m1 72 15,
  o1 10 (.mv (.c (.slice none 0 0))),
  m1 11 72,
  o1 12 (.mv (.c (.int .i64 8)))])
  .ret)
 .skip))
 (.regd [0,1,2,3,4,5,6,7,8,9,10] [
 .op (o1 73 (.addo (.t 5) 1)),
 .op ⟨some 74,.ld (.t 73) 1 false,none,[0]⟩,
 .op (m1 75 4),
 .op (m1 76 15),
 .op ⟨some 77,.ixs (.t 75) (.t 76) 1,none,[2,3]⟩,
 .op ⟨some 78,.ld (.t 77) 1 false,none,[4]⟩,
 .op ⟨some 79,.ixs (.t 74) (.t 78) 5,none,[1,5]⟩,
 .op ⟨some 80,.ld (.t 79) 5 true,none,[6]⟩,
 .op (m1 81 14),
 .op ⟨some 82,.call 144 [.t 80,.t 81],none,[7,8]⟩] 0 0 [
 ⟨some 14,.mv (.t 82),none,[0,1,2,3,4,5,6,7,8,9]⟩])))
 (.reg [
 m1 47 15,
 o1 48 (.bin .add (.t 47) (.c (.int .i64 1))),
 m1 15 48]))))))
 (.seq (.reg [
 o1 16 (.mv (.c (.slice none 0 0)))])
 (.seq (.reg [
 m1 83 2,
 m1 84 2,
 o1 85 (.build [.int .i64 0,.int .i64 0] [(0,1,.t 83),(1,1,.t 84)]),
 o1 17 (.alloc [.int .i64 0,.int .i64 0] 27),
 ⟨none,.st (.t 17) (.t 85) 2,none,[]⟩])
 (.seq (.reg [
 m1 86 1,
 m1 14 86])
 (.seq (.seq (.reg [
 o1 18 (.mv (.c (.int .i64 0)))])
 (.block 2 (.loop (.seq (.seq (.reg [
  m1 87 18,
  m1 88 4,
  o1 89 (.len (.t 88)),
  o1 90 (.bin .lss (.t 87) (.t 89))])
  (.cond (.t 90)
  .skip
  (.exit 2)))
  (.seq (.block 3 (.seq (.regd [0,1,2,3,4,5,6,7,8,9] [
   .op (o1 93 (.addo (.t 5) 1)),
   .op ⟨some 94,.ld (.t 93) 1 false,none,[0]⟩,
   .op (m1 95 4),
   .op (m1 96 18),
   .op ⟨some 97,.ixs (.t 95) (.t 96) 1,none,[2,3]⟩,
   .op ⟨some 98,.ld (.t 97) 1 false,none,[4]⟩,
   .op ⟨some 99,.ixs (.t 94) (.t 98) 5,none,[1,5]⟩,
   .op ⟨some 100,.ld (.t 99) 5 true,none,[6]⟩] 1 1 [
   o1 19 (.alloc zv8 83),
   ⟨none,.st (.t 19) (.t 100) 5,none,[0,1,2,3,4,5,6,7,8]⟩])
   (.seq (.reg [
   o1 101 (.ld (.t 19) 5 true),
   o1 102 (.ld (.t 17) 2 true),
   o1 103 (.ld (.t 8) 2 true),
   o1 104 (.call 118 [.t 101,.t 102,.t 103]),
   o1 20 (.alloc [.int .i64 0,.int .i64 0] 27),
   ⟨none,.st (.t 20) (.t 104) 2,none,[]⟩])
   (.seq (.seq (.reg [
   o1 105 (.addo (.t 20) 1),
   o1 106 (.ld (.t 105) 1 false),
   o1 107 (.bin .eql (.t 106) (.c (.int .i64 100001)))])
   (.cond (.t 107)
   (.seq (.reg [
    m1 108 18,
    o1 10 (.mv (.c (.slice none 0 0))),
    m1 11 108,
    o1 12 (.mv (.c (.int .i64 34)))])
    .ret)
   .skip))
   (.seq (.reg [
   o1 109 (.ld (.t 19) 5 true),
   m1 110 14,
   o1 111 (.call 144 [.t 109,.t 110]),
   m1 14 111])
   (.seq (.regs [0,1,2,3,4,5,6,7,8,9,10,11,12,13,14,15,16,17,18,19,20,21] ⟨[
   .op (m1 112 16),
   .op (m1 113 4),
   .op (m1 114 18),
   .op ⟨some 115,.ixs (.t 113) (.t 114) 1,none,[1,2]⟩,
   .op ⟨some 116,.ld (.t 115) 1 false,none,[3]⟩,
   .op (m1 117 14),
   .op (o1 118 (.ld (.t 19) 5 true)),
   .op (o1 119 (.addo (.t 17) 0)),
   .op ⟨some 120,.ld (.t 119) 1 false,none,[7]⟩,
   .op (o1 121 (.ld (.t 8) 2 true)),
   .op ⟨some 122,.call 145 [.t 118,.t 120,.t 121],none,[6,8,9]⟩,
   .op (o1 123 (.ld (.t 19) 5 true)),
   .op (o1 124 (.addo (.t 17) 1)),
   .op ⟨some 125,.ld (.t 124) 1 false,none,[12]⟩,
   .op (o1 126 (.ld (.t 8) 2 true)),
   .op ⟨some 127,.call 146 [.t 123,.t 125,.t 126],none,[10,11,13,14]⟩,
   .op ⟨some 128,.build [.int .i64 0,.int .i64 0] [(0,1,.t 122),(1,1,.t 127)],none,[10,15]⟩,
   .op (o1 129 (.ld (.t 20) 2 true)),
   .op ⟨some 130,.build zv6 [(0,1,.t 116),(1,1,.t 117),(2,2,.t 128),(4,2,.t 129)],none,[4,5,16,17]⟩,
   .op ⟨some 131,.bsl 6 94 [.t 130],none,[18]⟩],0,1,[
   ⟨some 132,.appm 6 48 94 (.t 112) (.t 131),none,[0,15,19]⟩]⟩ [⟨[
],0,1,[
 ⟨some 16,.mv (.t 132),none,[0,1,2,3,4,5,6,7,8,9,10,11,12,13,14,15,16,17,18,19,20]⟩]⟩])
 (.reg [
 o1 133 (.ld (.t 20) 2 true),
 ⟨none,.st (.t 17) (.t 133) 2,none,[]⟩])))))))
 (.reg [
 m1 91 18,
 o1 92 (.bin .add (.t 91) (.c (.int .i64 1))),
 m1 18 92]))))))
 (.seq (.reg [
 m1 134 16,
 m1 10 134,
 o1 11 (.mv (.c (.int .i64 0))),
 o1 12 (.mv (.c (.int .i64 0)))])
 .ret)))))))))))
def r104:List RV:=[.tmp 10,.tmp 11,.tmp 12]
theorem t104:Qt1 Tryz.prog 104 c104 r104 135:=ZT Tryz.func104 rfl (by kernel_rfl) (by kernel_rfl) (by kernel_rfl) (by kernel_rfl)
def c144:SC:=(.seq (.reg [
 o1 2 (.box (.t 0) 0 83),
 o1 4 (.mv (.c (.int .i64 0)))])
 (.seq (.seq (.reg [
 o1 5 (.addo (.t 2) 0),
 o1 6 (.ld (.t 5) 1 false),
 m1 7 1,
 o1 8 (.bin .eql (.t 6) (.t 7))])
 (.cond (.t 8)
 (.seq (.reg [
  o1 9 (.addo (.t 2) 1),
  o1 10 (.ld (.t 9) 1 false),
  m1 4 10])
  .ret)
 .skip))
 (.seq (.seq (.reg [
 o1 11 (.addo (.t 2) 1),
 o1 12 (.ld (.t 11) 1 false),
 m1 13 1,
 o1 14 (.bin .eql (.t 12) (.t 13))])
 (.cond (.t 14)
 (.seq (.reg [
  o1 15 (.addo (.t 2) 0),
  o1 16 (.ld (.t 15) 1 false),
  m1 4 16])
  .ret)
 .skip))
 (.seq (.reg [
 o1 4 (.mv (.c (.int .i64 (-1))))])
 .ret))))
def r144:List RV:=[.tmp 4]
theorem t144:Qt1 Tryz.prog 144 c144 r144 17:=ZT Tryz.func144 rfl (by kernel_rfl) (by kernel_rfl) (by kernel_rfl) (by kernel_rfl)
open Go.Azalai
theorem Ztl (a b:Int) (c:Bool):Ct Tryz.prog 71 [.sl c 1 [[I a],[I b]]] (I (min a b)):=by
 refine t71.1 (by simp [KFR,KFL,KF]) (by simp [KFL,KF]) ?_
 dsimp only [c71,r71,go_sem,rA,rM,rS]
 refine Zs (by decide) ?_
 dsimp only [go_sem,rA,rM,rS]
 refine ixs 0 [I a] rfl rfl ?_
 dsimp only [go_sem,rA,rM,rS]
 refine Xa 2 ?_
 dsimp only [Zb,go_sem,rA,rM,rS]
 refine Zr (by decide) ?_
 dsimp only [Zb,go_sem,rA,rM,rS]
 refine ixs 1 [I b] rfl rfl ?_
 dsimp only [Zb,go_sem,rA,rM,rS]
 refine Zs (by decide) ?_
 dsimp only [go_sem,rA,rM,rS]
theorem ZcS (a:Int):Ct Tryz.prog 122 [.sl true 1 [[I a]]] (I (min a 100001)):=by
 refine t122.1 (by simp [KFR,KFL,KF]) (by simp [KFL,KF]) ?_
 dsimp only [c122,r122,go_sem,rA,rM,rS]
 refine app0 (by simp) ?_
 dsimp only [go_sem,rA,rM,rS]
 refine call (Ztl a 100001 false) ?_
 dsimp only [go_sem,rA,rM,rS]
theorem Za0 (l:Land) (p:Span) (k:Nat) (hk:k < l.legs.length) (d0 d1:Int) (hx:GoodLeg l.legs[k]) (hp:ZU p=true) (h0:inR 0 100001 d0=true) (h1:inR 0 100001 d1=true) :
 Ct Tryz.prog 79 [.agg (YM l p),I k,.agg [I d0,I d1]] (.agg [I (ZO false l.legs[k] p d0),I (ZO true l.legs[k] p d1)]):=by
 have hb:=day_bd hx hp
 refine t79.1 (by simp [YM,Zf,Zl,Zh,Zc,Za,KFL,KF]) (by simp [KFL,KF]) ?_
 dsimp only [c79,r79,YM,go_sem,rA,rM,rS]
 refine call (XH l p k hk d0 d1 hx hp h0 h1) ?_
 dsimp only [YM,go_sem,rA,rM,rS]
 refine call (ZbE l p k hk hx hp) ?_
 dsimp only [Zc,go_sem,rA,rM,rS]
 simp only [inR,decide_eq_true_eq] at h0 h1
 have a0:=Xd (k:=false) hx hp h0.2
 have a1:=Xd (k:=true) hx hp h1.2
 simp only [leK,nK,cond_true,cond_false] at a0 a1
 refine Xa 3 ?_
 dsimp only [Zb,go_sem,rA,rM,rS]
 refine Zr (by decide) ?_
 dsimp only [Zb,go_sem,rA,rM,rS]
 repeat (refine ixa 0 rfl (by decide) ?_;dsimp only [Zb,go_sem,rA,rM,rS])
 rw [Ze (n:=Zih l.legs[k] p d0+(Vz l.legs[k] p).lo) (by omega) (by omega)]
 refine call (ZcS _) ?_
 dsimp only [Zb,go_sem,rA,rM,rS]
 repeat (refine ixa 0 rfl (by decide) ?_;dsimp only [Zb,go_sem,rA,rM,rS])
 refine Zr (by decide) ?_
 dsimp only [Zb,go_sem,rA,rM,rS]
 repeat (refine ixa 1 rfl (by decide) ?_;dsimp only [Zb,go_sem,rA,rM,rS])
 rw [Ze (n:=Zeo l.legs[k] p d1+(Vz l.legs[k] p).hi) (by omega) (by omega)]
 refine call (ZcS _) ?_
 dsimp only [Zb,go_sem,rA,rM,rS]
 repeat (refine ixa 1 rfl (by decide) ?_;dsimp only [Zb,go_sem,rA,rM,rS])
 refine Zs (by decide) ?_
 dsimp only [go_sem,rA,rM,rS]
 simp only [ZO,leK,nK,cond_true,cond_false]
 rw [Int.min_comm,Int.min_comm 100001 (Zeo l.legs[k] p d1+(Vz l.legs[k] p).hi)]
theorem ZfX (x:Leg) (p:Span) (d0 d1:Int) (hx:GoodLeg x) (hp:ZU p=true) (h0:inR 0 100001 d0=true) (h1:inR 0 100001 d1=true) :
 Ct Tryz.prog 118 [.agg (Zl x),.agg [I d0,I d1],.agg (Zc p)] (.agg [I (ZO false x p d0),I (ZO true x p d1)]):=by
 have hb:=day_bd hx hp
 refine t118.1 (by simp [Zl,Zh,Zc,Za,KFL,KF]) (by simp [KFL,KF]) ?_
 dsimp only [c118,r118,Zl,Zc,go_sem,rA,rM,rS]
 refine call (Zpw x d0 p hx hp h0) ?_
 dsimp only [go_sem,rA,rM,rS]
 simp only [inR,decide_eq_true_eq] at h0 h1
 have a0:=Xd (k:=false) hx hp h0.2
 have a1:=Xd (k:=true) hx hp h1.2
 simp only [leK,nK,cond_true,cond_false] at a0 a1
 have key:∀ q0,q0=ZO false x p d0->True:=fun _ _=>trivial
 by_cases g0:Zih x p d0 < 100001
 . refine Zr (by simpa using g0) ?_
   dsimp only [go_sem,rA,rM,rS]
   refine call (Um x p hx hp) ?_
   dsimp only [Zc,go_sem,rA,rM,rS]
   rw [Ze (n:=Zih x p d0+(Vz x p).lo) (by omega) (by omega)]
   refine call (Zjj x d1 p hx hp (by simp [inR];omega)) ?_
   dsimp only [go_sem,rA,rM,rS]
   by_cases g1:Zeo x p d1 < 100001
   . refine Zr (by simpa using g1) ?_
     dsimp only [go_sem,rA,rM,rS]
     refine call (Um x p hx hp) ?_
     dsimp only [Zc,go_sem,rA,rM,rS]
     rw [Ze (n:=Zeo x p d1+(Vz x p).hi) (by omega) (by omega)]
     dsimp only [ZO,leK,nK,go_sem,rA,rM,rS]
   . refine Zs (by simpa using g1) ?_
     dsimp only [go_sem,rA,rM,rS]
     rw [show ZO true x p d1=100001 by simp only [ZO,leK,nK,cond_true];omega]
     dsimp only [ZO,leK,nK,go_sem,rA,rM,rS]
 . refine Zs (by simpa using g0) ?_
   dsimp only [go_sem,rA,rM,rS]
   refine call (Zjj x d1 p hx hp (by simp [inR];omega)) ?_
   dsimp only [go_sem,rA,rM,rS]
   rw [show ZO false x p d0=100001 by simp only [ZO,leK,nK,cond_false];omega]
   by_cases g1:Zeo x p d1 < 100001
   . refine Zr (by simpa using g1) ?_
     dsimp only [go_sem,rA,rM,rS]
     refine call (Um x p hx hp) ?_
     dsimp only [Zc,go_sem,rA,rM,rS]
     rw [Ze (n:=Zeo x p d1+(Vz x p).hi) (by omega) (by omega)]
     dsimp only [ZO,leK,nK,go_sem,rA,rM,rS]
   . refine Zs (by simpa using g1) ?_
     dsimp only [go_sem,rA,rM,rS]
     rw [show ZO true x p d1=100001 by simp only [ZO,leK,nK,cond_true];omega]
theorem VQ (x:Leg) (v:Int):Ct Tryz.prog 144 [.agg (Zl x),I v] (I (Zn x v)):=by
 refine t144.1 (by simp [Zl,Zh,Za,KFL,KF]) (by simp [KFL,KF]) ?_
 dsimp only [c144,r144,Zl,go_sem,rA,rM,rS]
 by_cases h1:x.a=v
 . refine Zr (by simpa using h1) ?_
   dsimp only [go_sem,rA,rM,rS]
   simp [Zn,h1]
 . refine Zs (by simpa using h1) ?_
   dsimp only [go_sem,rA,rM,rS]
   by_cases h2:x.b=v
   . refine Zr (by simpa using h2) ?_
     dsimp only [go_sem,rA,rM,rS]
     simp [Zn,h1,h2]
   . refine Zs (by simpa using h2) ?_
     dsimp only [go_sem,rA,rM,rS]
     simp [Zn,h1,h2]
def Zc7 (l:Land) (p:Span) (v:Int):Ot:=⟨false,.cl 153 [.p 0 0,.p 1 0],[(1,.cells [I v] 3),(0,.cells (YM l p) 160)],2⟩
theorem Zem (l:Land) (p:Span) (v:Int):CtM Tryz.prog 111 [] 0 [.agg (YM l p),I v] (fun o=>o=Zc7 l p v):=by
 refine m111 (by simp [hpb]) (fun o ho=>by subst ho;simp [Zc7,KX,KXL,KXP,KXH,Za,KFL,KF,YM,Zf,Zl,Zh]) ?_
 dsimp only [c111,r111,YM,go_sem,rA,rM,rS]
 refine ⟨_,rfl,?_⟩
 simp only [Zc7]
 (refine Y2 ?_ ?_ ?_ rfl<;>dsimp only [YM,Zf,Zl,Zh,id,go_sem,rA,rM,rS]<;>simp [YM,Zf,Zl,Zh,Za,Zi,KFR,KFL,KF,Zd,mtO,nbr])
end Go.Proofs.YtiigiflofnjilaaGreat
namespace Go.Azalai
def Wz (l:Land) (leg v:Int):Int:=if h:0<=leg/\leg.toNat < l.legs.length then Zn l.legs[leg.toNat] v else -1
end Go.Azalai
namespace Go.Proofs.YtiigiflofnjilaaGreat
open Go Go.Sx Go.Azalai
theorem ZvZ (l:Land) (p:Span) (leg v:Int) (hl:l.legs.length<=1000):Ct Tryz.prog 77 [.agg (YM l p),I leg,I v] (I (Wz l leg v)):=by
 refine t77.1 (by simp [YM,Zf,Zl,Zh,Za,KFL,KF]) (by simp [KFL,KF]) ?_
 dsimp only [c77,r77,YM,go_sem,rA,rM,rS]
 refine Zbl [] (Zem l p v) rfl rfl rfl ?_ ?_ ?_
 . exact Zd (by simp [YM,Zf,Zl,Zh,Za,KFL,KF])
 . trivial
 dsimp only [Zc7,YM,go_sem,rA,rM,rS]
 refine gh ZeB ?_
 dsimp only [go_sem,rA,rM,rS]
 refine ⟨b153,fun rec=>?_⟩
 refine y153 ?_
 dsimp only [Zwk,Zwa,go_sem,rA,rM,rS]
 refine YV (fun j:Nat=>[(10,I j)]) (fun _=>[]) (fun j=>j<=l.legs.length/\(0<=leg->leg < j->Wz l leg v = -1)) (fun j=>l.legs.length - j) 0 ⟨Nat.zero_le _,fun h1 h2=>by omega⟩ ?_ ?_
 . (refine Zk ?_ ?_ ?_ rfl rfl<;>dsimp only [YM,Zf,Zl,Zh,id,go_sem,rA,rM,rS]<;>simp [YM,Zf,Zl,Zh,Za,Zi,KFR,KFL,KF,Zd,mtO,nbr])
 rintro j ⟨hj,hi⟩
 dsimp only [go_sem,rA,rM,rS]
 simp only [List.length_map]
 by_cases hlt:j < l.legs.length
 . refine Zr (by simpa using hlt) ?_
   dsimp only [go_sem,rA,rM,rS]
   refine Zm j hlt rfl ?_
   dsimp only [Zl,go_sem,rA,rM,rS]
   have hend:leg=j->Wz l leg v=Zn l.legs[j] v:=fun he=>by
    subst he
    unfold Wz
    rw [dif_pos ⟨by omega,by simpa using hlt⟩]
    simp
   by_cases ha:v=l.legs[j].a
   . refine Zr (by simpa using ha) ?_
     dsimp only [go_sem,rA,rM,rS]
     refine ⟨rfl,rfl,?_⟩
     by_cases he:leg=j
     . refine Zr (by simp [he]) ?_
       dsimp only [go_sem,rA,rM,rS]
       refine ⟨rfl,?_⟩
       refine Zr (by decide) ?_
       dsimp only [go_sem,rA,rM,rS]
       rw [hend he,Zn,if_pos ha.symm]
     . refine Zs (by simp;omega) ?_
       dsimp only [go_sem,rA,rM,rS]
       refine ⟨rfl,?_⟩
       refine Zs (by decide) ?_
       dsimp only [go_sem,rA,rM,rS]
       rw [Ze (n:=(j:Int)+1) (by omega) (by omega)]
       refine ⟨j+1,⟨hlt,fun h1 h2=>hi h1 (by omega)⟩,by omega,?_⟩
       (refine Zk ?_ ?_ ?_ rfl rfl<;>dsimp only [YM,Zf,Zl,Zh,id,go_sem,rA,rM,rS]<;>simp [YM,Zf,Zl,Zh,Za,Zi,KFR,KFL,KF,Zd,mtO,nbr])
   refine Zs (by simpa using ha) ?_
   dsimp only [go_sem,rA,rM,rS]
   by_cases hb:v=l.legs[j].b
   . refine Zr (by simpa using hb) ?_
     dsimp only [go_sem,rA,rM,rS]
     refine ⟨rfl,rfl,?_⟩
     by_cases he:leg=j
     . refine Zr (by simp [he]) ?_
       dsimp only [go_sem,rA,rM,rS]
       refine ⟨rfl,?_⟩
       refine Zr (by decide) ?_
       dsimp only [go_sem,rA,rM,rS]
       rw [hend he,Zn,if_neg (fun e=>ha e.symm),if_pos hb.symm]
     . refine Zs (by simp;omega) ?_
       dsimp only [go_sem,rA,rM,rS]
       refine ⟨rfl,?_⟩
       refine Zs (by decide) ?_
       dsimp only [go_sem,rA,rM,rS]
       rw [Ze (n:=(j:Int)+1) (by omega) (by omega)]
       refine ⟨j+1,⟨hlt,fun h1 h2=>hi h1 (by omega)⟩,by omega,?_⟩
       (refine Zk ?_ ?_ ?_ rfl rfl<;>dsimp only [YM,Zf,Zl,Zh,id,go_sem,rA,rM,rS]<;>simp [YM,Zf,Zl,Zh,Za,Zi,KFR,KFL,KF,Zd,mtO,nbr])
   refine Zs (by simpa using hb) ?_
   dsimp only [go_sem,rA,rM,rS]
   rw [Ze (n:=(j:Int)+1) (by omega) (by omega)]
   refine ⟨j+1,⟨hlt,fun h1 h2=>?_⟩,by omega,?_⟩
   . by_cases he:leg=j
     . rw [hend he,Zn,if_neg (fun e=>ha e.symm),if_neg (fun e=>hb e.symm)]
     . exact hi h1 (by omega)
   (refine Zk ?_ ?_ ?_ rfl rfl<;>dsimp only [YM,Zf,Zl,Zh,id,go_sem,rA,rM,rS]<;>simp [YM,Zf,Zl,Zh,Za,Zi,KFR,KFL,KF,Zd,mtO,nbr])
 refine Zs (by simp;omega) ?_
 dsimp only [go_sem,rA,rM,rS]
 have hz:Wz l leg v = -1:=by
  by_cases h1:0<=leg
  . by_cases h2:leg < j
    . exact hi h1 h2
    . unfold Wz;rw [dif_neg (by omega)]
  . unfold Wz;rw [dif_neg (by omega)]
 rw [hz]
def U64 (n:Int):SV:=.v (.int .u64 n)
theorem uw {n:Int} (h0:0<=n) (h1:n < 18446744073709551616):IntKind.u64.wrap n=n:=by
 have e:n % 2 ^ IntKind.u64.bits=n:=Int.emod_eq_of_lt h0 (by show n < 2 ^ 64;omega)
 simp only [IntKind.wrap,e,show IntKind.u64.signed=false from rfl,Bool.false_and]
 rfl
theorem Zoy (n:Int) (h0:0<=n) (h1:n<=1000000):Ct Tryz.prog 174 [U64 1,U64 n] (.tup [U64 0,U64 n]):=by
 refine t174.1 (by simp [U64,KFL,KF]) (by simp [U64,KFL,KF]) ?_
 dsimp only [c174,r174,U64,go_sem,rA,rM,rS]
 have sh:∀ (m:Int),0<=m->m < 4294967296->∀ w:World,(binOp .shr 168 (.int .u64 m) (.int .u64 32)).run Tryz.prog w = .ok (.int .u64 0) w:=fun m q0 q1 w=>by
  simp only [binOp,Op.shift]
  rw [if_neg (by decide)]
  have:m.fdiv (2 ^ 32)=0:=by rw [Int.fdiv_eq_ediv_of_nonneg _ (by decide)];omega
  show Result.ok (Value.int .u64 (m.fdiv (2 ^ (min (32:Int).toNat IntKind.u64.bits)))) w=_
  rw [show min (32:Int).toNat IntKind.u64.bits=32 from by decide,this]
 have an:∀ (m:Int),0<=m->m < 4294967296->∀ w:World,(binOp .and 168 (.int .u64 m) (.int .u64 4294967295)).run Tryz.prog w = .ok (.int .u64 m) w:=fun m q0 q1 w=>by
  obtain ⟨k,rfl⟩:=Int.eq_ofNat_of_zero_le q0
  have hk:k < 4294967296:=by omega
  have e:(BitVec.ofInt 64 (k:Int) &&& BitVec.ofInt 64 4294967295).toNat=k:=by
   rw [BitVec.toNat_and,show (BitVec.ofInt 64 4294967295).toNat=2 ^ 32 - 1 from by decide,Nat.and_two_pow_sub_one_eq_mod,BitVec.ofInt_natCast,BitVec.toNat_ofNat]
   omega
  show Result.ok (Value.int .u64 (IntKind.u64.wrap (((BitVec.ofInt 64 (k:Int) &&& BitVec.ofInt 64 4294967295).toNat:Nat):Int))) w=_
  rw [e,uw (by omega) (by omega)]
 refine WE rfl (.inl rfl) (an 1 (by omega) (by omega)) rfl ?_
 dsimp only [go_sem,rA,rM,rS]
 refine WE rfl (.inr rfl) (sh 1 (by omega) (by omega)) rfl ?_
 dsimp only [go_sem,rA,rM,rS]
 refine WE rfl (.inl rfl) (an n (by omega) (by omega)) rfl ?_
 dsimp only [go_sem,rA,rM,rS]
 refine WE rfl (.inr rfl) (sh n (by omega) (by omega)) rfl ?_
 dsimp only [go_sem,rA,rM,rS]
 simp (disch:=omega) only [uw,Int.one_mul,Int.zero_mul,Int.mul_zero,Int.add_zero,Int.zero_add]
 refine WE rfl (.inr rfl) (sh n (by omega) (by omega)) rfl ?_
 dsimp only [go_sem,rA,rM,rS]
 simp (disch:=omega) only [uw,Int.one_mul,Int.zero_mul,Int.mul_zero,Int.add_zero,Int.zero_add]
 refine WE rfl (.inl rfl) (an 0 (by omega) (by omega)) rfl ?_
 dsimp only [go_sem,rA,rM,rS]
 refine WE rfl (.inr rfl) (sh 0 (by omega) (by omega)) rfl ?_
 dsimp only [go_sem,rA,rM,rS]
 simp (disch:=omega) only [uw,Int.one_mul,Int.zero_mul,Int.mul_zero,Int.add_zero,Int.zero_add]
 refine WE rfl (.inr rfl) (sh 0 (by omega) (by omega)) rfl ?_
 dsimp only [go_sem,rA,rM,rS]
 simp (disch:=omega) only [uw,Int.one_mul,Int.zero_mul,Int.mul_zero,Int.add_zero,Int.zero_add]
theorem Zve (n:Int) (h0:0<=n) (h1:n<=1000000):Ct Tryz.prog 167 [U64 1,U64 n] (.tup [U64 0,U64 n]):=by
 refine t167.1 (by simp [U64,KFL,KF]) (by simp [U64,KFL,KF]) ?_
 dsimp only [c167,r167,U64,go_sem,rA,rM,rS]
 refine Zs (by decide) ?_
 dsimp only [go_sem,rA,rM,rS]
 refine call (Zoy n h0 h1) ?_
 dsimp only [U64,go_sem,rA,rM,rS]
theorem Vj {r:List SV} (h:KFL r):∀ n,KFR (List.replicate n r)
 | 0=>trivial
 | n+1=>⟨h,Vj h n⟩
theorem Zst (x:Int) (n:Nat) (h0:1<=n) (h1:n<=1000) (k:Bool):CtM Tryz.prog 140 [] 0 [.sl k 1 [[I x]],I n] (fun o=>o=⟨false,.mr 0 0,[(0,.row 0 1 (List.replicate n [I x]) 3)],1⟩):=by
 have hm:KFL [I x]:=by simp [KFL,KF]
 have hone:allOne [I x]=true:=rfl
 have hkr:=Vj hm n
 refine m140 (by simp [hpb]) (fun o ho=>by subst ho;simp only [KX,KXL,KXP,KXH];exact ⟨trivial,hkr,trivial⟩) ?_
 generalize [I x]=row at hm hone hkr
 dsimp only [c140,r140,go_sem,rA,rM,rS]
 refine Zs (by simp) ?_
 dsimp only [go_sem,rA,rM,rS]
 rw [show ((1:Nat):Int)=1 from rfl]
 simp (disch:=omega) only [uw]
 refine call (Zve n (by omega) (by omega)) ?_
 dsimp only [U64,go_sem,rA,rM,rS]
 refine gb ?_
 dsimp only [go_sem,rA,rM,rS]
 refine gb ?_
 dsimp only [go_sem,rA,rM,rS]
 refine Zs (by simp;omega) ?_
 dsimp only [go_sem,rA,rM,rS]
 refine ⟨n,Ze (by omega) (by omega),by omega,?_⟩
 have hz:KFL [SV.v (Value.int IntKind.i64 0)]:=by simp [KFL,KF]
 generalize [SV.v (Value.int IntKind.i64 0)]=z at hz
 dsimp only [go_sem,rA,rM,rS]
 refine ⟨(by intro c hc;simp only [List.mem_singleton] at hc;subst hc;exact hone),by simp,?_⟩
 have hmin:min n 1=1:=by omega
 simp only [List.length_replicate,List.length_singleton,hmin,List.drop_replicate]
 dsimp only [go_sem,rA,rM,rS]
 refine YV (fun j:Nat=>[(8,I j)]) (fun j=>[(0,.row 0 1 (List.replicate j row ++ List.replicate (n - j) z) 3)]) (fun j=>1<=j/\j<=n) (fun j=>n - j) 1 ⟨Nat.le_refl _,h0⟩ ?_ ?_
 . refine Zk ?_ ?_ ?_ rfl rfl<;>dsimp only [id,go_sem,rA,rM,rS]<;>simp [Zi,Vj,hz,hm,Zd,mtO,nbr,KFR,KFL,KF]
 rintro j ⟨hj0,hj⟩
 dsimp only [go_sem,rA,rM,rS]
 simp only [List.length_append,List.length_replicate,show j+(n - j)=n from by omega]
 by_cases hlt:j < n
 . refine Zr (by simpa using hlt) ?_
   dsimp only [go_sem,rA,rM,rS]
   refine ⟨j,n,⟨rfl,by simp;omega,by omega,by simp;omega⟩,?_⟩
   dsimp only [go_sem,rA,rM,rS]
   refine ⟨0,j,⟨rfl,rfl,by omega,by simp⟩,?_⟩
   dsimp only [go_sem,rA,rM,rS]
   have hx:List.take (j - 0) (List.replicate j row ++ List.replicate (n - j) z)=List.replicate j row:=by rw [Nat.sub_zero];exact List.take_left' (by simp)
   have hx':List.take j (List.replicate j row ++ List.replicate (n - j) z)=List.replicate j row:=List.take_left' (by simp)
   rw [hx]
   refine ⟨by simp,(by intro c hc;rw [List.eq_of_mem_replicate hc];exact hone),by simp,?_⟩
   simp only [List.length_replicate]
   generalize hN:min (n - j) j=N
   have e:List.take j (List.replicate j row ++ List.replicate (n - j) z) ++ (List.take N (List.replicate j row) ++ List.drop (j+N) (List.replicate j row ++ List.replicate (n - j) z))=List.replicate (j+N) row ++ List.replicate (n - (j+N)) z:=by
    rw [hx',List.take_replicate,List.drop_append,List.drop_of_length_le (l:=List.replicate j row) (by simp),List.length_replicate,List.nil_append,List.drop_replicate,<- List.append_assoc,List.replicate_append_replicate,show min N j=N from by omega]
    congr 2;omega
   rw [e]
   dsimp only [go_sem,rA,rM,rS]
   rw [show (j:Int)+(N:Int)=((j+N:Nat):Int) from by omega,Ze (n:=((j+N:Nat):Int)) (by omega) (by omega)]
   refine ⟨j+N,⟨by omega,by omega⟩,by omega,?_⟩
   refine Zk ?_ ?_ ?_ rfl rfl<;>dsimp only [id,go_sem,rA,rM,rS]<;>simp [Zi,Vj,hz,hm,Zd,mtO,nbr,KFR,KFL,KF]
 refine Zs (by simp;omega) ?_
 dsimp only [go_sem,rA,rM,rS]
 have hje:j=n:=by omega
 subst hje
 simp only [Nat.sub_self,List.replicate_zero,List.append_nil]
 refine ⟨_,rfl,?_⟩
 refine Y2 ?_ ?_ ?_ rfl<;>dsimp only [id,go_sem,rA,rM,rS]<;>simp [Zi,Vj,hm,Zd,mtO,nbr,KFR,KFL,KF]
end Go.Proofs.YtiigiflofnjilaaGreat
namespace Go.Azalai
open Go.Sx
def dv (d:List Int) (v:Int):Int:=if 0<=v then d.getD v.toNat 100001 else 100001
theorem XZ {d:List Int} {i:Nat} (h:i < d.length):dv d i=d[i]:=by simp [dv,h]
theorem ZvH {d:List Int} {v:Int} (h:¬ (0<=v/\v < d.length)):dv d v=100001:=by
 unfold dv
 split
 . have:¬ v.toNat < d.length:=by omega
   simp [List.getD_eq_getElem?_getD,List.getElem?_eq_none (Nat.le_of_not_lt this)]
 . rfl
theorem XV {d:List Int} {i:Nat} {x v:Int} (h:i < d.length):dv (d.set i x) v=if v=i then x else dv d v:=by
 unfold dv
 by_cases hv:0<=v
 . rw [if_pos hv,if_pos hv]
   by_cases he:v=i
   . subst he;simp [h]
   . rw [if_neg he]
     have:i≠v.toNat:=by omega
     simp [List.getD_eq_getElem?_getD,this]
 . rw [if_neg hv,if_neg hv,if_neg (by omega)]
structure Gone (k:Bool) (l:Land) (p:Span) (s day:Int) (d:List Int):Prop where
 len:d.length=l.wells.length
 ub:∀ v,dv d v<=100001
 real:∀ v,dv d v=100001\/∃ a,goW k l p s day a=some (v,dv d v)
 st:dv d s<=day
theorem Gone.lb {k:Bool} {l:Land} {p:Span} {s day:Int} {d:List Int} (h:Gone k l p s day d) (hg:OkLP l p) (hd:0<=day) (hd':day<=100000) (h0:0<=s) (h1:s < l.wells.length) (v:Int):day<=dv d v:=by
 rcases h.real v with e | ⟨a,e⟩
 . omega
 . have:=Vc hg e hd' h0 h1;omega
theorem Gone.relax {k:Bool} {l:Land} {p:Span} {s day:Int} {d:List Int} (h:Gone k l p s day d) (hg:OkLP l p) {i:Nat} {x:Leg} (hx:l.legs[i]? = some x) {v:Int} {w:Nat} (hw:Zn x v=w) (hd:0<=day) (hd':day<=100000) (h0:0<=s) (h1:s < l.wells.length) :
 Gone k l p s day (d.set w (min (dv d w) (ZO k x p (dv d v))))/\w < d.length:=by
 have hwl:=(YB hg hx (v:=v) (by omega)).1
 have hwd:w < d.length:=by rw [h.len];omega
 refine ⟨⟨by simp [h.len],fun u=>?_,fun u=>?_,?_⟩,hwd⟩
 . rw [XV hwd];split
   . have:=h.ub w;omega
   . exact h.ub u
 . rw [XV hwd];split
   . rename_i hu
     by_cases hr:ZO k x p (dv d v) > 100000
     . have:=h.ub w
       have hb:=Xd (k:=k) (hg.leg hx) hg.pace (h.ub v)
       rw [show min (dv d w) (ZO k x p (dv d v))=dv d w by omega,hu]
       exact h.real w
     . by_cases hm:dv d w<=ZO k x p (dv d v)
       . rw [Int.min_eq_left hm,hu];exact h.real w
       . rw [Int.min_eq_right (by omega),hu]
         have hb:=Xd (k:=k) (hg.leg hx) hg.pace (h.ub v)
         rcases h.real v with e | ⟨a,e⟩
         . omega
         . refine .inr ⟨a ++ [i],?_⟩
           have:=UZ e hx (by omega) hr
           rw [hw] at this;exact this
   . exact h.real u
 . rw [XV hwd];split
   . rename_i hs;have:=h.st;rw [hs] at this;omega
   . exact h.st
structure Dij (k:Bool) (l:Land) (p:Span) (s day:Int) (d:List Int) (left:Int->Prop):Prop where
 g:Gone k l p s day d
 cl:∀ x ∈ l.legs,∀ v:Int,0<=v->v < l.wells.length->¬ left v->0<=Zn x v->dv d (Zn x v)<=ZO k x p (dv d v)
 or:∀ u v:Int,0<=u->u < l.wells.length->¬ left u->0<=v->v < l.wells.length->left v->dv d u<=dv d v
theorem Dij.done {k:Bool} {l:Land} {p:Span} {s day:Int} {d:List Int} {left:Int->Prop} (h:Dij k l p s day d left) (hg:OkLP l p) (he:∀ v,¬ left v) (hd:0<=day) (hd':day<=100000) (h0:0<=s) (h1:s < l.wells.length):d=XU k l p s day:=by
 have hc:Zjc k l p (dv d):=fun x hx=>by
  have hen:=hg.ends hx
  have q1:=h.cl x hx x.a hen.1.1 hen.1.2 (he _) (by simp [Zn];omega)
  have q2:=h.cl x hx x.b hen.2.1.1 hen.2.1.2 (he _) (by simp [Zn,hen.2.2];omega)
  simp only [Zn,if_true] at q1
  simp only [Zn,if_neg hen.2.2,if_true] at q2
  exact ⟨q1,q2⟩
 have heq:=Zb8 (k:=k) hg hd hd' h0 h1 h.g.st hc h.g.ub h.g.real
 refine List.ext_getElem (by simp [XU,h.g.len]) fun i hi hi'=>?_
 simp only [XU,List.getElem_map,List.getElem_range]
 rw [<- heq,XZ hi]
structure Rnd (k:Bool) (l:Land) (p:Span) (s day:Int) (d0 d:List Int) (near:Int) (j:Nat):Prop where
 g:Gone k l p s day d
 le:∀ v,dv d v<=dv d0 v
 ch:∀ v,dv d v=dv d0 v\/dv d0 near<=dv d v
 nr:dv d near=dv d0 near
 cl:∀ i x,i < j->l.legs[i]? = some x->0<=Zn x near->dv d (Zn x near)<=ZO k x p (dv d0 near)
theorem Rnd.start {k:Bool} {l:Land} {p:Span} {s day:Int} {d:List Int} {near:Int} (h:Gone k l p s day d):Rnd k l p s day d d near 0 :=
 ⟨h,fun _=>Int.le_refl _,fun _=>.inl rfl,rfl,fun i x hi=>by omega⟩
theorem Rnd.skip {k:Bool} {l:Land} {p:Span} {s day:Int} {d0 d:List Int} {near:Int} {j:Nat} (h:Rnd k l p s day d0 d near j) {x:Leg} (hx:l.legs[j]? = some x) (ho:Zn x near < 0):Rnd k l p s day d0 d near (j+1) :=
 ⟨h.g,h.le,h.ch,h.nr,fun i y hi hy h0=>by
  by_cases he:i=j
  . subst he;rw [hx] at hy;cases hy;omega
  . exact h.cl i y (by omega) hy h0⟩
theorem Rnd.step {k:Bool} {l:Land} {p:Span} {s day:Int} {d0 d:List Int} {near:Int} {j:Nat} (h:Rnd k l p s day d0 d near j) (hg:OkLP l p) {x:Leg} (hx:l.legs[j]? = some x) {w:Nat} (hw:Zn x near=w) (hd:0<=day) (hd':day<=100000) (h0:0<=s) (h1:s < l.wells.length) :
 Rnd k l p s day d0 (d.set w (min (dv d w) (ZO k x p (dv d near)))) near (j+1):=by
 obtain ⟨q1,q2⟩:=h.g.relax hg hx hw hd hd' h0 h1
 have hge:=Zcd (k:=k) (hg.leg hx) hg.pace (h.g.ub near)
 have hwn:(w:Int)≠near:=fun e=>by
  have:=hg.ends (List.mem_of_getElem? hx)
  unfold Zn at hw
  split at hw
  . omega
  . split at hw
    . omega
    . omega
 rw [h.nr] at hge
 refine ⟨q1,fun v=>?_,fun v=>?_,?_,fun i y hi hy ho=>?_⟩
 . rw [XV q2];split
   . rename_i hv;have:=h.le w;rw [hv];omega
   . exact h.le v
 . rw [XV q2];split
   . rename_i hv;rw [hv,h.nr]
     have:=h.ch w
     have:=h.le w
     omega
   . exact h.ch v
 . rw [XV q2,if_neg (fun e=>hwn e.symm)];exact h.nr
 . rw [XV q2]
   by_cases he:i=j
   . subst he;rw [hx] at hy;cases hy;rw [if_pos hw,h.nr];omega
   . have:=h.cl i y (by omega) hy ho
     split
     . rename_i hv;rw [hv] at this;omega
     . exact this
theorem Rnd.finish {k:Bool} {l:Land} {p:Span} {s day:Int} {d0 d:List Int} {near:Int} {left left':Int->Prop} (hD:Dij k l p s day d0 left) (h:Rnd k l p s day d0 d near l.legs.length) (hn:left near) (hn0:0<=near) (hn1:near < l.wells.length)
 (hmin:∀ v:Int,0<=v->v < l.wells.length->left v->dv d0 near<=dv d0 v) (hl:∀ v,left' v↔left v/\v≠near) (hg:OkLP l p):Dij k l p s day d left':=by
 have keep:∀ u:Int,0<=u->u < l.wells.length->¬ left' u->dv d u=dv d0 u:=fun u q1 q2 q3=>by
  by_cases he:u=near
  . rw [he];exact h.nr
  . have hnl:¬ left u:=fun hh=>q3 ((hl u).2 ⟨hh,he⟩)
    have:=hD.or u near q1 q2 hnl hn0 hn1 hn
    have:=h.ch u
    have:=h.le u
    omega
 refine ⟨h.g,fun x hx v q1 q2 q3 ho=>?_,fun u v q1 q2 q3 q4 q5 q6=>?_⟩
 . by_cases he:v=near
   . subst he
     obtain ⟨i,hi⟩:=List.mem_iff_getElem?.1 hx
     have:=h.cl i x (by rcases List.getElem?_eq_some_iff.1 hi with ⟨a,_⟩;exact a) hi ho
     rw [keep _ q1 q2 q3];exact this
   . have hnl:¬ left v:=fun hh=>q3 ((hl v).2 ⟨hh,he⟩)
     have:=hD.cl x hx v q1 q2 hnl ho
     rw [keep v q1 q2 q3]
     have:=h.le (Zn x v)
     omega
 . rw [keep u q1 q2 q3]
   have hv:=(hl v).1 q6
   have hun:dv d0 u<=dv d0 near:=by
    by_cases he:u=near
    . rw [he];omega
    . exact hD.or u near q1 q2 (fun hh=>q3 ((hl u).2 ⟨hh,he⟩)) hn0 hn1 hn
   have:=hmin v q4 q5 hv.1
   have:=h.ch v
   omega
theorem ZfF {k:Bool} {l:Land} {p:Span} {s:Nat} {day:Int} (hs:s < l.wells.length) (hd:day<=100000):Gone k l p s day ((List.replicate l.wells.length 100001).set s day):=by
 have hl:s < (List.replicate l.wells.length (100001:Int)).length:=by simpa using hs
 have hz:∀ v,dv (List.replicate l.wells.length (100001:Int)) v=100001:=fun v=>by
  unfold dv
  split
  . simp only [List.getD_eq_getElem?_getD,List.getElem?_replicate];split<;>rfl
  . rfl
 refine ⟨by simp,fun v=>?_,fun v=>?_,?_⟩
 . rw [XV hl,hz];split<;>omega
 . rw [XV hl,hz];split
   . rename_i hv;exact .inr ⟨[],by rw [hv];rfl⟩
   . exact .inl rfl
 . rw [XV hl,if_pos rfl];exact Int.le_refl _
theorem Zg4 {k:Bool} {l:Land} {p:Span} {s day:Int} {d:List Int} {left:Int->Prop} (h:Gone k l p s day d) (hl:∀ v:Int,0<=v->v < l.wells.length->left v):Dij k l p s day d left :=
 ⟨h,fun _ _ v h0 h1 hn=>absurd (hl v h0 h1) hn,fun u _ h0 h1 hn=>absurd (hl u h0 h1) hn⟩
end Go.Azalai
namespace Go.Proofs.YtiigiflofnjilaaGreat
open Go Go.Sx Go.Azalai
theorem ZsZ:Tryz.prog.underlying 189=some (.map 3 4):=by kernel_rfl
theorem u3:Tryz.prog.underlying 3=some (.int .i64):=by kernel_rfl
theorem Zr1:KeyT Tryz.prog 3 (fun n:Int=>.int .i64 n) (fun n=>.v (.int .i64 n)):=Zur u3
abbrev kI:Int->Value:=fun n=>.int .i64 n
abbrev sI:Int->SV:=fun n=>.v (.int .i64 n)
def mpR (n:Nat):List (Nat × Int × Bool):=(List.range n).map fun j=>(j,(j:Int),true)
theorem UV (n:Nat):Ux n (n:Int) true (mpR n)=mpR (n+1)/\Zbf n (n:Int) (mpR n)=n+1:=by
 have h:Xw (n:Int) (mpR n)=none:=by
  rw [WB]
  intro e he
  simp only [mpR,List.mem_map,List.mem_range] at he
  obtain ⟨j,hj,rfl⟩:=he
  simp only;omega
 rw [ZbA h]
 exact ⟨by simp [mpR,List.range_succ],by simp [Zbf,h]⟩
theorem Zvl (n:Nat):MW (mpR n) n:=by
 induction n with
 | zero=>exact MW.nil
 | succ n ih =>
  have:=ih.set (k:=(n:Int)) true
  rw [(UV n).1,(UV n).2] at this
  exact this
theorem Zcp {K V:Type} {L:List (Nat × K × V)} (h:(L.map (·.1)).Nodup) {e e':Nat × K × V} (he:e ∈ L) (he':e' ∈ L) (hb:e.1=e'.1):e=e':=by
 induction L with
 | nil=>cases he
 | cons x l ih =>
  simp only [List.map_cons,List.nodup_cons] at h
  rcases List.mem_cons.1 he with h1 | h1<;>rcases List.mem_cons.1 he' with h2 | h2
  . rw [h1,h2]
  . exact absurd (by rw [<- h1,hb];exact List.mem_map.2 ⟨e',h2,rfl⟩) h.1
  . exact absurd (by rw [<- h2,<- hb];exact List.mem_map.2 ⟨e,h1,rfl⟩) h.1
  . exact ih h.2 h1 h2
theorem ZeO (l:Land) (p:Span) (hs:XM l) (hg:OkLP l p) (s:Nat) (hsl:s < l.wells.length) (day:Int) (hd:inR 0 100000 day=true) (k:Bool) :
 Ct Tryz.prog 97 [.agg (YM l p),I s,I day,I (bif k then 1 else 0)] (.sl false 1 ((XU k l p s day).map Zo)):=by
 refine t97.1 (by simp [YM,Zf,Zl,Zh,Za,KFL,KF]) (by simp [Za,Zo,KFL,KF]) ?_
 simp only [inR,decide_eq_true_eq] at hd
 have hw:=hs.1
 have hleg:=hs.2.1
 generalize hkk:(bif k then (1:Int) else 0)=kk
 have hkk':kk=((bif k then 1 else 0:Nat):Int):=by cases k<;>simp [<- hkk]
 dsimp only [c97,r97,YM,go_sem,rA,rM,rS]
 simp only [List.length_map]
 refine Zbl [] (Zst 100001 l.wells.length (by omega) hw true) rfl rfl rfl ?_ ?_ ?_
 . exact Zd (by simp [KFR,KFL,KF])
 . trivial
 dsimp only [go_sem,rA,rM,rS]
 rw [show List.replicate l.wells.length [I 100001]=(List.replicate l.wells.length (100001:Int)).map Zo by simp [Zo]]
 refine Zbb s rfl (by simpa using hsl) ?_
 dsimp only [go_sem,rA,rM,rS]
 refine Zok day (by simpa using hsl) (by simp [Zo]) (by simp [Zo,splice]) ?_
 dsimp only [go_sem,rA,rM,rS]
 refine Zcn rfl rfl rfl ?_
 dsimp only [go_sem,rA,rM,rS]
 have hgo:=ZfF (k:=k) (l:=l) (p:=p) (s:=s) (day:=day) hsl hd.2
 generalize (List.replicate l.wells.length (100001:Int)).set s day=d0 at hgo
 have hlen:=hgo.len
 simp only [List.length_map,hlen]
 refine YV (fun j:Nat=>[(29,I j)]) (fun j=>[(4,.map (mpS kI B (mpR j)) j)]) (fun j=>j<=l.wells.length) (fun j=>l.wells.length - j) 0 (Nat.zero_le _) ?_ ?_
 . (refine Zk ?_ ?_ ?_ rfl rfl<;>dsimp only [YM,Zf,Zl,Zh,Zo,mpS,mpR,id,go_sem,rA,rM,rS]<;>simp [YM,Zf,Zl,Zh,Zo,mpS,mpR,Za,Zi,KFR,KFL,KF,Zd,mtO,nbr])
 . intro j hj
   dsimp only [go_sem,rA,rM,rS]
   by_cases hlt:j < l.wells.length
   . refine Zr (by simpa using hlt) ?_
     dsimp only [go_sem,rA,rM,rS]
     refine ZdG (ins:=false) (key:=kI) (val:=B) (L:=mpR j) (k:=(j:Int)) (v:=true) rfl rfl ZsZ Zr1 rfl rfl (by simp) ?_
     dsimp only [go_sem,rA,rM,rS]
     rw [(UV j).1,(UV j).2,Ze (n:=(j:Int)+1) (by omega) (by omega)]
     refine ⟨j+1,hlt,by omega,?_⟩
     (refine Zk ?_ ?_ ?_ rfl rfl<;>dsimp only [YM,Zf,Zl,Zh,Zo,mpS,mpR,id,go_sem,rA,rM,rS]<;>simp [YM,Zf,Zl,Zh,Zo,mpS,mpR,Za,Zi,KFR,KFL,KF,Zd,mtO,nbr])
   refine Zs (by simp;omega) ?_
   dsimp only [go_sem,rA,rM,rS]
   have hje:j=l.wells.length:=by omega
   subst hje
   have hmem0:∀ v:Int,0<=v->v < l.wells.length->(Xw v (mpR l.wells.length)).isSome=true:=fun v h0 h1=>by
    cases hq:Xw v (mpR l.wells.length) with
    | some _=>rfl
    | none =>
     have:=WB.1 hq (v.toNat,v,true) (by simp only [mpR,List.mem_map,List.mem_range];exact ⟨v.toNat,by omega,by simp;omega⟩)
     exact absurd rfl this
   refine YV (fun _:List Int × List (Nat × Int × Bool)=>[]) (fun q=>[(2,.row 0 1 (q.1.map Zo) 3),(4,.map (mpS kI B q.2) l.wells.length)])
    (fun q=>Dij k l p s day q.1 (fun v=>(Xw v q.2).isSome=true)/\MW q.2 l.wells.length/\∀ e ∈ q.2,0<=e.2.1/\e.2.1 < l.wells.length) (fun q=>q.2.length) (d0,mpR l.wells.length)
    ⟨Zg4 hgo hmem0,Zvl _,fun e he=>(by simp only [mpR,List.mem_map,List.mem_range] at he;obtain ⟨i,hi,rfl⟩:=he;simp only;omega)⟩ ?_ ?_
   . (refine Zk ?_ ?_ ?_ rfl rfl<;>dsimp only [YM,Zf,Zl,Zh,Zo,Yt,Z4,id,go_sem,rA,rM,rS]<;>simp [YM,Zf,Zl,Zh,Zo,Yt,Z4,Za,Zi,KFR,KFL,KF,Zd,mtO,nbr])
   rintro ⟨d,L⟩ ⟨hD,hM,hb⟩
   simp only at hD hM hb
   have hdl:=hD.g.len
   dsimp only [go_sem,rA,rM,rS]
   refine ZmQ rfl rfl ZsZ rfl ?_
   dsimp only [go_sem,rA,rM,rS]
   by_cases hL:L=[]
   . subst hL
     refine Zs (by simp [mpS]) ?_
     dsimp only [go_sem,rA,rM,rS]
     have:=hD.done hg (fun v=>by simp [Xw]) hd.1 hd.2 (by omega) (by omega)
     rw [this]
   refine Zr (by simp [mpS,List.length_pos_iff.2 hL]) ?_
   dsimp only [go_sem,rA,rM,rS]
   refine Zip rfl rfl ZsZ rfl rfl ?_
   dsimp only [go_sem,rA,rM,rS]
   have hd0:∀ v,0<=dv d v/\dv d v<=100001:=fun v=>⟨by have:=hD.g.lb hg hd.1 hd.2 (by omega) (by omega) v;omega,hD.g.ub v⟩
   refine YV (fun _:List Nat × Int=>[]) (fun q=>[(5,.cells [I q.2] 3),(6,.it 4 l.wells.length q.1 l.wells.length)])
    (fun q=>(q.2 = -1/\∀ e ∈ L,e.1 ∉ q.1)\/(0<=q.2/\q.2 < l.wells.length/\(Xw q.2 L).isSome=true/\∀ e ∈ L,e.1 ∈ q.1->dv d q.2 < dv d e.2.1\/dv d q.2=dv d e.2.1/\q.2<=e.2.1))
    (fun q=>Zos L q.1) ([],-1) (.inl ⟨rfl,by simp⟩) ?_ ?_
   . (refine Zk ?_ ?_ ?_ rfl rfl<;>dsimp only [YM,Zf,Zl,Zh,Zo,Yt,Z4,id,go_sem,rA,rM,rS]<;>simp [YM,Zf,Zl,Zh,Zo,Yt,Z4,Za,Zi,KFR,KFL,KF,Zd,mtO,nbr])
   rintro ⟨seen,near⟩ hi
   simp only at hi
   dsimp only [go_sem,rA,rM,rS]
   refine Zl4 (key:=kI) (sv:=sI) (val:=B) (L:=L) (c:=l.wells.length) rfl rfl rfl hM.bl (Nat.le_refl _) Zr1 ?_ ?_
   . intro hall
     dsimp only [go_sem,rA,rM,rS]
     refine Zs rfl ?_
     dsimp only [go_sem,rA,rM,rS]
     have hnn:(0<=near/\near < l.wells.length/\(Xw near L).isSome=true/\∀ e ∈ L,e.1 ∈ seen->dv d near < dv d e.2.1\/dv d near=dv d e.2.1/\near<=e.2.1):=by
      rcases hi with ⟨_,hi⟩ | hi
      . obtain ⟨e,he⟩:=List.exists_mem_of_ne_nil _ hL
        exact absurd (hall e he) (hi e he)
      . exact hi
     obtain ⟨hn0,hn1,hn2,hn3⟩:=hnn
     have hmin:∀ v:Int,0<=v->v < l.wells.length->(Xw v L).isSome=true->dv d near<=dv d v:=fun v _ _ hv=>by
      obtain ⟨y,hy⟩:=Option.isSome_iff_exists.1 hv
      obtain ⟨b,hbm⟩:=ZeD hy
      have:=hn3 _ hbm (hall _ hbm)
      simp only at this;omega
     obtain ⟨m,rfl⟩:∃ m:Nat,near=(m:Int):=⟨near.toNat,by omega⟩
     have hml:m < d.length:=by omega
     refine ZqL (key:=kI) (sv:=sI) (val:=B) (L:=L) (k:=(m:Int)) rfl rfl ZsZ Zr1 rfl rfl ?_
     dsimp only [go_sem,rA,rM,rS]
     refine Zbl [] (Zem l p m) rfl rfl rfl ?_ ?_ ?_
     . exact Zd (by simp [YM,Zf,Zl,Zh,Za,KFL,KF])
     . trivial
     dsimp only [Zc7,YM,go_sem,rA,rM,rS]
     refine gh ZeB ?_
     dsimp only [go_sem,rA,rM,rS]
     refine ⟨b153,fun rec=>?_⟩
     refine y153 ?_
     dsimp only [Zwk,Zwa,go_sem,rA,rM,rS]
     refine YV (fun q:Nat × List Int=>[(10,I q.1)]) (fun q=>[(2,.row 0 1 (q.2.map Zo) 3)]) (fun q=>q.1<=l.legs.length/\Rnd k l p s day d q.2 m q.1) (fun q=>l.legs.length - q.1) (0,d) ⟨Nat.zero_le _,.start hD.g⟩ ?_ ?_
     . (refine Zk ?_ ?_ ?_ rfl rfl<;>dsimp only [YM,Zf,Zl,Zh,Zo,Yt,Z4,id,go_sem,rA,rM,rS]<;>simp [YM,Zf,Zl,Zh,Zo,Yt,Z4,Za,Zi,KFR,KFL,KF,Zd,mtO,nbr])
     rintro ⟨j,d'⟩ ⟨hj,hR⟩
     simp only at hj hR
     have hdl':=hR.g.len
     dsimp only [go_sem,rA,rM,rS]
     simp only [List.length_map]
     by_cases hlt:j < l.legs.length
     . refine Zr (by simpa using hlt) ?_
       dsimp only [go_sem,rA,rM,rS]
       refine Zm j hlt rfl ?_
       dsimp only [Zl,go_sem,rA,rM,rS]
       have hgl:GoodLeg l.legs[j]:=Xn hg.land _ (List.getElem_mem _)
       have hends:=hg.ends (List.getElem_mem hlt)
       obtain ⟨wa,hwa⟩:∃ w:Nat,l.legs[j].a=(w:Int):=⟨l.legs[j].a.toNat,by omega⟩
       obtain ⟨wb,hwb⟩:∃ w:Nat,l.legs[j].b=(w:Int):=⟨l.legs[j].b.toNat,by omega⟩
       have hwal:wa < d'.length:=by omega
       have hwbl:wb < d'.length:=by omega
       have hml':m < d'.length:=by omega
       have hxj:l.legs[j]? = some l.legs[j]:=List.getElem?_eq_getElem hlt
       have hin:inR 0 100001 d'[m]=true:=by
        have q1:=hR.g.lb hg hd.1 hd.2 (by omega) (by omega) (m:Int)
        have q2:=hR.g.ub (m:Int)
        rw [XZ hml'] at q1 q2
        simp only [inR,decide_eq_true_eq];omega
       by_cases hca:(m:Int)=l.legs[j].a
       . refine Zr (by simpa using hca) ?_
         dsimp only [go_sem,rA,rM,rS]
         refine ⟨rfl,rfl,?_⟩
         simp only [hwb,List.length_map]
         refine Zbb wb rfl hwbl ?_
         dsimp only [go_sem,rA,rM,rS]
         refine Zee hwbl ?_
         dsimp only [Zo,go_sem,rA,rM,rS]
         simp only [List.length_map]
         refine Zbb m rfl hml' ?_
         dsimp only [go_sem,rA,rM,rS]
         refine Zee hml' ?_
         dsimp only [Zo,go_sem,rA,rM,rS]
         simp only [List.length_map]
         refine Zbb m rfl hml' ?_
         dsimp only [go_sem,rA,rM,rS]
         refine Zee hml' ?_
         dsimp only [Zo,go_sem,rA,rM,rS]
         refine call (Za0 l p j hlt d'[m] d'[m] hgl hg.pace hin hin) ?_
         dsimp only [go_sem,rA,rM,rS]
         refine ixa (bif k then 1 else 0) hkk' (by cases k<;>decide) ?_
         rw [show nth [I (ZO false l.legs[j] p d'[m]),I (ZO true l.legs[j] p d'[m])] ((bif k then 1 else 0) * 1)=some (I (ZO k l.legs[j] p d'[m])) from by cases k<;>rfl]
         dsimp only [go_sem,rA,rM,rS]
         simp only [List.length_map]
         refine Zbb wb rfl hwbl ?_
         dsimp only [go_sem,rA,rM,rS]
         refine Zok (min d'[wb] (ZO k l.legs[j] p d'[m])) hwbl (by simp [Zo]) (by simp [Zo,splice]) ?_
         dsimp only [go_sem,rA,rM,rS]
         refine ⟨rfl,?_⟩
         refine Zs (by decide) ?_
         dsimp only [go_sem,rA,rM,rS]
         rw [Ze (n:=(j:Int)+1) (by omega) (by omega)]
         have hst:=hR.step hg hxj (w:=wb) (by rw [Zn,if_pos hca.symm,hwb]) hd.1 hd.2 (by omega) (by omega)
         rw [XZ hwbl,XZ hml'] at hst
         generalize d'.set wb (min d'[wb] (ZO k l.legs[j] p d'[m]))=d2 at hst ⊢
         refine ⟨(j+1,d2),⟨hlt,hst⟩,by simp only;omega,?_⟩
         (refine Zk ?_ ?_ ?_ rfl rfl<;>dsimp only [YM,Zf,Zl,Zh,Zo,Yt,Z4,id,go_sem,rA,rM,rS]<;>simp [YM,Zf,Zl,Zh,Zo,Yt,Z4,Za,Zi,KFR,KFL,KF,Zd,mtO,nbr])
       refine Zs (by simpa using hca) ?_
       dsimp only [go_sem,rA,rM,rS]
       by_cases hcb:(m:Int)=l.legs[j].b
       . refine Zr (by simpa using hcb) ?_
         dsimp only [go_sem,rA,rM,rS]
         refine ⟨rfl,rfl,?_⟩
         simp only [hwa,List.length_map]
         refine Zbb wa rfl hwal ?_
         dsimp only [go_sem,rA,rM,rS]
         refine Zee hwal ?_
         dsimp only [Zo,go_sem,rA,rM,rS]
         simp only [List.length_map]
         refine Zbb m rfl hml' ?_
         dsimp only [go_sem,rA,rM,rS]
         refine Zee hml' ?_
         dsimp only [Zo,go_sem,rA,rM,rS]
         simp only [List.length_map]
         refine Zbb m rfl hml' ?_
         dsimp only [go_sem,rA,rM,rS]
         refine Zee hml' ?_
         dsimp only [Zo,go_sem,rA,rM,rS]
         refine call (Za0 l p j hlt d'[m] d'[m] hgl hg.pace hin hin) ?_
         dsimp only [go_sem,rA,rM,rS]
         refine ixa (bif k then 1 else 0) hkk' (by cases k<;>decide) ?_
         rw [show nth [I (ZO false l.legs[j] p d'[m]),I (ZO true l.legs[j] p d'[m])] ((bif k then 1 else 0) * 1)=some (I (ZO k l.legs[j] p d'[m])) from by cases k<;>rfl]
         dsimp only [go_sem,rA,rM,rS]
         simp only [List.length_map]
         refine Zbb wa rfl hwal ?_
         dsimp only [go_sem,rA,rM,rS]
         refine Zok (min d'[wa] (ZO k l.legs[j] p d'[m])) hwal (by simp [Zo]) (by simp [Zo,splice]) ?_
         dsimp only [go_sem,rA,rM,rS]
         refine ⟨rfl,?_⟩
         refine Zs (by decide) ?_
         dsimp only [go_sem,rA,rM,rS]
         rw [Ze (n:=(j:Int)+1) (by omega) (by omega)]
         have hst:=hR.step hg hxj (w:=wa) (by rw [Zn,if_neg (fun e=>hca e.symm),if_pos hcb.symm,hwa]) hd.1 hd.2 (by omega) (by omega)
         rw [XZ hwal,XZ hml'] at hst
         generalize d'.set wa (min d'[wa] (ZO k l.legs[j] p d'[m]))=d2 at hst ⊢
         refine ⟨(j+1,d2),⟨hlt,hst⟩,by simp only;omega,?_⟩
         (refine Zk ?_ ?_ ?_ rfl rfl<;>dsimp only [YM,Zf,Zl,Zh,Zo,Yt,Z4,id,go_sem,rA,rM,rS]<;>simp [YM,Zf,Zl,Zh,Zo,Yt,Z4,Za,Zi,KFR,KFL,KF,Zd,mtO,nbr])
       refine Zs (by simpa using hcb) ?_
       dsimp only [go_sem,rA,rM,rS]
       rw [Ze (n:=(j:Int)+1) (by omega) (by omega)]
       refine ⟨(j+1,d'),⟨hlt,hR.skip hxj (by rw [Zn,if_neg (fun e=>hca e.symm),if_neg (fun e=>hcb e.symm)];decide)⟩,by simp only;omega,?_⟩
       (refine Zk ?_ ?_ ?_ rfl rfl<;>dsimp only [YM,Zf,Zl,Zh,Zo,Yt,Z4,id,go_sem,rA,rM,rS]<;>simp [YM,Zf,Zl,Zh,Zo,Yt,Z4,Za,Zi,KFR,KFL,KF,Zd,mtO,nbr])
     refine Zs (by simp;omega) ?_
     dsimp only [go_sem,rA,rM,rS]
     have hje:j=l.legs.length:=by omega
     subst hje
     have hfin:=Rnd.finish (left':=fun v=>(Xw v (U0 (m:Int) L)).isSome=true) hD hR hn2 hn0 hn1 hmin (fun v=>by
      rw [Zes hM.kn]
      by_cases hv:v=(m:Int)
      . simp [hv]
      . simp [hv]) hg
     refine ⟨(d',U0 (m:Int) L),⟨hfin,hM.del,fun e he=>hb e (VS.subset he)⟩,by simp only;have:=Zeu hn2;omega,?_⟩
     (refine Zk ?_ ?_ ?_ rfl rfl<;>dsimp only [YM,Zf,Zl,Zh,Zo,Yt,Z4,id,go_sem,rA,rM,rS]<;>simp [YM,Zf,Zl,Zh,Zo,Yt,Z4,Za,Zi,KFR,KFL,KF,Zd,mtO,nbr])
   intro e he hse
   dsimp only [go_sem,rA,rM,rS]
   refine Zr rfl ?_
   dsimp only [go_sem,rA,rM,rS]
   refine Zgp (key:=kI) (sv:=sI) (val:=B) (L:=L) (c:=l.wells.length) (e:=e) rfl rfl rfl he hM.bn Zr1 ?_
   dsimp only [go_sem,rA,rM,rS]
   have hbe:=hb e he
   have hget:=ZhW hM.kn he
   obtain ⟨m,hm⟩:∃ m:Nat,e.2.1=(m:Int):=⟨e.2.1.toNat,by omega⟩
   rw [hm] at hbe hget
   simp only [hm]
   have hml:m < d.length:=by omega
   have hmeas:=ZkP he hse
   have hnl:near.toNat < d.length:=by rcases hi with ⟨rfl,_⟩ | ⟨_,_,_⟩<;>omega
   refine gb ?_
   dsimp only [go_sem,rA,rM,rS]
   refine gb ?_
   dsimp only [go_sem,rA,rM,rS]
   refine gb ?_
   dsimp only [go_sem,rA,rM,rS]
   simp only [List.length_map]
   refine Zbb m rfl hml ?_
   dsimp only [go_sem,rA,rM,rS]
   refine gb ?_
   dsimp only [go_sem,rA,rM,rS]
   refine Zee hml ?_
   dsimp only [Zo,go_sem,rA,rM,rS]
   refine gb ?_
   dsimp only [go_sem,rA,rM,rS]
   refine gb ?_
   dsimp only [go_sem,rA,rM,rS]
   refine gb ?_
   dsimp only [go_sem,rA,rM,rS]
   simp only [List.length_map]
   refine ZpA near.toNat rfl (fun h=>⟨by simp at h;omega,hnl⟩) ?_
   dsimp only [go_sem,rA,rM,rS]
   refine gb ?_
   dsimp only [go_sem,rA,rM,rS]
   refine Zee hnl ?_
   dsimp only [Zo,go_sem,rA,rM,rS]
   refine gb ?_
   dsimp only [go_sem,rA,rM,rS]
   refine gb ?_
   dsimp only [go_sem,rA,rM,rS]
   refine gb ?_
   dsimp only [go_sem,rA,rM,rS]
   refine gb ?_
   dsimp only [go_sem,rA,rM,rS]
   simp only [List.length_map]
   refine Zbb m rfl hml ?_
   dsimp only [go_sem,rA,rM,rS]
   refine gb ?_
   dsimp only [go_sem,rA,rM,rS]
   refine Zee hml ?_
   dsimp only [Zo,go_sem,rA,rM,rS]
   refine gb ?_
   dsimp only [go_sem,rA,rM,rS]
   refine gb ?_
   dsimp only [go_sem,rA,rM,rS]
   refine gb ?_
   dsimp only [go_sem,rA,rM,rS]
   simp only [List.length_map]
   refine ZpA near.toNat rfl (fun h=>⟨by simp at h;omega,hnl⟩) ?_
   dsimp only [go_sem,rA,rM,rS]
   refine gb ?_
   dsimp only [go_sem,rA,rM,rS]
   refine Zee hnl ?_
   dsimp only [Zo,go_sem,rA,rM,rS]
   repeat (refine gb ?_;dsimp only [go_sem,rA,rM,rS])
   have hdm:dv d (m:Int)=d[m]:=XZ hml
   have hdn:0<=near->dv d near=d[near.toNat]:=fun h=>by
    have:=XZ hnl;rw [<- this];congr 1;omega
   have hse':∀ e' ∈ L,e'.1 ∈ seen ++ [e.1]->e'.1 ∈ seen\/e'.2.1=m:=fun e' he' h=>by
    rcases List.mem_append.1 h with h | h
    . exact .inl h
    . refine .inr ?_
      simp only [List.mem_singleton] at h
      have:e'=e:=Zcp hM.bn he' he h
      rw [this,hm]
   refine br ?_ ?_
   . intro hA
     dsimp only [go_sem,rA,rM,rS]
     refine ⟨(seen ++ [e.1],m),.inr ⟨by simp only;omega,by simp only;omega,by simp only;rw [hget];rfl,fun e' he' h=>?_⟩,hmeas,?_⟩
     . simp only [hdm]
       rcases hse' e' he' h with h | h
       . rcases hi with ⟨rfl,hi⟩ | ⟨hn0,hn1,hn2,hi⟩
         . exact absurd h (hi e' he')
         . have:=hi e' he' h
           rw [hdn hn0] at this
           simp only [Bool.or_eq_true,Bool.and_eq_true,decide_eq_true_eq,beq_iff_eq] at hA
           omega
       . rw [h,hdm];omega
     (refine Zk ?_ ?_ ?_ rfl rfl<;>dsimp only [YM,Zf,Zl,Zh,Zo,Yt,Z4,id,go_sem,rA,rM,rS]<;>simp [YM,Zf,Zl,Zh,Zo,Yt,Z4,Za,Zi,KFR,KFL,KF,Zd,mtO,nbr])
   . intro hA
     dsimp only [go_sem,rA,rM,rS]
     simp only [Bool.or_eq_false_iff,Bool.and_eq_false_iff,decide_eq_false_iff_not,beq_eq_false_iff_ne] at hA
     refine ⟨(seen ++ [e.1],near),.inr ?_,hmeas,?_⟩
     . rcases hi with ⟨rfl,hi⟩ | ⟨hn0,hn1,hn2,hi⟩
       . omega
       . refine ⟨hn0,hn1,hn2,fun e' he' h=>?_⟩
         simp only [hdn hn0]
         rcases hse' e' he' h with h | h
         . have:=hi e' he' h;rw [hdn hn0] at this;exact this
         . rw [h,hdm];omega
     (refine Zk ?_ ?_ ?_ rfl rfl<;>dsimp only [YM,Zf,Zl,Zh,Zo,Yt,Z4,id,go_sem,rA,rM,rS]<;>simp [YM,Zf,Zl,Zh,Zo,Yt,Z4,Za,Zi,KFR,KFL,KF,Zd,mtO,nbr])
end Go.Proofs.YtiigiflofnjilaaGreat
namespace Go.Azalai
noncomputable def XT (l:Land) (p:Span) (s day:Int):List Span:=List.zipWith Span.mk (XU false l p s day) (XU true l p s day)
def XY (l:Land) (p:Span) (s day:Int):Int:=if Us l p≠0 then Us l p else if (inR 0 (l.wells.length - 1) s && inR 0 100000 day)=false then 2 else 0
theorem WX {k:Bool} {l:Land} {p:Span} {s day:Int}:(XU k l p s day).length=l.wells.length:=by simp [XU]
theorem W4 {l:Land} {p:Span} {s day:Int}:(XT l p s day).length=l.wells.length:=by simp [XT,WX]
theorem Zju {l:Land} {p:Span} (h:Us l p=0):OkLP l p:=by
 unfold Us at h
 split at h
 . omega
 . split at h
   . omega
   . rename_i h1 h2;exact ⟨by simpa using h1,by simpa using h2⟩
end Go.Azalai
namespace Go.Proofs.YtiigiflofnjilaaGreat
open Go Go.Sx Go.Azalai
theorem YD {xs:List (List SV)} {n:Nat} (h:KFR xs):KFR (xs.take n):=by
 induction xs generalizing n with
 | nil=>simpa using h
 | cons x l ih=>cases n with
  | zero=>simp [KFR]
  | succ n=>simp only [List.take_succ_cons,KFR] at h ⊢;exact ⟨h.1,ih h.2⟩
def Xy (e:Int) (m:Nat) (xs:List (List SV)):SV:=if e=0 then .sl false m xs else .v (.slice none 0 0)
theorem ZhK (l:Land) (hs:XM l) (s day:Int) (p:Span):Ct Tryz.prog 52 [.agg (ZH l),I s,I day,.agg (Zc p)] (.tup [Xy (XY l p s day) 2 ((XT l p s day).map Zc),I (XY l p s day)]):=by
 have hw:=hs.1
 refine t52.1 (by simp [ZH,Zf,Zl,Zh,Zc,Za,KFL,KF]) (by unfold Xy;split<;>simp [KFL,KF,Za,Zc]) ?_
 dsimp only [c52,r52,ZH,Zc,go_sem,rA,rM,rS]
 by_cases ha:Us l p=0
 case neg =>
  refine call (Zcf l hs p ha) ?_
  dsimp only [go_sem,rA,rM,rS]
  refine Zr (by simpa using ha) ?_
  dsimp only [go_sem,rA,rM,rS]
  simp [XY,ha,Xy]
 have hok:=Zju ha
 refine call (Zdk l hs p ha) ?_
 dsimp only [YM,go_sem,rA,rM,rS]
 refine Zs (by decide) ?_
 dsimp only [go_sem,rA,rM,rS]
 simp only [List.length_map]
 have h1:=V6 hok.land
 rw [Ze (n:=(l.wells.length:Int) - 1) (by omega) (by omega)]
 refine call (Ua 0 (l.wells.length - 1) s true) ?_
 dsimp only [go_sem,rA,rM,rS]
 repeat (first | (refine gb ?_;dsimp only [go_sem,rA,rM,rS]) | (refine call (Ua 0 100000 day true) ?_;dsimp only [go_sem,rA,rM,rS]))
 by_cases hr:(inR 0 (l.wells.length - 1) s && inR 0 100000 day)=true
 case neg =>
  refine Zr (by simpa [Bool.and_eq_true,<- Bool.not_and] using hr) ?_
  dsimp only [go_sem,rA,rM,rS]
  simp [XY,ha,Xy,hr]
 refine Zs (by simpa [<- Bool.not_and] using hr) ?_
 dsimp only [go_sem,rA,rM,rS]
 have he:XY l p s day=0:=by simp [XY,ha,hr]
 rw [he]
 simp only [Bool.and_eq_true] at hr
 obtain ⟨hr1,hr2⟩:=hr
 obtain ⟨s0,hs0,rfl⟩:∃ s0:Nat,s0 < l.wells.length/\s=(s0:Int):=by
  simp only [inR,decide_eq_true_eq] at hr1
  exact ⟨s.toNat,by omega,by omega⟩
 refine call (ZeO l p hs hok s0 hs0 day hr2 true) ?_
 dsimp only [go_sem,rA,rM,rS]
 refine call (ZeO l p hs hok s0 hs0 day hr2 false) ?_
 dsimp only [go_sem,rA,rM,rS]
 simp only [List.length_map,WX]
 refine Za5 (Yj 12 2 27 rfl rfl) (fun q:Nat × Nat=>[(50,I q.1),(12,.mr 3 q.2)]) (fun q=>[(3,.row q.2 2 (((XT l p s0 day).take q.1).map Zc) 27)]) (fun q=>q.1<=l.wells.length) (fun q=>l.wells.length - q.1) (0,0) (Nat.zero_le _) ?_ ?_
 . (refine Zk ?_ ?_ ?_ rfl rfl<;>dsimp only [Zc,Zf,Zl,Zh,Zo,YD,id,go_sem,rA,rM,rS]<;>simp [Zc,Zf,Zl,Zh,Zo,YD,Za,Zi,KFR,KFL,KF,Zd,mtO,nbr])
 rintro ⟨j,v⟩ hj
 simp only at hj
 dsimp only [go_sem,rA,rM,rS]
 by_cases hlt:j < l.wells.length
 . refine Zr (by simpa using hlt) ?_
   dsimp only [go_sem,rA,rM,rS]
   have hf0:j < (XU false l p s0 day).length:=by rw [WX];exact hlt
   have hf1:j < (XU true l p s0 day).length:=by rw [WX];exact hlt
   refine Zm j hf0 rfl ?_
   dsimp only [Zo,go_sem,rA,rM,rS]
   refine Zm j hf1 rfl ?_
   dsimp only [Zo,go_sem,rA,rM,rS]
   simp only [nbr]
   dsimp only [go_sem,rA,rM,rS]
   have hlen:(((XT l p s0 day).take j).map Zc).length=j:=by simp [W4];omega
   refine ⟨(by intro c hc;simp only [List.mem_singleton] at hc;subst hc;rfl),by simp only [List.length_append,hlen,List.length_singleton];omega,?_⟩
   dsimp only [go_sem,rA,rM,rS]
   rw [Ze (n:=(j:Int)+1) (by omega) (by omega)]
   have hjl:j < (XT l p s0 day).length:=by rw [W4];exact hlt
   have e:((XT l p s0 day).take j).map Zc ++ [[SV.v (.int .i64 (XU false l p s0 day)[j]),SV.v (.int .i64 (XU true l p s0 day)[j])]]=((XT l p s0 day).take (j+1)).map Zc:=by
    rw [List.take_succ_eq_append_getElem hjl,List.map_append]
    simp [XT,Zc]
   rw [e]
   refine ⟨(j+1,v+1),hlt,by simp only;omega,?_⟩
   (refine Zk ?_ ?_ ?_ rfl rfl<;>dsimp only [Zc,Zf,Zl,Zh,Zo,YD,id,go_sem,rA,rM,rS]<;>simp [Zc,Zf,Zl,Zh,Zo,YD,Za,Zi,KFR,KFL,KF,Zd,mtO,nbr])
 refine Zs (by simp;omega) ?_
 dsimp only [go_sem,rA,rM,rS]
 have hje:j=l.wells.length:=by omega
 subst hje
 have:(XT l p s0 day).take l.wells.length=XT l p s0 day:=List.take_of_length_le (by rw [W4];exact Nat.le_refl _)
 rw [this]
 simp [Xy,vwN]
end Go.Proofs.YtiigiflofnjilaaGreat
namespace Go.Azalai
def Zgc (S:List Span):List Int:=S.map (·.lo)
def Zjf (S:List Span):List Int:=S.map (·.hi)
def Zvm (p:Span) (S:List Span) (x:Leg) (v:Int):Prop:=0<=Zn x v->dv (Zgc S) (Zn x v)<=ZO false x p (dv (Zgc S) v)/\dv (Zjf S) (Zn x v)<=ZO true x p (dv (Zjf S) v)
def Zwc (S:List Span):Nat:=(S.map fun s=>s.lo.toNat+s.hi.toNat).sum
def Zv6 (x:Leg) (c:Nat):Int:=if c % 2=0 then x.a else x.b
structure RI (l:Land) (p:Span) (s day:Int) (S0 S:List Span) (ch:Bool) (c:Nat):Prop where
 g0:Gone false l p s day (Zgc S)
 g1:Gone true l p s day (Zjf S)
 le:Zwc S<=Zwc S0
 dec:ch=true->Zwc S < Zwc S0
 same:ch=false->S=S0/\∀ c' x,c' < c->l.legs[c' / 2]? = some x->Zvm p S0 x (Zv6 x c')
theorem RI.start {l:Land} {p:Span} {s day:Int} {S:List Span} (h0:Gone false l p s day (Zgc S)) (h1:Gone true l p s day (Zjf S)):RI l p s day S S false 0 :=
 ⟨h0,h1,Nat.le_refl _,fun h=>(by cases h),fun _=>⟨rfl,fun c' x h=>absurd h (Nat.not_lt_zero _)⟩⟩
theorem RI.len {l:Land} {p:Span} {s day:Int} {S0 S:List Span} {ch:Bool} {c:Nat} (h:RI l p s day S0 S ch c):S.length=l.wells.length:=by have:=h.g0.len;simpa [Zgc] using this
theorem Zpg {S:List Span} {i:Nat} (h:i < S.length):dv (Zgc S) i=S[i].lo/\dv (Zjf S) i=S[i].hi:=by
 constructor
 . rw [XZ (by simpa [Zgc] using h)];simp [Zgc]
 . rw [XZ (by simpa [Zjf] using h)];simp [Zjf]
theorem RI.in {l:Land} {p:Span} {s day:Int} {S0 S:List Span} {ch:Bool} {c:Nat} (h:RI l p s day S0 S ch c) (hg:OkLP l p) (hd:0<=day) (hd':day<=100000) (h0:0<=s) (h1:s < l.wells.length) {i:Nat} (hi:i < S.length) :
 (0<=S[i].lo/\S[i].lo<=100001)/\0<=S[i].hi/\S[i].hi<=100001:=by
 have q:=Zpg hi
 have a1:=h.g0.lb hg hd hd' h0 h1 i
 have a2:=h.g0.ub i
 have b1:=h.g1.lb hg hd hd' h0 h1 i
 have b2:=h.g1.ub i
 omega
theorem RI.done {l:Land} {p:Span} {s day:Int} {S0 S:List Span} {c:Nat} (h:RI l p s day S0 S false c) (hc:2 * l.legs.length<=c) (hg:OkLP l p) (hd:0<=day) (hd':day<=100000) (h0:0<=s) (h1:s < l.wells.length):S=XT l p s day:=by
 obtain ⟨q1,q2⟩:=h.same rfl
 subst q1
 have hcl:∀ x ∈ l.legs,(dv (Zgc S) x.b<=ZO false x p (dv (Zgc S) x.a)/\dv (Zgc S) x.a<=ZO false x p (dv (Zgc S) x.b))/\(dv (Zjf S) x.b<=ZO true x p (dv (Zjf S) x.a)/\dv (Zjf S) x.a<=ZO true x p (dv (Zjf S) x.b)):=fun x hx=>by
  obtain ⟨i,hi⟩:=List.mem_iff_getElem?.1 hx
  have hil:i < l.legs.length:=(List.getElem?_eq_some_iff.1 hi).1
  have hen:=hg.ends hx
  have k1:=q2 (2 * i) x (by omega) (by rw [show 2 * i / 2=i by omega];exact hi)
  have k2:=q2 (2 * i+1) x (by omega) (by rw [show (2 * i+1) / 2=i by omega];exact hi)
  simp only [Zvm,Zv6,show 2 * i % 2=0 by omega,show ¬ (2 * i+1) % 2=0 by omega,if_true,if_false,Zn,if_neg hen.2.2] at k1 k2
  have m1:=k1 hen.2.1.1
  have m2:=k2 hen.1.1
  exact ⟨⟨m1.1,m2.1⟩,⟨m1.2,m2.2⟩⟩
 have e0:=Zb8 (k:=false) hg hd hd' h0 h1 h.g0.st (fun x hx=>(hcl x hx).1) h.g0.ub h.g0.real
 have e1:=Zb8 (k:=true) hg hd hd' h0 h1 h.g1.st (fun x hx=>(hcl x hx).2) h.g1.ub h.g1.real
 have hl:=h.len
 refine List.ext_getElem (by rw [hl,W4]) fun i hi hi'=>?_
 have d:=Zpg hi
 simp only [XT,List.getElem_zipWith,XU,List.getElem_map,List.getElem_range]
 rw [<- e0,<- e1,d.1,d.2]
theorem RI.again {l:Land} {p:Span} {s day:Int} {S0 S:List Span} {ch:Bool} {c:Nat} (h:RI l p s day S0 S ch c):RI l p s day S S false 0:=.start h.g0 h.g1
open Go.Sx
def W7:List Nat->List Nat->Bool
 | [],[]=>false
 | [],_ :: _=>true
 | _ :: _,[]=>false
 | x :: a,y :: b=>decide (x < y) || (x == y && W7 a b)
theorem WP:∀ a:List Nat,W7 a a=false
 | []=>rfl
 | x :: a=>by simp [W7,WP a]
theorem Zec:∀ {a b:List Nat},W7 a b=false->W7 b a=false->a=b
 | [],[],_,_=>rfl
 | [],_ :: _,h,_=>by simp [W7] at h
 | _ :: _,[],_,h=>by simp [W7] at h
 | x :: a,y :: b,h,h'=>by
  simp only [W7,Bool.or_eq_false_iff,decide_eq_false_iff_not,Bool.and_eq_false_iff,beq_eq_false_iff_ne] at h h'
  have hxy:x=y:=by omega
  subst hxy
  rw [Zec (a:=a) (b:=b) (by simpa using h.2) (by simpa using h'.2)]
theorem W0:∀ {a b c:List Nat},W7 a b=true->W7 b c=true->W7 a c=true
 | [],[],_,h,_=>by simp [W7] at h
 | [],_ :: _,[],_,h=>by simp [W7] at h
 | [],_ :: _,_ :: _,_,_=>rfl
 | _ :: _,[],_,h,_=>by simp [W7] at h
 | _ :: _,_ :: _,[],_,h=>by simp [W7] at h
 | x :: a,y :: b,z :: c,h,h'=>by
  simp only [W7,Bool.or_eq_true,decide_eq_true_eq,Bool.and_eq_true,beq_iff_eq] at h h' ⊢
  rcases h with h | ⟨rfl,h⟩
  . rcases h' with h' | ⟨rfl,h'⟩
    . exact .inl (by omega)
    . exact .inl h
  . rcases h' with h' | ⟨rfl,h'⟩
    . exact .inl h'
    . exact .inr ⟨rfl,W0 h h'⟩
theorem UK:∀ {a b c d:List Nat},a.length=b.length->W7 (a ++ c) (b ++ d)=(W7 a b || (decide (a=b) && W7 c d))
 | [],[],c,d,_=>by simp [W7]
 | x :: a,y :: b,c,d,h=>by
  rw [List.cons_append,List.cons_append,W7,W7,UK (a:=a) (b:=b) (c:=c) (d:=d) (by simpa using h)]
  by_cases hxy:x=y
  . subst hxy;simp
  . have hb:(x == y)=false:=beq_eq_false_iff_ne.2 hxy
    have hc:decide (x :: a=y :: b)=false:=by simp [hxy]
    rw [hb,hc];simp
 | [],_ :: _,_,_,h=>by simp at h
 | _ :: _,[],_,_,h=>by simp at h
def Zuh (W:List Nat->Prop) (a:List Nat):Prop:=W a/\∀ b,W b->W7 b a=false
theorem Zuh.congr {W W':List Nat->Prop} {a:List Nat} (h:Zuh W a) (hw:∀ b,W' b↔W b):Zuh W' a:=⟨(hw a).2 h.1,fun b hb=>h.2 b ((hw b).1 hb)⟩
def ZjV (l:Land) (p:Span) (s day:Int) (n:Nat) (q:Int × Int) (a:List Nat):Prop:=a.length=n/\goW true l p s day a=some q
theorem Zd3 {l:Land} {p:Span} {s day:Int} {a:List Nat} {i:Nat} {q:Int × Int} (h:goW true l p s day (a ++ [i])=some q) :
 ∃ u x,goW true l p s day a=some u/\l.legs[i]? = some x/\0<=Zn x u.1/\ZO true x p u.2<=100000/\q=(Zn x u.1,ZO true x p u.2):=by
 rw [Zau] at h
 cases hu:goW true l p s day a with
 | none=>rw [hu] at h;simp at h
 | some u =>
  rw [hu] at h
  simp only [Option.bind_some,goW] at h
  cases hx:l.legs[i]? with
  | none=>rw [hx] at h;cases h
  | some x =>
   rw [hx] at h
   simp only at h
   split at h
   . cases h
   . split at h
     . cases h
     . exact ⟨u,x,rfl,rfl,by omega,by omega,by injection h with h;exact h.symm⟩
def Cand (l:Land) (p:Span) (G:Int) (L:Int × Int->Option (List Nat)) (done:Int × Int->Nat->Prop) (q:Int × Int) (a:List Nat):Prop :=
 ∃ u w i x,L u=some w/\done u i/\l.legs[i]? = some x/\0<=Zn x u.1/\ZO true x p u.2<=G/\q=(Zn x u.1,ZO true x p u.2)/\a=w ++ [i]
def ZbD (W:List Nat->Prop):Option (List Nat)->Prop
 | none=>∀ a,¬ W a
 | some a=>Zuh W a
theorem ZbD.congr {W W':List Nat->Prop} {o:Option (List Nat)} (h:ZbD W o) (hw:∀ b,W' b↔W b):ZbD W' o:=by
 cases o with
 | none=>exact fun a ha=>h a ((hw a).1 ha)
 | some a=>exact Zuh.congr h hw
def ZpR (c:List Nat):Option (List Nat)->Option (List Nat)
 | none=>some c
 | some d=>if W7 c d=true then some c else some d
theorem ZbD.more {W W':List Nat->Prop} {o:Option (List Nat)} {c:List Nat} (h:ZbD W o) (hw:∀ b,W' b↔W b\/b=c) :
 ZbD W' (ZpR c o):=by
 cases o with
 | none=>exact ⟨(hw c).2 (.inr rfl),fun b hb=>by
  rcases (hw b).1 hb with hb | rfl
  . exact absurd hb (h b)
  . exact WP _⟩
 | some d =>
  simp only [ZpR]
  split
  . rename_i hcd
    refine ⟨(hw c).2 (.inr rfl),fun b hb=>?_⟩
    rcases (hw b).1 hb with hb | rfl
    . cases hq:W7 b c with
      | false=>rfl
      | true=>have:=W0 hq hcd;rw [h.2 b hb] at this;cases this
    . exact WP _
  . rename_i hcd
    refine ⟨(hw d).2 (.inl h.1),fun b hb=>?_⟩
    rcases (hw b).1 hb with hb | rfl
    . exact h.2 b hb
    . simpa using hcd
def Nxt (l:Land) (p:Span) (G:Int) (L N:Int × Int->Option (List Nat)) (done:Int × Int->Nat->Prop):Prop:=∀ q,ZbD (Cand l p G L done q) (N q)
theorem Nxt.congr {l:Land} {p:Span} {G:Int} {L N N':Int × Int->Option (List Nat)} {done done':Int × Int->Nat->Prop} (h:Nxt l p G L N done) (hN:∀ q,N' q=N q) (hd:∀ u w i,L u=some w->i < l.legs.length->(done' u i↔done u i)):Nxt l p G L N' done':=fun q=>by
 rw [hN]
 refine (h q).congr fun b=>⟨?_,?_⟩
 . rintro ⟨u,w,i,x,h1,h2,h3⟩;exact ⟨u,w,i,x,h1,(hd u w i h1 (List.getElem?_eq_some_iff.1 h3.1).1).1 h2,h3⟩
 . rintro ⟨u,w,i,x,h1,h2,h3⟩;exact ⟨u,w,i,x,h1,(hd u w i h1 (List.getElem?_eq_some_iff.1 h3.1).1).2 h2,h3⟩
theorem Nxt.start {l:Land} {p:Span} {G:Int} {L N:Int × Int->Option (List Nat)} (hN:∀ q,N q=none):Nxt l p G L N (fun _ _=>False):=fun q=>by
 rw [hN];rintro a ⟨_,_,_,_,_,h,_⟩;exact h
theorem Nxt.skip {l:Land} {p:Span} {G:Int} {L N:Int × Int->Option (List Nat)} {done:Int × Int->Nat->Prop} (h:Nxt l p G L N done) {u:Int × Int} {i:Nat} {x:Leg} (hx:l.legs[i]? = some x) (hn:¬ (0<=Zn x u.1/\ZO true x p u.2<=G)) :
 Nxt l p G L N (fun u' i'=>done u' i'\/u'=u/\i'=i):=fun q=>(h q).congr fun b=>⟨by
  rintro ⟨u',w,i',x',h1,h2,h3,h4,h5,h6⟩
  rcases h2 with h2 | ⟨rfl,rfl⟩
  . exact ⟨u',w,i',x',h1,h2,h3,h4,h5,h6⟩
  . rw [hx] at h3;cases h3;exact absurd ⟨h4,h5⟩ hn,by
  rintro ⟨u',w,i',x',h1,h2,h3⟩;exact ⟨u',w,i',x',h1,.inl h2,h3⟩⟩
theorem Nxt.step {l:Land} {p:Span} {G:Int} {L N N':Int × Int->Option (List Nat)} {done:Int × Int->Nat->Prop} (h:Nxt l p G L N done) {u:Int × Int} {w:List Nat} {i:Nat} {x:Leg} (hL:L u=some w) (hx:l.legs[i]? = some x) (h0:0<=Zn x u.1) (h1:ZO true x p u.2<=G)
 (hN:∀ q,N' q=if q=(Zn x u.1,ZO true x p u.2) then ZpR (w ++ [i]) (N q) else N q) :
 Nxt l p G L N' (fun u' i'=>done u' i'\/u'=u/\i'=i):=fun q=>by
 rw [hN]
 by_cases hq:q=(Zn x u.1,ZO true x p u.2)
 . rw [if_pos hq]
   refine ZbD.more (h q) fun b=>⟨?_,?_⟩
   . rintro ⟨u',w',i',x',k1,k2,k3,k4,k5,k6,k7⟩
     rcases k2 with k2 | ⟨rfl,rfl⟩
     . exact .inl ⟨u',w',i',x',k1,k2,k3,k4,k5,k6,k7⟩
     . rw [hL] at k1;cases k1;exact .inr k7
   . rintro (⟨u',w',i',x',k1,k2,k3⟩ | rfl)
     . exact ⟨u',w',i',x',k1,.inl k2,k3⟩
     . exact ⟨u,w,i,x,hL,.inr ⟨rfl,rfl⟩,hx,h0,h1,hq,rfl⟩
 . rw [if_neg hq]
   refine (h q).congr fun b=>⟨?_,?_⟩
   . rintro ⟨u',w',i',x',k1,k2,k3,k4,k5,k6,k7⟩
     rcases k2 with k2 | ⟨rfl,rfl⟩
     . exact ⟨u',w',i',x',k1,k2,k3,k4,k5,k6,k7⟩
     . rw [hx] at k3;cases k3;exact absurd k6 hq
   . rintro ⟨u',w',i',x',k1,k2,k3⟩
     exact ⟨u',w',i',x',k1,.inl k2,k3⟩
def Rd (l:Land) (p:Span) (s day G:Int) (n:Nat) (L:Int × Int->Option (List Nat)):Prop:=∀ q,ZbD (fun a=>q.2<=G/\ZjV l p s day n q a) (L q)
theorem Rd.start {l:Land} {p:Span} {s day G:Int} {L:Int × Int->Option (List Nat)} (hG:day<=G) (hL:∀ q,L q=if q=(s,day) then some [] else none):Rd l p s day G 0 L:=fun q=>by
 rw [hL]
 split
 . rename_i hq
   subst hq
   exact ⟨⟨hG,rfl,rfl⟩,fun b hb=>by rw [List.eq_nil_of_length_eq_zero hb.2.1];rfl⟩
 . rename_i hq
   rintro a ⟨_,h1,h2⟩
   rw [List.eq_nil_of_length_eq_zero h1] at h2
   simp only [goW,Option.some.injEq] at h2
   exact hq h2.symm
theorem Rd.next {l:Land} {p:Span} {s day G:Int} {n:Nat} {L N:Int × Int->Option (List Nat)} {done:Int × Int->Nat->Prop} (hg:OkLP l p) (h:Rd l p s day G n L) (hN:Nxt l p G L N done) (hd:∀ u w i,L u=some w->i < l.legs.length->done u i) (hG:G<=100000)
 (hd':day<=100000) (h0:0<=s) (h1:s < l.wells.length):Rd l p s day G (n+1) N:=fun q=>by
 have hq:=hN q
 have one:∀ a,Cand l p G L done q a->q.2<=G/\ZjV l p s day (n+1) q a:=by
  rintro a ⟨u,w,i,x,k1,_,k3,k4,k5,rfl,rfl⟩
  have:=h u
  rw [k1] at this
  obtain ⟨⟨g1,g2,g3⟩,_⟩:=this
  exact ⟨k5,by simp [g2],UZ (v:=u.1) (u:=u.2) g3 k3 (by omega) (by omega)⟩
 have two:∀ b,(q.2<=G/\ZjV l p s day (n+1) q b)->∃ a,Cand l p G L done q a/\W7 b a=false:=by
  rintro b ⟨k1,k2,k3⟩
  obtain ⟨c,i,rfl⟩:∃ c i,b=c ++ [i]:=by
   rcases List.eq_nil_or_concat b with rfl | ⟨c,i,rfl⟩
   . simp at k2
   . exact ⟨c,i,by simp⟩
  obtain ⟨u,x,g1,g2,g3,g4,g5⟩:=Zd3 k3
  have hub:=Vc hg (v':=u.1) (t':=u.2) g1 hd' h0 h1
  have hge:=Zcd (k:=true) (t:=u.2) (hg.leg g2) hg.pace (by omega)
  have hq2:q.2=ZO true x p u.2:=by rw [g5]
  have hu:=h u
  cases hLu:L u with
  | none=>rw [hLu] at hu;exact absurd ⟨by omega,by simpa using k2,g1⟩ (hu c)
  | some w =>
   rw [hLu] at hu
   have hlen:c.length=w.length:=by rw [hu.1.2.1];simpa using k2
   refine ⟨w ++ [i],⟨u,w,i,x,hLu,hd u w i hLu (List.getElem?_eq_some_iff.1 g2).1,g2,g3,by omega,g5,rfl⟩,?_⟩
   rw [UK hlen,hu.2 c ⟨by omega,by simpa using k2,g1⟩]
   simp [W7]
 cases hNq:N q with
 | none =>
  rw [hNq] at hq
  intro b hb
  obtain ⟨a,ha,_⟩:=two b hb
  exact hq a ha
 | some a =>
  rw [hNq] at hq
  refine ⟨one a hq.1,fun b hb=>?_⟩
  obtain ⟨c,hc,hbc⟩:=two b hb
  cases hba:W7 b a with
  | false=>rfl
  | true =>
   have hca:=hq.2 c hc
   cases hcb:W7 c b with
   | true=>have:=W0 hcb hba;rw [hca] at this;cases this
   | false=>rw [Zec hbc hcb,hca] at hba;cases hba
def Zpz (l:Land) (p:Span) (s to day:Int) (a:List Nat):Prop :=
 goW true l p s day a=some (to,YR true l p s day to)/\∀ b,goW true l p s day b=some (to,YR true l p s day to)->a.length < b.length\/(a.length=b.length/\W7 b a=false)
theorem Rd.sure {l:Land} {p:Span} {s to day G:Int} {n:Nat} {L:Int × Int->Option (List Nat)} {a:List Nat} (h:Rd l p s day G n L) (hG:G=YR true l p s day to) (hL:L (to,G)=some a) (hm:∀ m,m < n->∀ b,¬ ZjV l p s day m (to,G) b):Zpz l p s to day a:=by
 subst hG
 have hq:=h (to,YR true l p s day to)
 rw [hL] at hq
 refine ⟨hq.1.2.2,fun b hb=>?_⟩
 by_cases hlt:b.length < n
 . exact absurd ⟨rfl,hb⟩ (hm b.length hlt b)
 . have hn:=hq.1.2.1
   by_cases he:b.length=n
   . exact .inr ⟨by omega,hq.2 b ⟨Int.le_refl _,he,hb⟩⟩
   . exact .inl (by omega)
theorem Rd.not {l:Land} {p:Span} {s to day G:Int} {n:Nat} {L:Int × Int->Option (List Nat)} (h:Rd l p s day G n L) (hL:L (to,G)=none) (hm:∀ m,m < n->∀ b,¬ ZjV l p s day m (to,G) b):∀ m,m < n+1->∀ b,¬ ZjV l p s day m (to,G) b:=fun m hmn b hb=>by
 by_cases he:m=n
 . subst he
   have:=h (to,G)
   rw [hL] at this
   exact this b ⟨Int.le_refl _,hb⟩
 . exact hm m (by omega) b hb
open Classical in
noncomputable def YJ (l:Land) (p:Span) (v t:Int) (n:Nat) (w:Int):Int :=
 if h:∃ m:Nat,∃ a,ZjV l p v t n (w,(m:Int)) a then ((Go.Sx.least_ex _ h).choose:Int) else 100001
theorem WD {l:Land} {p:Span} (h:OkLP l p) {v t w u:Int} {n:Nat} {a:List Nat} (e:ZjV l p v t n (w,u) a) (ht:0<=t) (ht':t<=100000) (h0:0<=v) (h1:v < l.wells.length):YJ l p v t n w<=u:=by
 have hb:=Vc h e.2 ht' h0 h1
 have eu:((u.toNat:Nat):Int)=u:=by omega
 have hex:∃ m:Nat,∃ a,ZjV l p v t n (w,(m:Int)) a:=⟨u.toNat,a,by rw [eu];exact e⟩
 unfold YJ
 rw [dif_pos hex]
 have:=(Go.Sx.least_ex _ hex).choose_spec.2 u.toNat ⟨a,by rw [eu];exact e⟩
 omega
theorem YH {l:Land} {p:Span} {v t w:Int} {n:Nat}:YJ l p v t n w=100001\/∃ a,ZjV l p v t n (w,YJ l p v t n w) a:=by
 unfold YJ
 by_cases hex:∃ m:Nat,∃ a,ZjV l p v t n (w,(m:Int)) a
 . rw [dif_pos hex];exact .inr (Go.Sx.least_ex _ hex).choose_spec.1
 . rw [dif_neg hex];exact .inl rfl
theorem Zag {l:Land} {p:Span} (h:OkLP l p) {v t w:Int} {n:Nat} (ht:0<=t) (ht':t<=100000) (h0:0<=v) (h1:v < l.wells.length):t<=YJ l p v t n w/\YJ l p v t n w<=100001:=by
 rcases YH (l:=l) (p:=p) (v:=v) (t:=t) (n:=n) (w:=w) with e | ⟨a,e⟩
 . omega
 . have:=Vc h e.2 ht' h0 h1;omega
theorem ZoR {l:Land} {p:Span} (h:OkLP l p) {v t w:Int} (ht:0<=t) (ht':t<=100000) (h0:0<=v) (h1:v < l.wells.length):YJ l p v t 0 w=if w=v then t else 100001:=by
 rcases YH (l:=l) (p:=p) (v:=v) (t:=t) (n:=0) (w:=w) with e | ⟨a,e1,e2⟩
 . split
   . rename_i hw
     subst hw
     have:=WD (u:=t) (a:=[]) (n:=0) (w:=w) h ⟨rfl,rfl⟩ ht ht' h0 h1
     omega
   . exact e
 . rw [List.eq_nil_of_length_eq_zero e1] at e2
   simp only [goW,Option.some.injEq,Prod.mk.injEq] at e2
   rw [if_pos e2.1.symm];exact e2.2.symm
noncomputable def Uw (l:Land) (p:Span) (v t:Int) (n:Nat):List Int:=(List.range l.wells.length).map fun w:Nat=>YJ l p v t n (w:Int)
theorem Zbv {l:Land} {p:Span} {v t:Int} {n:Nat}:(Uw l p v t n).length=l.wells.length:=by simp [Uw]
theorem Zek {l:Land} {p:Span} {v t w:Int} {n:Nat} (h0:0<=w) (h1:w < l.wells.length):dv (Uw l p v t n) w=YJ l p v t n w:=by
 obtain ⟨i,rfl⟩:∃ i:Nat,w=(i:Int):=⟨w.toNat,by omega⟩
 rw [XZ (by rw [Zbv];omega)]
 simp [Uw]
structure Lst (l:Land) (p:Span) (c d:List Int) (j:Nat):Prop where
 len:d.length=l.wells.length
 ub:∀ w,dv d w<=100001
 le:∀ (i:Nat) (x:Leg) (v:Int),i < j->l.legs[i]? = some x->0<=Zn x v->dv d (Zn x v)<=ZO true x p (dv c v)
 real:∀ w,dv d w=100001\/∃ (i:Nat) (x:Leg) (v:Int),l.legs[i]? = some x/\0<=Zn x v/\Zn x v=w/\dv d w=ZO true x p (dv c v)
theorem Lst.start {l:Land} {p:Span} {c:List Int}:Lst l p c (List.replicate l.wells.length 100001) 0:=by
 have e:∀ w,dv (List.replicate l.wells.length 100001) w=100001:=fun w=>by
  by_cases hw:0<=w/\w < (List.replicate l.wells.length (100001:Int)).length
  . obtain ⟨i,rfl⟩:∃ i:Nat,w=(i:Int):=⟨w.toNat,by omega⟩
    rw [XZ (by omega)];simp
  . exact ZvH hw
 exact ⟨by simp,fun w=>by rw [e];exact Int.le_refl _,fun i x v h=>by omega,fun w=>.inl (e w)⟩
theorem Zci {l:Land} {p:Span} {c d:List Int} {x:Leg} {v:Int} {w:Nat} (hlen:d.length=l.wells.length) (hw:w < d.length) {i:Nat} (hx:l.legs[i]? = some x) (ho:Zn x v=w) (hub:∀ w,dv d w<=100001) (hr:∀ w,dv d w=100001\/∃ (i:Nat) (x:Leg) (v:Int),l.legs[i]? = some x/\0<=Zn x v/\Zn x v=w/\dv d w=ZO true x p (dv c v)) :
 (∀ u,dv (d.set w (min (dv d w) (ZO true x p (dv c v)))) u<=dv d u)/\(dv (d.set w (min (dv d w) (ZO true x p (dv c v)))) w<=ZO true x p (dv c v)) /\
 ∀ u,dv (d.set w (min (dv d w) (ZO true x p (dv c v)))) u=100001\/∃ (i:Nat) (y:Leg) (v':Int),l.legs[i]? = some y/\0<=Zn y v'/\Zn y v'=u/\dv (d.set w (min (dv d w) (ZO true x p (dv c v)))) u=ZO true y p (dv c v'):=by
 refine ⟨fun u=>?_,?_,fun u=>?_⟩
 . rw [XV hw];split
   . rename_i hu;rw [hu];omega
   . exact Int.le_refl _
 . rw [XV hw,if_pos rfl];omega
 . rw [XV hw];split
   . rename_i hu
     by_cases hm:dv d w<=ZO true x p (dv c v)
     . rw [Int.min_eq_left hm,hu];exact hr w
     . rw [Int.min_eq_right (by omega)]
       exact .inr ⟨i,x,v,hx,by omega,by omega,rfl⟩
   . exact hr u
theorem Lst.step {l:Land} {p:Span} {c d:List Int} {j:Nat} (h:Lst l p c d j) (hg:OkLP l p) {x:Leg} (hx:l.legs[j]? = some x) {a b:Nat} (ha:x.a=a) (hb:x.b=b) :
 Lst l p c ((d.set b (min (dv d b) (ZO true x p (dv c a)))).set a (min (dv (d.set b (min (dv d b) (ZO true x p (dv c a)))) a) (ZO true x p (dv c b)))) (j+1):=by
 have hen:=hg.ends (List.mem_of_getElem? hx)
 have hbl:b < d.length:=by rw [h.len];omega
 have hal:a < d.length:=by rw [h.len];omega
 have o1:Zn x (a:Int)=(b:Int):=by rw [Zn,if_pos ha,hb]
 have o2:Zn x (b:Int)=(a:Int):=by rw [Zn,if_neg (by omega),if_pos hb,ha]
 obtain ⟨q1,q2,q3⟩:=Zci (v:=(a:Int)) h.len hbl hx o1 h.ub h.real
 have hl1:(d.set b (min (dv d b) (ZO true x p (dv c a)))).length=d.length:=List.length_set
 generalize d.set b (min (dv d b) (ZO true x p (dv c a)))=d1 at q1 q2 q3 hl1
 obtain ⟨r1,r2,r3⟩:=Zci (v:=(b:Int)) (hl1.trans h.len) (by omega:a < d1.length) hx o2 (fun w=>Int.le_trans (q1 w) (h.ub w)) q3
 have hl2:(d1.set a (min (dv d1 a) (ZO true x p (dv c b)))).length=d1.length:=List.length_set
 generalize d1.set a (min (dv d1 a) (ZO true x p (dv c b)))=d2 at r1 r2 r3 hl2
 refine ⟨by rw [hl2,hl1,h.len],fun w=>Int.le_trans (r1 w) (Int.le_trans (q1 w) (h.ub w)),fun i y v hi hy ho=>?_,r3⟩
 by_cases he:i=j
 . subst he
   rw [hx] at hy;cases hy
   rcases (YB hg hx (v:=v) (by omega)).2.1 with ⟨e1,e2⟩ | ⟨e1,e2⟩
   . have ev:v=(a:Int):=by omega
     subst ev
     rw [o1]
     exact Int.le_trans (r1 _) q2
   . have ev:v=(b:Int):=by omega
     subst ev
     rw [o2];exact r2
 . exact Int.le_trans (r1 _) (Int.le_trans (q1 _) (h.le i y v (by omega) hy ho))
theorem Lst.done {l:Land} {p:Span} {v t:Int} {n:Nat} {d:List Int} (h:Lst l p (Uw l p v t n) d l.legs.length) (hg:OkLP l p) (ht:0<=t) (ht':t<=100000) (h0:0<=v) (h1:v < l.wells.length):d=Uw l p v t (n+1):=by
 refine List.ext_getElem (by rw [h.len,Zbv]) fun i hi hi'=>?_
 have hil:i < l.wells.length:=by rw [h.len] at hi;exact hi
 rw [show (Uw l p v t (n+1))[i]=YJ l p v t (n+1) i by simp [Uw],<- XZ hi]
 have hlow:YJ l p v t (n+1) i<=dv d i:=by
  rcases h.real i with e | ⟨k,x,u,hx,ho,hou,e⟩
  . rw [e];exact (Zag hg ht ht' h0 h1).2
  . have hin:=YB hg hx (v:=u) (by omega)
    rw [Zek hin.2.2.1 hin.2.2.2] at e
    by_cases hr:dv d i=100001
    . rw [hr];exact (Zag hg ht ht' h0 h1).2
    . have hub:=h.ub i
      have hb:=Xd (k:=true) (t:=YJ l p v t n u) (hg.leg hx) hg.pace (Zag hg ht ht' h0 h1).2
      rcases YH (l:=l) (p:=p) (v:=v) (t:=t) (n:=n) (w:=u) with e' | ⟨a,e1,e2⟩
      . omega
      . rw [e,<- hou]
        exact WD hg ⟨by simp [e1],UZ e2 hx (by omega) (by omega)⟩ ht ht' h0 h1
 have hup:dv d i<=YJ l p v t (n+1) i:=by
  rcases YH (l:=l) (p:=p) (v:=v) (t:=t) (n:=n+1) (w:=i) with e' | ⟨b,e1,e2⟩
  . rw [e'];exact h.ub i
  . obtain ⟨c,k,rfl⟩:∃ c k,b=c ++ [k]:=by
     rcases List.eq_nil_or_concat b with rfl | ⟨c,k,rfl⟩
     . simp at e1
     . exact ⟨c,k,by simp⟩
    obtain ⟨u,x,g1,g2,g3,g4,g5⟩:=Zd3 e2
    have hin:=YB hg g2 (v:=u.1) (by omega)
    have:=h.le k x u.1 (List.getElem?_eq_some_iff.1 g2).1 g2 g3
    rw [Zek hin.2.2.1 hin.2.2.2] at this
    have hl:=WD (n:=n) (w:=u.1) (u:=u.2) hg ⟨by simpa using e1,g1⟩ ht ht' h0 h1
    have hm:=Zcu (k:=true) (hg.leg g2) hg.pace hl
    simp only [Prod.mk.injEq] at g5
    rw [<- g5.1] at this
    omega
 omega
structure Gr (l:Land) (p:Span) (s day to best:Int) (n0 n:Nat) (v t:Int) (out:List Nat):Prop where
 go:goW true l p s day out=some (v,t)
 len:out.length+n=n0
 least:YJ l p v t n to=best
 pre:∀ b,b.length=n0->goW true l p s day b=some (to,best)->b.take out.length=out\/W7 out (b.take out.length)=true
def Fit (l:Land) (p:Span) (to best:Int) (n:Nat) (v t:Int) (i:Nat):Prop:=∃ x,l.legs[i]? = some x/\0<=Zn x v/\ZO true x p t < 100001/\YJ l p (Zn x v) (ZO true x p t) n to=best
theorem Gr.start {l:Land} {p:Span} {s day to best:Int} {n:Nat} (h:YJ l p s day n to=best):Gr l p s day to best n n s day []:=⟨rfl,by simp,h,fun _ _ _=>.inl (by simp)⟩
theorem ZlR {l:Land} {p:Span} {v t:Int} {i:Nat} {c:List Nat} {q:Int × Int} (h:goW true l p v t (i :: c)=some q):∃ x,l.legs[i]? = some x/\0<=Zn x v/\ZO true x p t<=100000/\goW true l p (Zn x v) (ZO true x p t) c=some q:=by
 simp only [goW] at h
 cases hx:l.legs[i]? with
 | none=>rw [hx] at h;cases h
 | some x =>
  rw [hx] at h
  simp only at h
  split at h
  . cases h
  . split at h
    . cases h
    . exact ⟨x,rfl,by omega,by omega,h⟩
theorem Gr.fit {l:Land} {p:Span} {s day to best:Int} {n0 n:Nat} {v t:Int} {out:List Nat} (h:Gr l p s day to best n0 (n+1) v t out) (hg:OkLP l p) (hd:0<=day) (hd':day<=100000) (h0:0<=s) (h1:s < l.wells.length) (hb:best=YR true l p s day to) {i:Nat} {c:List Nat} (hc:c.length=n)
 (hw:goW true l p v t (i :: c)=some (to,best)):Fit l p to best n v t i:=by
 obtain ⟨x,g1,g2,g3,g4⟩:=ZlR hw
 have hbd:=Vc hg h.go hd' h0 h1
 have hin:=YB hg g1 (v:=v) (by omega)
 have ha:=Xd (k:=true) (t:=t) (hg.leg g1) hg.pace (by omega)
 have hle:=WD (n:=n) (w:=to) (u:=best) hg ⟨hc,g4⟩ (by omega) g3 hin.1.1 hin.1.2
 refine ⟨x,g1,g2,by omega,?_⟩
 rcases YH (l:=l) (p:=p) (v:=Zn x v) (t:=ZO true x p t) (n:=n) (w:=to) with e | ⟨a,e1,e2⟩
 . have:=Vc hg g4 g3 hin.1.1 hin.1.2;omega
 . have hgo:goW true l p s day (out ++ (i :: a))=some (to,YJ l p (Zn x v) (ZO true x p t) n to):=by
    rw [Zau,h.go]
    simp only [Option.bind_some,goW,g1]
    rw [if_neg (by omega),if_neg (by omega)]
    exact e2
   have:=ZaH hg hgo hd hd' h0 h1
   omega
theorem Gr.ex {l:Land} {p:Span} {s day to best:Int} {n0 n:Nat} {v t:Int} {out:List Nat} (h:Gr l p s day to best n0 (n+1) v t out) (hg:OkLP l p) (hd:0<=day) (hd':day<=100000) (h0:0<=s) (h1:s < l.wells.length) (hb:best=YR true l p s day to) (hb':best<=100000) :
 ∃ i,i < l.legs.length/\Fit l p to best n v t i:=by
 rcases YH (l:=l) (p:=p) (v:=v) (t:=t) (n:=n+1) (w:=to) with e | ⟨a,e1,e2⟩
 . have:=h.least;omega
 . rw [h.least] at e2
   cases a with
   | nil=>simp at e1
   | cons i c =>
    have hf:=h.fit hg hd hd' h0 h1 hb (by simpa using e1) e2
    have hf':=hf
    obtain ⟨x,hx,_⟩:=hf'
    exact ⟨i,(List.getElem?_eq_some_iff.1 hx).1,hf⟩
theorem Gr.step {l:Land} {p:Span} {s day to best:Int} {n0 n:Nat} {v t:Int} {out:List Nat} (h:Gr l p s day to best n0 (n+1) v t out) (hg:OkLP l p) (hd:0<=day) (hd':day<=100000) (h0:0<=s) (h1:s < l.wells.length) (hb:best=YR true l p s day to) {i:Nat} {x:Leg} (hx:l.legs[i]? = some x) (ho:0<=Zn x v) (ha:ZO true x p t < 100001)
 (hf:YJ l p (Zn x v) (ZO true x p t) n to=best) (hm:∀ j,j < i->¬ Fit l p to best n v t j):Gr l p s day to best n0 n (Zn x v) (ZO true x p t) (out ++ [i]):=by
 refine ⟨UZ h.go hx (by omega) (by omega),by have:=h.len;simp;omega,hf,fun b hbl hbw=>?_⟩
 have hlen:=h.len
 have hsplit:b.take (out ++ [i]).length=b.take out.length ++ (b[out.length]?).toList:=by
  rw [List.length_append,List.length_singleton];exact List.take_add_one
 have hlt:out.length < b.length:=by omega
 rw [hsplit,List.getElem?_eq_getElem hlt,Option.toList_some]
 have hl:out.length=(b.take out.length).length:=by rw [List.length_take];omega
 rcases h.pre b hbl hbw with e | e
 . rw [e]
   have hbeq:b=out ++ (b[out.length] :: b.drop (out.length+1)):=by
    conv=>lhs;rw [<- List.take_append_drop out.length b,e,List.drop_eq_getElem_cons hlt]
   have hw2:goW true l p v t (b[out.length] :: b.drop (out.length+1))=some (to,best):=by
    rw [hbeq,Zau,h.go] at hbw
    simpa using hbw
   have hfit:=h.fit hg hd hd' h0 h1 hb (by rw [List.length_drop];omega) hw2
   by_cases heq:b[out.length]=i
   . left;rw [heq]
   . right
     have:¬ b[out.length] < i:=fun hlt'=>hm _ hlt' hfit
     rw [UK rfl]
     simp [W7,WP]
     omega
 . right
   rw [UK hl,e];rfl
theorem Gr.done {l:Land} {p:Span} {s day to best:Int} {n0:Nat} {v t:Int} {out:List Nat} (h:Gr l p s day to best n0 0 v t out) (hg:OkLP l p) (hd:0<=day) (hd':day<=100000) (h0:0<=s) (h1:s < l.wells.length) (hb:best=YR true l p s day to) (hb':best<=100000)
 (hm:∀ m,m < n0->YJ l p s day m to≠best):Zpz l p s to day out:=by
 have hbd:=Vc hg h.go hd' h0 h1
 have h2:=h.least
 rw [ZoR hg (by omega) (by omega) hbd.2.2.1 hbd.2.2.2] at h2
 split at h2
 case isFalse=>omega
 rename_i hv
 subst hv;subst h2
 have hlen:=h.len
 refine ⟨by rw [<- hb];exact h.go,fun b hbw=>?_⟩
 rw [<- hb] at hbw
 by_cases hlt:b.length < n0
 . refine absurd ?_ (hm b.length hlt)
   have q1:=WD (n:=b.length) hg ⟨rfl,hbw⟩ hd hd' h0 h1
   rcases YH (l:=l) (p:=p) (v:=s) (t:=day) (n:=b.length) (w:=to) with e | ⟨a,e1,e2⟩
   . omega
   . have:=ZaH hg e2 hd hd' h0 h1;omega
 . by_cases he:b.length=n0
   . refine .inr ⟨by omega,?_⟩
     have hpre:=h.pre b he hbw
     rw [List.take_of_length_le (by omega)] at hpre
     rcases hpre with rfl | hpre
     . exact WP _
     . cases hq:W7 b out with
       | false=>rfl
       | true=>have:=W0 hpre hq;rw [WP] at this;cases this
   . exact .inl (by omega)
structure Stop where
 leg:Int
 well:Int
 leaves:Span
 arrives:Span
deriving DecidableEq
def X4 (l:Land):Int->List Int->Nat->Option Nat
 | _,[],_=>none
 | v,i :: r,k=>if Wz l i v < 0 then some k else X4 l (Wz l i v) r (k+1)
def Vr (l:Land):Int->List Int->List Int
 | _,[]=>[]
 | v,i :: r=>if Wz l i v < 0 then [] else Wz l i v :: Vr l (Wz l i v) r
def goS (l:Land) (p:Span):Int->Int->Int->List Int->Nat->List Stop->List Stop × Int × Int
 | _,_,_,[],_,acc=>(acc,0,0)
 | v,a,b,i :: r,k,acc=>match l.legs[i.toNat]? with
  | none=>([],0,0)
  | some x=>if ZO true x p b > 100000 then ([],k,34)
   else goS l p (Zn x v) (ZO false x p a) (ZO true x p b) r (k+1) (acc ++ [⟨i,Zn x v,⟨leK false x p a,leK true x p b⟩,⟨ZO false x p a,ZO true x p b⟩⟩])
def YE (l:Land) (p:Span) (s day:Int) (legs:List Int):List Stop × Int × Int :=
 if Us l p≠0 then ([],0,Us l p)
 else if (inR 0 (l.wells.length - 1) s && inR 0 100000 day)=false then ([],0,2)
 else if legs.length > 24 then ([],0,4)
 else match X4 l s legs 0 with
  | some k=>([],k,8)
  | none=>goS l p s day day legs 0 []
theorem ZbO {l:Land} {i v:Int} (h:¬ Wz l i v < 0):∃ k:Nat,∃ x,i=(k:Int)/\∃ hk:k < l.legs.length,l.legs[k]? = some x/\l.legs[k]=x/\Wz l i v=Zn x v:=by
 unfold Wz at h ⊢
 split at h
 . rename_i hk
   refine ⟨i.toNat,l.legs[i.toNat],by omega,hk.2,by simp [hk.2],rfl,?_⟩
   rw [dif_pos hk]
 . omega
theorem Zdn {l:Land} {i v:Int}:i < 0\/(l.legs.length:Int)<=i->Wz l i v = -1:=fun h=>by
 unfold Wz;rw [dif_neg (by omega)]
theorem Zb4 {l:Land} {k:Nat} {v:Int} (hk:k < l.legs.length):Wz l k v=Zn l.legs[k] v:=by
 unfold Wz;rw [dif_pos ⟨by omega,by simpa using hk⟩];simp
theorem Xt {α : Type} {l:List α} {j:Nat} (h:j < l.length):l.drop j=l[j] :: l.drop (j+1):=List.drop_eq_getElem_cons h
theorem Zaw {l:Land}:∀ {legs:List Int} {v:Int} {k:Nat},X4 l v legs k=none->(Vr l v legs).length=legs.length
 | [],_,_,_=>rfl
 | i :: r,v,k,h=>by
  simp only [X4] at h
  simp only [Vr]
  split at h
  . cases h
  . rename_i hn;rw [if_neg hn,List.length_cons,List.length_cons,Zaw h]
structure W1 (l:Land) (s:Int) (legs:List Int) (j:Nat) (v:Int) (ends:List Int):Prop where
 bad:X4 l s legs 0=X4 l v (legs.drop j) j
 eds:Vr l s legs=ends ++ Vr l v (legs.drop j)
 len:ends.length=j
 inn:0<=v/\v < l.wells.length
theorem W1.start {l:Land} {s:Int} {legs:List Int} (h:0<=s/\s < l.wells.length):W1 l s legs 0 s []:=⟨by simp,by simp,rfl,h⟩
theorem W1.step {l:Land} {p:Span} {s:Int} {legs:List Int} {j:Nat} {v:Int} {ends:List Int} (h:W1 l s legs j v ends) (hg:OkLP l p) (hj:j < legs.length) (he:¬ Wz l legs[j] v < 0):W1 l s legs (j+1) (Wz l legs[j] v) (ends ++ [Wz l legs[j] v]):=by
 obtain ⟨k,x,_,_,hx,_,e⟩:=ZbO he
 refine ⟨?_,?_,by simp [h.len],by rw [e] at he ⊢;exact (YB hg hx he).1⟩
 . rw [h.bad,Xt hj];simp only [X4];rw [if_neg he]
 . rw [h.eds,Xt hj];simp only [Vr];rw [if_neg he];simp
theorem W1.stop {l:Land} {s:Int} {legs:List Int} {j:Nat} {v:Int} {ends:List Int} (h:W1 l s legs j v ends) (hj:j < legs.length) (he:Wz l legs[j] v < 0):X4 l s legs 0=some j:=by
 rw [h.bad,Xt hj];simp only [X4];rw [if_pos he]
theorem W1.done {l:Land} {s:Int} {legs:List Int} {v:Int} {ends:List Int} (h:W1 l s legs legs.length v ends):X4 l s legs 0=none/\ends=Vr l s legs:=by
 have h1:=h.bad
 have h2:=h.eds
 rw [List.drop_of_length_le (Nat.le_refl _)] at h1 h2
 exact ⟨by rw [h1];rfl,by rw [h2];simp [Vr]⟩
structure W2 (l:Land) (p:Span) (s day:Int) (legs:List Int) (j:Nat) (v a b:Int) (acc:List Stop):Prop where
 eq:goS l p s day day legs 0 []=goS l p v a b (legs.drop j) j acc
 bad:X4 l v (legs.drop j) j=none
 ends:(Vr l s legs).drop j=Vr l v (legs.drop j)
 inn:0<=v/\v < l.wells.length
 da:0<=a/\a<=100001
 db:0<=b/\b<=100000
 len:acc.length=j
theorem W2.start {l:Land} {p:Span} {s day:Int} {legs:List Int} (h:X4 l s legs 0=none) (hs:0<=s/\s < l.wells.length) (hd:0<=day/\day<=100000):W2 l p s day legs 0 s day day []:=⟨by simp,by simpa using h,by simp,hs,⟨hd.1,by omega⟩,hd,rfl⟩
theorem W2.at {l:Land} {p:Span} {s day:Int} {legs:List Int} {j:Nat} {v a b:Int} {acc:List Stop} (h:W2 l p s day legs j v a b acc) (hj:j < legs.length):∃ k:Nat,∃ hk:k < l.legs.length,legs[j]=(k:Int)/\Wz l legs[j] v=Zn l.legs[k] v/\0<=Zn l.legs[k] v/\(Vr l s legs)[j]? = some (Zn l.legs[k] v):=by
 have hb:=h.bad
 have he:=h.ends
 rw [Xt hj] at hb he
 simp only [X4] at hb
 simp only [Vr] at he
 split at hb
 . cases hb
 . rename_i hn
   rw [if_neg hn] at he
   obtain ⟨k,x,e1,hk,e2,e3,e4⟩:=ZbO hn
   subst e3
   refine ⟨k,hk,e1,e4,by omega,?_⟩
   have:=congrArg (fun q=>q[0]?) he
   simp only [List.getElem?_drop,Nat.add_zero,List.getElem?_cons_zero] at this
   rw [this,e4]
theorem W2.step {l:Land} {p:Span} {s day:Int} {legs:List Int} {j:Nat} {v a b:Int} {acc:List Stop} (h:W2 l p s day legs j v a b acc) (hg:OkLP l p) (hj:j < legs.length) {k:Nat} (hk:k < l.legs.length) (hl:legs[j]=(k:Int)) (hr:¬ ZO true l.legs[k] p b > 100000) (ho:0<=Zn l.legs[k] v) :
 W2 l p s day legs (j+1) (Zn l.legs[k] v) (ZO false l.legs[k] p a) (ZO true l.legs[k] p b) (acc ++ [⟨k,Zn l.legs[k] v,⟨leK false l.legs[k] p a,leK true l.legs[k] p b⟩,⟨ZO false l.legs[k] p a,ZO true l.legs[k] p b⟩⟩]):=by
 have hx:l.legs[k]? = some l.legs[k]:=List.getElem?_eq_getElem hk
 have hend:Wz l legs[j] v=Zn l.legs[k] v:=by rw [hl];exact Zb4 hk
 have hb:=h.bad
 have he:=h.ends
 rw [Xt hj] at hb he
 simp only [X4,hend] at hb
 rw [if_neg (by omega)] at hb
 simp only [Vr,hend] at he
 rw [if_neg (by omega)] at he
 have ha:=Zcd (k:=false) (hg.leg hx) hg.pace h.da.2
 have ha':=Xd (k:=false) (hg.leg hx) hg.pace h.da.2
 have hb':=Zcd (k:=true) (t:=b) (hg.leg hx) hg.pace (by have:=h.db;omega)
 have h1:=h.da
 have h2:=h.db
 refine ⟨?_,hb,?_,(YB hg hx (by omega)).1,by omega,by omega,by simp [h.len]⟩
 . rw [h.eq,Xt hj,hl]
   simp only [goS,Int.toNat_natCast,hx]
   rw [if_neg hr]
 . have:=congrArg (List.drop 1) he
   simpa [List.drop_drop,Nat.add_comm] using this
theorem W2.stop {l:Land} {p:Span} {s day:Int} {legs:List Int} {j:Nat} {v a b:Int} {acc:List Stop} (h:W2 l p s day legs j v a b acc) (hj:j < legs.length) {k:Nat} (hk:k < l.legs.length) (hl:legs[j]=(k:Int)) (hr:ZO true l.legs[k] p b > 100000):goS l p s day day legs 0 []=([],(j:Int),34):=by
 rw [h.eq,Xt hj,hl]
 simp only [goS,Int.toNat_natCast,List.getElem?_eq_getElem hk]
 rw [if_pos hr]
theorem W2.done {l:Land} {p:Span} {s day:Int} {legs:List Int} {v a b:Int} {acc:List Stop} (h:W2 l p s day legs legs.length v a b acc):goS l p s day day legs 0 []=(acc,0,0):=by
 rw [h.eq,List.drop_of_length_le (Nat.le_refl _)];rfl
end Go.Azalai
namespace Go.Proofs.YtiigiflofnjilaaGreat
open Go Go.Sx Go.Azalai
def Zt (s:Stop):List SV:=[I s.leg,I s.well,I s.leaves.lo,I s.leaves.hi,I s.arrives.lo,I s.arrives.hi]
def Ws (r:List Stop × Int × Int):SV:=.tup [Xy r.2.2 6 (r.1.map Zt),I r.2.1,I r.2.2]
theorem ZeF (r:List Stop × Int × Int):KF (Ws r):=by
 unfold Ws Xy;split<;>simp [KFL,KF,Za,Zt]
theorem ZnC (l:Land) (hs:XM l) (s day:Int) (p:Span) (legs:List Int) (hl:legs.length<=1000) (c:Bool):Ct Tryz.prog 36 [.agg (ZH l),I s,I day,.agg (Zc p),.sl c 1 (legs.map Zo)] (Ws (YE l p s day legs)):=by
 have hw:=hs.1
 have hleg:=hs.2.1
 refine t36.1 (by simp [ZH,Zf,Zl,Zh,Zc,Zo,Za,KFL,KF]) (ZeF _) ?_
 dsimp only [c36,r36,ZH,Zc,go_sem,rA,rM,rS]
 by_cases ha:Us l p=0
 case neg =>
  refine call (Zcf l hs p ha) ?_
  dsimp only [go_sem,rA,rM,rS]
  refine Zr (by simpa using ha) ?_
  dsimp only [go_sem,rA,rM,rS]
  simp [YE,ha,Ws,Xy]
 have hok:=Zju ha
 refine call (Zdk l hs p ha) ?_
 dsimp only [YM,go_sem,rA,rM,rS]
 refine Zs (by decide) ?_
 dsimp only [go_sem,rA,rM,rS]
 simp only [List.length_map]
 have h1:=V6 hok.land
 rw [Ze (n:=(l.wells.length:Int) - 1) (by omega) (by omega)]
 refine call (Ua 0 (l.wells.length - 1) s true) ?_
 dsimp only [go_sem,rA,rM,rS]
 repeat (first | (refine gb ?_;dsimp only [go_sem,rA,rM,rS]) | (refine call (Ua 0 100000 day true) ?_;dsimp only [go_sem,rA,rM,rS]))
 by_cases hr:(inR 0 (l.wells.length - 1) s && inR 0 100000 day)=true
 case neg =>
  refine Zr (by simpa [Bool.and_eq_true,<- Bool.not_and] using hr) ?_
  dsimp only [go_sem,rA,rM,rS]
  simp [YE,ha,Ws,Xy,hr]
 refine Zs (by simpa [<- Bool.not_and] using hr) ?_
 dsimp only [go_sem,rA,rM,rS]
 simp only [List.length_map]
 by_cases hm:legs.length > 24
 . refine Zr (by simp;omega) ?_
   dsimp only [go_sem,rA,rM,rS]
   simp only [YE,ha,hr,ne_eq,not_true_eq_false,if_false,Bool.true_eq_false,hm,if_true,Ws,Xy]
   simp
 refine Zs (by simp;omega) ?_
 dsimp only [go_sem,rA,rM,rS]
 simp only [List.length_map]
 have hF1:∀ k,X4 l s legs 0=some k->YE l p s day legs=([],(k:Int),8):=fun k h=>by
  simp only [YE,ha,hr,ne_eq,not_true_eq_false,if_false,Bool.true_eq_false,hm,h]
 have hF2:X4 l s legs 0=none->YE l p s day legs=goS l p s day day legs 0 []:=fun h=>by
  simp only [YE,ha,hr,ne_eq,not_true_eq_false,if_false,Bool.true_eq_false,hm,h]
 simp only [Bool.and_eq_true,inR,decide_eq_true_eq] at hr
 obtain ⟨hr1,hd⟩:=hr
 refine Za5 (Yj 14 1 3 rfl rfl) (fun q:Nat × Nat × Int × List Int=>[(54,I q.1),(14,.mr 3 q.2.1),(15,I q.2.2.1)]) (fun q=>[(3,.row q.2.1 1 (q.2.2.2.map Zo) 3)])
  (fun q=>q.1<=legs.length/\W1 l s legs q.1 q.2.2.1 q.2.2.2) (fun q=>legs.length - q.1) (0,0,s,[]) ⟨Nat.zero_le _,W1.start (by omega)⟩ ?_ ?_
 . (refine Zk ?_ ?_ ?_ rfl rfl<;>dsimp only [Zc,Zf,Zl,Zh,Zo,id,go_sem,rA,rM,rS]<;>simp [Zc,Zf,Zl,Zh,Zo,Za,Zi,KFR,KFL,KF,Zd,mtO,nbr])
 rintro ⟨j,v,well,ends⟩ ⟨hj,hI⟩
 simp only at hj hI
 dsimp only [go_sem,rA,rM,rS]
 by_cases hlt:j < legs.length
 . refine Zr (by simpa using hlt) ?_
   dsimp only [go_sem,rA,rM,rS]
   refine Zm j hlt rfl ?_
   dsimp only [Zo,go_sem,rA,rM,rS]
   refine call (ZvZ l p legs[j] well hleg) ?_
   dsimp only [go_sem,rA,rM,rS]
   by_cases hn:Wz l legs[j] well < 0
   . refine Zr (by simpa using hn) ?_
     dsimp only [go_sem,rA,rM,rS]
     rw [hF1 j (hI.stop hlt hn)]
     simp [Ws,Xy]
   refine Zs (by simpa using hn) ?_
   dsimp only [go_sem,rA,rM,rS]
   simp only [nbr]
   dsimp only [go_sem,rA,rM,rS]
   have hst:=hI.step hok hlt hn
   refine ⟨(by intro c hc;simp only [List.mem_singleton] at hc;subst hc;rfl),by have:=hI.len;simp;omega,?_⟩
   dsimp only [go_sem,rA,rM,rS]
   rw [Ze (n:=(j:Int)+1) (by omega) (by omega)]
   have e:ends.map Zo ++ [[SV.v (.int .i64 (Wz l legs[j] well))]]=(ends ++ [Wz l legs[j] well]).map Zo:=by simp [Zo]
   rw [e]
   refine ⟨(j+1,v+1,Wz l legs[j] well,ends ++ [Wz l legs[j] well]),⟨hlt,hst⟩,by simp only;omega,?_⟩
   (refine Zk ?_ ?_ ?_ rfl rfl<;>dsimp only [Zc,Zf,Zl,Zh,Zo,id,go_sem,rA,rM,rS]<;>simp [Zc,Zf,Zl,Zh,Zo,Za,Zi,KFR,KFL,KF,Zd,mtO,nbr])
 refine Zs (by simp;omega) ?_
 dsimp only [go_sem,rA,rM,rS]
 have hje:j=legs.length:=by omega
 subst hje
 obtain ⟨hbad,hends⟩:=hI.done
 subst hends
 have hF:=hF2 hbad
 have hlen:=Zaw hbad
 have h2:=W2.start (p:=p) hbad (by omega) hd
 clear hI
 refine Za5 (Yj 10 6 94 rfl rfl) (fun q:Nat × Nat × Int × Int × Int × List Stop=>[(76,I q.1),(10,.mr 5 q.2.1)]) (fun q=>[(5,.row q.2.1 6 (q.2.2.2.2.2.map Zt) 94),(4,.cells [I q.2.2.2.1,I q.2.2.2.2.1] 165)])
  (fun q=>q.1<=legs.length/\W2 l p s day legs q.1 q.2.2.1 q.2.2.2.1 q.2.2.2.2.1 q.2.2.2.2.2) (fun q=>legs.length - q.1) (0,0,s,day,day,[]) ⟨Nat.zero_le _,h2⟩ ?_ ?_
 . (refine Zk ?_ ?_ ?_ rfl rfl<;>dsimp only [Zc,Zf,Zl,Zh,Zo,Zt,id,go_sem,rA,rM,rS]<;>simp [Zc,Zf,Zl,Zh,Zo,Zt,Za,Zi,KFR,KFL,KF,Zd,mtO,nbr])
 clear h2
 rintro ⟨j,u,wl,a,b,acc⟩ ⟨hj,hI⟩
 simp only at hj hI
 dsimp only [go_sem,rA,rM,rS]
 by_cases hlt:j < legs.length
 . refine Zr (by simpa using hlt) ?_
   dsimp only [go_sem,rA,rM,rS]
   refine Zm j hlt rfl ?_
   dsimp only [Zo,go_sem,rA,rM,rS]
   obtain ⟨k,hk,hlk,_,ho,hej⟩:=hI.at hlt
   have hgl:GoodLeg l.legs[k]:=Xn hok.land _ (List.getElem_mem _)
   have hda:=hI.da
   have hdb:=hI.db
   have q0:inR 0 100001 a=true:=by simp only [inR,decide_eq_true_eq];omega
   have q1:inR 0 100001 b=true:=by simp only [inR,decide_eq_true_eq];omega
   simp only [hlk]
   refine call (XH l p k hk a b hgl hok.pace q0 q1) ?_
   dsimp only [go_sem,rA,rM,rS]
   refine call (Za0 l p k hk a b hgl hok.pace q0 q1) ?_
   dsimp only [go_sem,rA,rM,rS]
   refine ixa 1 rfl (by decide) ?_
   dsimp only [go_sem,rA,rM,rS]
   by_cases hR:ZO true l.legs[k] p b > 100000
   . refine Zr (by simpa using hR) ?_
     dsimp only [go_sem,rA,rM,rS]
     rw [hF,hI.stop hlt hk hlk hR]
     simp [Ws,Xy]
   refine Zs (by simpa using hR) ?_
   dsimp only [go_sem,rA,rM,rS]
   simp only [nbr]
   dsimp only [go_sem,rA,rM,rS]
   have hjl:j < (Vr l s legs).length:=by omega
   simp only [List.length_map]
   refine Zbb j rfl hjl ?_
   dsimp only [go_sem,rA,rM,rS]
   simp only [nbr]
   dsimp only [go_sem,rA,rM,rS]
   refine Zee hjl ?_
   dsimp only [Zo,go_sem,rA,rM,rS]
   have hej':(Vr l s legs)[j]=Zn l.legs[k] wl:=by rw [List.getElem?_eq_getElem hjl] at hej;exact Option.some.inj hej
   rw [hej']
   refine call (ZbN _ _) ?_
   dsimp only [go_sem,rA,rM,rS]
   refine call (ZbN _ _) ?_
   dsimp only [go_sem,rA,rM,rS]
   simp only [nbr]
   dsimp only [go_sem,rA,rM,rS]
   have hst:=hI.step hok hlt hk hlk hR ho
   refine ⟨(by intro c hc;simp only [List.mem_singleton] at hc;subst hc;rfl),by have:=hI.len;simp;omega,?_⟩
   dsimp only [go_sem,rA,rM,rS]
   rw [Ze (n:=(j:Int)+1) (by omega) (by omega)]
   have e:acc.map Zt ++ [[SV.v (.int .i64 (k:Int)),SV.v (.int .i64 (Zn l.legs[k] wl)),SV.v (.int .i64 (Zih l.legs[k] p a)),SV.v (.int .i64 (Zeo l.legs[k] p b)),SV.v (.int .i64 (ZO false l.legs[k] p a)),SV.v (.int .i64 (ZO true l.legs[k] p b))]] =
    (acc ++ [(⟨(k:Int),Zn l.legs[k] wl,⟨leK false l.legs[k] p a,leK true l.legs[k] p b⟩,⟨ZO false l.legs[k] p a,ZO true l.legs[k] p b⟩⟩:Stop)]).map Zt:=by simp [Zt,leK]
   rw [e]
   refine ⟨(j+1,u+1,Zn l.legs[k] wl,ZO false l.legs[k] p a,ZO true l.legs[k] p b,_),⟨hlt,hst⟩,by simp only;omega,?_⟩
   (refine Zk ?_ ?_ ?_ rfl rfl<;>dsimp only [Zc,Zf,Zl,Zh,Zo,Zt,id,go_sem,rA,rM,rS]<;>simp [Zc,Zf,Zl,Zh,Zo,Zt,Za,Zi,KFR,KFL,KF,Zd,mtO,nbr])
 refine Zs (by simp;omega) ?_
 dsimp only [go_sem,rA,rM,rS]
 have hje:j=legs.length:=by omega
 subst hje
 simp only [nbr]
 dsimp only [go_sem,rA,rM,rS]
 rw [hF,hI.done]
 simp [Ws,Xy,vwN]
theorem ZkY (l:Land) (hs:XM l) (s day:Int) (p:Span) (legs:List Int) (hl:legs.length<=1000) (c:Bool):Ct Tryz.prog 104 [.agg (ZH l),I s,I day,.agg (Zc p),.sl c 1 (legs.map Zo)] (Ws (YE l p s day legs)):=by
 have hw:=hs.1
 have hleg:=hs.2.1
 refine t104.1 (by simp [ZH,Zf,Zl,Zh,Zc,Zo,Za,KFL,KF]) (ZeF _) ?_
 dsimp only [c104,r104,ZH,Zc,go_sem,rA,rM,rS]
 refine call (Zeg l hs p) ?_
 dsimp only [go_sem,rA,rM,rS]
 by_cases ha:Us l p=0
 case neg =>
  refine Zr (by simpa using ha) ?_
  dsimp only [go_sem,rA,rM,rS]
  simp [YE,ha,Ws,Xy]
 have hok:=Zju ha
 refine Zs (by simpa using ha) ?_
 dsimp only [go_sem,rA,rM,rS]
 simp only [List.length_map]
 have h1:=V6 hok.land
 rw [Ze (n:=(l.wells.length:Int) - 1) (by omega) (by omega)]
 refine call (Z7 s 0 (l.wells.length - 1)) ?_
 dsimp only [go_sem,rA,rM,rS]
 repeat (first | (refine gb ?_;dsimp only [go_sem,rA,rM,rS]) | (refine call (Z7 day 0 100000) ?_;dsimp only [go_sem,rA,rM,rS]))
 by_cases hr:(inR 0 (l.wells.length - 1) s && inR 0 100000 day)=true
 case neg =>
  refine Zr (by simpa [Bool.and_eq_true,<- Bool.not_and] using hr) ?_
  dsimp only [go_sem,rA,rM,rS]
  simp [YE,ha,Ws,Xy,hr]
 refine Zs (by simpa [<- Bool.not_and] using hr) ?_
 dsimp only [go_sem,rA,rM,rS]
 simp only [List.length_map]
 by_cases hm:legs.length > 24
 . refine Zr (by simp;omega) ?_
   dsimp only [go_sem,rA,rM,rS]
   simp only [YE,ha,hr,ne_eq,not_true_eq_false,if_false,Bool.true_eq_false,hm,if_true,Ws,Xy]
   simp
 refine Zs (by simp;omega) ?_
 dsimp only [go_sem,rA,rM,rS]
 have hF1:∀ k,X4 l s legs 0=some k->YE l p s day legs=([],(k:Int),8):=fun k h=>by
  simp only [YE,ha,hr,ne_eq,not_true_eq_false,if_false,Bool.true_eq_false,hm,h]
 have hF2:X4 l s legs 0=none->YE l p s day legs=goS l p s day day legs 0 []:=fun h=>by
  simp only [YE,ha,hr,ne_eq,not_true_eq_false,if_false,Bool.true_eq_false,hm,h]
 simp only [Bool.and_eq_true,inR,decide_eq_true_eq] at hr
 obtain ⟨hr1,hd⟩:=hr
 refine YV (fun q:Nat × Int × List Int=>[(15,I q.1),(14,I q.2.1)]) (fun _=>[])
  (fun q=>q.1<=legs.length/\W1 l s legs q.1 q.2.1 q.2.2) (fun q=>legs.length - q.1) (0,s,[]) ⟨Nat.zero_le _,W1.start (by omega)⟩ ?_ ?_
 . (refine Zk ?_ ?_ ?_ rfl rfl<;>dsimp only [Zc,Zf,Zl,Zh,Zo,id,go_sem,rA,rM,rS]<;>simp [Zc,Zf,Zl,Zh,Zo,Za,Zi,KFR,KFL,KF,Zd,mtO,nbr])
 rintro ⟨j,well,ends⟩ ⟨hj,hI⟩
 simp only at hj hI
 dsimp only [go_sem,rA,rM,rS]
 simp only [List.length_map]
 by_cases hlt:j < legs.length
 . refine Zr (by simpa using hlt) ?_
   dsimp only [go_sem,rA,rM,rS]
   refine Zm j hlt rfl ?_
   dsimp only [Zo,go_sem,rA,rM,rS]
   simp only [List.length_map]
   rw [Ze (n:=(l.legs.length:Int) - 1) (by omega) (by omega)]
   refine call (Z7 legs[j] 0 (l.legs.length - 1)) ?_
   dsimp only [go_sem,rA,rM,rS]
   by_cases hin:inR 0 (l.legs.length - 1) legs[j]=true
   case neg =>
    rw [Bool.not_eq_true] at hin
    rw [hin]
    repeat (refine gb ?_;dsimp only [go_sem,rA,rM,rS])
    refine Zm j hlt rfl ?_
    dsimp only [Zo,go_sem,rA,rM,rS]
    repeat (refine gb ?_;dsimp only [go_sem,rA,rM,rS])
    refine ixs_v 0 (Zl ⟨0,0,⟨0,0⟩,[]⟩) rfl (fun h=>by cases h) ?_
    dsimp only [Zl,go_sem,rA,rM,rS]
    repeat (refine gb ?_;dsimp only [go_sem,rA,rM,rS])
    refine call (VQ ⟨0,0,⟨0,0⟩,[]⟩ well) ?_
    dsimp only [go_sem,rA,rM,rS]
    repeat (refine gb ?_;dsimp only [go_sem,rA,rM,rS])
    refine Zr (by simp) ?_
    dsimp only [go_sem,rA,rM,rS]
    have hn:Wz l legs[j] well < 0:=by
     simp only [inR,decide_eq_false_iff_not] at hin
     rw [Zdn (by omega)];decide
    rw [hF1 j (hI.stop hlt hn)]
    simp [Ws,Xy]
   rw [hin]
   simp only [inR,decide_eq_true_eq] at hin
   obtain ⟨k,hk,hlk⟩:∃ k:Nat,k < l.legs.length/\legs[j]=(k:Int):=⟨legs[j].toNat,by omega,by omega⟩
   have hend:Wz l legs[j] well=Zn l.legs[k] well:=by rw [hlk];exact Zb4 hk
   repeat (refine gb ?_;dsimp only [go_sem,rA,rM,rS])
   refine Zm j hlt rfl ?_
   dsimp only [Zo,go_sem,rA,rM,rS]
   repeat (refine gb ?_;dsimp only [go_sem,rA,rM,rS])
   refine Zm k hk hlk ?_
   dsimp only [Zl,go_sem,rA,rM,rS]
   repeat (refine gb ?_;dsimp only [go_sem,rA,rM,rS])
   refine call (VQ l.legs[k] well) ?_
   dsimp only [go_sem,rA,rM,rS]
   repeat (refine gb ?_;dsimp only [go_sem,rA,rM,rS])
   by_cases hn:Zn l.legs[k] well < 0
   . refine Zr (by simpa using hn) ?_
     dsimp only [go_sem,rA,rM,rS]
     rw [hF1 j (hI.stop hlt (by omega))]
     simp [Ws,Xy]
   refine Zs (by simpa using hn) ?_
   dsimp only [go_sem,rA,rM,rS]
   refine Zm j hlt rfl ?_
   dsimp only [Zo,go_sem,rA,rM,rS]
   refine Zm k hk hlk ?_
   dsimp only [Zl,go_sem,rA,rM,rS]
   refine call (VQ l.legs[k] well) ?_
   dsimp only [go_sem,rA,rM,rS]
   have hst:=hI.step hok hlt (by omega)
   rw [hend] at hst
   rw [Ze (n:=(j:Int)+1) (by omega) (by omega)]
   refine ⟨(j+1,Zn l.legs[k] well,_),⟨hlt,hst⟩,by simp only;omega,?_⟩
   (refine Zk ?_ ?_ ?_ rfl rfl<;>dsimp only [Zc,Zf,Zl,Zh,Zo,id,go_sem,rA,rM,rS]<;>simp [Zc,Zf,Zl,Zh,Zo,Za,Zi,KFR,KFL,KF,Zd,mtO,nbr])
 refine Zs (by simp;omega) ?_
 dsimp only [go_sem,rA,rM,rS]
 have hje:j=legs.length:=by omega
 subst hje
 obtain ⟨hbad,hends⟩:=hI.done
 subst hends
 have hF:=hF2 hbad
 have hlen:=Zaw hbad
 have h2:=W2.start (p:=p) hbad (by omega) hd
 clear hI
 refine Za5 (Yj 16 6 94 rfl rfl) (fun q:Nat × Nat × Int × Int × Int × List Stop=>[(18,I q.1),(16,.mr 3 q.2.1),(14,I q.2.2.1)]) (fun q=>[(3,.row q.2.1 6 (q.2.2.2.2.2.map Zt) 94),(2,.cells [I q.2.2.2.1,I q.2.2.2.2.1] 27)])
  (fun q=>q.1<=legs.length/\W2 l p s day legs q.1 q.2.2.1 q.2.2.2.1 q.2.2.2.2.1 q.2.2.2.2.2) (fun q=>legs.length - q.1) (0,0,s,day,day,[]) ⟨Nat.zero_le _,h2⟩ ?_ ?_
 . (refine Zk ?_ ?_ ?_ rfl rfl<;>dsimp only [Zc,Zf,Zl,Zh,Zo,Zt,id,go_sem,rA,rM,rS]<;>simp [Zc,Zf,Zl,Zh,Zo,Zt,Za,Zi,KFR,KFL,KF,Zd,mtO,nbr])
 clear h2
 rintro ⟨j,u,wl,a,b,acc⟩ ⟨hj,hI⟩
 simp only at hj hI
 dsimp only [go_sem,rA,rM,rS]
 simp only [List.length_map]
 by_cases hlt:j < legs.length
 . refine Zr (by simpa using hlt) ?_
   dsimp only [go_sem,rA,rM,rS]
   refine Zm j hlt rfl ?_
   dsimp only [Zo,go_sem,rA,rM,rS]
   obtain ⟨k,hk,hlk,_,ho,hej⟩:=hI.at hlt
   have hgl:GoodLeg l.legs[k]:=Xn hok.land _ (List.getElem_mem _)
   have hda:=hI.da
   have hdb:=hI.db
   have q0:inR 0 100001 a=true:=by simp only [inR,decide_eq_true_eq];omega
   have q1:inR 0 100001 b=true:=by simp only [inR,decide_eq_true_eq];omega
   have hbd:=Xd (k:=true) (t:=b) hgl hok.pace (by omega)
   refine Zm k hk hlk ?_
   dsimp only [Zl,go_sem,rA,rM,rS]
   refine call (ZfX l.legs[k] p a b hgl hok.pace q0 q1) ?_
   dsimp only [go_sem,rA,rM,rS]
   by_cases hR:ZO true l.legs[k] p b > 100000
   . refine Zr (by simp;omega) ?_
     dsimp only [go_sem,rA,rM,rS]
     rw [hF,hI.stop hlt hk hlk hR]
     simp [Ws,Xy]
   refine Zs (by simp;omega) ?_
   dsimp only [go_sem,rA,rM,rS]
   refine call (VQ l.legs[k] wl) ?_
   dsimp only [go_sem,rA,rM,rS]
   refine Zm j hlt rfl ?_
   dsimp only [Zo,go_sem,rA,rM,rS]
   refine call (Zpw l.legs[k] a p hgl hok.pace q0) ?_
   dsimp only [go_sem,rA,rM,rS]
   refine call (Zjj l.legs[k] b p hgl hok.pace q1) ?_
   dsimp only [go_sem,rA,rM,rS]
   simp only [nbr]
   dsimp only [go_sem,rA,rM,rS]
   have hst:=hI.step hok hlt hk hlk hR ho
   refine ⟨(by intro c hc;simp only [List.mem_singleton] at hc;subst hc;rfl),by have:=hI.len;simp;omega,?_⟩
   dsimp only [go_sem,rA,rM,rS]
   rw [Ze (n:=(j:Int)+1) (by omega) (by omega),hlk]
   have e:acc.map Zt ++ [[SV.v (.int .i64 (k:Int)),SV.v (.int .i64 (Zn l.legs[k] wl)),SV.v (.int .i64 (Zih l.legs[k] p a)),SV.v (.int .i64 (Zeo l.legs[k] p b)),SV.v (.int .i64 (ZO false l.legs[k] p a)),SV.v (.int .i64 (ZO true l.legs[k] p b))]] =
    (acc ++ [(⟨(k:Int),Zn l.legs[k] wl,⟨leK false l.legs[k] p a,leK true l.legs[k] p b⟩,⟨ZO false l.legs[k] p a,ZO true l.legs[k] p b⟩⟩:Stop)]).map Zt:=by simp [Zt,leK]
   rw [e]
   refine ⟨(j+1,u+1,Zn l.legs[k] wl,ZO false l.legs[k] p a,ZO true l.legs[k] p b,_),⟨hlt,hst⟩,by simp only;omega,?_⟩
   (refine Zk ?_ ?_ ?_ rfl rfl<;>dsimp only [Zc,Zf,Zl,Zh,Zo,Zt,id,go_sem,rA,rM,rS]<;>simp [Zc,Zf,Zl,Zh,Zo,Zt,Za,Zi,KFR,KFL,KF,Zd,mtO,nbr])
 refine Zs (by simp;omega) ?_
 dsimp only [go_sem,rA,rM,rS]
 have hje:j=legs.length:=by omega
 subst hje
 simp only [nbr]
 dsimp only [go_sem,rA,rM,rS]
 rw [hF,hI.done]
 simp [Ws,Xy,vwN]
end Go.Proofs.YtiigiflofnjilaaGreat
namespace Go.Azalai
open Go.Sx
structure Scene where
 heat:Span
 grass:Span
 yields:List Span
 prices:List Int
deriving DecidableEq
structure Season where
 land:Land
 pace:Span
 breed:Breed
 camel:Camel
 herd:Int
 hours:Int
 slab:Int
 cost:Int
 sale:Int
 start:Int
 day:Int
 till:Int
 scenes:List Scene
deriving DecidableEq
structure Plan where
 legs:List Int
 animals:Int
 slabs:Int
deriving DecidableEq
def Uz (x:Scene):Bool:=decide (x.yields.length > 20) || decide (x.prices.length > 20)
def Ur (s:Season):Bool:=Zah s.land || decide (s.scenes.length > 8) || s.scenes.any Uz
structure SmallS (s:Season):Prop where
 land:XM s.land
 sc:s.scenes.length<=8
 each:∀ x ∈ s.scenes,x.yields.length<=20/\x.prices.length<=20
def Yk (n:Nat) (x:Scene):Bool :=
 Z0 0 60 x.heat && Z0 0 1000000 x.grass && decide (x.yields.length=n) && decide (x.prices.length=n) && x.yields.all (Z0 0 10000000) && x.prices.all (inR 0 1000000)
def UE (s:Season):Bool :=
 inR 1 30 s.herd && inR 1 24 s.hours && inR 1 1000000 s.slab && inR 0 1000000 s.cost && inR 0 1000000 s.sale && inR 0 s.till s.day && decide (s.till<=100000)
def ZN (s:Season):Bool :=
 ZS s.land && ZU s.pace && decide (Ub s.breed s.camel=0) && UE s && inR 0 (s.land.wells.length - 1) s.start && inR 1 4 s.scenes.length && s.scenes.all (Yk s.land.wells.length)
theorem Zm3 {l:Land} (h:Zah l=false):XM l:=by
 simp only [Zah,Bool.or_eq_false_iff,decide_eq_false_iff_not,List.any_eq_false,decide_eq_true_eq] at h
 exact ⟨by omega,by omega,fun x hx=>by have:=h.2 x hx;omega⟩
theorem Zik {s:Season} (h:Ur s=false):SmallS s:=by
 simp only [Ur,Bool.or_eq_false_iff,decide_eq_false_iff_not,List.any_eq_false,Uz,Bool.or_eq_true,decide_eq_true_eq] at h
 exact ⟨Zm3 h.1.1,by omega,fun x hx=>by have:=h.2 x hx;omega⟩
end Go.Azalai
namespace Go.Proofs.YtiigiflofnjilaaGreat
open Go Go.Sx Go.Azalai
def Zj (x:Scene):List SV:=[I x.heat.lo,I x.heat.hi,I x.grass.lo,I x.grass.hi,.sl false 2 (x.yields.map Zc),.sl false 1 (x.prices.map Zo)]
def Zp (s:Season):List SV :=
 [.sl false 9 (s.land.wells.map Zf),.sl false 5 (s.land.legs.map Zl),I s.pace.lo,I s.pace.hi,
  I s.breed.full,I s.breed.fed,I s.breed.rest.lo,I s.breed.rest.hi,I s.breed.heat.lo,I s.breed.heat.hi,I s.breed.toil.lo,I s.breed.toil.hi,I s.breed.burn.lo,I s.breed.burn.hi,I s.breed.rub.lo,I s.breed.rub.hi,I s.breed.milk.lo,I s.breed.milk.hi,I s.breed.heal,I s.breed.strong.lo,I s.breed.strong.hi,
  I s.camel.water.lo,I s.camel.water.hi,I s.camel.fat.lo,I s.camel.fat.hi,I s.camel.sore.lo,I s.camel.sore.hi,B s.camel.milks,
  I s.herd,I s.hours,I s.slab,I s.cost,I s.sale,I s.start,I s.day,I s.till,.sl false 6 (s.scenes.map Zj)]
def Yd (p:Plan):List SV:=[.sl false 1 (p.legs.map Zo),I p.animals,I p.slabs]
theorem YZ (n lo hi:Int):Ct Tryz.prog 61 [I n,I lo,I hi] (B (inR lo hi n)):=by
 refine t61.1 (by simp [KFL,KF]) (by simp [KFL,KF]) ?_
 dsimp only [c61,r61,go_sem,rA,rM,rS]
 repeat (refine gb ?_;dsimp only [go_sem,rA,rM,rS])
 (simp only [inR,Option.some.injEq,SV.v.injEq,Value.bool.injEq]<;>grind)
theorem Vq (s:Span) (lo hi:Int):Ct Tryz.prog 96 [.agg (Zc s),I lo,I hi] (B (Z0 lo hi s)):=by
 refine t96.1 (by simp [Zc,KFL,KF]) (by simp [KFL,KF]) ?_
 dsimp only [c96,r96,Zc,go_sem,rA,rM,rS]
 refine call (YZ _ _ _) ?_
 dsimp only [go_sem,rA,rM,rS]
 repeat (refine gb ?_;dsimp only [go_sem,rA,rM,rS])
 (simp only [Z0,inR,Option.some.injEq,SV.v.injEq,Value.bool.injEq]<;>grind)
theorem ZhJ (lo hi x:Int):Ct Tryz.prog 99 [I x,.ps [I lo] 0,.ps [I hi] 0] (B (!inR lo hi x)):=by
 refine t99.1 (by simp [KFL,KF]) (by simp [KFL,KF]) ?_
 dsimp only [c99,r99,go_sem,rA,rM,rS]
 repeat (refine gb ?_;dsimp only [go_sem,rA,rM,rS])
 (simp only [inR,Option.some.injEq,SV.v.injEq,Value.bool.injEq]<;>grind)
theorem ZaT (lo hi:Int) (l:List Int) (hl:l.length < 4611686018427387904) (c:Bool):Ct Tryz.prog 53 [I lo,I hi,.sl c 1 (l.map Zo)] (B (l.all (inR lo hi))):=by
 refine t53.1 (by simp [Za,Zo,KFL,KF]) (by simp [KFL,KF]) ?_
 dsimp only [c53,r53,go_sem,rA,rM,rS]
 refine ZcA (by simp [FLT]) (res:=B (l.any fun x=>!inR lo hi x)) ?_ ?_
 . dsimp only [go_sem,rA,rM,rS]
   exact Zu8 99 [.ps [I lo] 0,.ps [I hi] 0] (by simp [KFL,KF]) (fun x=>!inR lo hi x) l (fun x _=>ZhJ lo hi x) hl
 . dsimp only [go_sem,rA,rM,rS]
   simp [List.all_eq_not_any_not]
theorem Zet (lo hi a:Int) (c:Bool):Ct Tryz.prog 53 [I lo,I hi,.sl c 1 [[I a]]] (B (inR lo hi a)):=by
 have:=ZaT lo hi [a] (by simp) c
 simpa [Zo] using this
theorem ZpC (lo hi a b:Int) (c:Bool):Ct Tryz.prog 53 [I lo,I hi,.sl c 1 [[I a],[I b]]] (B (inR lo hi a && inR lo hi b)):=by
 have:=ZaT lo hi [a,b] (by simp) c
 simpa [Zo] using this
theorem Zcm (lo hi:Int) (s:Span):Ct Tryz.prog 103 [.agg (Zc s),.ps [I lo] 0,.ps [I hi] 0] (B (!Z0 lo hi s)):=by
 refine t103.1 (by simp [Zc,KFL,KF]) (by simp [KFL,KF]) ?_
 dsimp only [c103,r103,Zc,go_sem,rA,rM,rS]
 repeat (first | (refine gb ?_;dsimp only [go_sem,rA,rM,rS]) | (refine call (ZpC _ _ _ _ _) ?_;dsimp only [go_sem,rA,rM,rS]))
 (simp only [Z0,inR,Option.some.injEq,SV.v.injEq,Value.bool.injEq]<;>grind)
theorem Uv (lo hi:Int) (l:List Span) (hl:l.length < 4611686018427387904) (c:Bool):Ct Tryz.prog 55 [I lo,I hi,.sl c 2 (l.map Zc)] (B (l.all (Z0 lo hi))):=by
 refine t55.1 (by simp [Za,Zc,KFL,KF]) (by simp [KFL,KF]) ?_
 dsimp only [c55,r55,go_sem,rA,rM,rS]
 refine ZcA (by simp [FLT]) (res:=B (l.any fun x=>!Z0 lo hi x)) ?_ ?_
 . dsimp only [go_sem,rA,rM,rS]
   exact Zpe 103 [.ps [I lo] 0,.ps [I hi] 0] (by simp [KFL,KF]) (fun x=>!Z0 lo hi x) l (fun x _=>Zcm lo hi x) hl
 . dsimp only [go_sem,rA,rM,rS]
   simp [List.all_eq_not_any_not]
theorem Zc6 (lo hi:Int) (s:Span) (c:Bool):Ct Tryz.prog 55 [I lo,I hi,.sl c 2 [[I s.lo,I s.hi]]] (B (Z0 lo hi s)):=by
 have:=Uv lo hi [s] (by simp) c
 simpa [Zc] using this
theorem Zjs (s:Season):Ct Tryz.prog 12 [.agg (Zp s)] (B (Ur s)):=by
 refine t12.1 (by simp [Zp,Zj,Zf,Zl,Zh,Zc,Zo,Za,KFL,KF]) (by simp [KFL,KF]) ?_
 dsimp only [c12,r12,Zp,go_sem,rA,rM,rS]
 refine call (ZnS s.land) ?_
 dsimp only [go_sem,rA,rM,rS]
 repeat (refine gb ?_;dsimp only [go_sem,rA,rM,rS])
 simp only [List.length_map]
 refine br ?_ ?_
 . intro h
   dsimp only [go_sem,rA,rM,rS]
   (simp only [Ur,Option.some.injEq,SV.v.injEq,Value.bool.injEq]<;>grind)
 intro h
 dsimp only [go_sem,rA,rM,rS]
 have hg:Ur s=s.scenes.any Uz:=by simp only [Ur];grind
 have hlen:s.scenes.length<=8:=by grind
 rw [hg]
 refine YV (fun k:Nat=>[(3,I k)]) (fun _=>[]) (fun k=>k<=s.scenes.length/\(s.scenes.drop k).any Uz=s.scenes.any Uz) (fun k=>s.scenes.length - k) 0 ⟨Nat.zero_le _,rfl⟩ ?_ ?_
 . (refine Zk ?_ ?_ ?_ rfl rfl<;>dsimp only [Zh,Zf,Zl,Zj,Zc,Zo,id,go_sem,rA,rM,rS]<;>simp [Zh,Zf,Zl,Zj,Zc,Zo,Za,Zi,KFR,KFL,KF,Zd,mtO,nbr])
 intro k ⟨hk,hi⟩
 dsimp only [go_sem,rA,rM,rS]
 simp only [List.length_map]
 by_cases hlt:k < s.scenes.length
 . refine Zr (by simpa using hlt) ?_
   dsimp only [go_sem,rA,rM,rS]
   refine Zm k hlt rfl ?_
   dsimp only [Zj,go_sem,rA,rM,rS]
   repeat (first | (refine gb ?_;dsimp only [go_sem,rA,rM,rS]) | (refine Zm k hlt rfl ?_;dsimp only [Zj,go_sem,rA,rM,rS]))
   simp only [List.length_map]
   rw [List.drop_eq_getElem_cons hlt,List.any_cons] at hi
   refine br ?_ ?_
   . intro hb
     dsimp only [go_sem,rA,rM,rS]
     rw [<- hi];simp only [Uz];grind
   . intro hb
     dsimp only [go_sem,rA,rM,rS]
     rw [Ze (n:=(k:Int)+1) (by omega) (by omega)]
     have:Uz s.scenes[k]=false:=by simp only [Uz];grind
     rw [this,Bool.false_or] at hi
     refine ⟨k+1,⟨hlt,hi⟩,by omega,?_⟩
     (refine Zk ?_ ?_ ?_ rfl rfl<;>dsimp only [Zh,Zf,Zl,Zj,Zc,Zo,id,go_sem,rA,rM,rS]<;>simp [Zh,Zf,Zl,Zj,Zc,Zo,Za,Zi,KFR,KFL,KF,Zd,mtO,nbr])
 refine Zs (by simp;omega) ?_
 dsimp only [go_sem,rA,rM,rS]
 rw [<- hi,List.drop_eq_nil_of_le (by omega)]
 rfl
end Go.Proofs.YtiigiflofnjilaaGreat
namespace Go.Sx
open Go Go.RowKit
theorem Ct.res {P:Program} {f:FuncId} {args:List SV} {res res0:SV} (h:Ct P f args res) (kr:KF res0) (hw:ZfD res res0):Ct P f args res0 :=
 ⟨h.1,h.2,kr,fun w ok vs hR=>Calls.mono (h.4 w ok vs hR) fun e w' q=>by
  obtain ⟨y,h1,h2,h3⟩:=q
  exact ⟨y,h1,hw _ _ _ _ _ h2,h3⟩⟩
theorem Wv {l:List SV}:∀ (w:World) (E:Env) (n ok:Nat->Prop) (ys:List Value),RL w E n ok l ys->RL w E n ok l ys:=fun _ _ _ _ _ h=>h
def UG (fr:List (Nat × SV)):List Nat->List (Nat × SV)
 | []=>[]
 | t :: ts=>(t,lk t fr) :: UG fr ts
theorem ZhR (fr:List (Nat × SV)):UG fr []=[]:=rfl
theorem Zfv (fr:List (Nat × SV)) (t:Nat) (ts:List Nat):UG fr (t :: ts)=(t,lk t fr) :: UG fr ts:=rfl
attribute [go_sem] ZhR Zfv
theorem ZcG (fr:List (Nat × SV)):∀ ts,Zt9 (UG fr ts) fr
 | []=>trivial
 | _ :: ts=>⟨rfl,ZcG fr ts⟩
theorem W6 {m:Nat} {σ : St} (ts:List Nat) (hg:Zud (UG σ.fr ts)=true):Ent m σ ⟨UG σ.fr ts,σ.hp,σ.n,σ.N,[]⟩:=by
 intro C E a w _ h
 refine ⟨E,fun t=>?_,h.sz,h.df,fun t j b s ht=>absurd ht (ZdY hg t j b s),h.hs⟩
 have hfr:=h.fr t
 rcases ZgM (ZcG σ.fr ts) t with h1 | h1
 . rw [h1];exact trivial
 . rw [h1]
   have:=ZdY hg t
   rw [h1] at this
   cases hq:lk t σ.fr<;>rw [hq] at hfr this<;>first | exact hfr | exact absurd rfl (this _ _ _)
theorem Vl {m:Nat} {f:CT} {σ : St} {K:Ex->St->Prop} {S:Type} (ts:List Nat) (hg:Zud (UG σ.fr ts)=true) (ov:S->List (Nat × SV)) (hv:S->List (Nat × HB)) (rel:S->Prop) (μ : S->Nat) (s0:S) (h0:rel s0)
 (he:Ent m ⟨UG σ.fr ts,σ.hp,σ.n,σ.N,[]⟩ (stO ⟨UG σ.fr ts,σ.hp,σ.n,σ.N,[]⟩ ov hv s0))
 (hb:∀ s,rel s->f (stO ⟨UG σ.fr ts,σ.hp,σ.n,σ.N,[]⟩ ov hv s) (Zn9 m (stO ⟨UG σ.fr ts,σ.hp,σ.n,σ.N,[]⟩ ov hv) rel μ s K)):ZtV m f σ K :=
 Za5 (W6 ts hg) ov hv rel μ s0 h0 he hb
end Go.Sx
namespace Go.Proofs.YtiigiflofnjilaaGreat
open Go Go.Sx Go.Azalai
theorem UO {α : Type} (p:α->Bool) {l:List α} {k:Nat} (h:k < l.length):(l.drop k).all p=(p l[k] && (l.drop (k+1)).all p):=by
 rw [List.drop_eq_getElem_cons h,List.all_cons]
theorem ibne (a b:Nat):((a:Int) != (b:Int)) = !decide (a=b):=by
 rw [Bool.eq_iff_iff];simp [bne];omega
theorem okX1 (n:Nat) (x:Scene):(!Z0 0 60 x.heat || !Z0 0 1000000 x.grass || (x.yields.length:Int) != (n:Int) || !x.yields.all (Z0 0 10000000) || (x.prices.length:Int) != (n:Int) || !x.prices.all (inR 0 1000000)) = !Yk n x:=by
 simp only [ibne,Yk]
 generalize Z0 0 60 x.heat=a;generalize Z0 0 1000000 x.grass=b;generalize decide (x.yields.length=n)=c;generalize decide (x.prices.length=n)=d
 generalize x.yields.all (Z0 0 10000000)=e;generalize x.prices.all (inR 0 1000000)=f
 revert a b c d e f;decide
theorem okX2 (n:Nat) (x:Scene) (h:(!Z0 0 60 x.heat || !Z0 0 1000000 x.grass || (x.yields.length:Int) != (n:Int) || (x.prices.length:Int) != (n:Int))=true):Yk n x=false:=by
 simp only [ibne] at h;simp only [Yk]
 revert h
 generalize Z0 0 60 x.heat=a;generalize Z0 0 1000000 x.grass=b;generalize decide (x.yields.length=n)=c;generalize decide (x.prices.length=n)=d
 generalize x.yields.all (Z0 0 10000000)=e;generalize x.prices.all (inR 0 1000000)=f
 revert a b c d e f;decide
theorem okX3 (n:Nat) (x:Scene) (h:(!Z0 0 60 x.heat || !Z0 0 1000000 x.grass || (x.yields.length:Int) != (n:Int) || (x.prices.length:Int) != (n:Int))=false) :
 Yk n x=(x.yields.all (Z0 0 10000000) && x.prices.all (inR 0 1000000))/\x.yields.length=n/\x.prices.length=n:=by
 simp only [ibne,Bool.or_eq_false_iff,Bool.not_eq_false',decide_eq_true_eq] at h
 obtain ⟨⟨⟨h1,h2⟩,h3⟩,h4⟩:=h
 refine ⟨?_,h3,h4⟩
 simp only [Yk,h1,h2,h3,h4,decide_true,Bool.true_and]
theorem Zjv (s:Season) (hs:SmallS s):∃ xs:List (List SV),KFR xs/\Ct Tryz.prog 52 [.agg (ZH s.land),I s.start,I s.day,.agg (Zc s.pace)] (.tup [.sl false 2 xs,I (XY s.land s.pace s.start s.day)]):=by
 have h:=ZhK s.land hs.land s.start s.day s.pace
 unfold Xy at h;split at h
 . exact ⟨_,by simp [Za,Zc,KFL,KF],h⟩
 . exact ⟨[],trivial,h.res (res0:=.tup [.sl false 2 [],I (XY s.land s.pace s.start s.day)]) (by simp [Za,KFR,KFL,KF]) (XE (ZG Yq Wv))⟩
theorem Zqe {s:Season}:XY s.land s.pace s.start s.day=0↔ZS s.land=true/\ZU s.pace=true/\inR 0 (s.land.wells.length - 1) s.start=true/\inR 0 100000 s.day=true:=by
 unfold XY Us
 cases ZS s.land<;>cases ZU s.pace<;>cases inR 0 (s.land.wells.length - 1) s.start<;>cases inR 0 100000 s.day<;>simp
theorem Zd2 (s:Season):ZN s=((decide (XY s.land s.pace s.start s.day=0) && decide (Ub s.breed s.camel=0) && UE s && inR 1 4 s.scenes.length) && s.scenes.all (Yk s.land.wells.length)):=by
 have hd:UE s=true->inR 0 100000 s.day=true:=fun h=>by
  simp only [UE,inR,Bool.and_eq_true,decide_eq_true_eq] at h ⊢;omega
 have hr:decide (XY s.land s.pace s.start s.day=0)=(ZS s.land && ZU s.pace && inR 0 (s.land.wells.length - 1) s.start && inR 0 100000 s.day):=by
  rw [Bool.eq_iff_iff,decide_eq_true_eq,Zqe];simp only [Bool.and_eq_true,and_assoc]
 rw [hr]
 simp only [ZN]
 cases hn:UE s
 . simp
 . rw [hd hn]
   cases ZS s.land<;>cases ZU s.pace<;>cases inR 0 (s.land.wells.length - 1) s.start<;>simp
theorem Zjx (s:Season) (hs:SmallS s):Ct Tryz.prog 16 [.agg (Zp s)] (I (if ZN s=true then 0 else 90)):=by
 have hw:=hs.land.1
 have hsc:=hs.sc
 refine t16.1 (by simp [Zp,Zj,Zf,Zl,Zh,Zc,Zo,Za,KFL,KF]) (by simp [KFL,KF]) ?_
 dsimp only [c16,r16,Zp,go_sem,rA,rM,rS]
 obtain ⟨x,hx0,hc⟩:=Zjv s hs
 refine call hc ?_
 dsimp only [go_sem,rA,rM,rS]
 repeat (first | (refine gb ?_;dsimp only [go_sem,rA,rM,rS]) | (refine call (Zet _ _ _ _) ?_;dsimp only [go_sem,rA,rM,rS]) | (refine call (ZpC _ _ _ _ _) ?_;dsimp only [go_sem,rA,rM,rS]) | (refine call (Cm.checkCamel_ok s.breed s.camel) ?_;dsimp only [go_sem,rA,rM,rS]))
 simp only [List.length_map]
 by_cases hA:(decide (XY s.land s.pace s.start s.day=0) && decide (Ub s.breed s.camel=0) && UE s && inR 1 4 s.scenes.length)=true
 case neg =>
  refine Zr ?_ ?_
  . simp only [UE] at hA;grind
  dsimp only [go_sem,rA,rM,rS]
  rw [Zd2,Bool.eq_false_iff.2 hA,Bool.false_and];rfl
 refine Zs ?_ ?_
 . simp only [UE] at hA;grind
 dsimp only [go_sem,rA,rM,rS]
 rw [Zd2,hA,Bool.true_and]
 simp only [List.length_map]
 refine Vl [1,3,85,86,87] rfl (fun k:Nat=>[(87,I k)]) (fun _=>[]) (fun k=>k<=s.scenes.length/\(s.scenes.drop k).all (Yk s.land.wells.length)=s.scenes.all (Yk s.land.wells.length)) (fun k=>s.scenes.length - k) 0 ⟨Nat.zero_le _,rfl⟩ ?_ ?_
 . (refine Zk ?_ ?_ ?_ rfl rfl<;>dsimp only [Zh,Zf,Zl,Zj,Zc,Zo,hx0,id,go_sem,rA,rM,rS]<;>simp [Zh,Zf,Zl,Zj,Zc,Zo,hx0,Za,Zi,KFR,KFL,KF,Zd,mtO,nbr])
 intro k ⟨hk,hi⟩
 dsimp only [go_sem,rA,rM,rS]
 by_cases hlt:k < s.scenes.length
 . refine Zr (by simpa using hlt) ?_
   dsimp only [go_sem,rA,rM,rS]
   have hx:=hs.each _ (List.getElem_mem hlt)
   refine Zm k hlt rfl ?_
   dsimp only [Zj,go_sem,rA,rM,rS]
   repeat (first | (refine gb ?_;dsimp only [go_sem,rA,rM,rS]) | (refine call (Zc6 _ _ s.scenes[k].heat _) ?_;dsimp only [go_sem,rA,rM,rS]) | (refine call (Zc6 _ _ s.scenes[k].grass _) ?_;dsimp only [go_sem,rA,rM,rS]) | (refine call (Uv _ _ s.scenes[k].yields (by omega) _) ?_;dsimp only [go_sem,rA,rM,rS]) | (refine call (ZaT _ _ s.scenes[k].prices (by omega) _) ?_;dsimp only [go_sem,rA,rM,rS]))
   simp only [List.length_map]
   rw [UO _ hlt] at hi
   rw [okX1]
   refine br ?_ ?_
   . intro hb
     dsimp only [go_sem,rA,rM,rS]
     rw [<- hi,(by simpa using hb:Yk s.land.wells.length s.scenes[k]=false)];rfl
   intro hb
   dsimp only [go_sem,rA,rM,rS]
   rw [Ze (n:=(k:Int)+1) (by omega) (by omega)]
   rw [(by simpa using hb:Yk s.land.wells.length s.scenes[k]=true),Bool.true_and] at hi
   refine ⟨k+1,⟨hlt,hi⟩,by omega,?_⟩
   (refine Zk ?_ ?_ ?_ rfl rfl<;>dsimp only [Zh,Zf,Zl,Zj,Zc,Zo,hx0,id,go_sem,rA,rM,rS]<;>simp [Zh,Zf,Zl,Zj,Zc,Zo,hx0,Za,Zi,KFR,KFL,KF,Zd,mtO,nbr])
 refine Zs (by simp;omega) ?_
 dsimp only [go_sem,rA,rM,rS]
 rw [<- hi,List.drop_eq_nil_of_le (by omega)]
 rfl
theorem Zj3 (s:Season) (hs:SmallS s):Ct Tryz.prog 50 [.agg (Zp s)] (B (ZN s)):=by
 refine t50.1 (by simp [Zp,Zj,Zf,Zl,Zh,Zc,Zo,Za,KFL,KF]) (by simp [KFL,KF]) ?_
 dsimp only [c50,r50,Zp,go_sem,rA,rM,rS]
 refine call (Zje s.land hs.land) ?_
 dsimp only [go_sem,rA,rM,rS]
 repeat (first | (refine gb ?_;dsimp only [go_sem,rA,rM,rS]) | (refine call (ZeE s.pace) ?_;dsimp only [go_sem,rA,rM,rS]) | (refine call (Cm.checkCamelR_ok s.breed s.camel) ?_;dsimp only [go_sem,rA,rM,rS]))
 have hw:=hs.land.1
 have hsc:=hs.sc
 refine br ?_ ?_
 . intro h
   dsimp only [go_sem,rA,rM,rS]
   (simp only [ZN,Option.some.injEq,SV.v.injEq,Value.bool.injEq]<;>grind)
 intro h
 dsimp only [go_sem,rA,rM,rS]
 repeat (first | (refine gb ?_;dsimp only [go_sem,rA,rM,rS]) | (refine call (YZ _ _ _) ?_;dsimp only [go_sem,rA,rM,rS]))
 refine br ?_ ?_
 . intro h2
   dsimp only [go_sem,rA,rM,rS]
   (simp only [ZN,UE,Option.some.injEq,SV.v.injEq,Value.bool.injEq]<;>grind)
 intro h2
 dsimp only [go_sem,rA,rM,rS]
 simp only [List.length_map]
 rw [Ze (n:=(s.land.wells.length:Int) - 1) (by omega) (by omega)]
 repeat (first | (refine gb ?_;dsimp only [go_sem,rA,rM,rS]) | (refine call (YZ _ _ _) ?_;dsimp only [go_sem,rA,rM,rS]))
 simp only [List.length_map]
 refine br ?_ ?_
 . intro h3
   dsimp only [go_sem,rA,rM,rS]
   (simp only [ZN,UE,Option.some.injEq,SV.v.injEq,Value.bool.injEq]<;>grind)
 intro h3
 dsimp only [go_sem,rA,rM,rS]
 have hO:ZN s=s.scenes.all (Yk s.land.wells.length):=by simp only [ZN,UE];grind
 rw [hO]
 refine Vl [1,3] rfl (fun k:Nat=>[(3,I k)]) (fun _=>[]) (fun k=>k<=s.scenes.length/\(s.scenes.drop k).all (Yk s.land.wells.length)=s.scenes.all (Yk s.land.wells.length)) (fun k=>s.scenes.length - k) 0 ⟨Nat.zero_le _,rfl⟩ ?_ ?_
 . (refine Zk ?_ ?_ ?_ rfl rfl<;>dsimp only [Zh,Zf,Zl,Zj,Zc,Zo,id,go_sem,rA,rM,rS]<;>simp [Zh,Zf,Zl,Zj,Zc,Zo,Za,Zi,KFR,KFL,KF,Zd,mtO,nbr])
 intro k ⟨hk,hi⟩
 dsimp only [go_sem,rA,rM,rS]
 simp only [List.length_map]
 by_cases hlt:k < s.scenes.length
 . refine Zr (by simpa using hlt) ?_
   dsimp only [go_sem,rA,rM,rS]
   have hx:=hs.each _ (List.getElem_mem hlt)
   refine Zm k hlt rfl ?_
   dsimp only [Zj,go_sem,rA,rM,rS]
   rw [UO _ hlt] at hi
   repeat (first | (refine gb ?_;dsimp only [go_sem,rA,rM,rS]) | (refine call (Vq s.scenes[k].heat _ _) ?_;dsimp only [go_sem,rA,rM,rS]) | (refine call (Vq s.scenes[k].grass _ _) ?_;dsimp only [go_sem,rA,rM,rS]))
   simp only [List.length_map]
   refine br ?_ ?_
   . intro hb
     dsimp only [go_sem,rA,rM,rS]
     rw [<- hi,okX2 _ _ hb];rfl
   intro hb
   dsimp only [go_sem,rA,rM,rS]
   obtain ⟨hy,hx1,hx2⟩:=okX3 _ _ hb
   rw [hy] at hi
   refine Vl [1,3,4,5] rfl (fun j:Nat=>[(5,I j)]) (fun _=>[]) (fun j=>j<=s.scenes[k].yields.length/\((s.scenes[k].yields.drop j).all (Z0 0 10000000) && (s.scenes[k].prices.drop j).all (inR 0 1000000))=(s.scenes[k].yields.all (Z0 0 10000000) && s.scenes[k].prices.all (inR 0 1000000))) (fun j=>s.scenes[k].yields.length - j) 0 ⟨Nat.zero_le _,rfl⟩ ?_ ?_
   . (refine Zk ?_ ?_ ?_ rfl rfl<;>dsimp only [Zh,Zf,Zl,Zj,Zc,Zo,id,go_sem,rA,rM,rS]<;>simp [Zh,Zf,Zl,Zj,Zc,Zo,Za,Zi,KFR,KFL,KF,Zd,mtO,nbr])
   intro j ⟨hj,hij⟩
   dsimp only [go_sem,rA,rM,rS]
   simp only [List.length_map]
   by_cases hlj:j < s.scenes[k].yields.length
   . refine Zr (by simpa using hlj) ?_
     dsimp only [go_sem,rA,rM,rS]
     refine Zm j hlj rfl ?_
     dsimp only [Zc,go_sem,rA,rM,rS]
     refine call (Vq s.scenes[k].yields[j] _ _) ?_
     dsimp only [go_sem,rA,rM,rS]
     have hlp:j < s.scenes[k].prices.length:=by omega
     rw [UO _ hlj,UO _ hlp] at hij
     repeat (first | (refine gb ?_;dsimp only [go_sem,rA,rM,rS]) | (refine Zm j hlp rfl ?_;dsimp only [Zo,go_sem,rA,rM,rS]) | (refine Zef j hlp rfl ?_;dsimp only [Zo,go_sem,rA,rM,rS]) | (refine call (YZ _ _ _) ?_;dsimp only [go_sem,rA,rM,rS]))
     refine br ?_ ?_
     . intro hc
       dsimp only [go_sem,rA,rM,rS]
       rw [<- hi,<- hij]
       cases h1:Z0 0 10000000 s.scenes[k].yields[j]<;>cases h2:inR 0 1000000 s.scenes[k].prices[j]<;>simp [h1,h2] at hc ⊢
     intro hc
     dsimp only [go_sem,rA,rM,rS]
     rw [Ze (n:=(j:Int)+1) (by omega) (by omega)]
     simp only [Bool.or_eq_false_iff,Bool.not_eq_false'] at hc
     rw [hc.1,hc.2,Bool.true_and,Bool.true_and] at hij
     refine ⟨j+1,⟨hlj,hij⟩,by omega,?_⟩
     (refine Zk ?_ ?_ ?_ rfl rfl<;>dsimp only [Zh,Zf,Zl,Zj,Zc,Zo,id,go_sem,rA,rM,rS]<;>simp [Zh,Zf,Zl,Zj,Zc,Zo,Za,Zi,KFR,KFL,KF,Zd,mtO,nbr])
   refine Zs (by simp;omega) ?_
   dsimp only [go_sem,rA,rM,rS]
   rw [List.drop_eq_nil_of_le (by omega),List.drop_eq_nil_of_le (by omega)] at hij
   rw [<- hij] at hi
   rw [Ze (n:=(k:Int)+1) (by omega) (by omega)]
   refine ⟨k+1,⟨hlt,by simpa using hi⟩,by omega,?_⟩
   (refine Zk ?_ ?_ ?_ rfl rfl<;>dsimp only [Zh,Zf,Zl,Zj,Zc,Zo,id,go_sem,rA,rM,rS]<;>simp [Zh,Zf,Zl,Zj,Zc,Zo,Za,Zi,KFR,KFL,KF,Zd,mtO,nbr])
 refine Zs (by simp;omega) ?_
 dsimp only [go_sem,rA,rM,rS]
 rw [<- hi,List.drop_eq_nil_of_le (by omega)]
 rfl
end Go.Proofs.YtiigiflofnjilaaGreat
namespace Go.Azalai
open Go.Sx
def cap (L:List (List Nat)):List (List Nat):=L.take 201
def ZvG (l:Land) (f:Nat) (been:List Int):Prop:=been.Nodup/\(∀ v ∈ been,0<=v/\v < l.wells.length)/\f+been.length=l.wells.length+1
theorem ZjN {n:Nat}:∀ {been:List Int},been.Nodup->(∀ v ∈ been,0<=v/\v < n)->been.length<=n:=by
 intro been hn hb
 have h1:(been.map Int.toNat).Nodup:=by
  rw [List.Nodup,List.pairwise_map]
  refine List.Pairwise.imp_of_mem (fun {a b} ha hb' hab=>?_) hn
  have:=hb a ha;have:=hb b hb';omega
 have h2:∀ x ∈ been.map Int.toNat,x ∈ List.range n:=fun x hx=>by
  obtain ⟨v,hv,rfl⟩:=List.mem_map.1 hx
  have:=hb v hv
  simp only [List.mem_range];omega
 have:=List.Nodup.length_le_of_subset h1 h2
 simpa using this
theorem ZvG.pos {l:Land} {f:Nat} {been:List Int} {v:Int} (h:ZvG l f been) (hv:v ∉ been) (hi:0<=v/\v < l.wells.length):∃ g,f=g+1/\ZvG l g (v :: been):=by
 obtain ⟨h1,h2,h3⟩:=h
 have hn:(v :: been).Nodup:=List.nodup_cons.2 ⟨hv,h1⟩
 have hb:∀ u ∈ v :: been,0<=u/\u < l.wells.length:=fun u hu=>by
  rcases List.mem_cons.1 hu with rfl | hu
  . exact hi
  . exact h2 u hu
 have:=ZjN hn hb
 simp only [List.length_cons] at this
 exact ⟨f - 1,by omega,hn,hb,by simp only [List.length_cons];omega⟩
theorem ZvG.start {l:Land}:ZvG l (l.wells.length+1) []:=⟨List.nodup_nil,fun v h=>(by cases h),by simp⟩
end Go.Azalai
namespace Go.Proofs.YtiigiflofnjilaaGreat
open Go Go.Sx Go.Azalai
def Zdj:List Nat->List Nat->Int
 | [],[]=>0
 | [],_ :: _=>-1
 | _ :: _,[]=>1
 | x :: a,y :: b=>if x < y then -1 else if x > y then 1 else Zdj a b
end Go.Proofs.YtiigiflofnjilaaGreat
namespace Go.Azalai
open Go.Sx
end Go.Azalai
namespace Go.Proofs.YtiigiflofnjilaaGreat
open Go Go.Sx Go.Azalai
def ZjX (been:List Int) (L:List (Nat × Int × Bool)):Prop:=∀ u:Int,Xw u L=if u ∈ been then some true else none
end Go.Proofs.YtiigiflofnjilaaGreat
namespace Go.Azalai
open Go.Sx
def XK (l:Land):Int->List Int->List Int->Option Int
 | v,_,[]=>some v
 | v,been,i :: r=>if Wz l i v < 0 then none else if Wz l i v ∈ been then none else XK l (Wz l i v) (Wz l i v :: been) r
end Go.Azalai
namespace Go.Proofs.YtiigiflofnjilaaGreat
open Go Go.Sx Go.Azalai
theorem ZjX.set {been:List Int} {L:List (Nat × Int × Bool)} {c:Nat} {v:Int} (h:ZjX been L):ZjX (v :: been) (Ux c v true L):=fun u=>by
 rw [ZbQ]
 by_cases hu:u=v
 . simp [hu]
 . rw [if_neg hu,h u];simp [hu]
theorem Zus:YI Tryz.prog 4=some (.bool false):=by kernel_rfl
theorem bz_RS:∀ w E n ok,R w E n ok (B false) (.bool false):=fun w E n ok=>by simp only [R]
theorem ZcU (s:Season) (hs:SmallS s) (hl:ZS s.land=true) (hp:ZU s.pace=true) (h0:0<=s.start/\s.start < s.land.wells.length) (legs:List Int) (hg:legs.length<=1000) (c:Bool) :
 Ct Tryz.prog 58 [.agg (Zp s),.sl c 1 (legs.map Zo)] (.tup [I ((XK s.land s.start [s.start] legs).getD 0),B (XK s.land s.start [s.start] legs).isSome]):=by
 have hw:=hs.land.1
 have hlg:=hs.land.2.1
 have hlp:OkLP s.land s.pace:=⟨hl,hp⟩
 refine t58.1 (by simp [Zp,Zj,Zf,Zl,Zh,Zc,Zo,Za,KFL,KF]) (by simp [KFL,KF]) ?_
 dsimp only [c58,r58,Zp,go_sem,rA,rM,rS]
 refine Zcn rfl rfl rfl ?_
 dsimp only [go_sem,rA,rM,rS]
 refine ZdG (ins:=true) (key:=kI) (val:=B) (L:=[]) (k:=s.start) (v:=true) rfl rfl ZsZ Zr1 rfl rfl (by simp) ?_
 dsimp only [go_sem,rA,rM,rS]
 have hb0:ZjX [s.start] (Ux 0 s.start true []):=fun u=>by rw [ZbQ];simp [Xw]
 refine Vl [1,2,6,16,17,18,4,5] rfl (fun q:Nat × Int × List Int × List (Nat × Int × Bool) × Nat=>[(18,I q.1),(4,I q.2.1)]) (fun q=>[(1,.map (mpS kI B q.2.2.2.1) q.2.2.2.2)])
  (fun q=>q.1<=legs.length/\XK s.land q.2.1 q.2.2.1 (legs.drop q.1)=XK s.land s.start [s.start] legs/\ZjX q.2.2.1 q.2.2.2.1/\MW q.2.2.2.1 q.2.2.2.2/\0<=q.2.1/\q.2.1 < s.land.wells.length)
  (fun q=>legs.length - q.1) (0,s.start,[s.start],Ux 0 s.start true [],Zbf 0 s.start ([]:List (Nat × Int × Bool))) ⟨Nat.zero_le _,rfl,hb0,MW.nil.set true,h0⟩ ?_ ?_
 . (refine Zk ?_ ?_ ?_ rfl rfl<;>dsimp only [Zh,Zf,Zl,Zj,Zc,Zo,Yt,Z4,id,go_sem,rA,rM,rS]<;>simp [Zh,Zf,Zl,Zj,Zc,Zo,Yt,Z4,Za,Zi,KFR,KFL,KF,Zd,mtO,nbr])
 rintro ⟨k,v,been,L,c⟩ ⟨hk,hi,hb,hM,hv⟩
 simp only at hk hi hb hM hv
 dsimp only [go_sem,rA,rM,rS]
 simp only [List.length_map]
 by_cases hlt:k < legs.length
 case neg =>
  refine Zs (by simp;omega) ?_
  dsimp only [go_sem,rA,rM,rS]
  rw [<- hi,List.drop_eq_nil_of_le (by omega)]
  rfl
 refine Zr (by simpa using hlt) ?_
 dsimp only [go_sem,rA,rM,rS]
 refine Zm k hlt rfl ?_
 dsimp only [Zo,go_sem,rA,rM,rS]
 simp only [List.length_map]
 rw [Ze (n:=(s.land.legs.length:Int) - 1) (by omega) (by omega)]
 refine call (Zet _ _ _ _) ?_
 dsimp only [go_sem,rA,rM,rS]
 rw [List.drop_eq_getElem_cons hlt,XK] at hi
 by_cases hr:inR 0 (s.land.legs.length - 1) legs[k]=true
 case neg =>
  refine Zr (by simpa using hr) ?_
  dsimp only [go_sem,rA,rM,rS]
  simp only [inR,decide_eq_true_eq] at hr
  rw [if_pos (by rw [Zdn (by omega)];decide)] at hi
  rw [<- hi];rfl
 refine Zs (by simpa using hr) ?_
 dsimp only [go_sem,rA,rM,rS]
 simp only [inR,decide_eq_true_eq] at hr
 obtain ⟨n,hn⟩:=Int.eq_ofNat_of_zero_le hr.1
 rw [hn] at hr hi ⊢
 have hnl:n < s.land.legs.length:=by omega
 refine Zm n hnl rfl ?_
 dsimp only [Zl,go_sem,rA,rM,rS]
 have hends:=hlp.ends (List.getElem_mem hnl)
 rw [Zb4 hnl] at hi
 repeat (refine gb ?_;dsimp only [go_sem,rA,rM,rS])
 by_cases hof:v=s.land.legs[n].a\/v=s.land.legs[n].b
 case neg =>
  refine Zr (by simp [bne];omega) ?_
  dsimp only [go_sem,rA,rM,rS]
  rw [if_pos (by unfold Zn;rw [if_neg (by omega),if_neg (by omega)];decide)] at hi
  rw [<- hi];rfl
 refine Zs (by simp [bne];omega) ?_
 dsimp only [go_sem,rA,rM,rS]
 have ho:Zn s.land.legs[n] v=s.land.legs[n].a+s.land.legs[n].b - v:=by
  unfold Zn;rcases hof with h | h
  . rw [if_pos h.symm];omega
  . rw [if_neg (by omega),if_pos h.symm];omega
 rw [Ze (n:=s.land.legs[n].a+s.land.legs[n].b) (by omega) (by omega),Ze (n:=s.land.legs[n].a+s.land.legs[n].b - v) (by omega) (by omega)]
 have hoi:0<=s.land.legs[n].a+s.land.legs[n].b - v/\s.land.legs[n].a+s.land.legs[n].b - v < s.land.wells.length:=by omega
 rw [ho,if_neg (by omega)] at hi
 generalize s.land.legs[n].a+s.land.legs[n].b - v=u at hi hoi
 have hbu:=hb u
 refine Zrw (key:=kI) (val:=B) (sv:=sI) (L:=L) (k:=u) (zs:=B false) rfl rfl ZsZ Zr1 rfl Zus bz_RS (fun b hg=>?_) (fun hg=>?_)
 . rw [hbu] at hg
   by_cases hm:u ∈ been
   case neg=>rw [if_neg hm] at hg;cases hg
   rw [if_pos hm] at hg hi
   cases hg
   dsimp only [go_sem,rA,rM,rS]
   refine Zr rfl ?_
   dsimp only [go_sem,rA,rM,rS]
   rw [<- hi];rfl
 . rw [hbu] at hg
   by_cases hm:u ∈ been
   . rw [if_pos hm] at hg;cases hg
   rw [if_neg hm] at hi
   dsimp only [go_sem,rA,rM,rS]
   refine Zs rfl ?_
   dsimp only [go_sem,rA,rM,rS]
   refine ZdG (ins:=false) (key:=kI) (val:=B) (L:=L) (k:=u) (v:=true) rfl rfl ZsZ Zr1 rfl rfl (by simp) ?_
   dsimp only [go_sem,rA,rM,rS]
   rw [Ze (n:=(k:Int)+1) (by omega) (by omega)]
   refine ⟨(k+1,u,u :: been,Ux c u true L,Zbf c u L),⟨hlt,hi,hb.set,hM.set true,hoi⟩,by simp only;omega,?_⟩
   (refine Zk ?_ ?_ ?_ rfl rfl<;>dsimp only [Zh,Zf,Zl,Zj,Zc,Zo,Yt,Z4,id,go_sem,rA,rM,rS]<;>simp [Zh,Zf,Zl,Zj,Zc,Zo,Yt,Z4,Za,Zi,KFR,KFL,KF,Zd,mtO,nbr])
def Za7 (n:Nat) (been:List Int):List Bool:=(List.range n).map fun u:Nat=>decide ((u:Int) ∈ been)
theorem Ym {n:Nat} {been:List Int}:(Za7 n been).length=n:=by simp [Za7]
theorem XS {n u:Nat} {been:List Int} (h:u < (Za7 n been).length):(Za7 n been)[u]=decide ((u:Int) ∈ been):=by simp [Za7]
theorem ZaZ {n u:Nat} {been:List Int} (h:u < n):(Za7 n been).set u true=Za7 n ((u:Int) :: been):=by
 apply List.ext_getElem (by simp [Ym])
 intro i h1 h2
 rw [List.getElem_set,XS]
 by_cases hi:u=i
 . subst hi;rw [if_pos rfl,XS];simp
 . rw [if_neg hi,XS]
   have:¬ (i:Int)=(u:Int):=by omega
   simp [this]
theorem ZiA {n:Nat}:Za7 n []=List.replicate n false:=by
 apply List.ext_getElem (by simp [Ym])
 intro i h1 h2
 rw [XS];simp
theorem Zht (s:Season) (hs:SmallS s) (hl:ZS s.land=true) (hp:ZU s.pace=true) (h0:0<=s.start/\s.start < s.land.wells.length) (legs:List Int) (hg:legs.length<=1000) (c:Bool) :
 Ct Tryz.prog 87 [.agg (Zp s),.sl c 1 (legs.map Zo)] (I ((XK s.land s.start [s.start] legs).getD (-1))):=by
 have hw:=hs.land.1
 have hlg:=hs.land.2.1
 have hlp:OkLP s.land s.pace:=⟨hl,hp⟩
 refine t87.1 (by simp [Zp,Zj,Zf,Zl,Zh,Zc,Zo,Za,KFL,KF]) (by simp [KFL,KF]) ?_
 dsimp only [c87,r87,Zp,go_sem,rA,rM,rS]
 simp only [List.length_map]
 refine ⟨s.land.wells.length,rfl,by omega,?_⟩
 dsimp only [go_sem,rA,rM,rS]
 obtain ⟨n0,hn0⟩:=Int.eq_ofNat_of_zero_le h0.1
 have hb0:List.replicate s.land.wells.length [B false]=(Za7 s.land.wells.length []).map fun b=>[B b]:=by rw [ZiA];simp
 rw [hb0]
 rw [hn0] at h0 ⊢
 refine Zbb n0 rfl (by simp [Ym];omega) ?_
 dsimp only [go_sem,rA,rM,rS]
 refine Zok true (by simp [Ym];omega) (by simp) (by simp [splice]) ?_
 rw [ZaZ (by omega)]
 dsimp only [go_sem,rA,rM,rS]
 refine Vl [1,2,4,5,6,7] rfl (fun q:Nat × Int × List Int=>[(7,I q.1),(6,I q.2.1)]) (fun q=>[(1,.row 0 1 ((Za7 s.land.wells.length q.2.2).map fun b=>[B b]) 4)])
  (fun q=>q.1<=legs.length/\XK s.land q.2.1 q.2.2 (legs.drop q.1)=XK s.land n0 [(n0:Int)] legs/\0<=q.2.1/\q.2.1 < s.land.wells.length)
  (fun q=>legs.length - q.1) (0,n0,[(n0:Int)]) ⟨Nat.zero_le _,rfl,h0⟩ ?_ ?_
 . (refine Zk ?_ ?_ ?_ rfl rfl<;>dsimp only [Zh,Zf,Zl,Zj,Zc,Zo,id,go_sem,rA,rM,rS]<;>simp [Zh,Zf,Zl,Zj,Zc,Zo,Za,Zi,KFR,KFL,KF,Zd,mtO,nbr])
 rintro ⟨k,v,been⟩ ⟨hk,hi,hv⟩
 simp only at hk hi hv
 dsimp only [go_sem,rA,rM,rS]
 simp only [List.length_map]
 by_cases hlt:k < legs.length
 case neg =>
  refine Zs (by simp;omega) ?_
  dsimp only [go_sem,rA,rM,rS]
  rw [<- hi,List.drop_eq_nil_of_le (by omega)]
  rfl
 refine Zr (by simpa using hlt) ?_
 dsimp only [go_sem,rA,rM,rS]
 refine Zm k hlt rfl ?_
 dsimp only [Zo,go_sem,rA,rM,rS]
 simp only [List.length_map]
 rw [Ze (n:=(s.land.legs.length:Int) - 1) (by omega) (by omega)]
 refine call (YZ _ _ _) ?_
 dsimp only [go_sem,rA,rM,rS]
 rw [List.drop_eq_getElem_cons hlt,XK] at hi
 by_cases hr:inR 0 (s.land.legs.length - 1) legs[k]=true
 case neg =>
  refine Zr (by simpa using hr) ?_
  dsimp only [go_sem,rA,rM,rS]
  simp only [inR,decide_eq_true_eq] at hr
  rw [if_pos (by rw [Zdn (by omega)];decide)] at hi
  rw [<- hi];rfl
 refine Zs (by simpa using hr) ?_
 dsimp only [go_sem,rA,rM,rS]
 refine Zm k hlt rfl ?_
 dsimp only [Zo,go_sem,rA,rM,rS]
 simp only [inR,decide_eq_true_eq] at hr
 obtain ⟨n,hn⟩:=Int.eq_ofNat_of_zero_le hr.1
 rw [hn] at hr hi ⊢
 have hnl:n < s.land.legs.length:=by omega
 refine Zm n hnl rfl ?_
 dsimp only [Zl,go_sem,rA,rM,rS]
 have hends:=hlp.ends (List.getElem_mem hnl)
 rw [Zb4 hnl] at hi
 by_cases hva:v=s.land.legs[n].a
 . refine Zr (by simpa using hva) ?_
   dsimp only [go_sem,rA,rM,rS]
   rw [show Zn s.land.legs[n] v=s.land.legs[n].b from by unfold Zn;rw [if_pos hva.symm],if_neg (by omega)] at hi
   have hoi:0<=s.land.legs[n].b/\s.land.legs[n].b < s.land.wells.length:=by omega
   obtain ⟨u,hu⟩:=Int.eq_ofNat_of_zero_le hoi.1
   rw [hu] at hi hoi ⊢
   refine Zbb u rfl (by simp [Ym];omega) ?_
   dsimp only [go_sem,rA,rM,rS]
   refine Zee (by simp [Ym];omega) ?_
   rw [XS]
   dsimp only [go_sem,rA,rM,rS]
   by_cases hm:(u:Int) ∈ been
   . refine Zr (by simpa using hm) ?_
     dsimp only [go_sem,rA,rM,rS]
     rw [if_pos hm] at hi
     rw [<- hi];rfl
   refine Zs (by simpa using hm) ?_
   dsimp only [go_sem,rA,rM,rS]
   rw [if_neg hm] at hi
   refine Zbb u rfl (by simp [Ym];omega) ?_
   dsimp only [go_sem,rA,rM,rS]
   refine Zok true (by simp [Ym];omega) (by simp) (by simp [splice]) ?_
   rw [ZaZ (by omega)]
   dsimp only [go_sem,rA,rM,rS]
   rw [Ze (n:=(k:Int)+1) (by omega) (by omega)]
   refine ⟨(k+1,u,(u:Int) :: been),⟨hlt,hi,hoi⟩,by simp only;omega,?_⟩
   (refine Zk ?_ ?_ ?_ rfl rfl<;>dsimp only [Zh,Zf,Zl,Zj,Zc,Zo,id,go_sem,rA,rM,rS]<;>simp [Zh,Zf,Zl,Zj,Zc,Zo,Za,Zi,KFR,KFL,KF,Zd,mtO,nbr])
 refine Zs (by simpa using hva) ?_
 dsimp only [go_sem,rA,rM,rS]
 by_cases hvb:v=s.land.legs[n].b
 case neg =>
  refine Zs (by simpa using hvb) ?_
  dsimp only [go_sem,rA,rM,rS]
  rw [if_pos (by unfold Zn;rw [if_neg (by omega),if_neg (by omega)];decide)] at hi
  rw [<- hi];rfl
 refine Zr (by simpa using hvb) ?_
 dsimp only [go_sem,rA,rM,rS]
 rw [show Zn s.land.legs[n] v=s.land.legs[n].a from by unfold Zn;rw [if_neg (by omega),if_pos hvb.symm],if_neg (by omega)] at hi
 have hoi:0<=s.land.legs[n].a/\s.land.legs[n].a < s.land.wells.length:=by omega
 obtain ⟨u,hu⟩:=Int.eq_ofNat_of_zero_le hoi.1
 rw [hu] at hi hoi ⊢
 refine Zbb u rfl (by simp [Ym];omega) ?_
 dsimp only [go_sem,rA,rM,rS]
 refine Zee (by simp [Ym];omega) ?_
 rw [XS]
 dsimp only [go_sem,rA,rM,rS]
 by_cases hm:(u:Int) ∈ been
 . refine Zr (by simpa using hm) ?_
   dsimp only [go_sem,rA,rM,rS]
   rw [if_pos hm] at hi
   rw [<- hi];rfl
 refine Zs (by simpa using hm) ?_
 dsimp only [go_sem,rA,rM,rS]
 rw [if_neg hm] at hi
 refine Zbb u rfl (by simp [Ym];omega) ?_
 dsimp only [go_sem,rA,rM,rS]
 refine Zok true (by simp [Ym];omega) (by simp) (by simp [splice]) ?_
 rw [ZaZ (by omega)]
 dsimp only [go_sem,rA,rM,rS]
 rw [Ze (n:=(k:Int)+1) (by omega) (by omega)]
 refine ⟨(k+1,u,(u:Int) :: been),⟨hlt,hi,hoi⟩,by simp only;omega,?_⟩
 (refine Zk ?_ ?_ ?_ rfl rfl<;>dsimp only [Zh,Zf,Zl,Zj,Zc,Zo,id,go_sem,rA,rM,rS]<;>simp [Zh,Zf,Zl,Zj,Zc,Zo,Za,Zi,KFR,KFL,KF,Zd,mtO,nbr])
end Go.Proofs.YtiigiflofnjilaaGreat
namespace Go.Azalai
open Go.Sx
def Wy (s:Season) (p:Plan):Bool:=(XK s.land s.start [s.start] p.legs).isSome && inR 0 s.herd p.animals && inR 0 12 p.slabs
def Zw (s:Season) (legs:List Int):List Stop:=(YE s.land s.pace s.start s.day legs).1
def Zdr (l:List Stop):Stop:=l.getLast?.getD ⟨0,0,⟨0,0⟩,⟨0,0⟩⟩
def V8 (s:Season) (legs:List Int):Bool:=decide ((YE s.land s.pace s.start s.day legs).2.2=0) && (decide ((Zw s legs).length=0) || decide ((Zdr (Zw s legs)).arrives.hi<=s.till))
theorem Zb2 {l:Land} {p:Span} (hg:OkLP l p):∀ {legs:List Int} {v:Int} {been:List Int} {u:Int},0<=v/\v < l.wells.length->XK l v been legs=some u->0<=u/\u < l.wells.length
 | [],v,_,u,hv,h=>by simp only [XK,Option.some.injEq] at h;subst h;exact hv
 | i :: r,v,been,u,hv,h=>by
  simp only [XK] at h
  split at h
  . cases h
  rename_i he
  split at h
  . cases h
  obtain ⟨k,x,_,_,hx,_,e⟩:=ZbO he
  rw [e] at he h
  exact Zb2 hg (YB hg hx he).1 h
theorem Zc8 {l:List Stop} (h:l.length≠0):l[l.length - 1]? = some (Zdr l):=by
 unfold Zdr
 rw [List.getLast?_eq_getElem?]
 rw [List.getElem?_eq_getElem (by omega)];rfl
theorem ZjT {l:Land} {p:Span}:∀ {legs:List Int} {v a b:Int} {k:Nat} {acc:List Stop},(goS l p v a b legs k acc).2.2≠0->(goS l p v a b legs k acc).1=[]
 | [],_,_,_,_,_,h=>by simp [goS] at h
 | i :: r,v,a,b,k,acc,h=>by
  simp only [goS] at h ⊢
  split
  . rfl
  . rename_i x hx
    rw [hx] at h;simp only at h
    split
    . rfl
    . rename_i hn;rw [if_neg hn] at h;exact ZjT h
theorem Zi8 {l:Land} {p:Span}:∀ {legs:List Int} {v a b:Int} {k:Nat} {acc:List Stop},(goS l p v a b legs k acc).1.length<=acc.length+legs.length
 | [],_,_,_,_,_=>by simp [goS]
 | i :: r,v,a,b,k,acc=>by
  simp only [goS]
  split
  . simp
  . split
    . simp
    . refine Nat.le_trans Zi8 ?_;simp;omega
theorem X0 {l:Land} {p:Span} {s d:Int} {legs:List Int}:(YE l p s d legs).1.length<=legs.length:=by
 unfold YE
 split
 . simp
 split
 . simp
 split
 . simp
 split
 . simp
 refine Nat.le_trans Zi8 (by simp)
theorem ZgI {l:Land} {p:Span} {s d:Int} {legs:List Int} (h:(YE l p s d legs).2.2≠0):(YE l p s d legs).1=[]:=by
 unfold YE at h ⊢
 split
 . rfl
 rename_i h1
 rw [if_neg h1] at h
 split
 . rfl
 rename_i h2
 rw [if_neg h2] at h
 split
 . rfl
 rename_i h3
 rw [if_neg h3] at h
 split
 . rfl
 rename_i h4
 rw [h4] at h
 exact ZjT h
end Go.Azalai
namespace Go.Proofs.YtiigiflofnjilaaGreat
open Go Go.Sx Go.Azalai
structure OkS (s:Season):Prop where
 small:SmallS s
 ok:ZN s=true
theorem OkS.land {s:Season} (h:OkS s):ZS s.land=true:=by have:=h.ok;simp only [ZN,Bool.and_eq_true] at this;exact this.1.1.1.1.1.1
theorem OkS.pace {s:Season} (h:OkS s):ZU s.pace=true:=by have:=h.ok;simp only [ZN,Bool.and_eq_true] at this;exact this.1.1.1.1.1.2
theorem OkS.lp {s:Season} (h:OkS s):OkLP s.land s.pace:=⟨h.land,h.pace⟩
theorem OkS.beast {s:Season} (h:OkS s):Zv s.breed=true/\Zu s.breed s.camel=true:=by
 have:=h.ok;simp only [ZN,Bool.and_eq_true,decide_eq_true_eq] at this;exact Cm.errC_0.1 this.1.1.1.1.2
theorem OkS.num {s:Season} (h:OkS s):1<=s.herd/\s.herd<=30/\1<=s.hours/\s.hours<=24/\1<=s.slab/\s.slab<=1000000/\0<=s.cost/\s.cost<=1000000/\0<=s.sale/\s.sale<=1000000/\0<=s.day/\s.day<=s.till/\s.till<=100000:=by
 have:=h.ok;simp only [ZN,UE,inR,Bool.and_eq_true,decide_eq_true_eq] at this;omega
theorem OkS.start {s:Season} (h:OkS s):0<=s.start/\s.start < s.land.wells.length:=by
 have:=h.ok;simp only [ZN,inR,Bool.and_eq_true,decide_eq_true_eq] at this;omega
theorem OkS.scs {s:Season} (h:OkS s):1<=s.scenes.length/\s.scenes.length<=4:=by
 have:=h.ok;simp only [ZN,inR,Bool.and_eq_true,decide_eq_true_eq] at this;omega
theorem OkS.scene {s:Season} (h:OkS s):∀ x ∈ s.scenes,Yk s.land.wells.length x=true:=by
 have:=h.ok;simp only [ZN,Bool.and_eq_true,List.all_eq_true] at this;exact this.2
theorem Zs7 (s:Season) (h:OkS s) (p:Plan) (hg:p.legs.length<=1000):Ct Tryz.prog 44 [.agg (Zp s),.agg (Yd p)] (B (Wy s p)):=by
 refine t44.1 (by simp [Zp,Yd,Zj,Zf,Zl,Zh,Zc,Zo,Za,KFL,KF]) (by simp [KFL,KF]) ?_
 dsimp only [c44,r44,Zp,Yd,go_sem,rA,rM,rS]
 refine call (Zht s h.small h.land h.pace h.start p.legs hg _) ?_
 dsimp only [go_sem,rA,rM,rS]
 repeat (first | (refine gb ?_;dsimp only [go_sem,rA,rM,rS]) | (refine call (YZ _ _ _) ?_;dsimp only [go_sem,rA,rM,rS]))
 have:decide ((XK s.land s.start [s.start] p.legs).getD (-1) ≥ 0)=(XK s.land s.start [s.start] p.legs).isSome:=by
  cases hq:XK s.land s.start [s.start] p.legs with
  | none=>rfl
  | some u=>have:=(Zb2 h.lp h.start hq).1;simpa using this
 rw [this];rfl
theorem ZlM (s:Season) (hs:SmallS s) (p:Plan) (hg:p.legs.length<=1000):Ct Tryz.prog 48 [.agg (Zp s),.agg (Yd p)] (I (if ZN s=false then 90 else if Wy s p=false then 91 else 0)):=by
 refine t48.1 (by simp [Zp,Yd,Zj,Zf,Zl,Zh,Zc,Zo,Za,KFL,KF]) (by simp [KFL,KF]) ?_
 dsimp only [c48,r48,Zp,Yd,go_sem,rA,rM,rS]
 refine call (Zjx s hs) ?_
 dsimp only [go_sem,rA,rM,rS]
 by_cases ho:ZN s=true
 case neg =>
  refine Zr (by simp [ho]) ?_
  dsimp only [go_sem,rA,rM,rS]
  simp [ho]
 refine Zs (by simp [ho]) ?_
 dsimp only [go_sem,rA,rM,rS]
 have h:OkS s:=⟨hs,ho⟩
 refine call (ZcU s h.small h.land h.pace h.start p.legs hg _) ?_
 dsimp only [go_sem,rA,rM,rS]
 repeat (first | (refine gb ?_;dsimp only [go_sem,rA,rM,rS]) | (refine call (Zet _ _ _ _) ?_;dsimp only [go_sem,rA,rM,rS]))
 refine br ?_ ?_
 . intro hb
   dsimp only [go_sem,rA,rM,rS]
   have:Wy s p=false:=by simp only [Wy];revert hb;generalize Option.isSome _=a;generalize inR 0 s.herd p.animals=b;generalize inR 0 12 p.slabs=c;revert a b c;decide
   rw [ho,this];rfl
 intro hb
 dsimp only [go_sem,rA,rM,rS]
 have:Wy s p=true:=by simp only [Wy];revert hb;generalize Option.isSome _=a;generalize inR 0 s.herd p.animals=b;generalize inR 0 12 p.slabs=c;revert a b c;decide
 rw [ho,this];rfl
theorem ZuT (s:Season) (h:OkS s) (legs:List Int) (hg:legs.length<=1000) (c:Bool) {f:Nat}
 (hc:Ct Tryz.prog f [.agg (ZH s.land),I s.start,I s.day,.agg (Zc s.pace),.sl c 1 (legs.map Zo)] (Ws (YE s.land s.pace s.start s.day legs))) :
 Ct Tryz.prog f [.agg (ZH s.land),I s.start,I s.day,.agg (Zc s.pace),.sl c 1 (legs.map Zo)] (.tup [.sl false 6 ((Zw s legs).map Zt),I (YE s.land s.pace s.start s.day legs).2.1,I (YE s.land s.pace s.start s.day legs).2.2]):=by
 unfold Ws Xy at hc
 split at hc
 . exact hc
 . rename_i he
   refine hc.res (by simp [Za,Zt,KFL,KF]) ?_
   rw [Zw,ZgI he]
   exact XE (ZG Yq Wv)
theorem ZmX (s:Season) (h:OkS s) (legs:List Int) (hg:legs.length<=1000) (c:Bool):Ct Tryz.prog 90 [.agg (Zp s),.sl c 1 (legs.map Zo)] (.tup [.sl false 6 ((Zw s legs).map Zt),B (V8 s legs)]):=by
 refine t90.1 (by simp [Zp,Zj,Zf,Zl,Zh,Zc,Zo,Za,KFL,KF]) (by simp [Za,Zt,KFL,KF]) ?_
 dsimp only [c90,r90,Zp,go_sem,rA,rM,rS]
 refine call (ZuT s h legs hg c (ZnC s.land h.small.land s.start s.day s.pace legs hg c)) ?_
 dsimp only [go_sem,rA,rM,rS]
 repeat (refine gb ?_;dsimp only [go_sem,rA,rM,rS])
 have hlen:(Zw s legs).length<=1000:=Nat.le_trans X0 hg
 simp only [List.length_map]
 refine Zef ((Zw s legs).length - 1) (Zt (Zdr (Zw s legs))) rfl (fun hb=>?_) ?_
 . have hz:(Zw s legs).length≠0:=by simpa using hb
   rw [Ze (by omega) (by omega)]
   exact ⟨by omega,by rw [List.getElem?_map,Zc8 hz];rfl⟩
 dsimp only [Zt,go_sem,rA,rM,rS]
 repeat (refine gb ?_;dsimp only [go_sem,rA,rM,rS])
 have:((YE s.land s.pace s.start s.day legs).2.2 == 0 && (((Zw s legs).length:Int) == 0 || decide ((Zdr (Zw s legs)).arrives.hi<=s.till)))=V8 s legs:=by
  have h1:(((Zw s legs).length:Int) == 0)=decide ((Zw s legs).length=0):=by rw [Bool.eq_iff_iff];simp
  simp only [V8,h1];rfl
 rw [this]
theorem ZgC (s:Season) (h:OkS s) (legs:List Int) (hg:legs.length<=1000) (c:Bool):Ct Tryz.prog 62 [.agg (Zp s),.sl c 1 (legs.map Zo)] (.tup [.sl false 6 ((Zw s legs).map Zt),B (V8 s legs)]):=by
 refine t62.1 (by simp [Zp,Zj,Zf,Zl,Zh,Zc,Zo,Za,KFL,KF]) (by simp [Za,Zt,KFL,KF]) ?_
 dsimp only [c62,r62,Zp,go_sem,rA,rM,rS]
 refine call (ZuT s h legs hg c (ZkY s.land h.small.land s.start s.day s.pace legs hg c)) ?_
 dsimp only [go_sem,rA,rM,rS]
 repeat (refine gb ?_;dsimp only [go_sem,rA,rM,rS])
 have hlen:(Zw s legs).length<=1000:=Nat.le_trans X0 hg
 simp only [List.length_map]
 refine Zef ((Zw s legs).length - 1) (Zt (Zdr (Zw s legs))) rfl (fun hb=>?_) ?_
 . have hz:(Zw s legs).length≠0:=by simpa using hb
   rw [Ze (by omega) (by omega)]
   exact ⟨by omega,by rw [List.getElem?_map,Zc8 hz];rfl⟩
 dsimp only [Zt,go_sem,rA,rM,rS]
 repeat (refine gb ?_;dsimp only [go_sem,rA,rM,rS])
 have:((YE s.land s.pace s.start s.day legs).2.2 == 0 && (((Zw s legs).length:Int) == 0 || decide ((Zdr (Zw s legs)).arrives.hi<=s.till)))=V8 s legs:=by
  have h1:(((Zw s legs).length:Int) == 0)=decide ((Zw s legs).length=0):=by rw [Bool.eq_iff_iff];simp
  simp only [V8,h1];rfl
 rw [this]
end Go.Proofs.YtiigiflofnjilaaGreat
namespace Go.Sx
open Go Go.RowKit
section
variable {K V:Type} [DecidableEq K] {k k':K} {v v0:V} {c:Nat} {L:List (Nat × K × V)}
end
section
variable {P:Program} {K' V:Type} [DecidableEq K'] {key:K'->Value} {sv:K'->SV} {val:V->SV} {L:List (Nat × K' × V)} {km c:Nat} {kt et t ty:TypeId} {mx ix vx sx:Operand} {σ : St} {r:KT} {K:RK} {d:Option Nat} {k:K'}
end
section
variable {P:Program} {ty T T':TypeId} {ix jx:Operand} {σ : St} {r:KT} {K:RK} {d:Option Nat} {s:SV}
def Zc2 (P:Program) (T:TypeId):Bool :=
 match P.underlying T with
 | some (.interface _)=>false
 | some _=>true
 | none=>false
theorem Zgv (hT:Zc2 P T=true) (hi:ZaE σ ix=s) (hg:∀ j b u,s≠.gd j b u) (h:putK d (.ifc T s) none σ r K):RAW P d (.makeInterface T ix) ty σ r K:=by
 intro o C E a w next Q e1 e2 e3 hS hn hq
 have hiv:=W9 hS hi hg
 have hx:(execOp a.eval o).run P w = .ok (.value (.iface T (a.eval ix))) w:=by
  obtain ⟨dst',op',ty',pos,after,guard⟩:=o
  simp only at e2;subst e2
  unfold Zc2 at hT
  cases hu:P.underlying T with
  | none=>rw [hu] at hT;cases hT
  | some u =>
   rw [hu] at hT
   cases u<;>first | exact absurd hT Bool.false_ne_true | simp [execOp,Sem.run_bind,Instr.makeInterface,run_underlying hu,Result.andThen_ok,Sem.run_pure]
 refine Zy hx (by simp) ?_
 show next (a.put o.dst _) _
 rw [e1]
 refine Wk h hS ?_ hn
 simp only [R];exact ⟨_,rfl,hiv⟩
theorem Zgu (hi:ZaE σ ix = .ifc T s) (h:K (.pan (.ifc T s)) σ):RAW P d (.panic ix) ty σ r K:=by
 intro o C E a w next Q e1 e2 e3 hS hn hq
 have hiv:=W9 hS hi (fun _ _ _=>by simp)
 simp only [R] at hiv
 obtain ⟨x,hx,hR⟩:=hiv
 have hy:(execOp a.eval o).run P w = .halt (.panic (.iface T x)) w:=by
  obtain ⟨dst',op',ty',pos,after,guard⟩:=o
  simp only at e2;subst e2
  simp [execOp,Sem.run_bind,hx,Instr.panic,goPanic,Result.andThen]
 exact Zix hy (by rw [e2];simp) (hq _ _ _ _ _ h hS (by simp only [R];exact ⟨x,rfl,hR⟩))
theorem U9 (hT:Zc2 P T=true) (hi:ZaE σ ix = .ifc T s) (h:putK d (.tup [s,.v (.bool true)]) none σ r K):RAW P d (.typeAssert ix T' T true) ty σ r K:=by
 intro o C E a w next Q e1 e2 e3 hS hn hq
 have hiv:=W9 hS hi (fun _ _ _=>by simp)
 simp only [R] at hiv
 obtain ⟨x,hx,hR⟩:=hiv
 have hy:(execOp a.eval o).run P w = .ok (.value (.tuple #[x,.bool true])) w:=by
  obtain ⟨dst',op',ty',pos,after,guard⟩:=o
  simp only at e2;subst e2
  unfold Zc2 at hT
  cases hu:P.underlying T with
  | none=>rw [hu] at hT;cases hT
  | some u =>
   rw [hu] at hT
   cases u<;>first | exact absurd hT Bool.false_ne_true | simp [execOp,Sem.run_bind,hx,Instr.typeAssert,run_underlying hu,Result.andThen_ok,Sem.run_pure]
 refine Zy hy (by simp) ?_
 show next (a.put o.dst _) _
 rw [e1]
 refine Wk h hS ?_ hn
 simp only [R,RL];exact ⟨_,rfl,_,_,rfl,hR,_,_,rfl,rfl,rfl⟩
end
section
variable {K V:Type} [DecidableEq K] {P:Program} {key:K->Value} {sv:K->SV} {val:V->SV} {L:List (Nat × K × V)} {km c:Nat} {kt et t:TypeId} {σ : St} {k:K} {i j:Nat} {ok:Bool} {zs:SV} {z:Value} {v:V}
end
end Go.Sx
namespace Go.Azalai
open Go.Sx
def VA (s:Season) (x:Scene) (slabs:Int):March:=⟨s.hours,slabs * s.slab,x.heat,x.grass,⟨0,0⟩⟩
def Zda (b:Breed) (c:Camel):Span:=if Ub b c=0 then Zpn b c else Xx
def ZfG (a b:Span):Span:=⟨min a.lo b.lo,max a.hi b.hi⟩
def ZdZ (a b:Camel):Camel:=⟨ZfG a.water b.water,ZfG a.fat b.fat,ZfG a.sore b.sore,a.milks⟩
def VT (b:Breed) (m:March) (lo:Int):Nat->Nat->Camel->Camel->Camel × Int
 | 0,_,_,out=>(out,0)
 | j+1,n,c,out =>
  if m.load > (Zda b c).lo then (Yf,2)
  else if (Yo b c m).2.2≠0\/(Yo b c m).2.1≠0 then (Yf,3)
  else VT b m lo j (n+1) (Yo b c m).1 (if (n:Int)+1=lo then (Yo b c m).1 else if (n:Int)+1 > lo then ZdZ out (Yo b c m).1 else out)
def Yu (s:Season) (x:Scene) (d:Span) (slabs:Int) (c:Camel):Camel × Int:=VT s.breed (VA s x slabs) d.lo d.hi.toNat 0 c Yf
end Go.Azalai
namespace Go.Proofs.YtiigiflofnjilaaGreat
open Go Go.Sx Go.Azalai
abbrev camelL:=Cm.camelL
abbrev U8 (n:Int):SV:=.v (.int .u8 n)
def YA (s:Season) (k:Int):List SV :=
 [.sl false 9 (s.land.wells.map Zf),.sl false 5 (s.land.legs.map Zl),I s.pace.lo,I s.pace.hi,
  I s.breed.full,I s.breed.fed,I s.breed.rest.lo,I s.breed.rest.hi,I s.breed.heat.lo,I s.breed.heat.hi,I s.breed.toil.lo,I s.breed.toil.hi,I s.breed.burn.lo,I s.breed.burn.hi,I s.breed.rub.lo,I s.breed.rub.hi,I s.breed.milk.lo,I s.breed.milk.hi,I s.breed.heal,I s.breed.strong.lo,I s.breed.strong.hi,
  I s.camel.water.lo,I s.camel.water.hi,I s.camel.fat.lo,I s.camel.fat.hi,I s.camel.sore.lo,I s.camel.sore.hi,B s.camel.milks,
  I s.herd,I s.hours,I s.slab,I s.cost,I s.sale,I s.start,I s.day,I s.till,.sl false 6 (s.scenes.map Zj),I k]
theorem Zb7 (a b:Span):Ct Tryz.prog 151 [.agg (Zc a),.agg (Zc b)] (.agg (Zc (ZfG a b))):=by
 refine t151.1 (by simp [Zc,KFL,KF]) (by simp [Zc,KFL,KF]) ?_
 dsimp only [c151,r151,Zc,go_sem,rA,rM,rS]
 rfl
theorem Zdq (a b:Span) (c:Bool):Ct Tryz.prog 172 [.agg (Zc a),.sl c 2 [[I b.lo,I b.hi]]] (.agg (Zc (ZfG a b))):=by
 refine t172.1 ⟨by simp [KF,KFL,Zc],by simp [KF,KFR,KFL],trivial⟩ (by simp [Zc,KFL,KF]) ?_
 dsimp only [c172,r172,Zc,go_sem,rA,rM,rS]
 refine Xa 2 ?_
 dsimp only [Zb,go_sem,rA,rM,rS]
 refine Zr (by decide) ?_
 dsimp only [go_sem,rA,rM,rS]
 refine ixs 0 [I b.lo,I b.hi] rfl rfl ?_
 dsimp only [go_sem,rA,rM,rS]
 refine Zs (by decide) ?_
 dsimp only [go_sem,rA,rM,rS]
 rfl
theorem ZkF (s:Season) (x:Scene) (c:Camel) (d:Span) (slabs:Int) (hn:0<=slabs/\slabs<=12) (hs:0<=s.slab/\s.slab<=1000000) (hd:d.hi<=1000000000) :
 Ct Tryz.prog 107 [.agg (Zp s),.agg (Zj x),.agg (camelL c),.agg (Zc d),I slabs] (.tup [.agg (camelL (Yu s x d slabs c).1),U8 (Yu s x d slabs c).2]):=by
 have hb:0<=slabs * s.slab/\slabs * s.slab<=12 * 1000000:=⟨Int.mul_nonneg hn.1 hs.1,Int.mul_le_mul hn.2 hs.2 hs.1 (by decide)⟩
 refine t107.1 (by simp [Zp,Zj,Zf,Zl,Zh,Zc,Zo,Cm.camelL,Za,KFL,KF]) (by simp [Cm.camelL,KFL,KF]) ?_
 dsimp only [c107,r107,Zp,Zj,Zc,Cm.camelL,go_sem,rA,rM,rS]
 rw [Ze (n:=slabs * s.slab) (by omega) (by omega)]
 refine Vl [5,7,8,10,11,12,13,14] rfl (fun q:Nat × Camel × Camel=>[(14,I (q.1+1))]) (fun q=>[(2,.cells (Cm.camelL q.2.1) 31),(6,.cells (Cm.camelL q.2.2) 31)])
  (fun q=>q.1<=d.hi.toNat/\VT s.breed (VA s x slabs) d.lo (d.hi.toNat - q.1) q.1 q.2.1 q.2.2=Yu s x d slabs c) (fun q=>d.hi.toNat - q.1) (0,c,Yf) ⟨Nat.zero_le _,rfl⟩ ?_ ?_
 . (refine Zk ?_ ?_ ?_ rfl rfl<;>dsimp only [Cm.camelL,Yf,Xx,Zh,Zf,Zl,Zj,Zc,Zo,mtL,mtB,mtS,id,go_sem,rA,rM,rS]<;>simp [Cm.camelL,Yf,Xx,Zh,Zf,Zl,Zj,Zc,Zo,mtL,mtB,mtS,Za,Zi,KFR,KFL,KF,Zd,mtO,nbr])
 rintro ⟨n,c,out⟩ ⟨hk,hi⟩
 simp only at hk hi
 dsimp only [Cm.camelL,go_sem,rA,rM,rS]
 by_cases hlt:n < d.hi.toNat
 case neg =>
  refine Zs (by simp;omega) ?_
  dsimp only [go_sem,rA,rM,rS]
  rw [<- hi,show d.hi.toNat - n=0 from by omega]
  rfl
 refine Zr (by simp;omega) ?_
 dsimp only [go_sem,rA,rM,rS]
 refine call (Cm.carriesR_ok s.breed c) ?_
 dsimp only [Cm.sres,Zc,go_sem,rA,rM,rS]
 rw [show (if Ub s.breed c=0 then Zpn s.breed c else Xx)=Zda s.breed c from rfl]
 have hj:d.hi.toNat - n=(d.hi.toNat - (n+1))+1:=by omega
 rw [hj,VT] at hi
 by_cases hw:(VA s x slabs).load > (Zda s.breed c).lo
 . refine Zr (decide_eq_true hw) ?_
   dsimp only [go_sem,rA,rM,rS]
   rw [<- hi,if_pos hw];rfl
 refine Zs (decide_eq_false hw) ?_
 dsimp only [go_sem,rA,rM,rS]
 rw [if_neg hw] at hi
 refine call (Cm.after2_ok s.breed c (VA s x slabs)) ?_
 generalize Yo s.breed c (VA s x slabs)=r at hi ⊢
 dsimp only [Cm.camelL,go_sem,rA,rM,rS]
 repeat (refine gb ?_;dsimp only [go_sem,rA,rM,rS])
 by_cases hf:r.2.2≠0\/r.2.1≠0
 . refine Zr (by simp [bne];omega) ?_
   dsimp only [go_sem,rA,rM,rS]
   rw [<- hi,if_pos hf];rfl
 refine Zs (by simp [bne];omega) ?_
 dsimp only [go_sem,rA,rM,rS]
 rw [if_neg hf] at hi
 by_cases hl:(n:Int)+1=d.lo
 . refine Zr (by simpa using hl) ?_
   dsimp only [go_sem,rA,rM,rS]
   rw [if_pos hl] at hi
   refine Zs (by simp;omega) ?_
   dsimp only [go_sem,rA,rM,rS]
   rw [Ze (n:=(n:Int)+1+1) (by omega) (by omega)]
   refine ⟨(n+1,r.1,r.1),⟨hlt,hi⟩,by simp only;omega,?_⟩
   (refine Zk ?_ ?_ ?_ rfl rfl<;>dsimp only [Cm.camelL,Yf,Xx,Zh,Zf,Zl,Zj,Zc,Zo,mtL,mtB,mtS,id,go_sem,rA,rM,rS]<;>simp [Cm.camelL,Yf,Xx,Zh,Zf,Zl,Zj,Zc,Zo,mtL,mtB,mtS,Za,Zi,KFR,KFL,KF,Zd,mtO,nbr])
 refine Zs (by simpa using hl) ?_
 dsimp only [go_sem,rA,rM,rS]
 rw [if_neg hl] at hi
 by_cases hm:(n:Int)+1 > d.lo
 . refine Zr (by simpa using hm) ?_
   dsimp only [go_sem,rA,rM,rS]
   rw [if_pos hm] at hi
   refine call (Zb7 out.water r.1.water) ?_
   dsimp only [go_sem,rA,rM,rS]
   refine call (Zb7 out.fat r.1.fat) ?_
   dsimp only [go_sem,rA,rM,rS]
   refine call (Zb7 out.sore r.1.sore) ?_
   dsimp only [Zc,go_sem,rA,rM,rS]
   rw [Ze (n:=(n:Int)+1+1) (by omega) (by omega)]
   refine ⟨(n+1,r.1,ZdZ out r.1),⟨hlt,hi⟩,by simp only;omega,?_⟩
   (refine Zk ?_ ?_ ?_ rfl rfl<;>dsimp only [Cm.camelL,ZdZ,Yf,Xx,Zh,Zf,Zl,Zj,Zc,Zo,mtL,mtB,mtS,id,go_sem,rA,rM,rS]<;>simp [Cm.camelL,ZdZ,Yf,Xx,Zh,Zf,Zl,Zj,Zc,Zo,mtL,mtB,mtS,Za,Zi,KFR,KFL,KF,Zd,mtO,nbr])
 refine Zs (by simp;omega) ?_
 dsimp only [go_sem,rA,rM,rS]
 rw [if_neg hm] at hi
 rw [Ze (n:=(n:Int)+1+1) (by omega) (by omega)]
 refine ⟨(n+1,r.1,out),⟨hlt,hi⟩,by simp only;omega,?_⟩
 (refine Zk ?_ ?_ ?_ rfl rfl<;>dsimp only [Cm.camelL,Yf,Xx,Zh,Zf,Zl,Zj,Zc,Zo,mtL,mtB,mtS,id,go_sem,rA,rM,rS]<;>simp [Cm.camelL,Yf,Xx,Zh,Zf,Zl,Zj,Zc,Zo,mtL,mtB,mtS,Za,Zi,KFR,KFL,KF,Zd,mtO,nbr])
end Go.Proofs.YtiigiflofnjilaaGreat
