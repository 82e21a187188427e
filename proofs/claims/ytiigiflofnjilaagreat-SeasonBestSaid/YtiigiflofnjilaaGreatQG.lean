/- Walks and plain laws that lead to the given statement, part 7 of 11. -/
import Derived.Test.YtiigiflofnjilaaGreatQF
import Derived.Test.YtiigiflofnjilaaGreatProg
set_option maxRecDepth 100000
set_option maxHeartbeats 4000000
set_option linter.all false
open Nat renaming beq_refl->nbr
namespace Go.Azalai
def ZY (p:Span):Bool:=Yl 1 100000 p
def Ul (l:Land) (p:Span):Int:=if ZX l=false then 30 else if ZY p=false then 31 else 0
def Ut (x:Leg) (p:Span):Span:=⟨(x.long.lo+p.hi - 1).tdiv p.hi,(x.long.hi+p.lo - 1).tdiv p.lo⟩
def UI (n day:Int) (o s:Gate->Int):List Gate->Int
 | []=>100001
 | g :: r=>if max day (o g)+n - 1<=s g then max day (o g) else UI n day o s r
def ZdT (n day:Int) (o s:Gate->Int) (acc:Int):List Gate->Int
 | []=>acc
 | g :: r=>ZdT n day o s (if max day (o g)+n - 1<=s g then min (min acc (max day (o g))) 100001 else acc) r
def Zk7 (x:Leg) (p:Span) (day:Int):Int:=UI (Ut x p).lo day (·.opens.lo) (·.shuts.hi) x.gates
def ZgI (x:Leg) (p:Span) (day:Int):Int:=UI (Ut x p).hi day (·.opens.hi) (·.shuts.lo) x.gates
def Y9 (l:Land) (leg:Int) (p:Span):Span × Int :=
 if Ul l p≠0 then (⟨0,0⟩,Ul l p)
 else if inR 0 (l.legs.length - 1) leg=false then (⟨0,0⟩,2)
 else match l.legs[leg.toNat]? with
  | some x=>(Ut x p,0)
  | none=>(⟨0,0⟩,0)
structure GoodLeg (x:Leg):Prop where
 l1:1<=x.long.lo
 l2:x.long.lo<=x.long.hi
 l3:x.long.hi<=1000000
 g1:x.gates.length<=6
 g2:YQ 0 x.gates=true
theorem Y4 {l:Land} (h:ZX l=true):∀ x ∈ l.legs,GoodLeg x:=by
 simp only [ZX,Bool.and_eq_true,List.all_eq_true] at h;intro x hx;have:=h.2 x hx;simp only [WO,Yl,Bool.and_eq_true,decide_eq_true_eq] at this;exact ⟨by omega,by omega,by omega,by omega,this.2⟩
theorem Y2:∀ {l:List Gate} {next:Int},YQ next l=true->0<=next->∀ g ∈ l,0<=g.opens.lo/\g.opens.lo<=g.opens.hi/\g.opens.hi<=100000/\0<=g.shuts.lo/\g.shuts.lo<=g.shuts.hi/\g.shuts.hi<=100000/\next<=g.opens.lo
 | [],_,_,_,g,hg=>by simp at hg
 | x :: l,next,h,h0,g,hg=>by
  simp only [YQ,Yl,inR,Bool.and_eq_true,decide_eq_true_eq] at h;rcases List.mem_cons.1 hg with rfl | hg
  . omega
  . have:=Y2 h.2 (by omega) g hg;omega
theorem Zdk {n day:Int} {o s:Gate->Int} (hn:1<=n) (ho:∀ g,(0<=g.opens.lo/\g.opens.lo<=g.opens.hi/\g.opens.hi<=100000/\0<=g.shuts.lo/\g.shuts.lo<=g.shuts.hi/\g.shuts.hi<=100000)->g.opens.lo<=o g/\s g<=g.shuts.hi) :
 ∀ {l:List Gate} {next acc:Int},YQ next l=true->0<=next->acc<=100001->ZdT n day o s acc l=min acc (UI n day o s l)
 | [],next,acc,_,_,ha=>by simp only [ZdT,UI];omega
 | x :: l,next,acc,h,h0,ha=>by
  have hm:=Y2 h h0 x (by simp);simp only [YQ,Yl,inR,Bool.and_eq_true,decide_eq_true_eq] at h;have h1:=ho x ⟨hm.1,hm.2.1,hm.2.2.1,hm.2.2.2.1,hm.2.2.2.2.1,hm.2.2.2.2.2.1⟩;have hrest:∀ (l:List Gate),(∀ g ∈ l,x.shuts.hi+1<=o g)->x.shuts.hi+1<=UI n day o s l:=λl=>by
   induction l with
   | nil=>intro _;simp only [UI];omega
   | cons g l ih=>intro hg;simp only [UI];have:=hg g (by simp);have:=ih (λg' h'=>hg g' (by simp [h']));split<;>omega
  have hr:=hrest l (λg hg=>by
   have q:=Y2 h.2 (by omega) g hg;have:=ho g ⟨q.1,q.2.1,q.2.2.1,q.2.2.2.1,q.2.2.2.2.1,q.2.2.2.2.2.1⟩
   omega)
  simp only [ZdT,UI];rw [Zdk hn ho h.2 (by omega) (by split<;>omega)]
  repeat' split
  all_goals first | rfl | omega
theorem day_bd {x:Leg} {p:Span} (h:GoodLeg x) (hp:ZY p=true):1<=(Ut x p).lo/\(Ut x p).lo<=1000000/\1<=(Ut x p).hi/\(Ut x p).hi<=1000000:=by
 simp only [ZY,Yl,decide_eq_true_eq] at hp;obtain ⟨p1,p2,p3⟩:=hp;obtain ⟨h1,h2,h3,_,_⟩:=h;simp only [Ut];have key:∀ a b:Int,1<=a->a<=1000000->1<=b->1<=(a+b - 1).tdiv b/\(a+b - 1).tdiv b<=1000000:=λa b ha ha2 hb=>by
  rw [Int.tdiv_eq_ediv_of_nonneg (by omega)];constructor
  . exact Int.le_ediv_of_mul_le (by omega) (by omega)
  . refine Int.le_of_lt_add_one (Int.ediv_lt_of_lt_mul (by omega) ?_);have:1 * a<=b * a:=Int.mul_le_mul_of_nonneg_right hb (by omega);have e:(1000000+1) * b=b * 1000000+b:=by rw [Int.add_mul];omega
    have:b * a<=b * 1000000:=Int.mul_le_mul_of_nonneg_left ha2 (by omega);rw [e];have:=Int.mul_le_mul_of_nonneg_left ha2 (show (0:Int)<=b - 1 by omega);have q:(b - 1) * a=b * a - a:=by rw [Int.sub_mul];omega
    have q2:(b - 1) * 1000000=b * 1000000 - 1000000:=by rw [Int.sub_mul];omega
    omega
 exact ⟨(key _ _ h1 (by omega) (by omega)).1,(key _ _ h1 (by omega) (by omega)).2,(key _ _ (by omega) h3 p1).1,(key _ _ (by omega) h3 p1).2⟩
end Go.Azalai
namespace Go.Proofs.YtiigiflofnjilaaGreat
open Go Go.Sx Go.Azalai
def sres (r:Span × Int):SV:=.tup [.agg (Zc r.1),I r.2]
theorem ZjA (l:Land) (hs:Xu l):Ct Tryz.prog 93 [.agg (Zt l)] (I (if ZX l=true then 0 else 30)):=by
 refine t93.1 (by simp [Zt,Zf,Zl,Zg,Za]) (by simp) ?_;dsimp only [c93,r93,Zt,go_sem];refine call (Zdq l hs) ?_;dsimp only [go_sem];refine br ?_ ?_
 . intro h;dsimp only [go_sem];have:ZX l=false:=by simpa using h
   simp [this]
 . intro h;dsimp only [go_sem];have:ZX l=true:=by simpa using h
   simp [this]
theorem ZgH (p:Span):Ct Tryz.prog 94 [.agg (Zc p)] (B (ZY p)):=by
 refine t94.1 (by simp [Zc]) (by simp) ?_;dsimp only [c94,r94,Zc,go_sem];refine call (ZO p _ _) ?_;dsimp only [go_sem];simp [ZY]
theorem Zbk (l:Land) (hs:Xu l) (p:Span):Ct Tryz.prog 115 [.agg (Zt l),.agg (Zc p)] (I (Ul l p)):=by
 refine t115.1 (by simp [Zt,Zf,Zl,Zg,Zc,Za]) (by simp) ?_;dsimp only [c115,r115,Zt,Zc,go_sem];refine call (Zdq l hs) ?_;dsimp only [go_sem];refine br ?_ ?_
 . intro h;dsimp only [go_sem];have:ZX l=false:=by simpa using h
   simp [Ul,this]
 intro h;dsimp only [go_sem];refine call (ZgH p) ?_;dsimp only [go_sem];refine br ?_ ?_
 . intro h2;dsimp only [go_sem];have:ZY p=false:=by simpa using h2
   simp_all [Ul]
 . intro h2;dsimp only [go_sem];have:ZY p=true:=by simpa using h2
   simp_all [Ul]
theorem Zas (x:Leg) (p:Span) (hx:GoodLeg x) (hp:ZY p=true):Ct Tryz.prog 149 [.agg (Zl x),.agg (Zc p)] (.agg (Zc (Ut x p))):=by
 have hb:=day_bd hx hp;have hp':=hp;simp only [ZY,Yl,decide_eq_true_eq] at hp';obtain ⟨h1,h2,h3,h4,h5⟩:=hx;refine t149.1 (by simp [Zl,Zg,Zc,Za]) (by simp [Zc]) ?_;dsimp only [c149,r149,Zl,Zc,go_sem];rw [Zh (n:=x.long.lo+p.hi) (by omega) (by omega),Zh (n:=x.long.lo+p.hi - 1) (by omega) (by omega)];refine ZcV (by omega) ?_;dsimp only [go_sem];rw [Zh (n:=x.long.hi+p.lo) (by omega) (by omega),Zh (n:=x.long.hi+p.lo - 1) (by omega) (by omega)]
 refine ZcV (by omega) ?_;dsimp only [go_sem];simp only [Ut] at hb ⊢;rw [Zh (n:=(x.long.lo+p.hi - 1).tdiv p.hi) (by omega) (by omega),Zh (n:=(x.long.hi+p.lo - 1).tdiv p.lo) (by omega) (by omega)]
theorem Ztn (x:Leg) (day:Int) (p:Span) (hx:GoodLeg x) (hp:ZY p=true) (hd:inR 0 100001 day=true):Ct Tryz.prog 145 [.agg (Zl x),I day,.agg (Zc p)] (I (Zk7 x p day)):=by
 have hb:=day_bd hx hp;have hg:=Y2 hx.g2 (Int.le_refl _);have hl:=hx.g1;simp only [inR,decide_eq_true_eq] at hd;refine t145.1 (by simp [Zl,Zg,Zc,Za]) (by simp) ?_;dsimp only [c145,r145,Zl,Zc,go_sem];refine Yy (λk:Nat=>[(7,I k)]) (λ_=>[]) (λk=>k<=x.gates.length/\UI (Ut x p).lo day (·.opens.lo) (·.shuts.hi) (x.gates.drop k)=Zk7 x p day) (λk=>x.gates.length - k) 0 ⟨Nat.zero_le _,rfl⟩ ?_ ?_
 . (refine Zj ?_ ?_ ?_ rfl rfl<;>dsimp only [Zg,Zl,Zc,id,go_sem]<;>simp [Zg,Zl,Zc,Za])
 intro k ⟨hk,hi⟩;dsimp only [go_sem];by_cases hlt:k < x.gates.length
 . refine Zq (by simpa using hlt) ?_;dsimp only [go_sem];have hgk:=hg x.gates[k] (List.getElem_mem _);rw [List.drop_eq_getElem_cons hlt,UI] at hi;refine Zo k hlt rfl ?_;dsimp only [Zg,go_sem];repeat (first | (refine gb ?_;dsimp only [go_sem]) | (refine call (Zas x p hx hp) ?_;dsimp only [Zc,go_sem]) | (refine Zo k hlt rfl ?_;dsimp only [Zg,go_sem]))
   rw [Zh (n:=max day x.gates[k].opens.lo+(Ut x p).lo) (by omega) (by omega),Zh (n:=max day x.gates[k].opens.lo+(Ut x p).lo - 1) (by omega) (by omega)];refine br ?_ ?_
   . intro h;dsimp only [go_sem];rw [if_pos (by simpa using h)] at hi;rw [<- hi]
   . intro h;dsimp only [go_sem];rw [if_neg (by simpa using h)] at hi;rw [Zh (n:=(k:Int)+1) (by omega) (by omega)];refine ⟨k+1,⟨hlt,hi⟩,by omega,?_⟩;(refine Zj ?_ ?_ ?_ rfl rfl<;>dsimp only [Zg,Zl,Zc,id,go_sem]<;>simp [Zg,Zl,Zc,Za])
 refine Zr (by simp;omega) ?_;dsimp only [go_sem];have hke:k=x.gates.length:=by omega
 subst hke;rw [List.drop_length,UI] at hi;rw [<- hi]
theorem Zjq (x:Leg) (day:Int) (p:Span) (hx:GoodLeg x) (hp:ZY p=true) (hd:inR 0 100001 day=true):Ct Tryz.prog 146 [.agg (Zl x),I day,.agg (Zc p)] (I (ZgI x p day)):=by
 have hb:=day_bd hx hp;have hg:=Y2 hx.g2 (Int.le_refl _);have hl:=hx.g1;simp only [inR,decide_eq_true_eq] at hd;refine t146.1 (by simp [Zl,Zg,Zc,Za]) (by simp) ?_;dsimp only [c146,r146,Zl,Zc,go_sem];refine Yy (λk:Nat=>[(7,I k)]) (λ_=>[]) (λk=>k<=x.gates.length/\UI (Ut x p).hi day (·.opens.hi) (·.shuts.lo) (x.gates.drop k)=ZgI x p day) (λk=>x.gates.length - k) 0 ⟨Nat.zero_le _,rfl⟩ ?_ ?_
 . (refine Zj ?_ ?_ ?_ rfl rfl<;>dsimp only [Zg,Zl,Zc,id,go_sem]<;>simp [Zg,Zl,Zc,Za])
 intro k ⟨hk,hi⟩;dsimp only [go_sem];by_cases hlt:k < x.gates.length
 . refine Zq (by simpa using hlt) ?_;dsimp only [go_sem];have hgk:=hg x.gates[k] (List.getElem_mem _);rw [List.drop_eq_getElem_cons hlt,UI] at hi;refine Zo k hlt rfl ?_;dsimp only [Zg,go_sem];repeat (first | (refine gb ?_;dsimp only [go_sem]) | (refine call (Zas x p hx hp) ?_;dsimp only [Zc,go_sem]) | (refine Zo k hlt rfl ?_;dsimp only [Zg,go_sem]))
   rw [Zh (n:=max day x.gates[k].opens.hi+(Ut x p).hi) (by omega) (by omega),Zh (n:=max day x.gates[k].opens.hi+(Ut x p).hi - 1) (by omega) (by omega)];refine br ?_ ?_
   . intro h;dsimp only [go_sem];rw [if_pos (by simpa using h)] at hi;rw [<- hi]
   . intro h;dsimp only [go_sem];rw [if_neg (by simpa using h)] at hi;rw [Zh (n:=(k:Int)+1) (by omega) (by omega)];refine ⟨k+1,⟨hlt,hi⟩,by omega,?_⟩;(refine Zj ?_ ?_ ?_ rfl rfl<;>dsimp only [Zg,Zl,Zc,id,go_sem]<;>simp [Zg,Zl,Zc,Za])
 refine Zr (by simp;omega) ?_;dsimp only [go_sem];have hke:k=x.gates.length:=by omega
 subst hke;rw [List.drop_length,UI] at hi;rw [<- hi]
theorem Zkm {l:Land} {leg:Int} (h:inR 0 (l.legs.length - 1) leg=true):∃ (k:Nat) (hk:k < l.legs.length),leg=(k:Int)/\l.legs[leg.toNat]? = some l.legs[k]:=by
 simp only [inR,decide_eq_true_eq] at h;refine ⟨leg.toNat,by omega,by omega,?_⟩;rw [List.getElem?_eq_getElem (by omega)]
theorem ask0 {l:Land} {p:Span} (h:Ul l p=0):ZX l=true/\ZY p=true:=by
 unfold Ul at h;cases h1:ZX l<;>cases h2:ZY p<;>simp_all
theorem Zrc (l:Land) (hs:Xu l) (leg:Int) (p:Span):Ct Tryz.prog 106 [.agg (Zt l),I leg,.agg (Zc p)] (sres (Y9 l leg p)):=by
 have hw1:IntKind.i64.wrap ((l.legs.length:Int) - 1)=(l.legs.length:Int) - 1:=Zh (by omega) (by have:=hs.2.1;omega);refine t106.1 (by simp [Zt,Zf,Zl,Zg,Zc,Za]) (by simp [sres,Zc]) ?_;dsimp only [c106,r106,Zt,Zc,go_sem];refine call (Zbk l hs p) ?_;dsimp only [go_sem];by_cases ha:Ul l p=0
 case neg =>
  refine Zq (by simpa using ha) ?_;dsimp only [go_sem];simp [Y9,ha,sres,Zc]
 refine Zr (by simpa using ha) ?_;dsimp only [go_sem];simp only [List.length_map,hw1];repeat (first | (refine gb ?_;dsimp only [go_sem]) | (refine call (ZW _ _ _) ?_;dsimp only [go_sem]))
 by_cases hr:inR 0 (l.legs.length - 1) leg=true
 case neg =>
  refine Zq (by grind) ?_;dsimp only [go_sem];simp [Y9,ha,hr,sres,Zc]
 refine Zr (by grind) ?_;dsimp only [go_sem];obtain ⟨k,hk,rfl,hget⟩:=Zkm hr;obtain ⟨hol,hop⟩:=ask0 ha;have hx:=Y4 hol l.legs[k] (List.getElem_mem _);refine Zo k hk rfl ?_;dsimp only [Zl,go_sem];refine call (Zas l.legs[k] p hx hop) ?_;dsimp only [Zc,go_sem];simp only [Y9,ha,hr,hget,sres,Zc];simp
theorem Zxk (a b d:Int) (c:Bool):Ct Tryz.prog 71 [.sl c 1 [[I a],[I b],[I d]]] (I (min (min a b) d)):=by
 refine t71.1 (by simp [KFR]) (by simp) ?_;dsimp only [c71,r71,go_sem];refine Zr (by decide) ?_;dsimp only [go_sem];refine ixs 0 [I a] rfl rfl ?_;dsimp only [go_sem];refine Xt 3 ?_;dsimp only [Zd,go_sem];refine Zq (by decide) ?_;dsimp only [Zd,go_sem];refine ixs 1 [I b] rfl rfl ?_;dsimp only [Zd,go_sem];refine Zq (by decide) ?_;dsimp only [Zd,go_sem];refine ixs 2 [I d] rfl rfl ?_;dsimp only [Zd,go_sem]
 refine Zr (by decide) ?_;dsimp only [go_sem]
theorem V8 (a b:Int):Ct Tryz.prog 122 [.sl true 1 [[I a],[I b]]] (I (min (min a b) 100001)):=by
 refine t122.1 (by simp [KFR]) (by simp) ?_;dsimp only [c122,r122,go_sem];refine Zsj (by simp) ?_;dsimp only [go_sem];refine call (Zxk a b 100001 false) ?_;dsimp only [go_sem]
theorem Zf5 {n day:Int} {o s:Gate->Int} (hn:1<=n):∀ {l:List Gate},(∀ g ∈ l,s g<=100000)->UI n day o s l<=100001
 | [],_=>by simp only [UI];omega
 | x :: l,h=>by
  have:=h x (by simp);have:=Zf5 (day:=day) (o:=o) (s:=s) (l:=l) hn (λg hg=>h g (by simp [hg]));simp only [UI];split<;>omega
def Z3 (l:Land) (p:Span):List SV:=[.sl false 9 (l.wells.map Zf),.sl false 5 (l.legs.map Zl),I p.lo,I p.hi]
theorem Zdf (l:Land) (hs:Xu l) (p:Span) (ha:Ul l p=0):Ct Tryz.prog 75 [.agg (Zt l),.agg (Zc p)] (.tup [.agg (Z3 l p),I 0]):=by
 obtain ⟨h1,h2⟩:=ask0 ha;refine t75.1 (by simp [Zt,Zf,Zl,Zg,Zc,Za]) (by simp [Z3,Zf,Zl,Zg,Zc,Za]) ?_;dsimp only [c75,r75,Zt,Zc,go_sem];refine call (Zdc l hs) ?_;dsimp only [go_sem];refine Zr (by simp [h1]) ?_;dsimp only [go_sem];refine call (Xs 1 100000 p _) ?_;dsimp only [go_sem];refine Zr (by simpa [ZY] using h2) ?_;dsimp only [Z3,go_sem]
theorem Zbg (l:Land) (hs:Xu l) (p:Span) (ha:Ul l p≠0):Ct Tryz.prog 75 [.agg (Zt l),.agg (Zc p)] (.tup [.agg [.v (.slice none 0 0),.v (.slice none 0 0),I 0,I 0],I (Ul l p)]):=by
 refine t75.1 (by simp [Zt,Zf,Zl,Zg,Zc,Za]) (by simp) ?_;dsimp only [c75,r75,Zt,Zc,go_sem];refine call (Zdc l hs) ?_;dsimp only [go_sem];by_cases h1:ZX l=true
 case neg =>
  refine Zq (by simp [h1]) ?_;dsimp only [go_sem];simp [Ul,h1]
 refine Zr (by simp [h1]) ?_;dsimp only [go_sem];refine call (Xs 1 100000 p _) ?_;dsimp only [go_sem];have h2:ZY p=false:=by
  by_cases h2:ZY p=true
  . exact absurd (by simp [Ul,h1,h2]) ha
  . simpa using h2
 refine Zq (by simpa [ZY] using h2) ?_;dsimp only [go_sem];simp [Ul,h1,h2]
theorem Zdx (l:Land) (p:Span) (k:Nat) (hk:k < l.legs.length) (hx:GoodLeg l.legs[k]) (hp:ZY p=true):Ct Tryz.prog 82 [.agg (Z3 l p),I k] (.agg (Zc (Ut l.legs[k] p))):=by
 have hb:=day_bd hx hp;have hp':=hp;simp only [ZY,Yl,decide_eq_true_eq] at hp';obtain ⟨h1,h2,h3,h4,h5⟩:=hx;refine t82.1 (by simp [Z3,Zf,Zl,Zg,Zc,Za]) (by simp [Zc]) ?_;dsimp only [c82,r82,Z3,go_sem];refine Zo k hk rfl ?_;dsimp only [Zl,go_sem];rw [Zh (n:=l.legs[k].long.lo+p.hi) (by omega) (by omega),Zh (n:=l.legs[k].long.lo+p.hi - 1) (by omega) (by omega)];refine ZcV (by omega) ?_;dsimp only [go_sem]
 rw [Zh (n:=l.legs[k].long.hi+p.lo) (by omega) (by omega),Zh (n:=l.legs[k].long.hi+p.lo - 1) (by omega) (by omega)];refine ZcV (by omega) ?_;dsimp only [Zc,go_sem];simp only [Ut] at hb ⊢;rw [Zh (n:=(l.legs[k].long.lo+p.hi - 1).tdiv p.hi) (by omega) (by omega),Zh (n:=(l.legs[k].long.hi+p.lo - 1).tdiv p.lo) (by omega) (by omega)]
theorem Zdl (a b:Int):Ct Tryz.prog 80 [.agg [I a,I b]] (.agg [I a,I b]):=by
 refine t80.1 (by simp) (by simp) ?_;dsimp only [c80,r80,go_sem];refine ixa 0 rfl (by decide) ?_;dsimp only [go_sem];refine ixa 1 rfl (by decide) ?_;dsimp only [go_sem]
theorem ZpC (l:Land) (hs:Xu l) (leg:Int) (p:Span):Ct Tryz.prog 39 [.agg (Zt l),I leg,.agg (Zc p)] (sres (Y9 l leg p)):=by
 have hw1:IntKind.i64.wrap ((l.legs.length:Int) - 1)=(l.legs.length:Int) - 1:=Zh (by omega) (by have:=hs.2.1;omega);refine t39.1 (by simp [Zt,Zf,Zl,Zg,Zc,Za]) (by simp [sres,Zc]) ?_;dsimp only [c39,r39,Zt,Zc,go_sem];by_cases ha:Ul l p=0
 case neg =>
  refine call (Zbg l hs p ha) ?_;dsimp only [go_sem];refine Zq (by simpa using ha) ?_;dsimp only [go_sem];simp [Y9,ha,sres,Zc]
 refine call (Zdf l hs p ha) ?_;dsimp only [Z3,go_sem];refine Zr (by decide) ?_;dsimp only [go_sem];simp only [List.length_map,hw1];repeat (first | (refine gb ?_;dsimp only [go_sem]) | (refine call (ZaC _ _ _ _) ?_;dsimp only [go_sem]))
 by_cases hr:inR 0 (l.legs.length - 1) leg=true
 case neg =>
  refine Zq (by grind) ?_;dsimp only [go_sem];simp [Y9,ha,hr,sres,Zc]
 refine Zr (by grind) ?_;dsimp only [go_sem];obtain ⟨k,hk,rfl,hget⟩:=Zkm hr;obtain ⟨hol,hop⟩:=ask0 ha;have hx:=Y4 hol l.legs[k] (List.getElem_mem _);refine call (Zdx l p k hk hx hop) ?_;dsimp only [Zc,go_sem];refine call (Zdl _ _) ?_;dsimp only [go_sem];simp only [Y9,ha,hr,hget,sres,Zc];simp
theorem Wt (l:Land) (p:Span) (k:Nat) (hk:k < l.legs.length) (d0 d1:Int) (hx:GoodLeg l.legs[k]) (hp:ZY p=true) (h0:inR 0 100001 d0=true) (h1:inR 0 100001 d1=true) :
 Ct Tryz.prog 78 [.agg (Z3 l p),I k,.agg [I d0,I d1]] (.agg [I (Zk7 l.legs[k] p d0),I (ZgI l.legs[k] p d1)]):=by
 have hb:=day_bd hx hp;have hg:=Y2 hx.g2 (Int.le_refl _);have hl:=hx.g1;simp only [inR,decide_eq_true_eq] at h0 h1;refine t78.1 (by simp [Z3,Zf,Zl,Zg,Zc,Za]) (by simp) ?_;dsimp only [c78,r78,Z3,go_sem];refine call (Zdx l p k hk hx hp) ?_;dsimp only [Zc,go_sem];refine Zo k hk rfl ?_;dsimp only [Zl,go_sem];have e0:ZdT (Ut l.legs[k] p).lo d0 (·.opens.lo) (·.shuts.hi) 100001 l.legs[k].gates=Zk7 l.legs[k] p d0:=by
  rw [Zdk hb.1 (λg h=>by omega) hx.g2 (Int.le_refl _) (by omega)];exact Int.min_eq_right (Zf5 hb.1 (λg h=>by have:=hg g h;omega))
 have e1:ZdT (Ut l.legs[k] p).hi d1 (·.opens.hi) (·.shuts.lo) 100001 l.legs[k].gates=ZgI l.legs[k] p d1:=by
  rw [Zdk hb.2.2.1 (λg h=>by omega) hx.g2 (Int.le_refl _) (by omega)];exact Int.min_eq_right (Zf5 hb.2.2.1 (λg h=>by have:=hg g h;omega))
 generalize hnl:(Ut l.legs[k] p).lo=nl at hb e0;generalize hnh:(Ut l.legs[k] p).hi=nh at hb e1;refine Yy (λs:Nat × Int × Int=>[(27,I s.1)]) (λs=>[(4,.cells [I s.2.1,I s.2.2] 165)])
  (λs=>s.1<=l.legs[k].gates.length/\ZdT nl d0 (·.opens.lo) (·.shuts.hi) s.2.1 (l.legs[k].gates.drop s.1)=Zk7 l.legs[k] p d0/\ZdT nh d1 (·.opens.hi) (·.shuts.lo) s.2.2 (l.legs[k].gates.drop s.1)=ZgI l.legs[k] p d1)
  (λs=>l.legs[k].gates.length - s.1) (0,100001,100001) ⟨Nat.zero_le _,e0,e1⟩ ?_ ?_
 . (refine Zj ?_ ?_ ?_ rfl rfl<;>dsimp only [Zg,Zf,Zl,Zc,id,go_sem]<;>simp [Zg,Zf,Zl,Zc,Za])
 rintro ⟨j,m0,m1⟩ ⟨hj,i0,i1⟩;simp only at hj i0 i1;dsimp only [go_sem];by_cases hlt:j < l.legs[k].gates.length
 . refine Zq (by simpa using hlt) ?_;dsimp only [go_sem];have hgk:=hg l.legs[k].gates[j] (List.getElem_mem _);rw [List.drop_eq_getElem_cons hlt,ZdT] at i0 i1;refine Zo j hlt rfl ?_;dsimp only [Zg,go_sem];refine Xt 3 ?_;dsimp only [Zd,go_sem];refine Zq (by decide) ?_;dsimp only [Zd,go_sem];repeat (first | (refine ixa 0 rfl (by decide) ?_;dsimp only [Zd,go_sem]) | (refine call (V8 _ _) ?_;dsimp only [Zd,go_sem]))
   rw [Zh (n:=max d0 l.legs[k].gates[j].opens.lo+nl) (by omega) (by omega),Zh (n:=max d0 l.legs[k].gates[j].opens.lo+nl - 1) (by omega) (by omega)];refine br ?_ ?_
   . intro hA;dsimp only [Zd,go_sem];repeat (first | (refine ixa 0 rfl (by decide) ?_;dsimp only [Zd,go_sem]) | (refine call (V8 _ _) ?_;dsimp only [Zd,go_sem]))
     rw [if_pos (by simpa using hA)] at i0;refine Zq (by decide) ?_;dsimp only [Zd,go_sem];repeat (first | (refine ixa 1 rfl (by decide) ?_;dsimp only [Zd,go_sem]) | (refine call (V8 _ _) ?_;dsimp only [Zd,go_sem]))
     rw [Zh (n:=max d1 l.legs[k].gates[j].opens.hi+nh) (by omega) (by omega),Zh (n:=max d1 l.legs[k].gates[j].opens.hi+nh - 1) (by omega) (by omega)];refine br ?_ ?_
     . intro hB;dsimp only [Zd,go_sem];repeat (first | (refine ixa 1 rfl (by decide) ?_;dsimp only [Zd,go_sem]) | (refine call (V8 _ _) ?_;dsimp only [Zd,go_sem]))
       rw [if_pos (by simpa using hB)] at i1;refine Zr (by decide) ?_;dsimp only [go_sem];rw [Zh (n:=(j:Int)+1) (by omega) (by omega)];refine ⟨(j+1,min (min m0 (max d0 l.legs[k].gates[j].opens.lo)) 100001,min (min m1 (max d1 l.legs[k].gates[j].opens.hi)) 100001),⟨hlt,i0,i1⟩,by simp only;omega,?_⟩;(refine Zj ?_ ?_ ?_ rfl rfl<;>dsimp only [Zg,Zf,Zl,Zc,id,go_sem]<;>simp [Zg,Zf,Zl,Zc,Za])
     . intro hB;dsimp only [Zd,go_sem];rw [if_neg (by simpa using hB)] at i1;refine Zr (by decide) ?_;dsimp only [go_sem];rw [Zh (n:=(j:Int)+1) (by omega) (by omega)];refine ⟨(j+1,min (min m0 (max d0 l.legs[k].gates[j].opens.lo)) 100001,m1),⟨hlt,i0,i1⟩,by simp only;omega,?_⟩;(refine Zj ?_ ?_ ?_ rfl rfl<;>dsimp only [Zg,Zf,Zl,Zc,id,go_sem]<;>simp [Zg,Zf,Zl,Zc,Za])
   . intro hA;dsimp only [Zd,go_sem];rw [if_neg (by simpa using hA)] at i0;refine Zq (by decide) ?_;dsimp only [Zd,go_sem];repeat (first | (refine ixa 1 rfl (by decide) ?_;dsimp only [Zd,go_sem]) | (refine call (V8 _ _) ?_;dsimp only [Zd,go_sem]))
     rw [Zh (n:=max d1 l.legs[k].gates[j].opens.hi+nh) (by omega) (by omega),Zh (n:=max d1 l.legs[k].gates[j].opens.hi+nh - 1) (by omega) (by omega)];refine br ?_ ?_
     . intro hB;dsimp only [Zd,go_sem];repeat (first | (refine ixa 1 rfl (by decide) ?_;dsimp only [Zd,go_sem]) | (refine call (V8 _ _) ?_;dsimp only [Zd,go_sem]))
       rw [if_pos (by simpa using hB)] at i1;refine Zr (by decide) ?_;dsimp only [go_sem];rw [Zh (n:=(j:Int)+1) (by omega) (by omega)];refine ⟨(j+1,m0,min (min m1 (max d1 l.legs[k].gates[j].opens.hi)) 100001),⟨hlt,i0,i1⟩,by simp only;omega,?_⟩;(refine Zj ?_ ?_ ?_ rfl rfl<;>dsimp only [Zg,Zf,Zl,Zc,id,go_sem]<;>simp [Zg,Zf,Zl,Zc,Za])
     . intro hB;dsimp only [Zd,go_sem];rw [if_neg (by simpa using hB)] at i1;refine Zr (by decide) ?_;dsimp only [go_sem];rw [Zh (n:=(j:Int)+1) (by omega) (by omega)];refine ⟨(j+1,m0,m1),⟨hlt,i0,i1⟩,by simp only;omega,?_⟩;(refine Zj ?_ ?_ ?_ rfl rfl<;>dsimp only [Zg,Zf,Zl,Zc,id,go_sem]<;>simp [Zg,Zf,Zl,Zc,Za])
 refine Zr (by simp;omega) ?_;dsimp only [go_sem];have hke:j=l.legs[k].gates.length:=by omega
 subst hke;rw [List.drop_length,ZdT] at i0 i1;rw [<- i0,<- i1]
theorem Zu2 (l:Land) (hs:Xu l):Ct Tryz.prog 47 [.agg (Zt l)] (.agg (Zt l)):=by
 refine t47.1 (by simp [Zt,Zf,Zl,Zg,Za]) (by simp [Zt,Zf,Zl,Zg,Za]) ?_;dsimp only [c47,r47,Zt,go_sem];refine Zsj (by simp;have:=hs.1;omega) ?_;dsimp only [go_sem];refine ⟨by simp;have:=hs.2.1;omega,?_⟩;dsimp only [go_sem];refine Yy (λk:Nat=>[(3,I k)]) (λ_=>[]) (λk=>k<=l.legs.length) (λk=>l.legs.length - k) 0 (Nat.zero_le _) ?_ ?_
 . (refine Zj ?_ ?_ ?_ rfl rfl<;>dsimp only [Zg,Zf,Zl,id,go_sem]<;>simp [Zg,Zf,Zl,Za])
 intro k hk;dsimp only [go_sem];simp only [List.length_map];by_cases hlt:k < l.legs.length
 . refine Zq (by simpa using hlt) ?_;dsimp only [go_sem];refine Wi k rfl (by simpa using hlt) ?_;dsimp only [go_sem];refine Zan hlt ?_;dsimp only [Zl,go_sem];refine Zsj (by simp;have:=hs.2.2 _ (List.getElem_mem hlt);omega) ?_;dsimp only [go_sem];refine Wi k rfl (by simpa using hlt) ?_;dsimp only [go_sem];refine ZdM l.legs[k] hlt (by simp [Zl]) (by simp [Zl,Zu]) ?_;rw [List.set_getElem_self];dsimp only [go_sem]
   rw [Zh (n:=(k:Int)+1) (by omega) (by have:=hs.2.1;omega)];refine ⟨k+1,hlt,by omega,?_⟩;(refine Zj ?_ ?_ ?_ rfl rfl<;>dsimp only [Zg,Zf,Zl,id,go_sem]<;>simp [Zg,Zf,Zl,Za])
 refine Zr (by simp;omega) ?_;dsimp only [go_sem]
theorem ZjW (l:Land) (hs:Xu l):Ct Tryz.prog 29 [.agg (Zt l),.agg (Zt l)] (B true):=by
 refine t29.1 (by simp [Zt,Zf,Zl,Zg,Za]) (by simp) ?_;dsimp only [c29,r29,Zt,go_sem];repeat (refine gb ?_;dsimp only [go_sem])
 refine Zr (by simp) ?_;dsimp only [go_sem];refine Yy (λk:Nat=>[(5,I k)]) (λ_=>[]) (λk=>k<=l.wells.length) (λk=>l.wells.length - k) 0 (Nat.zero_le _) ?_ ?_
 . (refine Zj ?_ ?_ ?_ rfl rfl<;>dsimp only [Zg,Zf,Zl,id,go_sem]<;>simp [Zg,Zf,Zl,Za])
 . intro k hk;dsimp only [go_sem];by_cases hlt:k < l.wells.length
   . refine Zq (by simpa using hlt) ?_;dsimp only [go_sem];refine Zo k hlt rfl ?_;dsimp only [go_sem];refine Zo k hlt rfl ?_;dsimp only [Zf,go_sem];refine Zr (by simp [ngB]) ?_;dsimp only [go_sem];rw [Zh (n:=(k:Int)+1) (by omega) (by have:=hs.1;omega)];refine ⟨k+1,hlt,by omega,?_⟩;(refine Zj ?_ ?_ ?_ rfl rfl<;>dsimp only [Zg,Zf,Zl,id,go_sem]<;>simp [Zg,Zf,Zl,Za])
   refine Zr (by simp;omega) ?_;dsimp only [go_sem];refine Yy (λk:Nat=>[(6,I k)]) (λ_=>[]) (λk=>k<=l.legs.length) (λk=>l.legs.length - k) 0 (Nat.zero_le _) ?_ ?_
   . (refine Zj ?_ ?_ ?_ rfl rfl<;>dsimp only [Zg,Zf,Zl,id,go_sem]<;>simp [Zg,Zf,Zl,Za])
   . intro k hk;dsimp only [go_sem];by_cases hlt:k < l.legs.length
     . refine Zq (by simpa using hlt) ?_;dsimp only [go_sem];refine Zo k hlt rfl ?_;dsimp only [go_sem];refine Zo k hlt rfl ?_;dsimp only [Zl,go_sem];repeat (refine gb ?_;dsimp only [go_sem])
       refine Zr (by simp [ngB]) ?_;dsimp only [go_sem];refine Yy (λk:Nat=>[(9,I k)]) (λ_=>[]) (λj=>j<=l.legs[k].gates.length) (λj=>l.legs[k].gates.length - j) 0 (Nat.zero_le _) ?_ ?_
       . (refine Zj ?_ ?_ ?_ rfl rfl<;>dsimp only [Zg,Zf,Zl,id,go_sem]<;>simp [Zg,Zf,Zl,Za])
       . intro j hj;dsimp only [go_sem];by_cases hl2:j < l.legs[k].gates.length
         . refine Zq (by simpa using hl2) ?_;dsimp only [go_sem];refine Zo j hl2 rfl ?_;dsimp only [go_sem];refine Zo j hl2 rfl ?_;dsimp only [Zg,go_sem];refine Zr (by simp [ngB]) ?_;dsimp only [go_sem];rw [Zh (n:=(j:Int)+1) (by omega) (by have:=hs.2.2 _ (List.getElem_mem hlt);omega)];refine ⟨j+1,hl2,by omega,?_⟩;(refine Zj ?_ ?_ ?_ rfl rfl<;>dsimp only [Zg,Zf,Zl,id,go_sem]<;>simp [Zg,Zf,Zl,Za])
         refine Zr (by simp;omega) ?_;dsimp only [go_sem];rw [Zh (n:=(k:Int)+1) (by omega) (by have:=hs.2.1;omega)];refine ⟨k+1,hlt,by omega,?_⟩;(refine Zj ?_ ?_ ?_ rfl rfl<;>dsimp only [Zg,Zf,Zl,id,go_sem]<;>simp [Zg,Zf,Zl,Za])
     refine Zr (by simp;omega) ?_;dsimp only [go_sem]
end Go.Proofs.YtiigiflofnjilaaGreat
namespace Go.Azalai
theorem Zj7 {n day:Int} {o s:Gate->Int} (hn:1<=n) (hd:day<=100001):∀ {l:List Gate},(∀ g ∈ l,s g<=100000)->(day<=UI n day o s l/\UI n day o s l<=100001)/\(UI n day o s l=100001\/UI n day o s l+n<=100001)
 | [],_=>⟨⟨by simp only [UI];omega,by simp only [UI];omega⟩,.inl rfl⟩
 | x :: l,h=>by
  have:=h x (by simp);have:=Zj7 (day:=day) (o:=o) (s:=s) (l:=l) hn hd (λg hg=>h g (by simp [hg]));simp only [UI];split<;>omega
theorem Zfc {n day:Int} {o s:Gate->Int} (hn:1<=n):∀ {l:List Gate},(∀ g ∈ l,s g<=100000)->UI n day o s l<=100001
 | [],_=>by simp only [UI];omega
 | x :: l,h=>by
  have:=h x (by simp);have:=Zfc (day:=day) (o:=o) (s:=s) (l:=l) hn (λg hg=>h g (by simp [hg]));simp only [UI];split<;>omega
def nK (k:Bool) (x:Leg) (p:Span):Int:=bif k then (Ut x p).hi else (Ut x p).lo
def leK (k:Bool) (x:Leg) (p:Span) (t:Int):Int:=bif k then ZgI x p t else Zk7 x p t
def ZB (k:Bool) (x:Leg) (p:Span) (t:Int):Int:=min 100001 (leK k x p t+nK k x p)
theorem Zrj {k:Bool} {x:Leg} {p:Span} (h:GoodLeg x) (hp:ZY p=true):1<=nK k x p/\nK k x p<=1000000:=by
 have:=day_bd h hp;cases k<;>simp only [nK,cond_true,cond_false]<;>omega
theorem Zb4 {k:Bool} {x:Leg} {p:Span} {t:Int} (h:GoodLeg x) (hp:ZY p=true) :
 leK k x p t=ZdT (nK k x p) t (λg=>bif k then g.opens.hi else g.opens.lo) (λg=>bif k then g.shuts.lo else g.shuts.hi) 100001 x.gates /\
 leK k x p t=UI (nK k x p) t (λg=>bif k then g.opens.hi else g.opens.lo) (λg=>bif k then g.shuts.lo else g.shuts.hi) x.gates/\∀ g ∈ x.gates,(bif k then g.shuts.lo else g.shuts.hi)<=100000:=by
 have hn:=Zrj (k:=k) h hp;have hg:=Y2 h.g2 (Int.le_refl _);have h2:∀ g ∈ x.gates,(bif k then g.shuts.lo else g.shuts.hi)<=100000:=λg hm=>by have:=hg g hm;cases k<;>simp only [cond_true,cond_false]<;>omega
 have h1:leK k x p t=UI (nK k x p) t (λg=>bif k then g.opens.hi else g.opens.lo) (λg=>bif k then g.shuts.lo else g.shuts.hi) x.gates:=by cases k<;>rfl
 refine ⟨?_,h1,h2⟩;rw [Zdk hn.1 (λg q=>by cases k<;>simp only [cond_true,cond_false]<;>omega) h.g2 (Int.le_refl _) (by omega),h1];have:=Zfc (day:=t) (o:=λg=>bif k then g.opens.hi else g.opens.lo) hn.1 h2;omega
theorem ZeB {n:Int} {o s:Gate->Int} {d d':Int} (hn:1<=n) (hd:d<=d'):∀ {l:List Gate} {a a':Int},a<=a'->a'<=100001->(∀ g ∈ l,s g<=100000)->ZdT n d o s a l<=ZdT n d' o s a' l
 | [],a,a',ha,_,_=>by simpa only [ZdT] using ha
 | g :: l,a,a',ha,hb,hs=>by
  simp only [ZdT];have:=hs g (by simp);refine ZeB hn hd ?_ ?_ (λg hg=>hs g (by simp [hg]))
  . repeat' split
    all_goals omega
  . split<;>omega
theorem Zby {k:Bool} {x:Leg} {p:Span} {t t':Int} (h:GoodLeg x) (hp:ZY p=true) (ht:t<=t'):ZB k x p t<=ZB k x p t':=by
 have hn:=Zrj (k:=k) h hp;obtain ⟨a1,_,a3⟩:=Zb4 (k:=k) (t:=t) h hp;obtain ⟨b1,_,_⟩:=Zb4 (k:=k) (t:=t') h hp;have:=ZeB (o:=λg=>bif k then g.opens.hi else g.opens.lo) hn.1 ht (Int.le_refl 100001) (Int.le_refl _) a3;simp only [ZB];omega
theorem Xf {k:Bool} {x:Leg} {p:Span} {t:Int} (h:GoodLeg x) (hp:ZY p=true) (ht:t<=100001):ZB k x p t<=100001/\(t+1<=ZB k x p t\/t=100001/\ZB k x p t=100001)/\(ZB k x p t < 100001->ZB k x p t=leK k x p t+nK k x p/\leK k x p t < 100001)/\(leK k x p t < 100001->leK k x p t+nK k x p<=100001)/\t<=leK k x p t/\leK k x p t<=100001:=by
 have hn:=Zrj (k:=k) h hp;obtain ⟨_,a2,a3⟩:=Zb4 (k:=k) (t:=t) h hp;have:=Zj7 (o:=λg=>bif k then g.opens.hi else g.opens.lo) hn.1 ht a3;rw [<- a2] at this;simp only [ZB];omega
theorem Uw {k:Bool} {x:Leg} {p:Span} {t:Int} (h:GoodLeg x) (hp:ZY p=true) (ht:t<=100001):t<=ZB k x p t:=by
 have:=Xf (k:=k) h hp ht;omega
def Zm (x:Leg) (v:Int):Int:=if x.a=v then x.b else if x.b=v then x.a else -1
def goW (k:Bool) (l:Land) (p:Span):Int->Int->List Nat->Option (Int × Int)
 | v,t,[]=>some (v,t)
 | v,t,i :: r=>match l.legs[i]? with
  | none=>none
  | some x=>if Zm x v < 0 then none else if ZB k x p t > 100000 then none else goW k l p (Zm x v) (ZB k x p t) r
structure OkLP (l:Land) (p:Span):Prop where
 land:ZX l=true
 pace:ZY p=true
theorem OkLP.leg {l:Land} {p:Span} (h:OkLP l p) {i:Nat} {x:Leg} (hx:l.legs[i]? = some x):GoodLeg x:=Y4 h.land x (List.mem_of_getElem? hx)
theorem OkLP.ends {l:Land} {p:Span} (h:OkLP l p) {x:Leg} (hx:x ∈ l.legs):(0<=x.a/\x.a < l.wells.length)/\(0<=x.b/\x.b < l.wells.length)/\x.a≠x.b:=by
 have h1:=h.land;simp only [ZX,Bool.and_eq_true,List.all_eq_true] at h1;have:=h1.2 x hx;simp only [WO,inR,Bool.and_eq_true,decide_eq_true_eq,bne_iff_ne] at this;obtain ⟨⟨⟨⟨⟨q1,q2⟩,q3⟩,_⟩,_⟩,_⟩:=this;refine ⟨by omega,by omega,q3⟩
theorem Yc {l:Land} {p:Span} (h:OkLP l p) {i:Nat} {x:Leg} (hx:l.legs[i]? = some x) {v:Int} (ho:¬ Zm x v < 0):(0<=Zm x v/\Zm x v < l.wells.length)/\(x.a=v/\Zm x v=x.b\/x.b=v/\Zm x v=x.a)/\0<=v/\v < l.wells.length:=by
 have:=h.ends (List.mem_of_getElem? hx);unfold Zm at ho ⊢;split
 . omega
 . split
   . omega
   . rw [if_neg (by assumption),if_neg (by assumption)] at ho;omega
theorem ZbW {k:Bool} {l:Land} {p:Span}:∀ {a b:List Nat} {v t:Int},goW k l p v t (a ++ b)=(goW k l p v t a).bind λs=>goW k l p s.1 s.2 b
 | [],b,v,t=>rfl
 | i :: a,b,v,t=>by
  simp only [List.cons_append,goW];cases l.legs[i]? with
  | none=>rfl
  | some x =>
   simp only;split
   . rfl
   . split
     . rfl
     . exact ZbW
theorem Uj {k:Bool} {l:Land} {p:Span} (h:OkLP l p):∀ {a:List Nat} {v t v' t':Int},goW k l p v t a=some (v',t')->t<=100000->0<=v->v < l.wells.length->t+a.length<=t'/\t'<=100000/\0<=v'/\v' < l.wells.length
 | [],v,t,v',t',e,ht,h0,h1=>by simp only [goW,Option.some.injEq,Prod.mk.injEq] at e;simp;omega
 | i :: a,v,t,v',t',e,ht,h0,h1=>by
  simp only [goW] at e;cases hx:l.legs[i]? with
  | none=>rw [hx] at e;cases e
  | some x =>
   rw [hx] at e;simp only at e;by_cases ho:Zm x v < 0
   . rw [if_pos ho] at e;cases e
   . rw [if_neg ho] at e;by_cases hr:ZB k x p t > 100000
     . rw [if_pos hr] at e;cases e
     . rw [if_neg hr] at e;have hb:=Xf (k:=k) (h.leg hx) h.pace (show t<=100001 by omega);have ho':=Yc h hx ho;have:=Uj h e (by omega) ho'.1.1 ho'.1.2;simp only [List.length_cons];omega
def ZmZ (k:Bool) (l:Land) (p:Span) (d:Int->Int):Prop:=∀ x ∈ l.legs,d x.b<=ZB k x p (d x.a)/\d x.a<=ZB k x p (d x.b)
theorem ZeL {k:Bool} {l:Land} {p:Span} {d:Int->Int} (h:OkLP l p) (hc:ZmZ k l p d):∀ {a:List Nat} {v t v' t':Int},goW k l p v t a=some (v',t')->d v<=t->d v'<=t'
 | [],v,t,v',t',e,ht=>by simp only [goW,Option.some.injEq,Prod.mk.injEq] at e;rw [<- e.1];omega
 | i :: a,v,t,v',t',e,ht=>by
  simp only [goW] at e;cases hx:l.legs[i]? with
  | none=>rw [hx] at e;cases e
  | some x =>
   rw [hx] at e;simp only at e;by_cases ho:Zm x v < 0
   . rw [if_pos ho] at e;cases e
   . rw [if_neg ho] at e;by_cases hr:ZB k x p t > 100000
     . rw [if_pos hr] at e;cases e
     . rw [if_neg hr] at e;refine ZeL h hc e ?_;have hcx:=hc x (List.mem_of_getElem? hx);have hm:=Zby (k:=k) (h.leg hx) h.pace ht;rcases (Yc h hx ho).2.1 with ⟨q1,q2⟩ | ⟨q1,q2⟩
       . rw [q2];rw [<- q1] at hm;omega
       . rw [q2];rw [<- q1] at hm;omega
open Classical in
noncomputable def Xm (k:Bool) (l:Land) (p:Span) (s day v:Int):Int :=
 if h:∃ n:Nat,∃ a,goW k l p s day a=some (v,(n:Int)) then ((Go.Sx.least_ex _ h).choose:Int) else 100001
theorem ZbJ {k:Bool} {l:Land} {p:Span} (h:OkLP l p) {s day v t:Int} {a:List Nat} (e:goW k l p s day a=some (v,t)) (hd:0<=day) (hd':day<=100000) (h0:0<=s) (h1:s < l.wells.length):Xm k l p s day v<=t:=by
 have hb:=Uj h e hd' h0 h1;have hex:∃ n:Nat,∃ a,goW k l p s day a=some (v,(n:Int)):=⟨t.toNat,a,by rw [e,show ((t.toNat:Nat):Int)=t by omega]⟩
 unfold Xm;rw [dif_pos hex];have:=(Go.Sx.least_ex _ hex).choose_spec.2 t.toNat ⟨a,by rw [e,show ((t.toNat:Nat):Int)=t by omega]⟩;omega
theorem Zcm {k:Bool} {l:Land} {p:Span} {s day v:Int}:Xm k l p s day v=100001\/∃ a,goW k l p s day a=some (v,Xm k l p s day v):=by
 unfold Xm;by_cases hex:∃ n:Nat,∃ a,goW k l p s day a=some (v,(n:Int))
 . rw [dif_pos hex];exact .inr (Go.Sx.least_ex _ hex).choose_spec.1
 . rw [dif_neg hex];exact .inl rfl
theorem Zjr {k:Bool} {l:Land} {p:Span} (h:OkLP l p) {s day v:Int} (hd:0<=day) (hd':day<=100000) (h0:0<=s) (h1:s < l.wells.length):day<=Xm k l p s day v/\Xm k l p s day v<=100001:=by
 rcases Zcm (k:=k) (l:=l) (p:=p) (s:=s) (day:=day) (v:=v) with e | ⟨a,e⟩
 . omega
 . have:=Uj h e hd' h0 h1;omega
theorem Zbs {k:Bool} {l:Land} {p:Span} {a:List Nat} {s t v u:Int} {i:Nat} {x:Leg} (e:goW k l p s t a=some (v,u)) (hx:l.legs[i]? = some x) (ho:¬ Zm x v < 0) (hr:¬ ZB k x p u > 100000):goW k l p s t (a ++ [i])=some (Zm x v,ZB k x p u):=by
 rw [ZbW,e];simp only [Option.bind_some,goW,hx];rw [if_neg ho,if_neg hr]
theorem Zdm {k:Bool} {l:Land} {p:Span} (h:OkLP l p) {s day:Int} (hd:0<=day) (hd':day<=100000) (h0:0<=s) (h1:s < l.wells.length) {d:Int->Int} (hs:d s<=day) (hc:ZmZ k l p d) (hb:∀ v,d v<=100001)
 (hr:∀ v,d v=100001\/∃ a,goW k l p s day a=some (v,d v)) (v:Int):d v=Xm k l p s day v:=by
 have h2:Xm k l p s day v<=d v:=by
  rcases hr v with e | ⟨a,e⟩
  . have:=Zjr (k:=k) (v:=v) h hd hd' h0 h1;omega
  . exact ZbJ h e hd hd' h0 h1
 have h3:d v<=Xm k l p s day v:=by
  rcases Zcm (k:=k) (l:=l) (p:=p) (s:=s) (day:=day) (v:=v) with e | ⟨a,e⟩
  . have:=hb v;omega
  . exact ZeL h hc e hs
 omega
noncomputable def WL (k:Bool) (l:Land) (p:Span) (s day:Int):List Int:=(List.range l.wells.length).map λv:Nat=>Xm k l p s day (v:Int)
end Go.Azalai
namespace Go.Proofs.YtiigiflofnjilaaGreat
open Go Go.Sx
def c111:SC:=(sr1 [o1 2 (Jz 0 0 160),o1 3 (Jz 1 0 3),o1 4 (.mv (.c (.nilFunc)))] (sr1 [o1 5 (.mkf 153 [.t 2,.t 3]),m1 4 5] .ret))
def r111:List RV:=[.tmp 4]
theorem n111:Tryz.f111.ntmps=6:=by kernel_rfl
theorem b111:YO Tryz.prog 111=true:=by kernel_rfl
theorem ZuI:XM Tryz.prog c111 ((Tryz.f111.body).getD .skip)=true:=by kernel_rfl
theorem Zyw:Wu Tryz.prog r111 Tryz.f111.results.toList=true:=by kernel_rfl
theorem m111 {n0:Nat} {hp0:List (Nat × HB)} {args:List SV} {Z8:Ot->Prop} (hh:hpb n0 hp0) (hx:∀ o,Z8 o->KX o.res/\KXP o.hp) (h:sx Tryz.prog Y0 n0 c111 ⟨X8 0 args,hp0,n0,6,[]⟩ (Zbm r111 λo=>∃ o',Z8 o'/\ZcU n0 o o')) (hA:Nat.ble args.length 6=true:=by rfl):CtM Tryz.prog 111 hp0 n0 args Z8:=YN Tryz.func111 rfl b111 ZuI Zyw n111 (Nat.le_of_ble_eq_true hA) hh hx h
def ZAt:SC:=(sr1 [o1 6 (ao 1 0),o1 7 (ao 6 1),o1 8 (lf 7 1),o1 9 (Jl 8),Jk 10 0] (.block 0 (.loop (sr1 [o1 11 (Jb .lss 10 9)] (.seq (Ji 11 .skip (.exit 0)) (.seq (.block 1 (sr1 [m1 12 10,o1 13 (Jx 8 10 5),o1 14 (lt 13 5),o1 5 (.alloc zv8 83),m1 4
 12,Js 5 14 5] (sr1 [o1 15 (lf 2 1)] (.block 2 (sr1 [o1 17 (ao 5 0),o1 18 (lf 17 1),o1 19 (Jb .eql 15 18),m1 16 19] (Ji 16 (sr1 [m1 20 0,m1 21 4,o1 22 (ao 5 1),o1 23 (lf 22 1),o1 24 (.calvm (.t 20) [.t 21,.t 23]),o1 25 (Jh 24)] (Ji 25 .ret .skip))
 (sr1 [o1 27 (ao 5 1),o1 28 (lf 27 1),o1 29 (Jb .eql 15 28),m1 26 29] (Ji 26 (sr1 [m1 30 0,m1 31 4,o1 32 (ao 5 0),o1 33 (lf 32 1),o1 34 (.calvm (.t 30) [.t 31,.t 33]),o1 35 (Jh 34)] (Ji 35 .ret .skip)) .skip)))))))) (.reg [o1 36 (Jc .add 10 1),m1 10
 36])))))))
def Zz4:List RV:=[]
theorem n153:Tryz.f153.ntmps=37:=by kernel_rfl
theorem b153:YO Tryz.prog 153=true:=by kernel_rfl
theorem Zyq:XM Tryz.prog ZAt ((Tryz.f153.body).getD .skip)=true:=by kernel_rfl
theorem Zt7:Wu Tryz.prog Zz4 Tryz.f153.results.toList=true:=by kernel_rfl
theorem y153 {Y:Hd} {n0:Nat} {hp0:List (Nat × HB)} {args:List SV} {Z8:Ot->Prop} (h:sx Tryz.prog Y n0 ZAt ⟨X8 0 args,hp0,n0,37,[]⟩ (Zbm Zz4 Z8)) (hA:Nat.ble args.length 37=true:=by rfl):CtY Tryz.prog Y 153 hp0 n0 args Z8:=Zb6 Tryz.func153 rfl Zyq Zt7 n153 (Nat.le_of_ble_eq_true hA) h
def c77:SC:=(sr1 [o1 3 (Jz 0 0 160),o1 4 (Jz 1 0 3),o1 6 (.alloc [.int .i64 0] 3)] (.seq (sr1 [o1 9 (lt 3 4),m1 10 2,o1 11 (.callm 111 [.t 9,.t 10])] (.block 0 (.gh (.rfun (.t 11) [12,13] (sr1 [m1 7 12] (.reg [m1 8 13])) (.block 1 (sr1 [m1 14 7,o1 15
 (lf 4 1),o1 16 (Jb .eql 14 15)] (Ji 16 (sr1 [m1 17 8,Js 6 17 1] .ret) .skip))))))) (sr1 [⟨none,.st (.t 6) (cn (-1)) 1,none,[]⟩] .ret)))
def r77:List RV:=[.cell 6 1 false]
theorem t77:Qt1 Tryz.prog 77 c77 r77 18:=Z0 Tryz.func77
def c79:SC:=(sr1 [o1 3 (Jz 0 0 160),o1 5 (Jz 2 0 165),o1 6 (.alloc zv0 165)] (.seq (.regd (Jr 11) [Jo 10 (lt 3 4),Jm 11 1,Jo 12 (lt 5 2),Jp 13 (J3 78 10 11 12) [0,1,2],Jo 14 (lt 3 4),Jm 15 1,Jp 16 (J2 82 14 15) [3,4,5]] 2 2 [o1 7 (.alloc zv0 165),o1 8
 (.alloc zv0 165),Ju 7 13 2 [0,1,2,3,6,7,8],Ju 8 16 2 (Jr 10)]) (.seq (sr1 [Jk 17 0] (.block 0 (.loop (sr1 [o1 18 (Jc .lss 17 2)] (.seq (Ji 18 .skip (.exit 0)) (.seq (.block 1 (sr1 [m1 19 17,m1 9 19] (.regd (Jr 12) [Jm 20 9,Jm 21 9,Jp 22 (.ixa (.t 7)
 (.t 21) 2 1) [1],Jp 23 (lf 22 1) [2],Jm 24 9,Jp 25 (.ixa (.t 8) (.t 24) 2 1) [4],Jp 26 (lf 25 1) [5],Jp 27 (Jb .add 23 26) [3,6],Jp 28 (.bsl 1 3 [.t 27]) [7],Jp 29 (J1 122 28) [8],Jp 30 (.ixa (.t 7) (.t 20) 2 1) (Jr 10)] 0 1 [Ju 30 29 1 (Jr 11)])))
 (.reg [o1 31 (Jc .add 17 1),m1 17 31]))))))) (sr1 [o1 32 (lt 7 2),Js 6 32 2] .ret))))
def r79:List RV:=[.cell 6 2 true]
theorem t79:Qt1 Tryz.prog 79 c79 r79 33:=Z0 Tryz.func79
def c97:SC:=(sr1 [o1 4 (Jz 0 0 160),o1 7 (Jz 3 0 3),o1 8 (.mv (.c (.slice none 0 0)))] (sr1 [o1 16 (.bsl 1 3 [cn 100001]),o1 17 (ao 4 0),o1 18 (ao 17 0),o1 19 (lf 18 1),o1 20 (Jl 19),o1 21 (.callm 140 [.t 16,.t 20]),o1 9 (.alloc [.slice none 0 0]
 35),Js 9 21 1] (sr1 [o1 22 (lf 9 1),m1 23 1,m1 24 2,o1 25 (Jx 22 23 1),Js 25 24 1] (sr1 [o1 26 (.raw (Go.Op.makeMap 189 Option.none) 189),m1 10 26] (.seq (sr1 [o1 27 (lf 9 1),o1 28 (Jl 27),Jk 29 0] (.block 0 (.loop (sr1 [o1 30 (Jb .lss 29 28)] (.seq
 (Ji 30 .skip (.exit 0)) (.seq (.block 1 (sr1 [m1 31 29,m1 11 31] (.reg [m1 32 10,m1 33 11,⟨none,.raw (Go.Op.mapUpdate 189 (Go.Operand.tmp 32) (Go.Operand.tmp 33) (Go.Operand.const (Go.Value.bool Bool.true))) 0,none,[]⟩]))) (.reg [o1 34 (Jc .add 29
 1),m1 29 34]))))))) (.seq (.block 2 (.loop (.seq (sr1 [m1 35 10,o1 36 (.raw (Go.Op.call { callee:=(Go.Callee.builtin Go.Builtin.len),args:=#[(Go.Operand.tmp 35)],argTypes:=#[189] }) 3),o1 37 (Jc .gtr 36 0)] (Ji 37 .skip (.exit 2))) (.block 3 (sr1 [o1
 12 (.alloc [.int .i64 0] 3),⟨none,.st (.t 12) (cn (-1)) 1,none,[]⟩] (.seq (sr1 [m1 38 10,o1 39 (.raw (Go.Op.range 189 (Go.Operand.tmp 38)) 0)] (.block 4 (.loop (sr1 [o1 40 (.raw (Go.Op.next (Go.Operand.tmp 39) Bool.false) 0),o1 41 (Je 40 0)] (.seq
 (Ji 41 .skip (.exit 4)) (.block 5 (sr1 [o1 42 (.raw (Go.Op.entry (Go.Operand.tmp 39)) 0),o1 43 (Je 42 0),m1 13 43] (.seq (.regd (Jr 29) [Jo 44 (lf 12 1),Jp 45 (Jc .lss 44 0) [0],Jp 46 (.mv (.t 45)) [1],Jq 47 46 false (lf 9 1) [2],Jq 48 46 false (.mv
 (.t 13)) [2],Jq 49 46 false (Jx 47 48 1) [2,3,4],Jq 50 46 false (lf 49 1) [2,5],Jq 51 46 false (lf 9 1) [2],Jq 52 46 false (lf 12 1) [2],Jq 53 46 false (Jx 51 52 1) [2,7,8],Jq 54 46 false (lf 53 1) [2,9],Jq 55 46 false (Jb .lss 50 54) [2,6,10],Jp 56
 (.pick (.t 46) Jt (.t 55)) [2,11],Jp 57 (.mv (.t 56)) [2,12],Jq 58 57 false (lf 9 1) [13],Jq 59 57 false (.mv (.t 13)) [13],Jq 60 57 false (Jx 58 59 1) [13,14,15],Jq 61 57 false (lf 60 1) [13,16],Jq 62 57 false (lf 9 1) [13],Jq 63 57 false (lf 12 1)
 [13],Jq 64 57 false (Jx 62 63 1) [13,18,19],Jq 65 57 false (lf 64 1) [13,20],Jq 66 57 false (Jb .eql 61 65) [13,17,21],Jq 67 57 false (.mv (.t 66)) [13,22],Jq 68 67 true (.mv (.t 13)) [23],Jq 69 67 true (lf 12 1) [23],Jq 70 67 true (Jb .lss 68 69)
 [23,24,25],Jq 71 57 false (.pick (.t 67) (.t 70) Jf) [13,23,26],Jp 72 (.pick (.t 57) Jt (.t 71)) [13,27]] 0 0 []) (Ji 72 (.reg [m1 73 13,Js 12 73 1]) .skip))))))))) (sr1 [m1 74 10,o1 75 (lf 12 1),⟨none,.raw (Go.Op.call { callee:=(Go.Callee.builtin Go.Builtin.delete),args:=#[(Go.Operand.tmp 74),(Go.Operand.tmp 75)],argTypes:=#[189,3] })
 0,none,[]⟩] (sr1 [o1 76 (lt 4 4),o1 77 (lf 12 1),o1 78 (.callm 111 [.t 76,.t 77])] (.block 6 (.gh (.rfun (.t 78) [79,80] (sr1 [m1 14 79] (.reg [m1 15 80])) (.block 7 (.regd (Jr 23) [Jo 81 (lf 9 1),Jm 82 15,Jo 83 (lf 9 1),Jm 84 15,Jp 85 (Jx 83 84 1)
 [2,3],Jp 86 (lf 85 1) [4],Jo 87 (lt 4 4),Jm 88 14,Jo 89 (lf 9 1),Jo 90 (lf 12 1),Jp 91 (Jx 89 90 1) [8,9],Jp 92 (lf 91 1) [10],Jo 93 (lf 9 1),Jo 94 (lf 12 1),Jp 95 (Jx 93 94 1) [12,13],Jp 96 (lf 95 1) [14],Jp 97 (.build zv0 [(0,1,.t 92),(1,1,.t 96)])
 [11,15],Jp 98 (J3 79 87 88 97) [6,7,16],Jo 99 (lf 7 1),Jp 100 (.idx (.t 98) (.t 99) 2 1 false) [17,18],Jp 101 (.mm false [.t 86,.t 100]) [5,19],Jp 102 (Jx 81 82 1) (Jr 21)] 0 1 [Ju 102 101 1 (Jr 22)]))))))))))))) (sr1 [o1 103 (lf 9 1),m1 8 103]
 .ret)))))))
def r97:List RV:=[.tmp 8]
theorem t97:Qt1 Tryz.prog 97 c97 r97 104:=Z0 Tryz.func97
def c52:SC:=(sr1 [o1 4 (Jz 0 0 25),o1 7 (Jz 3 0 27),o1 8 (.mv (.c (.slice none 0 0))),Jk 9 0] (sr1 [o1 17 (lt 4 2),o1 18 (lt 7 2),o1 19 (J2 75 17 18),m1 16 19,o1 20 (Je 16 0),o1 21 (Je 16 1),o1 10 (.alloc ZqU 160),Js 10 20 4,m1 11 21] (.seq (.block 0
 (sr1 [m1 23 11,o1 24 (Jc .neq 23 0),m1 22 24] (Ji 22 (sr1 [m1 25 11,o1 8 (.mv (.c (.slice none 0 0))),m1 9 25] .ret) (sr1 [o1 27 (ao 4 0),o1 28 (lf 27 1),o1 29 (Jl 28),o1 30 (Jc .sub 29 1),m1 31 1,o1 32 (.bsl 1 3 [.t 31]),o1 33 (.call 76 [cn 0,.t
 30,.t 32]),o1 34 (Jh 33),m1 35 34,g1 36 35 false (.mv (.t 2)),g1 37 35 false (.bsl 1 3 [.t 36]),g1 38 35 false (.call 76 [cn 0,cn 100000,.t 37]),g1 39 35 false (Jh 38),o1 40 (.pick (.t 35) Jt (.t 39)),m1 26 40] (Ji 26 (sr1 [o1 8 (.mv (.c (.slice none
 0 0))),Jk 9 2] .ret) .skip))))) (sr1 [o1 12 (.mv (.c (.slice none 0 0)))] (sr1 [o1 41 (lt 10 4),m1 42 1,m1 43 2,o1 44 (.call 97 [.t 41,.t 42,.t 43,cn 1]),m1 13 44] (.seq (sr1 [o1 45 (lt 10 4),m1 46 1,m1 47 2,o1 48 (.call 97 [.t 45,.t 46,.t 47,cn
 0]),o1 49 (Jl 48),Jk 50 0] (.block 1 (.loop (sr1 [o1 51 (Jb .lss 50 49)] (.seq (Ji 51 .skip (.exit 1)) (.seq (.block 2 (sr1 [m1 52 50,o1 53 (Jx 48 50 1),o1 54 (lf 53 1),m1 14 52,m1 15 54] (.reg [m1 55 12,m1 56 15,m1 57 13,m1 58 14,o1 59 (Jx 57 58
 1),o1 60 (lf 59 1),o1 61 (.build zv0 [(0,1,.t 56),(1,1,.t 60)]),o1 62 (.bsl 2 27 [.t 61]),o1 63 (.appm 2 16 27 (.t 55) (.t 62)),m1 12 63]))) (.reg [o1 64 (Jc .add 50 1),m1 50 64]))))))) (sr1 [m1 65 12,m1 8 65,Jk 9 0] .ret)))))))
def r52:List RV:=[.tmp 8,.tmp 9]
theorem t52:Qt1 Tryz.prog 52 c52 r52 66:=Z0 Tryz.func52
def c36:SC:=(sr1 [o1 5 (Jz 0 0 25),o1 8 (Jz 3 0 27),o1 10 (.mv (.c (.slice none 0 0))),Jk 11 0,Jk 12 0] (sr1 [o1 23 (lt 5 2),o1 24 (lt 8 2),o1 25 (J2 75 23 24),m1 22 25,o1 26 (Je 22 0),o1 27 (Je 22 1),o1 13 (.alloc ZqU 160),Js 13 26 4,m1 12 27] (.seq
 (.block 0 (sr1 [m1 29 12,o1 30 (Jc .neq 29 0),m1 28 30] (Ji 28 (sr1 [m1 31 12,o1 10 (.mv (.c (.slice none 0 0))),Jk 11 0,m1 12 31] .ret) (sr1 [o1 33 (ao 5 0),o1 34 (lf 33 1),o1 35 (Jl 34),o1 36 (Jc .sub 35 1),m1 37 1,o1 38 (.bsl 1 3 [.t 37]),o1 39
 (.call 76 [cn 0,.t 36,.t 38]),o1 40 (Jh 39),m1 41 40,g1 42 41 false (.mv (.t 2)),g1 43 41 false (.bsl 1 3 [.t 42]),g1 44 41 false (.call 76 [cn 0,cn 100000,.t 43]),g1 45 41 false (Jh 44),o1 46 (.pick (.t 41) Jt (.t 45)),m1 32 46] (Ji 32 (sr1 [o1 10
 (.mv (.c (.slice none 0 0))),Jk 11 0,Jk 12 2] .ret) (sr1 [m1 48 4,o1 49 (Jl 48),o1 50 (Jc .gtr 49 24),m1 47 50] (Ji 47 (sr1 [o1 10 (.mv (.c (.slice none 0 0))),Jk 11 0,Jk 12 4] .ret) .skip))))))) (sr1 [o1 14 (.mv (.c (.slice none 0 0)))] (sr1 [m1 51
 1,m1 15 51] (.seq (sr1 [m1 52 4,o1 53 (Jl 52),Jk 54 0] (.block 1 (.loop (sr1 [o1 55 (Jb .lss 54 53)] (.seq (Ji 55 .skip (.exit 1)) (.seq (.block 2 (sr1 [m1 56 54,o1 57 (Jx 52 54 1),o1 58 (lf 57 1),m1 16 56,m1 17 58] (.seq (sr1 [o1 59 (lt 13 4),m1 60
 17,m1 61 15,o1 62 (J3 77 59 60 61),m1 15 62] (sr1 [m1 63 15,o1 64 (Jc .lss 63 0)] (Ji 64 (sr1 [m1 65 16,o1 10 (.mv (.c (.slice none 0 0))),m1 11 65,Jk 12 8] .ret) .skip))) (.reg [m1 66 14,m1 67 15,o1 68 (.bsl 1 3 [.t 67]),o1 69 (.appm 1 8 3 (.t 66)
 (.t 68)),m1 14 69])))) (.reg [o1 70 (Jc .add 54 1),m1 54 70]))))))) (sr1 [m1 71 2,m1 72 2,o1 73 (.build zv0 [(0,1,.t 71),(1,1,.t 72)]),o1 18 (.alloc zv0 165),Js 18 73 2] (.seq (sr1 [m1 74 4,o1 75 (Jl 74),Jk 76 0] (.block 3 (.loop (sr1 [o1 77 (Jb .lss
 76 75)] (.seq (Ji 77 .skip (.exit 3)) (.seq (.block 4 (sr1 [m1 78 76,o1 79 (Jx 74 76 1),o1 80 (lf 79 1),m1 19 78,m1 20 80] (sr1 [o1 81 (lt 13 4),m1 82 20,o1 83 (lt 18 2),o1 84 (J3 78 81 82 83),o1 21 (.alloc zv0 165),Js 21 84 2] (.seq (sr1 [o1 85 (lt
 13 4),m1 86 20,o1 87 (lt 18 2),o1 88 (J3 79 85 86 87),Js 18 88 2] (sr1 [o1 89 (.ixa (.t 18) (cn 1) 2 1),o1 90 (lf 89 1),o1 91 (Jc .gtr 90 100000)] (Ji 91 (sr1 [m1 92 19,o1 10 (.mv (.c (.slice none 0 0))),m1 11 92,Jk 12 34] .ret) .skip))) (.regs (Jr
 14) ⟨[Jm 93 10,Jm 94 20,Jm 95 14,Jm 96 19,Jp 97 (Jx 95 96 1) [2,3],Jp 98 (lf 97 1) [4],Jo 99 (lt 21 2),Jp 100 (J1 80 99) [6],Jo 101 (lt 18 2),Jp 102 (J1 80 101) [7,8],Jp 103 (.build Zu5 [(0,1,.t 94),(1,1,.t 98),(2,2,.t 100),(4,2,.t 102)])
 [1,5,7,9],Jp 104 (.bsl 6 94 [.t 103]) [10]],0,1,[⟨some 105,.appm 6 48 94 (.t 93) (.t 104),none,[0,9,11]⟩]⟩ [⟨[],0,1,[⟨some 10,.mv (.t 105),none,(Jr 13)⟩]⟩]))))) (.reg [o1 106 (Jc .add 76 1),m1 76 106]))))))) (sr1 [m1 107 10,m1 10 107,Jk 11 0,Jk 12 0]
 .ret)))))))))
def r36:List RV:=[.tmp 10,.tmp 11,.tmp 12]
theorem t36:Qt1 Tryz.prog 36 c36 r36 108:=Z0 Tryz.func36
def c112:SC:=(sr1 [o1 4 (.mv (.c (.slice none 0 0)))] (sr1 [m1 5 0,o1 6 (J1 110 5),o1 7 (J1 154 6),m1 8 1,o1 9 (.bsl 1 3 [.t 8]),o1 10 (.app 1 8 3 (.t 7) (.t 9)),m1 4 10] .ret))
def r112:List RV:=[.tmp 4]
theorem t112:Qt1 Tryz.prog 112 c112 r112 11:=Z0 Tryz.func112
def c110:SC:=(sr1 [o1 2 (.mv (.c (.slice none 0 0)))] (.seq (sr1 [m1 3 0,o1 4 (.isn (.t 3))] (Ji 4 (sr1 [o1 2 (.mv (.c (.slice none 0 0)))] .ret) .skip)) (sr1 [o1 5 (.bsl 1 3 []),m1 6 0,o1 7 (.app 1 8 3 (.t 5) (.t 6)),m1 2 7] .ret)))
def r110:List RV:=[.tmp 2]
theorem n110:Tryz.f110.ntmps=8:=by kernel_rfl
theorem b110:YO Tryz.prog 110=true:=by kernel_rfl
theorem ZxB:XM Tryz.prog c110 ((Tryz.f110.body).getD .skip)=true:=by kernel_rfl
theorem Zt6:Wu Tryz.prog r110 Tryz.f110.results.toList=true:=by kernel_rfl
def c154:SC:=(sr1 [o1 2 (.mv (.c (.slice none 0 0)))] (sr1 [m1 3 0,m1 4 0,o1 5 (Jl 4),m1 6 0,o1 7 (Jl 6),o1 8 (.slc (.t 3) (.t 5) (.t 7)),m1 2 8] .ret))
def r154:List RV:=[.tmp 2]
theorem t154:Qt1 Tryz.prog 154 c154 r154 9:=Z0 Tryz.func154
def c114:SC:=(sr1 [Jk 4 0] (.seq (sr1 [m1 9 0,o1 10 (Jl 9),Jk 11 0] (.block 0 (.loop (sr1 [o1 12 (Jb .lss 11 10)] (.seq (Ji 12 .skip (.exit 0)) (.seq (.block 1 (sr1 [m1 13 11,o1 14 (Jx 9 11 1),o1 15 (lf 14 1),m1 5 13,m1 6 15] (.seq (sr1 [m1 16 5,m1 17
 1,o1 18 (Jl 17),o1 19 (Jb .geq 16 18)] (Ji 19 (sr1 [Jk 4 1] .ret) .skip)) (sr1 [m1 20 1,m1 21 5,o1 22 (Jx 20 21 1),o1 23 (lf 22 1),m1 7 23] (sr1 [m1 24 6,m1 25 7,o1 26 (J2 157 24 25),m1 8 26] (sr1 [m1 27 8,o1 28 (Jc .neq 27 0)] (Ji 28 (sr1 [m1 29
 8,m1 4 29] .ret) .skip))))))) (.reg [o1 30 (Jc .add 11 1),m1 11 30]))))))) (.seq (sr1 [m1 31 0,o1 32 (Jl 31),m1 33 1,o1 34 (Jl 33),o1 35 (Jb .lss 32 34)] (Ji 35 (sr1 [o1 4 (.mv (cn (-1)))] .ret) .skip)) (sr1 [Jk 4 0] .ret))))
def r114:List RV:=[.tmp 4]
theorem t114:Qt1 Tryz.prog 114 c114 r114 36:=Z0 Tryz.func114
def c157:SC:=(sr1 [Jk 4 0] (sr1 [m1 7 0,o1 8 (J1 171 7),m1 5 8] (sr1 [m1 9 1,o1 10 (J1 171 9),m1 6 10] (.seq (sr1 [m1 11 5] (Ji 11 (.seq (sr1 [m1 12 6] (Ji 12 (sr1 [Jk 4 0] .ret) .skip)) (sr1 [o1 4 (.mv (cn (-1)))] .ret)) .skip)) (.seq (sr1 [m1 13 6]
 (Ji 13 (sr1 [Jk 4 1] .ret) .skip)) (.seq (sr1 [m1 14 0,m1 15 1,o1 16 (Jb .lss 14 15)] (Ji 16 (sr1 [o1 4 (.mv (cn (-1)))] .ret) .skip)) (.seq (sr1 [m1 17 0,m1 18 1,o1 19 (Jb .gtr 17 18)] (Ji 19 (sr1 [Jk 4 1] .ret) .skip)) (sr1 [Jk 4 0] .ret))))))))
def r157:List RV:=[.tmp 4]
theorem t157:Qt1 Tryz.prog 157 c157 r157 20:=Z0 Tryz.func157
def c171:SC:=(sr1 [Jw 2 Jf] (sr1 [m1 3 0,m1 4 0,o1 5 (Jb .neq 3 4),m1 2 5] .ret))
def r171:List RV:=[.tmp 2]
theorem t171:Qt1 Tryz.prog 171 c171 r171 6:=Z0 Tryz.func171
def c140:SC:=(sr1 [o1 4 (.mv (.c (.slice none 0 0)))] (.seq (sr1 [m1 9 1,o1 10 (Jc .lss 9 0)] (Ji 10 (.reg [o1 11 (.raw (Go.Op.makeInterface 9 (Go.Operand.const (Go.Value.string { data:=#[99,97,110,110,111,116,32,98,101,32,110,101,103,97,116,105,118,101] })))
 20),⟨none,.raw (Go.Op.panic (Go.Operand.tmp 11)) 0,none,[]⟩]) .skip)) (sr1 [m1 13 0,o1 14 (Jl 13),o1 15 (.conv .u64 (.t 14)),m1 16 1,o1 17 (.conv .u64 (.t 16)),o1 18 (J2 167 15 17),m1 12 18,o1 19 (Je 12 0),o1 20 (Je 12 1),m1 5 19,m1 6 20] (.seq (sr1
 [m1 21 5,o1 22 (.bin .gtr (.t 21) (.c (.int .u64 0))),m1 23 22,g1 24 23 false (.mv (.t 6)),g1 25 23 false (.bin .gtr (.t 24) (.c (.int .u64 9223372036854775807))),o1 26 (.pick (.t 23) Jt (.t 25))] (Ji 26 (.reg [o1 27 (.raw (Go.Op.makeInterface 9
 (Go.Operand.const (Go.Value.string { data:=#[116,104,101,32,114,101,115,117,108,116,32,111,102,32,40,108,101,110,40,120,41,32,42,32,99,111,117,110,116,41,32,111,118,101,114,102,108,111,119,115] }))) 20),⟨none,.raw (Go.Op.panic (Go.Operand.tmp 27))
 0,none,[]⟩]) .skip)) (sr1 [m1 28 6,o1 29 (.conv .i64 (.t 28)),o1 30 (.mks 1 8 [.int .i64 0] 3 (.t 29)),m1 7 30] (sr1 [m1 31 7,m1 32 0,o1 33 (.cpy 1 (.t 31) (.t 32)),m1 8 33] (.seq (.block 0 (.loop (.seq (sr1 [m1 34 8,m1 35 7,o1 36 (Jl 35),o1 37 (Jb
 .lss 34 36)] (Ji 37 .skip (.exit 0))) (.block 1 (.regd [1,2,3,4,5,6,0,7,8,9] [Jm 39 7,Jm 40 8,Jp 41 (.sub 1 (.t 39) (some (.t 40)) none) [1,2],Jm 42 7,Jm 43 8,Jp 44 (.sub 1 (.t 42) none (some (.t 43))) [4,5],.hide (.t 41),Jm 38 8] 0 1 [⟨some 45,.cpy
 1 (.t 41) (.t 44),none,[3,6]⟩,⟨some 46,Jb .add 38 45,none,[0,7]⟩,⟨some 8,.mv (.t 46),none,(Jr 9)⟩]))))) (sr1 [m1 47 7,m1 4 47] .ret))))))))
def r140:List RV:=[.tmp 4]
theorem n140:Tryz.f140.ntmps=48:=by kernel_rfl
theorem b140:YO Tryz.prog 140=true:=by kernel_rfl
theorem Zux:XM Tryz.prog c140 ((Tryz.f140.body).getD .skip)=true:=by kernel_rfl
theorem ZtM:Wu Tryz.prog r140 Tryz.f140.results.toList=true:=by kernel_rfl
theorem m140 {n0:Nat} {hp0:List (Nat × HB)} {args:List SV} {Z8:Ot->Prop} (hh:hpb n0 hp0) (hx:∀ o,Z8 o->KX o.res/\KXP o.hp) (h:sx Tryz.prog Y0 n0 c140 ⟨X8 0 args,hp0,n0,48,[]⟩ (Zbm r140 λo=>∃ o',Z8 o'/\ZcU n0 o o')) (hA:Nat.ble args.length 48=true:=by rfl):CtM Tryz.prog 140 hp0 n0 args Z8:=YN Tryz.func140 rfl b140 Zux ZtM n140 (Nat.le_of_ble_eq_true hA) hh hx h
def c167:SC:=(sr1 [o1 4 (.mv (.c (.int .u64 0))),o1 5 (.mv (.c (.int .u64 0)))] (.seq (.cond Jf (sr1 [m1 11 0,o1 12 (.conv .u32 (.t 11)),m1 13 1,o1 14 (.conv .u32 (.t 13)),o1 15 (J2 173 12 14),m1 10 15,o1 16 (Je 10 0),o1 17 (Je 10 1),m1 6 16,m1 7 17]
 (sr1 [m1 18 6,o1 19 (.conv .u64 (.t 18)),m1 20 7,o1 21 (.conv .u64 (.t 20)),m1 4 19,m1 5 21] .ret)) .skip) (sr1 [m1 23 0,m1 24 1,o1 25 (J2 174 23 24),m1 22 25,o1 26 (Je 22 0),o1 27 (Je 22 1),m1 8 26,m1 9 27] (sr1 [m1 28 8,m1 29 9,m1 4 28,m1 5 29]
 .ret))))
def r167:List RV:=[.tmp 4,.tmp 5]
theorem t167:Qt1 Tryz.prog 167 c167 r167 30:=Z0 Tryz.func167
def c174:SC:=(sr1 [o1 4 (.mv (.c (.int .u64 0))),o1 5 (.mv (.c (.int .u64 0)))] (sr1 [m1 14 0,o1 15 (.raw (Go.Op.binOp Go.BinOp.and 257 (Go.Operand.tmp 14) (Go.Operand.const (Go.Value.int Go.IntKind.u64 4294967295)) 257) 257),m1 6 15] (sr1 [m1 16 0,o1
 17 (.raw (Go.Op.binOp Go.BinOp.shr 257 (Go.Operand.tmp 16) (Go.Operand.const (Go.Value.int Go.IntKind.u64 32)) 247) 257),m1 7 17] (sr1 [m1 18 1,o1 19 (.raw (Go.Op.binOp Go.BinOp.and 257 (Go.Operand.tmp 18) (Go.Operand.const (Go.Value.int
 Go.IntKind.u64 4294967295)) 257) 257),m1 8 19] (sr1 [m1 20 1,o1 21 (.raw (Go.Op.binOp Go.BinOp.shr 257 (Go.Operand.tmp 20) (Go.Operand.const (Go.Value.int Go.IntKind.u64 32)) 247) 257),m1 9 21] (sr1 [m1 22 6,m1 23 8,o1 24 (Jb .mul 22 23),m1 10 24]
 (sr1 [m1 25 7,m1 26 8,o1 27 (Jb .mul 25 26),m1 28 10,o1 29 (.raw (Go.Op.binOp Go.BinOp.shr 257 (Go.Operand.tmp 28) (Go.Operand.const (Go.Value.int Go.IntKind.u64 32)) 247) 257),o1 30 (Jb .add 27 29),m1 11 30] (sr1 [m1 31 11,o1 32 (.raw (Go.Op.binOp
 Go.BinOp.and 257 (Go.Operand.tmp 31) (Go.Operand.const (Go.Value.int Go.IntKind.u64 4294967295)) 257) 257),m1 12 32] (sr1 [m1 33 11,o1 34 (.raw (Go.Op.binOp Go.BinOp.shr 257 (Go.Operand.tmp 33) (Go.Operand.const (Go.Value.int Go.IntKind.u64 32)) 247)
 257),m1 13 34] (sr1 [m1 35 12,m1 36 6,m1 37 9,o1 38 (Jb .mul 36 37),o1 39 (Jb .add 35 38),m1 12 39] (sr1 [m1 40 7,m1 41 9,o1 42 (Jb .mul 40 41),m1 43 13,o1 44 (Jb .add 42 43),m1 45 12,o1 46 (.raw (Go.Op.binOp Go.BinOp.shr 257 (Go.Operand.tmp 45)
 (Go.Operand.const (Go.Value.int Go.IntKind.u64 32)) 247) 257),o1 47 (Jb .add 44 46),m1 4 47] (sr1 [m1 48 0,m1 49 1,o1 50 (Jb .mul 48 49),m1 5 50] .ret))))))))))))
def r174:List RV:=[.tmp 4,.tmp 5]
theorem t174:Qt1 Tryz.prog 174 c174 r174 51:=Z0 Tryz.func174
def c118:SC:=(sr1 [o1 3 (Jz 0 0 83),o1 4 (Jz 1 0 27),o1 5 (Jz 2 0 27),o1 6 (.alloc zv0 27)] (sr1 [o1 10 (.build zv0 [(0,1,.c (.int .i64 100001)),(1,1,.c (.int .i64 100001))]),o1 7 (.alloc zv0 27),Js 7 10 2] (.seq (sr1 [o1 11 (lt 3 5),o1 12 (ao 4 0),o1
 13 (lf 12 1),o1 14 (lt 5 2),o1 15 (J3 145 11 13 14),m1 8 15] (sr1 [m1 16 8,o1 17 (Jc .lss 16 100001)] (Ji 17 (.reg [m1 18 8,o1 19 (lt 3 5),o1 20 (lt 5 2),o1 21 (J2 149 19 20),o1 22 (.fld (.t 21) 0 1 false),o1 23 (Jb .add 18 22),o1 24 (.mm false [cn
 100001,.t 23]),o1 25 (ao 7 0),Js 25 24 1]) .skip))) (.seq (sr1 [o1 26 (lt 3 5),o1 27 (ao 4 1),o1 28 (lf 27 1),o1 29 (lt 5 2),o1 30 (J3 146 26 28 29),m1 9 30] (sr1 [m1 31 9,o1 32 (Jc .lss 31 100001)] (Ji 32 (.reg [m1 33 9,o1 34 (lt 3 5),o1 35 (lt 5
 2),o1 36 (J2 149 34 35),o1 37 (.fld (.t 36) 1 1 false),o1 38 (Jb .add 33 37),o1 39 (.mm false [cn 100001,.t 38]),o1 40 (ao 7 1),Js 40 39 1]) .skip))) (sr1 [o1 41 (lt 7 2),Js 6 41 2] .ret)))))
def r118:List RV:=[.cell 6 2 true]
theorem t118:Qt1 Tryz.prog 118 c118 r118 42:=Z0 Tryz.func118
def c72:SC:=(sr1 [o1 4 (Jz 0 0 25),o1 7 (Jz 3 0 27),o1 8 (.mv (.c (.slice none 0 0))),Jk 9 0] (.seq (sr1 [o1 20 (lt 4 2),o1 21 (lt 7 2),o1 22 (J2 115 20 21),m1 10 22] (sr1 [m1 23 10,o1 24 (Jc .neq 23 0)] (Ji 24 (sr1 [m1 25 10,o1 8 (.mv (.c (.slice
 none 0 0))),m1 9 25] .ret) .skip))) (.seq (sr1 [m1 26 1,o1 27 (ao 4 0),o1 28 (lf 27 1),o1 29 (Jl 28),o1 30 (Jc .sub 29 1),o1 31 (.call 88 [.t 26,cn 0,.t 30]),o1 32 (Jh 31),m1 33 32,g1 34 33 false (.mv (.t 2)),g1 35 33 false (.call 88 [.t 34,cn 0,cn
 100000]),g1 36 33 false (Jh 35),o1 37 (.pick (.t 33) Jt (.t 36))] (Ji 37 (sr1 [o1 8 (.mv (.c (.slice none 0 0))),Jk 9 2] .ret) .skip)) (sr1 [o1 11 (.mv (.c (.slice none 0 0)))] (.seq (sr1 [Jk 12 0] (.block 0 (.loop (.seq (sr1 [m1 38 12,o1 39 (ao 4
 0),o1 40 (lf 39 1),o1 41 (Jl 40),o1 42 (Jb .lss 38 41)] (Ji 42 .skip (.exit 0))) (.seq (.block 1 (.reg [m1 45 11,o1 46 (.build zv0 [(0,1,.c (.int .i64 100001)),(1,1,.c (.int .i64 100001))]),o1 47 (.bsl 2 27 [.t 46]),o1 48 (.appm 2 16 27 (.t 45) (.t
 47)),m1 11 48])) (.reg [m1 43 12,o1 44 (Jc .add 43 1),m1 12 44])))))) (sr1 [m1 49 11,m1 50 1,m1 51 2,m1 52 2,o1 53 (.build zv0 [(0,1,.t 51),(1,1,.t 52)]),o1 54 (Jx 49 50 2),Js 54 53 2] (.seq (sr1 [Jw 13 Jt] (.block 2 (.loop (.seq (sr1 [m1 55 13] (Ji
 55 .skip (.exit 2))) (.block 3 (sr1 [Jw 13 Jf] (sr1 [Jk 14 0] (.block 4 (.loop (.seq (sr1 [m1 56 14,o1 57 (ao 4 1),o1 58 (lf 57 1),o1 59 (Jl 58),o1 60 (Jb .lss 56 59)] (Ji 60 .skip (.exit 4))) (.seq (.block 5 (sr1 [o1 63 (ao 4 1),o1 64 (lf 63 1),m1
 65 14,o1 66 (Jx 64 65 5),o1 67 (lt 66 5),o1 15 (.alloc zv8 83),Js 15 67 5] (sr1 [Jk 16 0] (.block 6 (.loop (.seq (sr1 [m1 68 16,o1 69 (Jc .lss 68 2)] (Ji 69 .skip (.exit 6))) (.seq (.block 7 (.seq (.regd (Jr 6) [Jo 72 (ao 15 0),Jp 73 (lf 72 1) [0],Jo
 74 (ao 15 1),Jp 75 (lf 74 1) [2],Jp 17 (.mv (.t 73)) [0,1],Jp 18 (.mv (.t 75)) (Jr 5)] 0 0 []) (.seq (sr1 [m1 76 16,o1 77 (Jc .eql 76 1)] (Ji 77 (.reg [m1 78 18,m1 79 17,m1 17 78,m1 18 79]) .skip)) (.seq (.regd (Jr 9) [Jo 80 (lt 15 5),Jm 81 11,Jm 82
 17,Jp 83 (Jx 81 82 2) [1,2],Jp 84 (lt 83 2) [3],Jo 85 (lt 7 2),Jp 86 (J3 118 80 84 85) [0,4,5]] 1 1 [o1 19 (.alloc zv0 27),Ju 19 86 2 (Jr 8)]) (.seq (.regd (Jr 18) [Jo 87 (ao 19 0),Jp 88 (lf 87 1) [0],Jm 89 11,Jm 90 18,Jp 91 (Jx 89 90 2) [2,3],Jp 92
 (ao 91 0) [4],Jp 93 (lf 92 1) [5],Jp 94 (Jb .lss 88 93) [1,6],Jp 95 (.mv (.t 94)) [7],Jq 96 95 false (ao 19 1) [8],Jq 97 95 false (lf 96 1) [8,9],Jq 98 95 false (.mv (.t 11)) [8],Jq 99 95 false (.mv (.t 18)) [8],Jq 100 95 false (Jx 98 99 2)
 [8,11,12],Jq 101 95 false (ao 100 1) [8,13],Jq 102 95 false (lf 101 1) [8,14],Jq 103 95 false (Jb .lss 97 102) [8,10,15],Jp 104 (.pick (.t 95) Jt (.t 103)) [8,16]] 0 0 []) (Ji 104 (.seq (.regd (Jr 21) [Jm 105 11,Jm 106 18,Jm 107 11,Jm 108 18,Jp 109
 (Jx 107 108 2) [2,3],Jp 110 (ao 109 0) [4],Jp 111 (lf 110 1) [5],Jo 112 (ao 19 0),Jp 113 (lf 112 1) [7],Jp 114 (.mm false [.t 111,.t 113]) [6,8],Jm 115 11,Jm 116 18,Jp 117 (Jx 115 116 2) [10,11],Jp 118 (ao 117 1) [12],Jp 119 (lf 118 1) [13],Jo 120
 (ao 19 1),Jp 121 (lf 120 1) [15],Jp 122 (.mm false [.t 119,.t 121]) [14,16],Jp 123 (.build zv0 [(0,1,.t 114),(1,1,.t 122)]) [9,17],Jp 124 (Jx 105 106 2) (Jr 19)] 0 1 [Ju 124 123 2 (Jr 20)]) (.reg [Jw 13 Jt])) .skip)))))) (.reg [m1 70 16,o1 71 (Jc
 .add 70 1),m1 16 71])))))))) (.reg [m1 61 14,o1 62 (Jc .add 61 1),m1 14 62])))))))))))) (sr1 [m1 125 11,m1 8 125,Jk 9 0] .ret))))))))
def r72:List RV:=[.tmp 8,.tmp 9]
theorem t72:Qt1 Tryz.prog 72 c72 r72 126:=Z0 Tryz.func72
def c104:SC:=(sr1 [o1 5 (Jz 0 0 25),o1 8 (Jz 3 0 27),o1 10 (.mv (.c (.slice none 0 0))),Jk 11 0,Jk 12 0] (.seq (sr1 [o1 21 (lt 5 2),o1 22 (lt 8 2),o1 23 (J2 115 21 22),m1 13 23] (sr1 [m1 24 13,o1 25 (Jc .neq 24 0)] (Ji 25 (sr1 [m1 26 13,o1 10 (.mv (.c
 (.slice none 0 0))),Jk 11 0,m1 12 26] .ret) .skip))) (.seq (sr1 [m1 27 1,o1 28 (ao 5 0),o1 29 (lf 28 1),o1 30 (Jl 29),o1 31 (Jc .sub 30 1),o1 32 (.call 88 [.t 27,cn 0,.t 31]),o1 33 (Jh 32),m1 34 33,g1 35 34 false (.mv (.t 2)),g1 36 34 false (.call 88
 [.t 35,cn 0,cn 100000]),g1 37 34 false (Jh 36),o1 38 (.pick (.t 34) Jt (.t 37))] (Ji 38 (sr1 [o1 10 (.mv (.c (.slice none 0 0))),Jk 11 0,Jk 12 2] .ret) .skip)) (.seq (sr1 [m1 39 4,o1 40 (Jl 39),o1 41 (Jc .gtr 40 24)] (Ji 41 (sr1 [o1 10 (.mv (.c
 (.slice none 0 0))),Jk 11 0,Jk 12 4] .ret) .skip)) (sr1 [m1 42 1,m1 14 42] (.seq (sr1 [Jk 15 0] (.block 0 (.loop (.seq (sr1 [m1 43 15,m1 44 4,o1 45 (Jl 44),o1 46 (Jb .lss 43 45)] (Ji 46 .skip (.exit 0))) (.seq (.block 1 (.seq (.seq (.regd (Jr 23) [Jm
 49 4,Jm 50 15,Jp 51 (Jx 49 50 1) [0,1],Jp 52 (lf 51 1) [2],Jo 53 (ao 5 1),Jp 54 (lf 53 1) [4],Jp 55 (Jl 54) [5],Jp 56 (Jc .sub 55 1) [6],Jp 57 (.call 88 [.t 52,cn 0,.t 56]) [3,7],Jp 58 (Jh 57) [8],Jp 59 (.mv (.t 58)) [8,9],Jq 60 59 false (ao 5 1)
 [10],Jq 61 59 false (lf 60 1) [10,11],Jq 62 59 false (.mv (.t 4)) [10],Jq 63 59 false (.mv (.t 15)) [10],Jq 64 59 false (Jx 62 63 1) [10,13,14],Jq 65 59 false (lf 64 1) [10,15],Jq 66 59 false (Jx 61 65 5) [10,12,16],Jq 67 59 false (lt 66 5)
 [10,17],Jq 68 59 false (.mv (.t 14)) [10],Jq 69 59 false (J2 144 67 68) [10,18,19],Jq 70 59 false (Jc .lss 69 0) [10,20],Jp 71 (.pick (.t 59) Jt (.t 70)) [10,21]] 0 0 []) (Ji 71 (sr1 [m1 72 15,o1 10 (.mv (.c (.slice none 0 0))),m1 11 72,Jk 12 8]
 .ret) .skip)) (.regd (Jr 11) [Jo 73 (ao 5 1),Jp 74 (lf 73 1) [0],Jm 75 4,Jm 76 15,Jp 77 (Jx 75 76 1) [2,3],Jp 78 (lf 77 1) [4],Jp 79 (Jx 74 78 5) [1,5],Jp 80 (lt 79 5) [6],Jm 81 14,Jp 82 (J2 144 80 81) [7,8]] 0 0 [⟨some 14,.mv (.t 82),none,(Jr
 10)⟩]))) (.reg [m1 47 15,o1 48 (Jc .add 47 1),m1 15 48])))))) (sr1 [o1 16 (.mv (.c (.slice none 0 0)))] (sr1 [m1 83 2,m1 84 2,o1 85 (.build zv0 [(0,1,.t 83),(1,1,.t 84)]),o1 17 (.alloc zv0 27),Js 17 85 2] (sr1 [m1 86 1,m1 14 86] (.seq (sr1 [Jk 18 0]
 (.block 2 (.loop (.seq (sr1 [m1 87 18,m1 88 4,o1 89 (Jl 88),o1 90 (Jb .lss 87 89)] (Ji 90 .skip (.exit 2))) (.seq (.block 3 (.seq (.regd (Jr 10) [Jo 93 (ao 5 1),Jp 94 (lf 93 1) [0],Jm 95 4,Jm 96 18,Jp 97 (Jx 95 96 1) [2,3],Jp 98 (lf 97 1) [4],Jp 99
 (Jx 94 98 5) [1,5],Jp 100 (lt 99 5) [6]] 1 1 [o1 19 (.alloc zv8 83),Ju 19 100 5 (Jr 9)]) (sr1 [o1 101 (lt 19 5),o1 102 (lt 17 2),o1 103 (lt 8 2),o1 104 (J3 118 101 102 103),o1 20 (.alloc zv0 27),Js 20 104 2] (.seq (sr1 [o1 105 (ao 20 1),o1 106 (lf
 105 1),o1 107 (Jc .eql 106 100001)] (Ji 107 (sr1 [m1 108 18,o1 10 (.mv (.c (.slice none 0 0))),m1 11 108,Jk 12 34] .ret) .skip)) (sr1 [o1 109 (lt 19 5),m1 110 14,o1 111 (J2 144 109 110),m1 14 111] (.seq (.regs (Jr 22) ⟨[Jm 112 16,Jm 113 4,Jm 114
 18,Jp 115 (Jx 113 114 1) [1,2],Jp 116 (lf 115 1) [3],Jm 117 14,Jo 118 (lt 19 5),Jo 119 (ao 17 0),Jp 120 (lf 119 1) [7],Jo 121 (lt 8 2),Jp 122 (J3 145 118 120 121) [6,8,9],Jo 123 (lt 19 5),Jo 124 (ao 17 1),Jp 125 (lf 124 1) [12],Jo 126 (lt 8 2),Jp 127
 (J3 146 123 125 126) [10,11,13,14],Jp 128 (.build zv0 [(0,1,.t 122),(1,1,.t 127)]) [10,15],Jo 129 (lt 20 2),Jp 130 (.build Zu5 [(0,1,.t 116),(1,1,.t 117),(2,2,.t 128),(4,2,.t 129)]) [4,5,16,17],Jp 131 (.bsl 6 94 [.t 130]) [18]],0,1,[⟨some 132,.appm 6
 48 94 (.t 112) (.t 131),none,[0,15,19]⟩]⟩ [⟨[],0,1,[⟨some 16,.mv (.t 132),none,(Jr 21)⟩]⟩]) (.reg [o1 133 (lt 20 2),Js 17 133 2]))))))) (.reg [m1 91 18,o1 92 (Jc .add 91 1),m1 18 92])))))) (sr1 [m1 134 16,m1 10 134,Jk 11 0,Jk 12 0] .ret)))))))))))
def r104:List RV:=[.tmp 10,.tmp 11,.tmp 12]
theorem t104:Qt1 Tryz.prog 104 c104 r104 135:=Z0 Tryz.func104
def c56:SC:=(sr1 [Jw 4 Jf] (.seq (sr1 [m1 6 0,o1 7 (Jl 6),m1 8 1,o1 9 (Jl 8),o1 10 (Jb .neq 7 9)] (Ji 10 (sr1 [Jw 4 Jf] .ret) .skip)) (.seq (sr1 [Jk 5 0] (.block 0 (.loop (.seq (sr1 [m1 11 5,m1 12 0,o1 13 (Jl 12),o1 14 (Jb .lss 11 13)] (Ji 14 .skip
 (.exit 0))) (.seq (.block 1 (.seq (.regd (Jr 9) [Jm 17 0,Jm 18 5,Jp 19 (Jx 17 18 2) [0,1],Jp 20 (lt 19 2) [2],Jm 21 1,Jm 22 5,Jp 23 (Jx 21 22 2) [4,5],Jp 24 (lt 23 2) [6],Jp 25 (.eqs true true [1,1] (.t 20) (.t 24)) [3,7]] 0 0 []) (Ji 25 (sr1 [Jw 4
 Jf] .ret) .skip))) (.reg [m1 15 5,o1 16 (Jc .add 15 1),m1 5 16])))))) (sr1 [Jw 4 Jt] .ret))))
def r56:List RV:=[.tmp 4]
theorem t56:Qt1 Tryz.prog 56 c56 r56 26:=Z0 Tryz.func56
def c57:SC:=(sr1 [Jw 4 Jf] (.seq (sr1 [m1 6 0,o1 7 (Jl 6),m1 8 1,o1 9 (Jl 8),o1 10 (Jb .neq 7 9)] (Ji 10 (sr1 [Jw 4 Jf] .ret) .skip)) (.seq (sr1 [Jk 5 0] (.block 0 (.loop (.seq (sr1 [m1 11 5,m1 12 0,o1 13 (Jl 12),o1 14 (Jb .lss 11 13)] (Ji 14 .skip
 (.exit 0))) (.seq (.block 1 (.seq (.regd (Jr 9) [Jm 17 0,Jm 18 5,Jp 19 (Jx 17 18 1) [0,1],Jp 20 (lf 19 1) [2],Jm 21 1,Jm 22 5,Jp 23 (Jx 21 22 1) [4,5],Jp 24 (lf 23 1) [6],Jp 25 (Jb .neq 20 24) [3,7]] 0 0 []) (Ji 25 (sr1 [Jw 4 Jf] .ret) .skip))) (.reg
 [m1 15 5,o1 16 (Jc .add 15 1),m1 5 16])))))) (sr1 [Jw 4 Jt] .ret))))
def r57:List RV:=[.tmp 4]
theorem t57:Qt1 Tryz.prog 57 c57 r57 26:=Z0 Tryz.func57
def c144:SC:=(sr1 [o1 2 (Jz 0 0 83),Jk 4 0] (.seq (sr1 [o1 5 (ao 2 0),o1 6 (lf 5 1),m1 7 1,o1 8 (Jb .eql 6 7)] (Ji 8 (sr1 [o1 9 (ao 2 1),o1 10 (lf 9 1),m1 4 10] .ret) .skip)) (.seq (sr1 [o1 11 (ao 2 1),o1 12 (lf 11 1),m1 13 1,o1 14 (Jb .eql 12 13)]
 (Ji 14 (sr1 [o1 15 (ao 2 0),o1 16 (lf 15 1),m1 4 16] .ret) .skip)) (sr1 [o1 4 (.mv (cn (-1)))] .ret))))
def r144:List RV:=[.tmp 4]
theorem t144:Qt1 Tryz.prog 144 c144 r144 17:=Z0 Tryz.func144
open Go.Azalai
theorem Zul (a b:Int) (c:Bool):Ct Tryz.prog 71 [.sl c 1 [[I a],[I b]]] (I (min a b)):=by
 refine t71.1 (by simp [KFR]) (by simp) ?_;dsimp only [c71,r71,go_sem];refine Zr (by decide) ?_;dsimp only [go_sem];refine ixs 0 [I a] rfl rfl ?_;dsimp only [go_sem];refine Xt 2 ?_;dsimp only [Zd,go_sem];refine Zq (by decide) ?_;dsimp only [Zd,go_sem];refine ixs 1 [I b] rfl rfl ?_;dsimp only [Zd,go_sem];refine Zr (by decide) ?_;dsimp only [go_sem]
theorem Zew (a:Int):Ct Tryz.prog 122 [.sl true 1 [[I a]]] (I (min a 100001)):=by
 refine t122.1 (by simp [KFR]) (by simp) ?_;dsimp only [c122,r122,go_sem];refine Zsj (by simp) ?_;dsimp only [go_sem];refine call (Zul a 100001 false) ?_;dsimp only [go_sem]
theorem VD (l:Land) (p:Span) (k:Nat) (hk:k < l.legs.length) (d0 d1:Int) (hx:GoodLeg l.legs[k]) (hp:ZY p=true) (h0:inR 0 100001 d0=true) (h1:inR 0 100001 d1=true) :
 Ct Tryz.prog 79 [.agg (Z3 l p),I k,.agg [I d0,I d1]] (.agg [I (ZB false l.legs[k] p d0),I (ZB true l.legs[k] p d1)]):=by
 have hb:=day_bd hx hp;refine t79.1 (by simp [Z3,Zf,Zl,Zg,Zc,Za]) (by simp) ?_;dsimp only [c79,r79,Z3,go_sem];refine call (Wt l p k hk d0 d1 hx hp h0 h1) ?_;dsimp only [Z3,go_sem];refine call (Zdx l p k hk hx hp) ?_;dsimp only [Zc,go_sem];simp only [inR,decide_eq_true_eq] at h0 h1;have a0:=Xf (k:=false) hx hp h0.2;have a1:=Xf (k:=true) hx hp h1.2;simp only [leK,nK,cond_true,cond_false] at a0 a1;refine Xt 3 ?_
 dsimp only [Zd,go_sem];refine Zq (by decide) ?_;dsimp only [Zd,go_sem];repeat (refine ixa 0 rfl (by decide) ?_;dsimp only [Zd,go_sem])
 rw [Zh (n:=Zk7 l.legs[k] p d0+(Ut l.legs[k] p).lo) (by omega) (by omega)];refine call (Zew _) ?_;dsimp only [Zd,go_sem];repeat (refine ixa 0 rfl (by decide) ?_;dsimp only [Zd,go_sem])
 refine Zq (by decide) ?_;dsimp only [Zd,go_sem];repeat (refine ixa 1 rfl (by decide) ?_;dsimp only [Zd,go_sem])
 rw [Zh (n:=ZgI l.legs[k] p d1+(Ut l.legs[k] p).hi) (by omega) (by omega)];refine call (Zew _) ?_;dsimp only [Zd,go_sem];repeat (refine ixa 1 rfl (by decide) ?_;dsimp only [Zd,go_sem])
 refine Zr (by decide) ?_;dsimp only [go_sem];simp only [ZB,leK,nK,cond_true,cond_false];rw [Int.min_comm,Int.min_comm 100001 (ZgI l.legs[k] p d1+(Ut l.legs[k] p).hi)]
theorem VW (x:Leg) (p:Span) (d0 d1:Int) (hx:GoodLeg x) (hp:ZY p=true) (h0:inR 0 100001 d0=true) (h1:inR 0 100001 d1=true) :
 Ct Tryz.prog 118 [.agg (Zl x),.agg [I d0,I d1],.agg (Zc p)] (.agg [I (ZB false x p d0),I (ZB true x p d1)]):=by
 have hb:=day_bd hx hp;refine t118.1 (by simp [Zl,Zg,Zc,Za]) (by simp) ?_;dsimp only [c118,r118,Zl,Zc,go_sem];refine call (Ztn x d0 p hx hp h0) ?_;dsimp only [go_sem];simp only [inR,decide_eq_true_eq] at h0 h1;have a0:=Xf (k:=false) hx hp h0.2;have a1:=Xf (k:=true) hx hp h1.2;simp only [leK,nK,cond_true,cond_false] at a0 a1;have key:∀ q0,q0=ZB false x p d0->True:=λ_ _=>trivial;by_cases g0:Zk7 x p d0 < 100001
 . refine Zq (by simpa using g0) ?_;dsimp only [go_sem];refine call (Zas x p hx hp) ?_;dsimp only [Zc,go_sem];rw [Zh (n:=Zk7 x p d0+(Ut x p).lo) (by omega) (by omega)];refine call (Zjq x d1 p hx hp (by simp [inR];omega)) ?_;dsimp only [go_sem];by_cases g1:ZgI x p d1 < 100001
   . refine Zq (by simpa using g1) ?_;dsimp only [go_sem];refine call (Zas x p hx hp) ?_;dsimp only [Zc,go_sem];rw [Zh (n:=ZgI x p d1+(Ut x p).hi) (by omega) (by omega)];dsimp only [ZB,leK,nK,go_sem]
   . refine Zr (by simpa using g1) ?_;dsimp only [go_sem];rw [show ZB true x p d1=100001 by simp only [ZB,leK,nK,cond_true];omega];dsimp only [ZB,leK,nK,go_sem]
 . refine Zr (by simpa using g0) ?_;dsimp only [go_sem];refine call (Zjq x d1 p hx hp (by simp [inR];omega)) ?_;dsimp only [go_sem];rw [show ZB false x p d0=100001 by simp only [ZB,leK,nK,cond_false];omega];by_cases g1:ZgI x p d1 < 100001
   . refine Zq (by simpa using g1) ?_;dsimp only [go_sem];refine call (Zas x p hx hp) ?_;dsimp only [Zc,go_sem];rw [Zh (n:=ZgI x p d1+(Ut x p).hi) (by omega) (by omega)];dsimp only [ZB,leK,nK,go_sem]
   . refine Zr (by simpa using g1) ?_;dsimp only [go_sem];rw [show ZB true x p d1=100001 by simp only [ZB,leK,nK,cond_true];omega]
theorem Vz (x:Leg) (v:Int):Ct Tryz.prog 144 [.agg (Zl x),I v] (I (Zm x v)):=by
 refine t144.1 (by simp [Zl,Zg,Za]) (by simp) ?_;dsimp only [c144,r144,Zl,go_sem];by_cases h1:x.a=v
 . refine Zq (by simpa using h1) ?_;dsimp only [go_sem];simp [Zm,h1]
 . refine Zr (by simpa using h1) ?_;dsimp only [go_sem];by_cases h2:x.b=v
   . refine Zq (by simpa using h2) ?_;dsimp only [go_sem];simp [Zm,h1,h2]
   . refine Zr (by simpa using h2) ?_;dsimp only [go_sem];simp [Zm,h1,h2]
def ZcS (l:Land) (p:Span) (v:Int):Ot:=⟨false,.cl 153 [.p 0 0,.p 1 0],[(1,.cells [I v] 3),(0,.cells (Z3 l p) 160)],2⟩
theorem Zdr (l:Land) (p:Span) (v:Int):CtM Tryz.prog 111 [] 0 [.agg (Z3 l p),I v] (λo=>o=ZcS l p v):=by
 refine m111 (by simp [hpb]) (λo ho=>by subst ho;simp [ZcS,KX,KXL,KXP,KXH,Za,KFL,KF,Z3,Zf,Zl,Zg]) ?_;dsimp only [c111,r111,Z3,go_sem];refine ⟨_,rfl,?_⟩;simp only [ZcS];(refine Yb ?_ ?_ ?_ rfl<;>dsimp only [Z3,Zf,Zl,Zg,id,go_sem]<;>simp [Z3,Zf,Zl,Zg,Za])
end Go.Proofs.YtiigiflofnjilaaGreat
namespace Go.Azalai
def W9 (l:Land) (leg v:Int):Int:=if h:0<=leg/\leg.toNat < l.legs.length then Zm l.legs[leg.toNat] v else -1
end Go.Azalai
namespace Go.Proofs.YtiigiflofnjilaaGreat
open Go Go.Sx Go.Azalai
theorem ZzI (l:Land) (p:Span) (leg v:Int) (hl:l.legs.length<=1000):Ct Tryz.prog 77 [.agg (Z3 l p),I leg,I v] (I (W9 l leg v)):=by
 refine t77.1 (by simp [Z3,Zf,Zl,Zg,Za]) (by simp) ?_;dsimp only [c77,r77,Z3,go_sem];refine UV [] (Zdr l p v) rfl rfl rfl ?_ ?_ ?_
 . exact Zb (by simp [Z3,Zf,Zl,Zg,Za])
 . trivial
 dsimp only [ZcS,Z3,go_sem];refine gh Yj ?_;dsimp only [go_sem];refine ⟨b153,λrec=>?_⟩;refine y153 ?_;dsimp only [ZAt,Zz4,go_sem];refine Yy (λj:Nat=>[(10,I j)]) (λ_=>[]) (λj=>j<=l.legs.length/\(0<=leg->leg < j->W9 l leg v = -1)) (λj=>l.legs.length - j) 0 ⟨Nat.zero_le _,λh1 h2=>by omega⟩ ?_ ?_
 . (refine Zj ?_ ?_ ?_ rfl rfl<;>dsimp only [Z3,Zf,Zl,Zg,id,go_sem]<;>simp [Z3,Zf,Zl,Zg,Za])
 rintro j ⟨hj,hi⟩;dsimp only [go_sem];simp only [List.length_map];by_cases hlt:j < l.legs.length
 . refine Zq (by simpa using hlt) ?_;dsimp only [go_sem];refine Zo j hlt rfl ?_;dsimp only [Zl,go_sem];have hend:leg=j->W9 l leg v=Zm l.legs[j] v:=λhe=>by
    subst he;unfold W9;rw [dif_pos ⟨by omega,by simpa using hlt⟩];simp
   by_cases ha:v=l.legs[j].a
   . refine Zq (by simpa using ha) ?_;dsimp only [go_sem];refine ⟨rfl,rfl,?_⟩;by_cases he:leg=j
     . refine Zq (by simp [he]) ?_;dsimp only [go_sem];refine ⟨rfl,?_⟩;refine Zq (by decide) ?_;dsimp only [go_sem];rw [hend he,Zm,if_pos ha.symm]
     . refine Zr (by simp;omega) ?_;dsimp only [go_sem];refine ⟨rfl,?_⟩;refine Zr (by decide) ?_;dsimp only [go_sem];rw [Zh (n:=(j:Int)+1) (by omega) (by omega)];refine ⟨j+1,⟨hlt,λh1 h2=>hi h1 (by omega)⟩,by omega,?_⟩;(refine Zj ?_ ?_ ?_ rfl rfl<;>dsimp only [Z3,Zf,Zl,Zg,id,go_sem]<;>simp [Z3,Zf,Zl,Zg,Za])
   refine Zr (by simpa using ha) ?_;dsimp only [go_sem];by_cases hb:v=l.legs[j].b
   . refine Zq (by simpa using hb) ?_;dsimp only [go_sem];refine ⟨rfl,rfl,?_⟩;by_cases he:leg=j
     . refine Zq (by simp [he]) ?_;dsimp only [go_sem];refine ⟨rfl,?_⟩;refine Zq (by decide) ?_;dsimp only [go_sem];rw [hend he,Zm,if_neg (λe=>ha e.symm),if_pos hb.symm]
     . refine Zr (by simp;omega) ?_;dsimp only [go_sem];refine ⟨rfl,?_⟩;refine Zr (by decide) ?_;dsimp only [go_sem];rw [Zh (n:=(j:Int)+1) (by omega) (by omega)];refine ⟨j+1,⟨hlt,λh1 h2=>hi h1 (by omega)⟩,by omega,?_⟩;(refine Zj ?_ ?_ ?_ rfl rfl<;>dsimp only [Z3,Zf,Zl,Zg,id,go_sem]<;>simp [Z3,Zf,Zl,Zg,Za])
   refine Zr (by simpa using hb) ?_;dsimp only [go_sem];rw [Zh (n:=(j:Int)+1) (by omega) (by omega)];refine ⟨j+1,⟨hlt,λh1 h2=>?_⟩,by omega,?_⟩
   . by_cases he:leg=j
     . rw [hend he,Zm,if_neg (λe=>ha e.symm),if_neg (λe=>hb e.symm)]
     . exact hi h1 (by omega)
   (refine Zj ?_ ?_ ?_ rfl rfl<;>dsimp only [Z3,Zf,Zl,Zg,id,go_sem]<;>simp [Z3,Zf,Zl,Zg,Za])
 refine Zr (by simp;omega) ?_;dsimp only [go_sem];have hz:W9 l leg v = -1:=by
  by_cases h1:0<=leg
  . by_cases h2:leg < j
    . exact hi h1 h2
    . unfold W9;rw [dif_neg (by omega)]
  . unfold W9;rw [dif_neg (by omega)]
 rw [hz]
def U64 (n:Int):SV:=.v (.int .u64 n)
theorem uw {n:Int} (h0:0<=n) (h1:n < 18446744073709551616):IntKind.u64.wrap n=n:=by
 have e:n % 2 ^ IntKind.u64.bits=n:=Int.emod_eq_of_lt h0 (by show n < 2 ^ 64;omega);simp only [IntKind.wrap,e,show IntKind.u64.signed=false from rfl,Bool.false_and];rfl
theorem ZnZ (n:Int) (h0:0<=n) (h1:n<=1000000):Ct Tryz.prog 174 [U64 1,U64 n] (.tup [U64 0,U64 n]):=by
 refine t174.1 (by simp [U64]) (by simp [U64]) ?_;dsimp only [c174,r174,U64,go_sem];have sh:∀ (m:Int),0<=m->m < 4294967296->∀ w:World,(binOp .shr 168 (.int .u64 m) (.int .u64 32)).run Tryz.prog w = .ok (.int .u64 0) w:=λm q0 q1 w=>by
  simp only [binOp,Op.shift];rw [if_neg (by decide)];have:m.fdiv (2 ^ 32)=0:=by rw [Int.fdiv_eq_ediv_of_nonneg _ (by decide)];omega
  show Result.ok (Value.int .u64 (m.fdiv (2 ^ (min (32:Int).toNat IntKind.u64.bits)))) w=_;rw [show min (32:Int).toNat IntKind.u64.bits=32 from by decide,this]
 have an:∀ (m:Int),0<=m->m < 4294967296->∀ w:World,(binOp .and 168 (.int .u64 m) (.int .u64 4294967295)).run Tryz.prog w = .ok (.int .u64 m) w:=λm q0 q1 w=>by
  obtain ⟨k,rfl⟩:=Int.eq_ofNat_of_zero_le q0;have hk:k < 4294967296:=by omega
  have e:(BitVec.ofInt 64 (k:Int) &&& BitVec.ofInt 64 4294967295).toNat=k:=by
   rw [BitVec.toNat_and,show (BitVec.ofInt 64 4294967295).toNat=2 ^ 32 - 1 from by decide,Nat.and_two_pow_sub_one_eq_mod,BitVec.ofInt_natCast,BitVec.toNat_ofNat];omega
  show Result.ok (Value.int .u64 (IntKind.u64.wrap (((BitVec.ofInt 64 (k:Int) &&& BitVec.ofInt 64 4294967295).toNat:Nat):Int))) w=_;rw [e,uw (by omega) (by omega)]
 refine VO rfl (.inl rfl) (an 1 (by omega) (by omega)) rfl ?_;dsimp only [go_sem];refine VO rfl (.inr rfl) (sh 1 (by omega) (by omega)) rfl ?_;dsimp only [go_sem];refine VO rfl (.inl rfl) (an n (by omega) (by omega)) rfl ?_;dsimp only [go_sem];refine VO rfl (.inr rfl) (sh n (by omega) (by omega)) rfl ?_;dsimp only [go_sem];simp (disch:=omega) only [uw,Int.one_mul,Int.zero_mul,Int.mul_zero,Int.add_zero,Int.zero_add]
 refine VO rfl (.inr rfl) (sh n (by omega) (by omega)) rfl ?_;dsimp only [go_sem];simp (disch:=omega) only [uw,Int.one_mul,Int.zero_mul,Int.mul_zero,Int.add_zero,Int.zero_add];refine VO rfl (.inl rfl) (an 0 (by omega) (by omega)) rfl ?_;dsimp only [go_sem];refine VO rfl (.inr rfl) (sh 0 (by omega) (by omega)) rfl ?_;dsimp only [go_sem];simp (disch:=omega) only [uw,Int.one_mul,Int.zero_mul,Int.mul_zero,Int.add_zero,Int.zero_add]
 refine VO rfl (.inr rfl) (sh 0 (by omega) (by omega)) rfl ?_;dsimp only [go_sem];simp (disch:=omega) only [uw,Int.one_mul,Int.zero_mul,Int.mul_zero,Int.add_zero,Int.zero_add]
theorem ZzH (n:Int) (h0:0<=n) (h1:n<=1000000):Ct Tryz.prog 167 [U64 1,U64 n] (.tup [U64 0,U64 n]):=by
 refine t167.1 (by simp [U64]) (by simp [U64]) ?_;dsimp only [c167,r167,U64,go_sem];refine Zr (by decide) ?_;dsimp only [go_sem];refine call (ZnZ n h0 h1) ?_;dsimp only [U64,go_sem]
theorem Vn {r:List SV} (h:KFL r):∀ n,KFR (List.replicate n r)
 | 0=>trivial
 | n+1=>⟨h,Vn h n⟩
theorem Zu0 (x:Int) (n:Nat) (h0:1<=n) (h1:n<=1000) (k:Bool):CtM Tryz.prog 140 [] 0 [.sl k 1 [[I x]],I n] (λo=>o=⟨false,.mr 0 0,[(0,.row 0 1 (List.replicate n [I x]) 3)],1⟩):=by
 have hm:KFL [I x]:=by simp
 have hone:YH [I x]=true:=rfl;have hkr:=Vn hm n;refine m140 (by simp [hpb]) (λo ho=>by subst ho;simp only [KX,KXL,KXP,KXH];exact ⟨trivial,hkr,trivial⟩) ?_;generalize [I x]=row at hm hone hkr;dsimp only [c140,r140,go_sem];refine Zr (by simp) ?_;dsimp only [go_sem];rw [show ((1:Nat):Int)=1 from rfl];simp (disch:=omega) only [uw];refine call (ZzH n (by omega) (by omega)) ?_;dsimp only [U64,go_sem]
 refine gb ?_;dsimp only [go_sem];refine gb ?_;dsimp only [go_sem];refine Zr (by simp;omega) ?_;dsimp only [go_sem];refine ⟨n,Zh (by omega) (by omega),by omega,?_⟩;have hz:KFL [SV.v (Value.int IntKind.i64 0)]:=by simp
 generalize [SV.v (Value.int IntKind.i64 0)]=z at hz;dsimp only [go_sem];refine ⟨(by intro c hc;simp only [List.mem_singleton] at hc;subst hc;exact hone),by simp,?_⟩;have hmin:min n 1=1:=by omega
 simp only [List.length_replicate,List.length_singleton,hmin,List.drop_replicate];dsimp only [go_sem];refine Yy (λj:Nat=>[(8,I j)]) (λj=>[(0,.row 0 1 (List.replicate j row ++ List.replicate (n - j) z) 3)]) (λj=>1<=j/\j<=n) (λj=>n - j) 1 ⟨Nat.le_refl _,h0⟩ ?_ ?_
 . refine Zj ?_ ?_ ?_ rfl rfl<;>dsimp only [id,go_sem]<;>simp [Ze,Vn,hz,hm,Zb,mtO,nbr,KFR,KFL,KF]
 rintro j ⟨hj0,hj⟩;dsimp only [go_sem];simp only [List.length_append,List.length_replicate,show j+(n - j)=n from by omega];by_cases hlt:j < n
 . refine Zq (by simpa using hlt) ?_;dsimp only [go_sem];refine ⟨j,n,⟨rfl,by simp;omega,by omega,by simp;omega⟩,?_⟩;dsimp only [go_sem];refine ⟨0,j,⟨rfl,rfl,by omega,by simp⟩,?_⟩;dsimp only [go_sem];have hx:List.take (j - 0) (List.replicate j row ++ List.replicate (n - j) z)=List.replicate j row:=by rw [Nat.sub_zero];exact List.take_left' (by simp)
   have hx':List.take j (List.replicate j row ++ List.replicate (n - j) z)=List.replicate j row:=List.take_left' (by simp);rw [hx];refine ⟨by simp,(by intro c hc;rw [List.eq_of_mem_replicate hc];exact hone),by simp,?_⟩;simp only [List.length_replicate];generalize hN:min (n - j) j=N;have e:List.take j (List.replicate j row ++ List.replicate (n - j) z) ++ (List.take N (List.replicate j row) ++ List.drop (j+N) (List.replicate j row ++ List.replicate (n - j) z))=List.replicate (j+N) row ++ List.replicate (n - (j+N)) z:=by
    rw [hx',List.take_replicate,List.drop_append,List.drop_of_length_le (l:=List.replicate j row) (by simp),List.length_replicate,List.nil_append,List.drop_replicate,<- List.append_assoc,List.replicate_append_replicate,show min N j=N from by omega];congr 2;omega
   rw [e];dsimp only [go_sem];rw [show (j:Int)+(N:Int)=((j+N:Nat):Int) from by omega,Zh (n:=((j+N:Nat):Int)) (by omega) (by omega)];refine ⟨j+N,⟨by omega,by omega⟩,by omega,?_⟩;refine Zj ?_ ?_ ?_ rfl rfl<;>dsimp only [id,go_sem]<;>simp [Ze,Vn,hz,hm,Zb,mtO,nbr,KFR,KFL,KF]
 refine Zr (by simp;omega) ?_;dsimp only [go_sem];have hje:j=n:=by omega
 subst hje;simp only [Nat.sub_self,List.replicate_zero,List.append_nil];refine ⟨_,rfl,?_⟩;refine Yb ?_ ?_ ?_ rfl<;>dsimp only [id,go_sem]<;>simp [Ze,Vn,hm,Zb,mtO,nbr,KFR,KFL,KF]
end Go.Proofs.YtiigiflofnjilaaGreat
namespace Go.Azalai
open Go.Sx
def dv (d:List Int) (v:Int):Int:=if 0<=v then d.getD v.toNat 100001 else 100001
theorem WZ {d:List Int} {i:Nat} (h:i < d.length):dv d i=d[i]:=by simp [dv,h]
theorem ZAX {d:List Int} {v:Int} (h:¬ (0<=v/\v < d.length)):dv d v=100001:=by
 unfold dv;split
 . have:¬ v.toNat < d.length:=by omega
   simp [List.getD_eq_getElem?_getD,List.getElem?_eq_none (Nat.le_of_not_lt this)]
 . rfl
theorem WH {d:List Int} {i:Nat} {x v:Int} (h:i < d.length):dv (d.set i x) v=if v=i then x else dv d v:=by
 unfold dv;by_cases hv:0<=v
 . rw [if_pos hv,if_pos hv];by_cases he:v=i
   . subst he;simp [h]
   . rw [if_neg he];have:i≠v.toNat:=by omega
     simp [List.getD_eq_getElem?_getD,this]
 . rw [if_neg hv,if_neg hv,if_neg (by omega)]
structure Gone (k:Bool) (l:Land) (p:Span) (s day:Int) (d:List Int):Prop where
 len:d.length=l.wells.length
 ub:∀ v,dv d v<=100001
 real:∀ v,dv d v=100001\/∃ a,goW k l p s day a=some (v,dv d v)
 st:dv d s<=day
theorem Gone.lb {k:Bool} {l:Land} {p:Span} {s day:Int} {d:List Int} (h:Gone k l p s day d) (hg:OkLP l p) (hd:0<=day) (hd':day<=100000) (h0:0<=s) (h1:s < l.wells.length) (v:Int):day<=dv d v:=by
 rcases h.real v with e | ⟨a,e⟩
 . omega
 . have:=Uj hg e hd' h0 h1;omega
theorem Gone.relax {k:Bool} {l:Land} {p:Span} {s day:Int} {d:List Int} (h:Gone k l p s day d) (hg:OkLP l p) {i:Nat} {x:Leg} (hx:l.legs[i]? = some x) {v:Int} {w:Nat} (hw:Zm x v=w) (hd:0<=day) (hd':day<=100000) (h0:0<=s) (h1:s < l.wells.length) :
 Gone k l p s day (d.set w (min (dv d w) (ZB k x p (dv d v))))/\w < d.length:=by
 have hwl:=(Yc hg hx (v:=v) (by omega)).1;have hwd:w < d.length:=by rw [h.len];omega
 refine ⟨⟨by simp [h.len],λu=>?_,λu=>?_,?_⟩,hwd⟩
 . rw [WH hwd];split
   . have:=h.ub w;omega
   . exact h.ub u
 . rw [WH hwd];split
   . rename_i hu;by_cases hr:ZB k x p (dv d v) > 100000
     . have:=h.ub w;have hb:=Xf (k:=k) (hg.leg hx) hg.pace (h.ub v);rw [show min (dv d w) (ZB k x p (dv d v))=dv d w by omega,hu];exact h.real w
     . by_cases hm:dv d w<=ZB k x p (dv d v)
       . rw [Int.min_eq_left hm,hu];exact h.real w
       . rw [Int.min_eq_right (by omega),hu];have hb:=Xf (k:=k) (hg.leg hx) hg.pace (h.ub v);rcases h.real v with e | ⟨a,e⟩
         . omega
         . refine .inr ⟨a ++ [i],?_⟩;have:=Zbs e hx (by omega) hr;rw [hw] at this;exact this
   . exact h.real u
 . rw [WH hwd];split
   . rename_i hs;have:=h.st;rw [hs] at this;omega
   . exact h.st
structure Dij (k:Bool) (l:Land) (p:Span) (s day:Int) (d:List Int) (left:Int->Prop):Prop where
 g:Gone k l p s day d
 cl:∀ x ∈ l.legs,∀ v:Int,0<=v->v < l.wells.length->¬ left v->0<=Zm x v->dv d (Zm x v)<=ZB k x p (dv d v)
 or:∀ u v:Int,0<=u->u < l.wells.length->¬ left u->0<=v->v < l.wells.length->left v->dv d u<=dv d v
theorem Dij.done {k:Bool} {l:Land} {p:Span} {s day:Int} {d:List Int} {left:Int->Prop} (h:Dij k l p s day d left) (hg:OkLP l p) (he:∀ v,¬ left v) (hd:0<=day) (hd':day<=100000) (h0:0<=s) (h1:s < l.wells.length):d=WL k l p s day:=by
 have hc:ZmZ k l p (dv d):=λx hx=>by
  have hen:=hg.ends hx;have q1:=h.cl x hx x.a hen.1.1 hen.1.2 (he _) (by simp [Zm];omega);have q2:=h.cl x hx x.b hen.2.1.1 hen.2.1.2 (he _) (by simp [Zm,hen.2.2];omega);simp only [Zm,if_true] at q1;simp only [Zm,if_neg hen.2.2,if_true] at q2;exact ⟨q1,q2⟩
 have heq:=Zdm (k:=k) hg hd hd' h0 h1 h.g.st hc h.g.ub h.g.real;refine List.ext_getElem (by simp [WL,h.g.len]) λi hi hi'=>?_;simp only [WL,List.getElem_map,List.getElem_range];rw [<- heq,WZ hi]
structure Rnd (k:Bool) (l:Land) (p:Span) (s day:Int) (d0 d:List Int) (near:Int) (j:Nat):Prop where
 g:Gone k l p s day d
 le:∀ v,dv d v<=dv d0 v
 ch:∀ v,dv d v=dv d0 v\/dv d0 near<=dv d v
 nr:dv d near=dv d0 near
 cl:∀ i x,i < j->l.legs[i]? = some x->0<=Zm x near->dv d (Zm x near)<=ZB k x p (dv d0 near)
theorem Rnd.start {k:Bool} {l:Land} {p:Span} {s day:Int} {d:List Int} {near:Int} (h:Gone k l p s day d):Rnd k l p s day d d near 0 :=
 ⟨h,λ_=>Int.le_refl _,λ_=>.inl rfl,rfl,λi x hi=>by omega⟩
theorem Rnd.skip {k:Bool} {l:Land} {p:Span} {s day:Int} {d0 d:List Int} {near:Int} {j:Nat} (h:Rnd k l p s day d0 d near j) {x:Leg} (hx:l.legs[j]? = some x) (ho:Zm x near < 0):Rnd k l p s day d0 d near (j+1) :=
 ⟨h.g,h.le,h.ch,h.nr,λi y hi hy h0=>by
  by_cases he:i=j
  . subst he;rw [hx] at hy;cases hy;omega
  . exact h.cl i y (by omega) hy h0⟩
theorem Rnd.step {k:Bool} {l:Land} {p:Span} {s day:Int} {d0 d:List Int} {near:Int} {j:Nat} (h:Rnd k l p s day d0 d near j) (hg:OkLP l p) {x:Leg} (hx:l.legs[j]? = some x) {w:Nat} (hw:Zm x near=w) (hd:0<=day) (hd':day<=100000) (h0:0<=s) (h1:s < l.wells.length) :
 Rnd k l p s day d0 (d.set w (min (dv d w) (ZB k x p (dv d near)))) near (j+1):=by
 obtain ⟨q1,q2⟩:=h.g.relax hg hx hw hd hd' h0 h1;have hge:=Uw (k:=k) (hg.leg hx) hg.pace (h.g.ub near);have hwn:(w:Int)≠near:=λe=>by
  have:=hg.ends (List.mem_of_getElem? hx);unfold Zm at hw;split at hw
  . omega
  . split at hw
    . omega
    . omega
 rw [h.nr] at hge;refine ⟨q1,λv=>?_,λv=>?_,?_,λi y hi hy ho=>?_⟩
 . rw [WH q2];split
   . rename_i hv;have:=h.le w;rw [hv];omega
   . exact h.le v
 . rw [WH q2];split
   . rename_i hv;rw [hv,h.nr];have:=h.ch w;have:=h.le w;omega
   . exact h.ch v
 . rw [WH q2,if_neg (λe=>hwn e.symm)];exact h.nr
 . rw [WH q2];by_cases he:i=j
   . subst he;rw [hx] at hy;cases hy;rw [if_pos hw,h.nr];omega
   . have:=h.cl i y (by omega) hy ho;split
     . rename_i hv;rw [hv] at this;omega
     . exact this
theorem Rnd.finish {k:Bool} {l:Land} {p:Span} {s day:Int} {d0 d:List Int} {near:Int} {left left':Int->Prop} (hD:Dij k l p s day d0 left) (h:Rnd k l p s day d0 d near l.legs.length) (hn:left near) (hn0:0<=near) (hn1:near < l.wells.length)
 (hmin:∀ v:Int,0<=v->v < l.wells.length->left v->dv d0 near<=dv d0 v) (hl:∀ v,left' v↔left v/\v≠near) (hg:OkLP l p):Dij k l p s day d left':=by
 have keep:∀ u:Int,0<=u->u < l.wells.length->¬ left' u->dv d u=dv d0 u:=λu q1 q2 q3=>by
  by_cases he:u=near
  . rw [he];exact h.nr
  . have hnl:¬ left u:=λhh=>q3 ((hl u).2 ⟨hh,he⟩);have:=hD.or u near q1 q2 hnl hn0 hn1 hn;have:=h.ch u;have:=h.le u;omega
 refine ⟨h.g,λx hx v q1 q2 q3 ho=>?_,λu v q1 q2 q3 q4 q5 q6=>?_⟩
 . by_cases he:v=near
   . subst he;obtain ⟨i,hi⟩:=List.mem_iff_getElem?.1 hx;have:=h.cl i x (by rcases List.getElem?_eq_some_iff.1 hi with ⟨a,_⟩;exact a) hi ho;rw [keep _ q1 q2 q3];exact this
   . have hnl:¬ left v:=λhh=>q3 ((hl v).2 ⟨hh,he⟩);have:=hD.cl x hx v q1 q2 hnl ho;rw [keep v q1 q2 q3];have:=h.le (Zm x v);omega
 . rw [keep u q1 q2 q3];have hv:=(hl v).1 q6;have hun:dv d0 u<=dv d0 near:=by
    by_cases he:u=near
    . rw [he];omega
    . exact hD.or u near q1 q2 (λhh=>q3 ((hl u).2 ⟨hh,he⟩)) hn0 hn1 hn
   have:=hmin v q4 q5 hv.1;have:=h.ch v;omega
theorem Zda {k:Bool} {l:Land} {p:Span} {s:Nat} {day:Int} (hs:s < l.wells.length) (hd:day<=100000):Gone k l p s day ((List.replicate l.wells.length 100001).set s day):=by
 have hl:s < (List.replicate l.wells.length (100001:Int)).length:=by simpa using hs
 have hz:∀ v,dv (List.replicate l.wells.length (100001:Int)) v=100001:=λv=>by
  unfold dv;split
  . simp only [List.getD_eq_getElem?_getD,List.getElem?_replicate];split<;>rfl
  . rfl
 refine ⟨by simp,λv=>?_,λv=>?_,?_⟩
 . rw [WH hl,hz];split<;>omega
 . rw [WH hl,hz];split
   . rename_i hv;exact .inr ⟨[],by rw [hv];rfl⟩
   . exact .inl rfl
 . rw [WH hl,if_pos rfl];exact Int.le_refl _
theorem ZjP {k:Bool} {l:Land} {p:Span} {s day:Int} {d:List Int} {left:Int->Prop} (h:Gone k l p s day d) (hl:∀ v:Int,0<=v->v < l.wells.length->left v):Dij k l p s day d left :=
 ⟨h,λ_ _ v h0 h1 hn=>absurd (hl v h0 h1) hn,λu _ h0 h1 hn=>absurd (hl u h0 h1) hn⟩
end Go.Azalai
namespace Go.Proofs.YtiigiflofnjilaaGreat
open Go Go.Sx Go.Azalai
theorem Zno:Tryz.prog.underlying 189=some (.map 3 4):=by kernel_rfl
theorem u3:Tryz.prog.underlying 3=some (.int .i64):=by kernel_rfl
theorem Znl:KeyT Tryz.prog 3 (λn:Int=>.int .i64 n) (λn=>.v (.int .i64 n)):=ZAL u3
abbrev kI:Int->Value:=λn=>.int .i64 n
abbrev sI:Int->SV:=λn=>.v (.int .i64 n)
def mpR (n:Nat):List (Nat × Int × Bool):=(List.range n).map λj=>(j,(j:Int),true)
theorem Zbh (n:Nat):Za2 n (n:Int) true (mpR n)=mpR (n+1)/\ZdK n (n:Int) (mpR n)=n+1:=by
 have h:XX (n:Int) (mpR n)=none:=by
  rw [XR];intro e he;simp only [mpR,List.mem_map,List.mem_range] at he;obtain ⟨j,hj,rfl⟩:=he;simp only;omega
 rw [Zbd h];exact ⟨by simp [mpR,List.range_succ],by simp [ZdK,h]⟩
theorem Zze (n:Nat):MW (mpR n) n:=by
 induction n with
 | zero=>exact MW.nil
 | succ n ih =>
  have:=ih.set (k:=(n:Int)) true;rw [(Zbh n).1,(Zbh n).2] at this;exact this
theorem Zd3 {K V:Type} {L:List (Nat × K × V)} (h:(L.map (·.1)).Nodup) {e e':Nat × K × V} (he:e ∈ L) (he':e' ∈ L) (hb:e.1=e'.1):e=e':=by
 induction L with
 | nil=>cases he
 | cons x l ih =>
  simp only [List.map_cons,List.nodup_cons] at h;rcases List.mem_cons.1 he with h1 | h1<;>rcases List.mem_cons.1 he' with h2 | h2
  . rw [h1,h2]
  . exact absurd (by rw [<- h1,hb];exact List.mem_map.2 ⟨e',h2,rfl⟩) h.1
  . exact absurd (by rw [<- h2,<- hb];exact List.mem_map.2 ⟨e,h1,rfl⟩) h.1
  . exact ih h.2 h1 h2
theorem Zgz (l:Land) (p:Span) (hs:Xu l) (hg:OkLP l p) (s:Nat) (hsl:s < l.wells.length) (day:Int) (hd:inR 0 100000 day=true) (k:Bool) :
 Ct Tryz.prog 97 [.agg (Z3 l p),I s,I day,I (bif k then 1 else 0)] (.sl false 1 ((WL k l p s day).map Zn)):=by
 refine t97.1 (by simp [Z3,Zf,Zl,Zg,Za]) (by simp [Za,Zn]) ?_;simp only [inR,decide_eq_true_eq] at hd;have hw:=hs.1;have hleg:=hs.2.1;generalize hkk:(bif k then (1:Int) else 0)=kk;have hkk':kk=((bif k then 1 else 0:Nat):Int):=by cases k<;>simp [<- hkk]
 dsimp only [c97,r97,Z3,go_sem];simp only [List.length_map];refine UV [] (Zu0 100001 l.wells.length (by omega) hw true) rfl rfl rfl ?_ ?_ ?_
 . exact Zb (by simp [KFR])
 . trivial
 dsimp only [go_sem];rw [show List.replicate l.wells.length [I 100001]=(List.replicate l.wells.length (100001:Int)).map Zn by simp [Zn]];refine Wi s rfl (by simpa using hsl) ?_;dsimp only [go_sem];refine ZdM day (by simpa using hsl) (by simp [Zn]) (by simp [Zn,Zu]) ?_;dsimp only [go_sem];refine Zd2 rfl rfl rfl ?_;dsimp only [go_sem];have hgo:=Zda (k:=k) (l:=l) (p:=p) (s:=s) (day:=day) hsl hd.2;generalize (List.replicate l.wells.length (100001:Int)).set s day=d0 at hgo
 have hlen:=hgo.len;simp only [List.length_map,hlen];refine Yy (λj:Nat=>[(29,I j)]) (λj=>[(4,.map (mpS kI B (mpR j)) j)]) (λj=>j<=l.wells.length) (λj=>l.wells.length - j) 0 (Nat.zero_le _) ?_ ?_
 . (refine Zj ?_ ?_ ?_ rfl rfl<;>dsimp only [Z3,Zf,Zl,Zg,Zn,mpS,mpR,id,go_sem]<;>simp [Z3,Zf,Zl,Zg,Zn,mpS,mpR,Za])
 . intro j hj;dsimp only [go_sem];by_cases hlt:j < l.wells.length
   . refine Zq (by simpa using hlt) ?_;dsimp only [go_sem];refine Zjg (ins:=false) (key:=kI) (val:=B) (L:=mpR j) (k:=(j:Int)) (v:=true) rfl rfl Zno Znl rfl rfl (by simp) ?_;dsimp only [go_sem];rw [(Zbh j).1,(Zbh j).2,Zh (n:=(j:Int)+1) (by omega) (by omega)];refine ⟨j+1,hlt,by omega,?_⟩;(refine Zj ?_ ?_ ?_ rfl rfl<;>dsimp only [Z3,Zf,Zl,Zg,Zn,mpS,mpR,id,go_sem]<;>simp [Z3,Zf,Zl,Zg,Zn,mpS,mpR,Za])
   refine Zr (by simp;omega) ?_;dsimp only [go_sem];have hje:j=l.wells.length:=by omega
   subst hje;have hmem0:∀ v:Int,0<=v->v < l.wells.length->(XX v (mpR l.wells.length)).isSome=true:=λv h0 h1=>by
    cases hq:XX v (mpR l.wells.length) with
    | some _=>rfl
    | none =>
     have:=XR.1 hq (v.toNat,v,true) (by simp only [mpR,List.mem_map,List.mem_range];exact ⟨v.toNat,by omega,by simp;omega⟩);exact absurd rfl this
   refine Yy (λ_:List Int × List (Nat × Int × Bool)=>[]) (λq=>[(2,.row 0 1 (q.1.map Zn) 3),(4,.map (mpS kI B q.2) l.wells.length)])
    (λq=>Dij k l p s day q.1 (λv=>(XX v q.2).isSome=true)/\MW q.2 l.wells.length/\∀ e ∈ q.2,0<=e.2.1/\e.2.1 < l.wells.length) (λq=>q.2.length) (d0,mpR l.wells.length)
    ⟨ZjP hgo hmem0,Zze _,λe he=>(by simp only [mpR,List.mem_map,List.mem_range] at he;obtain ⟨i,hi,rfl⟩:=he;simp only;omega)⟩ ?_ ?_
   . (refine Zj ?_ ?_ ?_ rfl rfl<;>dsimp only [Z3,Zf,Zl,Zg,Zn,ZE,Zx,id,go_sem]<;>simp [Z3,Zf,Zl,Zg,Zn,ZE,Zx,Za])
   rintro ⟨d,L⟩ ⟨hD,hM,hb⟩;simp only at hD hM hb;have hdl:=hD.g.len;dsimp only [go_sem];refine ZsS rfl rfl Zno rfl ?_;dsimp only [go_sem];by_cases hL:L=[]
   . subst hL;refine Zr (by simp [mpS]) ?_;dsimp only [go_sem];have:=hD.done hg (λv=>by simp [XX]) hd.1 hd.2 (by omega) (by omega);rw [this]
   refine Zq (by simp [mpS,List.length_pos_iff.2 hL]) ?_;dsimp only [go_sem];refine Zk2 rfl rfl Zno rfl rfl ?_;dsimp only [go_sem];have hd0:∀ v,0<=dv d v/\dv d v<=100001:=λv=>⟨by have:=hD.g.lb hg hd.1 hd.2 (by omega) (by omega) v;omega,hD.g.ub v⟩;refine Yy (λ_:List Nat × Int=>[]) (λq=>[(5,.cells [I q.2] 3),(6,.it 4 l.wells.length q.1 l.wells.length)])
    (λq=>(q.2 = -1/\∀ e ∈ L,e.1 ∉ q.1)\/(0<=q.2/\q.2 < l.wells.length/\(XX q.2 L).isSome=true/\∀ e ∈ L,e.1 ∈ q.1->dv d q.2 < dv d e.2.1\/dv d q.2=dv d e.2.1/\q.2<=e.2.1))
    (λq=>Zqp L q.1) ([],-1) (.inl ⟨rfl,by simp⟩) ?_ ?_
   . (refine Zj ?_ ?_ ?_ rfl rfl<;>dsimp only [Z3,Zf,Zl,Zg,Zn,ZE,Zx,id,go_sem]<;>simp [Z3,Zf,Zl,Zg,Zn,ZE,Zx,Za])
   rintro ⟨seen,near⟩ hi;simp only at hi;dsimp only [go_sem];refine Zny (key:=kI) (sv:=sI) (val:=B) (L:=L) (c:=l.wells.length) rfl rfl rfl hM.bl (Nat.le_refl _) Znl ?_ ?_
   . intro hall;dsimp only [go_sem];refine Zr rfl ?_;dsimp only [go_sem];have hnn:(0<=near/\near < l.wells.length/\(XX near L).isSome=true/\∀ e ∈ L,e.1 ∈ seen->dv d near < dv d e.2.1\/dv d near=dv d e.2.1/\near<=e.2.1):=by
      rcases hi with ⟨_,hi⟩ | hi
      . obtain ⟨e,he⟩:=List.exists_mem_of_ne_nil _ hL;exact absurd (hall e he) (hi e he)
      . exact hi
     obtain ⟨hn0,hn1,hn2,hn3⟩:=hnn;have hmin:∀ v:Int,0<=v->v < l.wells.length->(XX v L).isSome=true->dv d near<=dv d v:=λv _ _ hv=>by
      obtain ⟨y,hy⟩:=Option.isSome_iff_exists.1 hv;obtain ⟨b,hbm⟩:=ZgV hy;have:=hn3 _ hbm (hall _ hbm);simp only at this;omega
     obtain ⟨m,rfl⟩:∃ m:Nat,near=(m:Int):=⟨near.toNat,by omega⟩
     have hml:m < d.length:=by omega
     refine Zt4 (key:=kI) (sv:=sI) (val:=B) (L:=L) (k:=(m:Int)) rfl rfl Zno Znl rfl rfl ?_;dsimp only [go_sem];refine UV [] (Zdr l p m) rfl rfl rfl ?_ ?_ ?_
     . exact Zb (by simp [Z3,Zf,Zl,Zg,Za])
     . trivial
     dsimp only [ZcS,Z3,go_sem];refine gh Yj ?_;dsimp only [go_sem];refine ⟨b153,λrec=>?_⟩;refine y153 ?_;dsimp only [ZAt,Zz4,go_sem];refine Yy (λq:Nat × List Int=>[(10,I q.1)]) (λq=>[(2,.row 0 1 (q.2.map Zn) 3)]) (λq=>q.1<=l.legs.length/\Rnd k l p s day d q.2 m q.1) (λq=>l.legs.length - q.1) (0,d) ⟨Nat.zero_le _,.start hD.g⟩ ?_ ?_
     . (refine Zj ?_ ?_ ?_ rfl rfl<;>dsimp only [Z3,Zf,Zl,Zg,Zn,ZE,Zx,id,go_sem]<;>simp [Z3,Zf,Zl,Zg,Zn,ZE,Zx,Za])
     rintro ⟨j,d'⟩ ⟨hj,hR⟩;simp only at hj hR;have hdl':=hR.g.len;dsimp only [go_sem];simp only [List.length_map];by_cases hlt:j < l.legs.length
     . refine Zq (by simpa using hlt) ?_;dsimp only [go_sem];refine Zo j hlt rfl ?_;dsimp only [Zl,go_sem];have hgl:GoodLeg l.legs[j]:=Y4 hg.land _ (List.getElem_mem _);have hends:=hg.ends (List.getElem_mem hlt);obtain ⟨wa,hwa⟩:∃ w:Nat,l.legs[j].a=(w:Int):=⟨l.legs[j].a.toNat,by omega⟩
       obtain ⟨wb,hwb⟩:∃ w:Nat,l.legs[j].b=(w:Int):=⟨l.legs[j].b.toNat,by omega⟩
       have hwal:wa < d'.length:=by omega
       have hwbl:wb < d'.length:=by omega
       have hml':m < d'.length:=by omega
       have hxj:l.legs[j]? = some l.legs[j]:=List.getElem?_eq_getElem hlt;have hin:inR 0 100001 d'[m]=true:=by
        have q1:=hR.g.lb hg hd.1 hd.2 (by omega) (by omega) (m:Int);have q2:=hR.g.ub (m:Int);rw [WZ hml'] at q1 q2;simp only [inR,decide_eq_true_eq];omega
       by_cases hca:(m:Int)=l.legs[j].a
       . refine Zq (by simpa using hca) ?_;dsimp only [go_sem];refine ⟨rfl,rfl,?_⟩;simp only [hwb,List.length_map];refine Wi wb rfl hwbl ?_;dsimp only [go_sem];refine Zan hwbl ?_;dsimp only [Zn,go_sem];simp only [List.length_map];refine Wi m rfl hml' ?_;dsimp only [go_sem];refine Zan hml' ?_;dsimp only [Zn,go_sem];simp only [List.length_map];refine Wi m rfl hml' ?_;dsimp only [go_sem];refine Zan hml' ?_
         dsimp only [Zn,go_sem];refine call (VD l p j hlt d'[m] d'[m] hgl hg.pace hin hin) ?_;dsimp only [go_sem];refine ixa (bif k then 1 else 0) hkk' (by cases k<;>decide) ?_;rw [show nth [I (ZB false l.legs[j] p d'[m]),I (ZB true l.legs[j] p d'[m])] ((bif k then 1 else 0) * 1)=some (I (ZB k l.legs[j] p d'[m])) from by cases k<;>rfl];dsimp only [go_sem];simp only [List.length_map];refine Wi wb rfl hwbl ?_
         dsimp only [go_sem];refine ZdM (min d'[wb] (ZB k l.legs[j] p d'[m])) hwbl (by simp [Zn]) (by simp [Zn,Zu]) ?_;dsimp only [go_sem];refine ⟨rfl,?_⟩;refine Zr (by decide) ?_;dsimp only [go_sem];rw [Zh (n:=(j:Int)+1) (by omega) (by omega)];have hst:=hR.step hg hxj (w:=wb) (by rw [Zm,if_pos hca.symm,hwb]) hd.1 hd.2 (by omega) (by omega);rw [WZ hwbl,WZ hml'] at hst;generalize d'.set wb (min d'[wb] (ZB k l.legs[j] p d'[m]))=d2 at hst ⊢
         refine ⟨(j+1,d2),⟨hlt,hst⟩,by simp only;omega,?_⟩;(refine Zj ?_ ?_ ?_ rfl rfl<;>dsimp only [Z3,Zf,Zl,Zg,Zn,ZE,Zx,id,go_sem]<;>simp [Z3,Zf,Zl,Zg,Zn,ZE,Zx,Za])
       refine Zr (by simpa using hca) ?_;dsimp only [go_sem];by_cases hcb:(m:Int)=l.legs[j].b
       . refine Zq (by simpa using hcb) ?_;dsimp only [go_sem];refine ⟨rfl,rfl,?_⟩;simp only [hwa,List.length_map];refine Wi wa rfl hwal ?_;dsimp only [go_sem];refine Zan hwal ?_;dsimp only [Zn,go_sem];simp only [List.length_map];refine Wi m rfl hml' ?_;dsimp only [go_sem];refine Zan hml' ?_;dsimp only [Zn,go_sem];simp only [List.length_map];refine Wi m rfl hml' ?_;dsimp only [go_sem];refine Zan hml' ?_
         dsimp only [Zn,go_sem];refine call (VD l p j hlt d'[m] d'[m] hgl hg.pace hin hin) ?_;dsimp only [go_sem];refine ixa (bif k then 1 else 0) hkk' (by cases k<;>decide) ?_;rw [show nth [I (ZB false l.legs[j] p d'[m]),I (ZB true l.legs[j] p d'[m])] ((bif k then 1 else 0) * 1)=some (I (ZB k l.legs[j] p d'[m])) from by cases k<;>rfl];dsimp only [go_sem];simp only [List.length_map];refine Wi wa rfl hwal ?_
         dsimp only [go_sem];refine ZdM (min d'[wa] (ZB k l.legs[j] p d'[m])) hwal (by simp [Zn]) (by simp [Zn,Zu]) ?_;dsimp only [go_sem];refine ⟨rfl,?_⟩;refine Zr (by decide) ?_;dsimp only [go_sem];rw [Zh (n:=(j:Int)+1) (by omega) (by omega)];have hst:=hR.step hg hxj (w:=wa) (by rw [Zm,if_neg (λe=>hca e.symm),if_pos hcb.symm,hwa]) hd.1 hd.2 (by omega) (by omega);rw [WZ hwal,WZ hml'] at hst;generalize d'.set wa (min d'[wa] (ZB k l.legs[j] p d'[m]))=d2 at hst ⊢
         refine ⟨(j+1,d2),⟨hlt,hst⟩,by simp only;omega,?_⟩;(refine Zj ?_ ?_ ?_ rfl rfl<;>dsimp only [Z3,Zf,Zl,Zg,Zn,ZE,Zx,id,go_sem]<;>simp [Z3,Zf,Zl,Zg,Zn,ZE,Zx,Za])
       refine Zr (by simpa using hcb) ?_;dsimp only [go_sem];rw [Zh (n:=(j:Int)+1) (by omega) (by omega)];refine ⟨(j+1,d'),⟨hlt,hR.skip hxj (by rw [Zm,if_neg (λe=>hca e.symm),if_neg (λe=>hcb e.symm)];decide)⟩,by simp only;omega,?_⟩;(refine Zj ?_ ?_ ?_ rfl rfl<;>dsimp only [Z3,Zf,Zl,Zg,Zn,ZE,Zx,id,go_sem]<;>simp [Z3,Zf,Zl,Zg,Zn,ZE,Zx,Za])
     refine Zr (by simp;omega) ?_;dsimp only [go_sem];have hje:j=l.legs.length:=by omega
     subst hje
     have hfin:=Rnd.finish (left':=λv=>(XX v (Zad (m:Int) L)).isSome=true) hD hR hn2 hn0 hn1 hmin (λv=>by
      rw [Zgb hM.kn];by_cases hv:v=(m:Int)
      . simp [hv]
      . simp [hv]) hg
     refine ⟨(d',Zad (m:Int) L),⟨hfin,hM.del,λe he=>hb e (Zac.subset he)⟩,by simp only;have:=Zga hn2;omega,?_⟩;(refine Zj ?_ ?_ ?_ rfl rfl<;>dsimp only [Z3,Zf,Zl,Zg,Zn,ZE,Zx,id,go_sem]<;>simp [Z3,Zf,Zl,Zg,Zn,ZE,Zx,Za])
   intro e he hse;dsimp only [go_sem];refine Zq rfl ?_;dsimp only [go_sem];refine Zjc (key:=kI) (sv:=sI) (val:=B) (L:=L) (c:=l.wells.length) (e:=e) rfl rfl rfl he hM.bn Znl ?_;dsimp only [go_sem];have hbe:=hb e he;have hget:=ZkR hM.kn he;obtain ⟨m,hm⟩:∃ m:Nat,e.2.1=(m:Int):=⟨e.2.1.toNat,by omega⟩
   rw [hm] at hbe hget;simp only [hm];have hml:m < d.length:=by omega
   have hmeas:=ZqB he hse;have hnl:near.toNat < d.length:=by rcases hi with ⟨rfl,_⟩ | ⟨_,_,_⟩<;>omega
   refine gb ?_;dsimp only [go_sem];refine gb ?_;dsimp only [go_sem];refine gb ?_;dsimp only [go_sem];simp only [List.length_map];refine Wi m rfl hml ?_;dsimp only [go_sem];refine gb ?_;dsimp only [go_sem];refine Zan hml ?_;dsimp only [Zn,go_sem];refine gb ?_;dsimp only [go_sem];refine gb ?_;dsimp only [go_sem];refine gb ?_;dsimp only [go_sem];simp only [List.length_map];refine ZtG near.toNat rfl (λh=>⟨by simp at h;omega,hnl⟩) ?_
   dsimp only [go_sem];refine gb ?_;dsimp only [go_sem];refine Zan hnl ?_;dsimp only [Zn,go_sem];refine gb ?_;dsimp only [go_sem];refine gb ?_;dsimp only [go_sem];refine gb ?_;dsimp only [go_sem];refine gb ?_;dsimp only [go_sem];simp only [List.length_map];refine Wi m rfl hml ?_;dsimp only [go_sem];refine gb ?_;dsimp only [go_sem];refine Zan hml ?_;dsimp only [Zn,go_sem];refine gb ?_;dsimp only [go_sem]
   refine gb ?_;dsimp only [go_sem];refine gb ?_;dsimp only [go_sem];simp only [List.length_map];refine ZtG near.toNat rfl (λh=>⟨by simp at h;omega,hnl⟩) ?_;dsimp only [go_sem];refine gb ?_;dsimp only [go_sem];refine Zan hnl ?_;dsimp only [Zn,go_sem];repeat (refine gb ?_;dsimp only [go_sem])
   have hdm:dv d (m:Int)=d[m]:=WZ hml;have hdn:0<=near->dv d near=d[near.toNat]:=λh=>by
    have:=WZ hnl;rw [<- this];congr 1;omega
   have hse':∀ e' ∈ L,e'.1 ∈ seen ++ [e.1]->e'.1 ∈ seen\/e'.2.1=m:=λe' he' h=>by
    rcases List.mem_append.1 h with h | h
    . exact .inl h
    . refine .inr ?_;simp only [List.mem_singleton] at h;have:e'=e:=Zd3 hM.bn he' he h;rw [this,hm]
   refine br ?_ ?_
   . intro hA;dsimp only [go_sem];refine ⟨(seen ++ [e.1],m),.inr ⟨by simp only;omega,by simp only;omega,by simp only;rw [hget];rfl,λe' he' h=>?_⟩,hmeas,?_⟩
     . simp only [hdm];rcases hse' e' he' h with h | h
       . rcases hi with ⟨rfl,hi⟩ | ⟨hn0,hn1,hn2,hi⟩
         . exact absurd h (hi e' he')
         . have:=hi e' he' h;rw [hdn hn0] at this;simp only [Bool.or_eq_true,Bool.and_eq_true,decide_eq_true_eq,beq_iff_eq] at hA;omega
       . rw [h,hdm];omega
     (refine Zj ?_ ?_ ?_ rfl rfl<;>dsimp only [Z3,Zf,Zl,Zg,Zn,ZE,Zx,id,go_sem]<;>simp [Z3,Zf,Zl,Zg,Zn,ZE,Zx,Za])
   . intro hA;dsimp only [go_sem];simp only [Bool.or_eq_false_iff,Bool.and_eq_false_iff,decide_eq_false_iff_not,beq_eq_false_iff_ne] at hA;refine ⟨(seen ++ [e.1],near),.inr ?_,hmeas,?_⟩
     . rcases hi with ⟨rfl,hi⟩ | ⟨hn0,hn1,hn2,hi⟩
       . omega
       . refine ⟨hn0,hn1,hn2,λe' he' h=>?_⟩;simp only [hdn hn0];rcases hse' e' he' h with h | h
         . have:=hi e' he' h;rw [hdn hn0] at this;exact this
         . rw [h,hdm];omega
     (refine Zj ?_ ?_ ?_ rfl rfl<;>dsimp only [Z3,Zf,Zl,Zg,Zn,ZE,Zx,id,go_sem]<;>simp [Z3,Zf,Zl,Zg,Zn,ZE,Zx,Za])
end Go.Proofs.YtiigiflofnjilaaGreat
namespace Go.Azalai
noncomputable def Xl (l:Land) (p:Span) (s day:Int):List Span:=List.zipWith Span.mk (WL false l p s day) (WL true l p s day)
def Xb (l:Land) (p:Span) (s day:Int):Int:=if Ul l p≠0 then Ul l p else if (inR 0 (l.wells.length - 1) s && inR 0 100000 day)=false then 2 else 0
theorem V7 {k:Bool} {l:Land} {p:Span} {s day:Int}:(WL k l p s day).length=l.wells.length:=by simp [WL]
theorem X5 {l:Land} {p:Span} {s day:Int}:(Xl l p s day).length=l.wells.length:=by simp [Xl,V7]
theorem Zc1 {l:Land} {p:Span} (h:Ul l p=0):OkLP l p:=by
 unfold Ul at h;split at h
 . omega
 . split at h
   . omega
   . rename_i h1 h2;exact ⟨by simpa using h1,by simpa using h2⟩
end Go.Azalai
namespace Go.Proofs.YtiigiflofnjilaaGreat
open Go Go.Sx Go.Azalai
theorem Yp {xs:List (List SV)} {n:Nat} (h:KFR xs):KFR (xs.take n):=by
 induction xs generalizing n with
 | nil=>simpa using h
 | cons x l ih=>cases n with
  | zero=>simp [KFR]
  | succ n=>simp only [List.take_succ_cons,KFR] at h ⊢;exact ⟨h.1,ih h.2⟩
def YM (e:Int) (m:Nat) (xs:List (List SV)):SV:=if e=0 then .sl false m xs else .v (.slice none 0 0)
theorem Zek (l:Land) (hs:Xu l) (s day:Int) (p:Span):Ct Tryz.prog 52 [.agg (Zt l),I s,I day,.agg (Zc p)] (.tup [YM (Xb l p s day) 2 ((Xl l p s day).map Zc),I (Xb l p s day)]):=by
 have hw:=hs.1;refine t52.1 (by simp [Zt,Zf,Zl,Zg,Zc,Za]) (by unfold YM;split<;>simp [KFL,KF,Za,Zc]) ?_;dsimp only [c52,r52,Zt,Zc,go_sem];by_cases ha:Ul l p=0
 case neg =>
  refine call (Zbg l hs p ha) ?_;dsimp only [go_sem];refine Zq (by simpa using ha) ?_;dsimp only [go_sem];simp [Xb,ha,YM]
 have hok:=Zc1 ha;refine call (Zdf l hs p ha) ?_;dsimp only [Z3,go_sem];refine Zr (by decide) ?_;dsimp only [go_sem];simp only [List.length_map];have h1:=XD hok.land;rw [Zh (n:=(l.wells.length:Int) - 1) (by omega) (by omega)];refine call (ZaC 0 (l.wells.length - 1) s true) ?_;dsimp only [go_sem];repeat (first | (refine gb ?_;dsimp only [go_sem]) | (refine call (ZaC 0 100000 day true) ?_;dsimp only [go_sem]))
 by_cases hr:(inR 0 (l.wells.length - 1) s && inR 0 100000 day)=true
 case neg =>
  refine Zq (by simpa [Bool.and_eq_true,<- Bool.not_and] using hr) ?_;dsimp only [go_sem];simp [Xb,ha,YM,hr]
 refine Zr (by simpa [<- Bool.not_and] using hr) ?_;dsimp only [go_sem];have he:Xb l p s day=0:=by simp [Xb,ha,hr]
 rw [he];simp only [Bool.and_eq_true] at hr;obtain ⟨hr1,hr2⟩:=hr;obtain ⟨s0,hs0,rfl⟩:∃ s0:Nat,s0 < l.wells.length/\s=(s0:Int):=by
  simp only [inR,decide_eq_true_eq] at hr1;exact ⟨s.toNat,by omega,by omega⟩
 refine call (Zgz l p hs hok s0 hs0 day hr2 true) ?_;dsimp only [go_sem];refine call (Zgz l p hs hok s0 hs0 day hr2 false) ?_;dsimp only [go_sem];simp only [List.length_map,V7];refine Zau (Yg 12 2 27 rfl rfl) (λq:Nat × Nat=>[(50,I q.1),(12,.mr 3 q.2)]) (λq=>[(3,.row q.2 2 (((Xl l p s0 day).take q.1).map Zc) 27)]) (λq=>q.1<=l.wells.length) (λq=>l.wells.length - q.1) (0,0) (Nat.zero_le _) ?_ ?_
 . (refine Zj ?_ ?_ ?_ rfl rfl<;>dsimp only [Zc,Zf,Zl,Zg,Zn,Yp,id,go_sem]<;>simp [Zc,Zf,Zl,Zg,Zn,Yp,Za])
 rintro ⟨j,v⟩ hj;simp only at hj;dsimp only [go_sem];by_cases hlt:j < l.wells.length
 . refine Zq (by simpa using hlt) ?_;dsimp only [go_sem];have hf0:j < (WL false l p s0 day).length:=by rw [V7];exact hlt
   have hf1:j < (WL true l p s0 day).length:=by rw [V7];exact hlt
   refine Zo j hf0 rfl ?_;dsimp only [Zn,go_sem];refine Zo j hf1 rfl ?_;dsimp only [Zn,go_sem];simp only [nbr];dsimp only [go_sem];have hlen:(((Xl l p s0 day).take j).map Zc).length=j:=by simp [X5];omega
   refine ⟨(by intro c hc;simp only [List.mem_singleton] at hc;subst hc;rfl),by simp only [List.length_append,hlen,List.length_singleton];omega,?_⟩;dsimp only [go_sem];rw [Zh (n:=(j:Int)+1) (by omega) (by omega)];have hjl:j < (Xl l p s0 day).length:=by rw [X5];exact hlt
   have e:((Xl l p s0 day).take j).map Zc ++ [[SV.v (.int .i64 (WL false l p s0 day)[j]),SV.v (.int .i64 (WL true l p s0 day)[j])]]=((Xl l p s0 day).take (j+1)).map Zc:=by
    rw [List.take_succ_eq_append_getElem hjl,List.map_append];simp [Xl,Zc]
   rw [e];refine ⟨(j+1,v+1),hlt,by simp only;omega,?_⟩;(refine Zj ?_ ?_ ?_ rfl rfl<;>dsimp only [Zc,Zf,Zl,Zg,Zn,Yp,id,go_sem]<;>simp [Zc,Zf,Zl,Zg,Zn,Yp,Za])
 refine Zr (by simp;omega) ?_;dsimp only [go_sem];have hje:j=l.wells.length:=by omega
 subst hje;have:(Xl l p s0 day).take l.wells.length=Xl l p s0 day:=List.take_of_length_le (by rw [X5];exact Nat.le_refl _);rw [this];simp [YM,vwN]
end Go.Proofs.YtiigiflofnjilaaGreat
namespace Go.Azalai
def Ze8 (S:List Span):List Int:=S.map (·.lo)
def Zfl (S:List Span):List Int:=S.map (·.hi)
def ZzC (p:Span) (S:List Span) (x:Leg) (v:Int):Prop:=0<=Zm x v->dv (Ze8 S) (Zm x v)<=ZB false x p (dv (Ze8 S) v)/\dv (Zfl S) (Zm x v)<=ZB true x p (dv (Zfl S) v)
def Zm0 (S:List Span):Nat:=(S.map λs=>s.lo.toNat+s.hi.toNat).sum
theorem ZgD:∀ (S:List Span) (i:Nat) (y:Span) (h:i < S.length),Zm0 (S.set i y)+(S[i].lo.toNat+S[i].hi.toNat)=Zm0 S+(y.lo.toNat+y.hi.toNat)
 | a :: S,0,y,h=>by simp only [Zm0,List.set_cons_zero,List.map_cons,List.sum_cons,List.getElem_cons_zero];omega
 | a :: S,i+1,y,h=>by
  have:=ZgD S i y (by simpa using h);simp only [Zm0,List.set_cons_succ,List.map_cons,List.sum_cons,List.getElem_cons_succ] at this ⊢;omega
def Zmb (x:Leg) (c:Nat):Int:=if c % 2=0 then x.a else x.b
structure RI (l:Land) (p:Span) (s day:Int) (S0 S:List Span) (ch:Bool) (c:Nat):Prop where
 g0:Gone false l p s day (Ze8 S)
 g1:Gone true l p s day (Zfl S)
 le:Zm0 S<=Zm0 S0
 dec:ch=true->Zm0 S < Zm0 S0
 same:ch=false->S=S0/\∀ c' x,c' < c->l.legs[c' / 2]? = some x->ZzC p S0 x (Zmb x c')
theorem RI.start {l:Land} {p:Span} {s day:Int} {S:List Span} (h0:Gone false l p s day (Ze8 S)) (h1:Gone true l p s day (Zfl S)):RI l p s day S S false 0 :=
 ⟨h0,h1,Nat.le_refl _,λh=>(by cases h),λ_=>⟨rfl,λc' x h=>absurd h (Nat.not_lt_zero _)⟩⟩
theorem RI.len {l:Land} {p:Span} {s day:Int} {S0 S:List Span} {ch:Bool} {c:Nat} (h:RI l p s day S0 S ch c):S.length=l.wells.length:=by have:=h.g0.len;simpa [Ze8] using this
theorem ZcT {S:List Span} {i:Nat} (h:i < S.length):dv (Ze8 S) i=S[i].lo/\dv (Zfl S) i=S[i].hi:=by
 constructor
 . rw [WZ (by simpa [Ze8] using h)];simp [Ze8]
 . rw [WZ (by simpa [Zfl] using h)];simp [Zfl]
theorem RI.in {l:Land} {p:Span} {s day:Int} {S0 S:List Span} {ch:Bool} {c:Nat} (h:RI l p s day S0 S ch c) (hg:OkLP l p) (hd:0<=day) (hd':day<=100000) (h0:0<=s) (h1:s < l.wells.length) {i:Nat} (hi:i < S.length) :
 (0<=S[i].lo/\S[i].lo<=100001)/\0<=S[i].hi/\S[i].hi<=100001:=by
 have q:=ZcT hi;have a1:=h.g0.lb hg hd hd' h0 h1 i;have a2:=h.g0.ub i;have b1:=h.g1.lb hg hd hd' h0 h1 i;have b2:=h.g1.ub i;omega
theorem RI.calm {l:Land} {p:Span} {s day:Int} {S0 S:List Span} {ch:Bool} {c:Nat} (h:RI l p s day S0 S ch c) {x:Leg} (hx:l.legs[c / 2]? = some x) {v w:Nat} (hv:Zmb x c=v) (hw:Zm x v=w) (hvl:v < S.length) (hwl:w < S.length)
 (hn:¬ (ZB false x p S[v].lo < S[w].lo\/ZB true x p S[v].hi < S[w].hi)):RI l p s day S0 S ch (c+1):=by
 refine ⟨h.g0,h.g1,h.le,h.dec,λhc=>?_⟩;obtain ⟨q1,q2⟩:=h.same hc;refine ⟨q1,λc' y hc' hy=>?_⟩;by_cases he:c'=c
 . subst he;rw [hx] at hy;cases hy;subst q1;intro _;have d1:=ZcT hvl;have d2:=ZcT hwl;rw [hv,hw,d1.1,d1.2,d2.1,d2.2];omega
 . exact q2 c' y (by omega) hy
theorem RI.improve {l:Land} {p:Span} {s day:Int} {S0 S:List Span} {ch:Bool} {c:Nat} (h:RI l p s day S0 S ch c) (hg:OkLP l p) (hd:0<=day) (hd':day<=100000) (h0:0<=s) (h1:s < l.wells.length) {x:Leg} (hx:l.legs[c / 2]? = some x) {v w:Nat} (hw:Zm x v=w) (hvl:v < S.length) (hwl:w < S.length)
 (hn:ZB false x p S[v].lo < S[w].lo\/ZB true x p S[v].hi < S[w].hi):RI l p s day S0 (S.set w ⟨min S[w].lo (ZB false x p S[v].lo),min S[w].hi (ZB true x p S[v].hi)⟩) true (c+1):=by
 have d1:=ZcT hvl;have d2:=ZcT hwl;have b1:=h.in hg hd hd' h0 h1 hvl;have b2:=h.in hg hd hd' h0 h1 hwl;have r0:=(h.g0.relax hg hx hw hd hd' h0 h1).1;have r1:=(h.g1.relax hg hx hw hd hd' h0 h1).1;rw [d1.1,d2.1] at r0;rw [d1.2,d2.2] at r1;have e0:Ze8 (S.set w ⟨min S[w].lo (ZB false x p S[v].lo),min S[w].hi (ZB true x p S[v].hi)⟩)=(Ze8 S).set w (min S[w].lo (ZB false x p S[v].lo)):=by simp [Ze8,List.map_set]
 have e1:Zfl (S.set w ⟨min S[w].lo (ZB false x p S[v].lo),min S[w].hi (ZB true x p S[v].hi)⟩)=(Zfl S).set w (min S[w].hi (ZB true x p S[v].hi)):=by simp [Zfl,List.map_set]
 have hsum:=ZgD S w ⟨min S[w].lo (ZB false x p S[v].lo),min S[w].hi (ZB true x p S[v].hi)⟩ hwl;simp only at hsum;have g1:=Uw (k:=false) (hg.leg hx) hg.pace b1.1.2;have g2:=Uw (k:=true) (hg.leg hx) hg.pace b1.2.2;have hlt:Zm0 (S.set w ⟨min S[w].lo (ZB false x p S[v].lo),min S[w].hi (ZB true x p S[v].hi)⟩) < Zm0 S:=by omega
 have:=h.le;exact ⟨by rw [e0];exact r0,by rw [e1];exact r1,by omega,λ_=>by omega,λhc=>by cases hc⟩
theorem RI.done {l:Land} {p:Span} {s day:Int} {S0 S:List Span} {c:Nat} (h:RI l p s day S0 S false c) (hc:2 * l.legs.length<=c) (hg:OkLP l p) (hd:0<=day) (hd':day<=100000) (h0:0<=s) (h1:s < l.wells.length):S=Xl l p s day:=by
 obtain ⟨q1,q2⟩:=h.same rfl;subst q1;have hcl:∀ x ∈ l.legs,(dv (Ze8 S) x.b<=ZB false x p (dv (Ze8 S) x.a)/\dv (Ze8 S) x.a<=ZB false x p (dv (Ze8 S) x.b))/\(dv (Zfl S) x.b<=ZB true x p (dv (Zfl S) x.a)/\dv (Zfl S) x.a<=ZB true x p (dv (Zfl S) x.b)):=λx hx=>by
  obtain ⟨i,hi⟩:=List.mem_iff_getElem?.1 hx;have hil:i < l.legs.length:=(List.getElem?_eq_some_iff.1 hi).1;have hen:=hg.ends hx;have k1:=q2 (2 * i) x (by omega) (by rw [show 2 * i / 2=i by omega];exact hi);have k2:=q2 (2 * i+1) x (by omega) (by rw [show (2 * i+1) / 2=i by omega];exact hi);simp only [ZzC,Zmb,show 2 * i % 2=0 by omega,show ¬ (2 * i+1) % 2=0 by omega,if_true,if_false,Zm,if_neg hen.2.2] at k1 k2
  have m1:=k1 hen.2.1.1;have m2:=k2 hen.1.1;exact ⟨⟨m1.1,m2.1⟩,⟨m1.2,m2.2⟩⟩
 have e0:=Zdm (k:=false) hg hd hd' h0 h1 h.g0.st (λx hx=>(hcl x hx).1) h.g0.ub h.g0.real;have e1:=Zdm (k:=true) hg hd hd' h0 h1 h.g1.st (λx hx=>(hcl x hx).2) h.g1.ub h.g1.real;have hl:=h.len;refine List.ext_getElem (by rw [hl,X5]) λi hi hi'=>?_;have d:=ZcT hi;simp only [Xl,List.getElem_zipWith,WL,List.getElem_map,List.getElem_range];rw [<- e0,<- e1,d.1,d.2]
theorem RI.again {l:Land} {p:Span} {s day:Int} {S0 S:List Span} {ch:Bool} {c:Nat} (h:RI l p s day S0 S ch c):RI l p s day S S false 0:=.start h.g0 h.g1
open Go.Sx
def Wm:List Nat->List Nat->Bool
 | [],[]=>false
 | [],_ :: _=>true
 | _ :: _,[]=>false
 | x :: a,y :: b=>decide (x < y) || (x == y && Wm a b)
theorem Vr:∀ a:List Nat,Wm a a=false
 | []=>rfl
 | x :: a=>by simp [Wm,Vr a]
theorem Zf9:∀ {a b:List Nat},Wm a b=false->Wm b a=false->a=b
 | [],[],_,_=>rfl
 | [],_ :: _,h,_=>by simp [Wm] at h
 | _ :: _,[],_,h=>by simp [Wm] at h
 | x :: a,y :: b,h,h'=>by
  simp only [Wm,Bool.or_eq_false_iff,decide_eq_false_iff_not,Bool.and_eq_false_iff,beq_eq_false_iff_ne] at h h';have hxy:x=y:=by omega
  subst hxy;rw [Zf9 (a:=a) (b:=b) (by simpa using h.2) (by simpa using h'.2)]
theorem WW:∀ {a b c:List Nat},Wm a b=true->Wm b c=true->Wm a c=true
 | [],[],_,h,_=>by simp [Wm] at h
 | [],_ :: _,[],_,h=>by simp [Wm] at h
 | [],_ :: _,_ :: _,_,_=>rfl
 | _ :: _,[],_,h,_=>by simp [Wm] at h
 | _ :: _,_ :: _,[],_,h=>by simp [Wm] at h
 | x :: a,y :: b,z :: c,h,h'=>by
  simp only [Wm,Bool.or_eq_true,decide_eq_true_eq,Bool.and_eq_true,beq_iff_eq] at h h' ⊢;rcases h with h | ⟨rfl,h⟩
  . rcases h' with h' | ⟨rfl,h'⟩
    . exact .inl (by omega)
    . exact .inl h
  . rcases h' with h' | ⟨rfl,h'⟩
    . exact .inl h'
    . exact .inr ⟨rfl,WW h h'⟩
theorem Zbu:∀ {a b c d:List Nat},a.length=b.length->Wm (a ++ c) (b ++ d)=(Wm a b || (decide (a=b) && Wm c d))
 | [],[],c,d,_=>by simp [Wm]
 | x :: a,y :: b,c,d,h=>by
  rw [List.cons_append,List.cons_append,Wm,Wm,Zbu (a:=a) (b:=b) (c:=c) (d:=d) (by simpa using h)];by_cases hxy:x=y
  . subst hxy;simp
  . have hb:(x == y)=false:=beq_eq_false_iff_ne.2 hxy;have hc:decide (x :: a=y :: b)=false:=by simp [hxy]
    rw [hb,hc];simp
 | [],_ :: _,_,_,h=>by simp at h
 | _ :: _,[],_,_,h=>by simp at h
def Zzz (W:List Nat->Prop) (a:List Nat):Prop:=W a/\∀ b,W b->Wm b a=false
theorem Zzz.congr {W W':List Nat->Prop} {a:List Nat} (h:Zzz W a) (hw:∀ b,W' b↔W b):Zzz W' a:=⟨(hw a).2 h.1,λb hb=>h.2 b ((hw b).1 hb)⟩
def ZlZ (l:Land) (p:Span) (s day:Int) (n:Nat) (q:Int × Int) (a:List Nat):Prop:=a.length=n/\goW true l p s day a=some q
theorem Zhc {l:Land} {p:Span} {s day:Int} {a:List Nat} {i:Nat} {q:Int × Int} (h:goW true l p s day (a ++ [i])=some q) :
 ∃ u x,goW true l p s day a=some u/\l.legs[i]? = some x/\0<=Zm x u.1/\ZB true x p u.2<=100000/\q=(Zm x u.1,ZB true x p u.2):=by
 rw [ZbW] at h;cases hu:goW true l p s day a with
 | none=>rw [hu] at h;simp at h
 | some u =>
  rw [hu] at h;simp only [Option.bind_some,goW] at h;cases hx:l.legs[i]? with
  | none=>rw [hx] at h;cases h
  | some x =>
   rw [hx] at h;simp only at h;split at h
   . cases h
   . split at h
     . cases h
     . exact ⟨u,x,rfl,rfl,by omega,by omega,by injection h with h;exact h.symm⟩
def Cand (l:Land) (p:Span) (G:Int) (L:Int × Int->Option (List Nat)) (done:Int × Int->Nat->Prop) (q:Int × Int) (a:List Nat):Prop :=
 ∃ u w i x,L u=some w/\done u i/\l.legs[i]? = some x/\0<=Zm x u.1/\ZB true x p u.2<=G/\q=(Zm x u.1,ZB true x p u.2)/\a=w ++ [i]
def ZdB (W:List Nat->Prop):Option (List Nat)->Prop
 | none=>∀ a,¬ W a
 | some a=>Zzz W a
theorem ZdB.congr {W W':List Nat->Prop} {o:Option (List Nat)} (h:ZdB W o) (hw:∀ b,W' b↔W b):ZdB W' o:=by
 cases o with
 | none=>exact λa ha=>h a ((hw a).1 ha)
 | some a=>exact Zzz.congr h hw
def Zu6 (c:List Nat):Option (List Nat)->Option (List Nat)
 | none=>some c
 | some d=>if Wm c d=true then some c else some d
theorem ZdB.more {W W':List Nat->Prop} {o:Option (List Nat)} {c:List Nat} (h:ZdB W o) (hw:∀ b,W' b↔W b\/b=c) :
 ZdB W' (Zu6 c o):=by
 cases o with
 | none=>exact ⟨(hw c).2 (.inr rfl),λb hb=>by
  rcases (hw b).1 hb with hb | rfl
  . exact absurd hb (h b)
  . exact Vr _⟩
 | some d =>
  simp only [Zu6];split
  . rename_i hcd;refine ⟨(hw c).2 (.inr rfl),λb hb=>?_⟩;rcases (hw b).1 hb with hb | rfl
    . cases hq:Wm b c with
      | false=>rfl
      | true=>have:=WW hq hcd;rw [h.2 b hb] at this;cases this
    . exact Vr _
  . rename_i hcd;refine ⟨(hw d).2 (.inl h.1),λb hb=>?_⟩;rcases (hw b).1 hb with hb | rfl
    . exact h.2 b hb
    . simpa using hcd
def Nxt (l:Land) (p:Span) (G:Int) (L N:Int × Int->Option (List Nat)) (done:Int × Int->Nat->Prop):Prop:=∀ q,ZdB (Cand l p G L done q) (N q)
theorem Nxt.congr {l:Land} {p:Span} {G:Int} {L N N':Int × Int->Option (List Nat)} {done done':Int × Int->Nat->Prop} (h:Nxt l p G L N done) (hN:∀ q,N' q=N q) (hd:∀ u w i,L u=some w->i < l.legs.length->(done' u i↔done u i)):Nxt l p G L N' done':=λq=>by
 rw [hN];refine (h q).congr λb=>⟨?_,?_⟩
 . rintro ⟨u,w,i,x,h1,h2,h3⟩;exact ⟨u,w,i,x,h1,(hd u w i h1 (List.getElem?_eq_some_iff.1 h3.1).1).1 h2,h3⟩
 . rintro ⟨u,w,i,x,h1,h2,h3⟩;exact ⟨u,w,i,x,h1,(hd u w i h1 (List.getElem?_eq_some_iff.1 h3.1).1).2 h2,h3⟩
theorem Nxt.start {l:Land} {p:Span} {G:Int} {L N:Int × Int->Option (List Nat)} (hN:∀ q,N q=none):Nxt l p G L N (λ_ _=>False):=λq=>by
 rw [hN];rintro a ⟨_,_,_,_,_,h,_⟩;exact h
theorem Nxt.skip {l:Land} {p:Span} {G:Int} {L N:Int × Int->Option (List Nat)} {done:Int × Int->Nat->Prop} (h:Nxt l p G L N done) {u:Int × Int} {i:Nat} {x:Leg} (hx:l.legs[i]? = some x) (hn:¬ (0<=Zm x u.1/\ZB true x p u.2<=G)) :
 Nxt l p G L N (λu' i'=>done u' i'\/u'=u/\i'=i):=λq=>(h q).congr λb=>⟨by
  rintro ⟨u',w,i',x',h1,h2,h3,h4,h5,h6⟩;rcases h2 with h2 | ⟨rfl,rfl⟩
  . exact ⟨u',w,i',x',h1,h2,h3,h4,h5,h6⟩
  . rw [hx] at h3;cases h3;exact absurd ⟨h4,h5⟩ hn,by
  rintro ⟨u',w,i',x',h1,h2,h3⟩;exact ⟨u',w,i',x',h1,.inl h2,h3⟩⟩
theorem Nxt.step {l:Land} {p:Span} {G:Int} {L N N':Int × Int->Option (List Nat)} {done:Int × Int->Nat->Prop} (h:Nxt l p G L N done) {u:Int × Int} {w:List Nat} {i:Nat} {x:Leg} (hL:L u=some w) (hx:l.legs[i]? = some x) (h0:0<=Zm x u.1) (h1:ZB true x p u.2<=G)
 (hN:∀ q,N' q=if q=(Zm x u.1,ZB true x p u.2) then Zu6 (w ++ [i]) (N q) else N q) :
 Nxt l p G L N' (λu' i'=>done u' i'\/u'=u/\i'=i):=λq=>by
 rw [hN];by_cases hq:q=(Zm x u.1,ZB true x p u.2)
 . rw [if_pos hq];refine ZdB.more (h q) λb=>⟨?_,?_⟩
   . rintro ⟨u',w',i',x',k1,k2,k3,k4,k5,k6,k7⟩;rcases k2 with k2 | ⟨rfl,rfl⟩
     . exact .inl ⟨u',w',i',x',k1,k2,k3,k4,k5,k6,k7⟩
     . rw [hL] at k1;cases k1;exact .inr k7
   . rintro (⟨u',w',i',x',k1,k2,k3⟩ | rfl)
     . exact ⟨u',w',i',x',k1,.inl k2,k3⟩
     . exact ⟨u,w,i,x,hL,.inr ⟨rfl,rfl⟩,hx,h0,h1,hq,rfl⟩
 . rw [if_neg hq];refine (h q).congr λb=>⟨?_,?_⟩
   . rintro ⟨u',w',i',x',k1,k2,k3,k4,k5,k6,k7⟩;rcases k2 with k2 | ⟨rfl,rfl⟩
     . exact ⟨u',w',i',x',k1,k2,k3,k4,k5,k6,k7⟩
     . rw [hx] at k3;cases k3;exact absurd k6 hq
   . rintro ⟨u',w',i',x',k1,k2,k3⟩;exact ⟨u',w',i',x',k1,.inl k2,k3⟩
def Rd (l:Land) (p:Span) (s day G:Int) (n:Nat) (L:Int × Int->Option (List Nat)):Prop:=∀ q,ZdB (λa=>q.2<=G/\ZlZ l p s day n q a) (L q)
theorem Rd.start {l:Land} {p:Span} {s day G:Int} {L:Int × Int->Option (List Nat)} (hG:day<=G) (hL:∀ q,L q=if q=(s,day) then some [] else none):Rd l p s day G 0 L:=λq=>by
 rw [hL];split
 . rename_i hq;subst hq;exact ⟨⟨hG,rfl,rfl⟩,λb hb=>by rw [List.eq_nil_of_length_eq_zero hb.2.1];rfl⟩
 . rename_i hq;rintro a ⟨_,h1,h2⟩;rw [List.eq_nil_of_length_eq_zero h1] at h2;simp only [goW,Option.some.injEq] at h2;exact hq h2.symm
theorem Rd.next {l:Land} {p:Span} {s day G:Int} {n:Nat} {L N:Int × Int->Option (List Nat)} {done:Int × Int->Nat->Prop} (hg:OkLP l p) (h:Rd l p s day G n L) (hN:Nxt l p G L N done) (hd:∀ u w i,L u=some w->i < l.legs.length->done u i) (hG:G<=100000)
 (hd':day<=100000) (h0:0<=s) (h1:s < l.wells.length):Rd l p s day G (n+1) N:=λq=>by
 have hq:=hN q;have one:∀ a,Cand l p G L done q a->q.2<=G/\ZlZ l p s day (n+1) q a:=by
  rintro a ⟨u,w,i,x,k1,_,k3,k4,k5,rfl,rfl⟩;have:=h u;rw [k1] at this;obtain ⟨⟨g1,g2,g3⟩,_⟩:=this;exact ⟨k5,by simp [g2],Zbs (v:=u.1) (u:=u.2) g3 k3 (by omega) (by omega)⟩
 have two:∀ b,(q.2<=G/\ZlZ l p s day (n+1) q b)->∃ a,Cand l p G L done q a/\Wm b a=false:=by
  rintro b ⟨k1,k2,k3⟩;obtain ⟨c,i,rfl⟩:∃ c i,b=c ++ [i]:=by
   rcases List.eq_nil_or_concat b with rfl | ⟨c,i,rfl⟩
   . simp at k2
   . exact ⟨c,i,by simp⟩
  obtain ⟨u,x,g1,g2,g3,g4,g5⟩:=Zhc k3;have hub:=Uj hg (v':=u.1) (t':=u.2) g1 hd' h0 h1;have hge:=Uw (k:=true) (t:=u.2) (hg.leg g2) hg.pace (by omega);have hq2:q.2=ZB true x p u.2:=by rw [g5]
  have hu:=h u;cases hLu:L u with
  | none=>rw [hLu] at hu;exact absurd ⟨by omega,by simpa using k2,g1⟩ (hu c)
  | some w =>
   rw [hLu] at hu;have hlen:c.length=w.length:=by rw [hu.1.2.1];simpa using k2
   refine ⟨w ++ [i],⟨u,w,i,x,hLu,hd u w i hLu (List.getElem?_eq_some_iff.1 g2).1,g2,g3,by omega,g5,rfl⟩,?_⟩;rw [Zbu hlen,hu.2 c ⟨by omega,by simpa using k2,g1⟩];simp [Wm]
 cases hNq:N q with
 | none =>
  rw [hNq] at hq;intro b hb;obtain ⟨a,ha,_⟩:=two b hb;exact hq a ha
 | some a =>
  rw [hNq] at hq;refine ⟨one a hq.1,λb hb=>?_⟩;obtain ⟨c,hc,hbc⟩:=two b hb;cases hba:Wm b a with
  | false=>rfl
  | true =>
   have hca:=hq.2 c hc;cases hcb:Wm c b with
   | true=>have:=WW hcb hba;rw [hca] at this;cases this
   | false=>rw [Zf9 hbc hcb,hca] at hba;cases hba
def Ztz (l:Land) (p:Span) (s to day:Int) (a:List Nat):Prop :=
 goW true l p s day a=some (to,Xm true l p s day to)/\∀ b,goW true l p s day b=some (to,Xm true l p s day to)->a.length < b.length\/(a.length=b.length/\Wm b a=false)
theorem Rd.sure {l:Land} {p:Span} {s to day G:Int} {n:Nat} {L:Int × Int->Option (List Nat)} {a:List Nat} (h:Rd l p s day G n L) (hG:G=Xm true l p s day to) (hL:L (to,G)=some a) (hm:∀ m,m < n->∀ b,¬ ZlZ l p s day m (to,G) b):Ztz l p s to day a:=by
 subst hG;have hq:=h (to,Xm true l p s day to);rw [hL] at hq;refine ⟨hq.1.2.2,λb hb=>?_⟩;by_cases hlt:b.length < n
 . exact absurd ⟨rfl,hb⟩ (hm b.length hlt b)
 . have hn:=hq.1.2.1;by_cases he:b.length=n
   . exact .inr ⟨by omega,hq.2 b ⟨Int.le_refl _,he,hb⟩⟩
   . exact .inl (by omega)
theorem Rd.not {l:Land} {p:Span} {s to day G:Int} {n:Nat} {L:Int × Int->Option (List Nat)} (h:Rd l p s day G n L) (hL:L (to,G)=none) (hm:∀ m,m < n->∀ b,¬ ZlZ l p s day m (to,G) b):∀ m,m < n+1->∀ b,¬ ZlZ l p s day m (to,G) b:=λm hmn b hb=>by
 by_cases he:m=n
 . subst he;have:=h (to,G);rw [hL] at this;exact this b ⟨Int.le_refl _,hb⟩
 . exact hm m (by omega) b hb
open Classical in
noncomputable def Xi (l:Land) (p:Span) (v t:Int) (n:Nat) (w:Int):Int :=
 if h:∃ m:Nat,∃ a,ZlZ l p v t n (w,(m:Int)) a then ((Go.Sx.least_ex _ h).choose:Int) else 100001
theorem VB {l:Land} {p:Span} (h:OkLP l p) {v t w u:Int} {n:Nat} {a:List Nat} (e:ZlZ l p v t n (w,u) a) (ht:0<=t) (ht':t<=100000) (h0:0<=v) (h1:v < l.wells.length):Xi l p v t n w<=u:=by
 have hb:=Uj h e.2 ht' h0 h1;have eu:((u.toNat:Nat):Int)=u:=by omega
 have hex:∃ m:Nat,∃ a,ZlZ l p v t n (w,(m:Int)) a:=⟨u.toNat,a,by rw [eu];exact e⟩
 unfold Xi;rw [dif_pos hex];have:=(Go.Sx.least_ex _ hex).choose_spec.2 u.toNat ⟨a,by rw [eu];exact e⟩;omega
theorem Xe {l:Land} {p:Span} {v t w:Int} {n:Nat}:Xi l p v t n w=100001\/∃ a,ZlZ l p v t n (w,Xi l p v t n w) a:=by
 unfold Xi;by_cases hex:∃ m:Nat,∃ a,ZlZ l p v t n (w,(m:Int)) a
 . rw [dif_pos hex];exact .inr (Go.Sx.least_ex _ hex).choose_spec.1
 . rw [dif_neg hex];exact .inl rfl
theorem ZbT {l:Land} {p:Span} (h:OkLP l p) {v t w:Int} {n:Nat} (ht:0<=t) (ht':t<=100000) (h0:0<=v) (h1:v < l.wells.length):t<=Xi l p v t n w/\Xi l p v t n w<=100001:=by
 rcases Xe (l:=l) (p:=p) (v:=v) (t:=t) (n:=n) (w:=w) with e | ⟨a,e⟩
 . omega
 . have:=Uj h e.2 ht' h0 h1;omega
theorem Zrz {l:Land} {p:Span} (h:OkLP l p) {v t w:Int} (ht:0<=t) (ht':t<=100000) (h0:0<=v) (h1:v < l.wells.length):Xi l p v t 0 w=if w=v then t else 100001:=by
 rcases Xe (l:=l) (p:=p) (v:=v) (t:=t) (n:=0) (w:=w) with e | ⟨a,e1,e2⟩
 . split
   . rename_i hw;subst hw;have:=VB (u:=t) (a:=[]) (n:=0) (w:=w) h ⟨rfl,rfl⟩ ht ht' h0 h1;omega
   . exact e
 . rw [List.eq_nil_of_length_eq_zero e1] at e2;simp only [goW,Option.some.injEq,Prod.mk.injEq] at e2;rw [if_pos e2.1.symm];exact e2.2.symm
noncomputable def ZaV (l:Land) (p:Span) (v t:Int) (n:Nat):List Int:=(List.range l.wells.length).map λw:Nat=>Xi l p v t n (w:Int)
theorem ZcX {l:Land} {p:Span} {v t:Int} {n:Nat}:(ZaV l p v t n).length=l.wells.length:=by simp [ZaV]
theorem Zgr {l:Land} {p:Span} {v t w:Int} {n:Nat} (h0:0<=w) (h1:w < l.wells.length):dv (ZaV l p v t n) w=Xi l p v t n w:=by
 obtain ⟨i,rfl⟩:∃ i:Nat,w=(i:Int):=⟨w.toNat,by omega⟩
 rw [WZ (by rw [ZcX];omega)];simp [ZaV]
structure Lst (l:Land) (p:Span) (c d:List Int) (j:Nat):Prop where
 len:d.length=l.wells.length
 ub:∀ w,dv d w<=100001
 le:∀ (i:Nat) (x:Leg) (v:Int),i < j->l.legs[i]? = some x->0<=Zm x v->dv d (Zm x v)<=ZB true x p (dv c v)
 real:∀ w,dv d w=100001\/∃ (i:Nat) (x:Leg) (v:Int),l.legs[i]? = some x/\0<=Zm x v/\Zm x v=w/\dv d w=ZB true x p (dv c v)
theorem Lst.start {l:Land} {p:Span} {c:List Int}:Lst l p c (List.replicate l.wells.length 100001) 0:=by
 have e:∀ w,dv (List.replicate l.wells.length 100001) w=100001:=λw=>by
  by_cases hw:0<=w/\w < (List.replicate l.wells.length (100001:Int)).length
  . obtain ⟨i,rfl⟩:∃ i:Nat,w=(i:Int):=⟨w.toNat,by omega⟩
    rw [WZ (by omega)];simp
  . exact ZAX hw
 exact ⟨by simp,λw=>by rw [e];exact Int.le_refl _,λi x v h=>by omega,λw=>.inl (e w)⟩
theorem ZeD {l:Land} {p:Span} {c d:List Int} {x:Leg} {v:Int} {w:Nat} (hlen:d.length=l.wells.length) (hw:w < d.length) {i:Nat} (hx:l.legs[i]? = some x) (ho:Zm x v=w) (hub:∀ w,dv d w<=100001) (hr:∀ w,dv d w=100001\/∃ (i:Nat) (x:Leg) (v:Int),l.legs[i]? = some x/\0<=Zm x v/\Zm x v=w/\dv d w=ZB true x p (dv c v)) :
 (∀ u,dv (d.set w (min (dv d w) (ZB true x p (dv c v)))) u<=dv d u)/\(dv (d.set w (min (dv d w) (ZB true x p (dv c v)))) w<=ZB true x p (dv c v)) /\
 ∀ u,dv (d.set w (min (dv d w) (ZB true x p (dv c v)))) u=100001\/∃ (i:Nat) (y:Leg) (v':Int),l.legs[i]? = some y/\0<=Zm y v'/\Zm y v'=u/\dv (d.set w (min (dv d w) (ZB true x p (dv c v)))) u=ZB true y p (dv c v'):=by
 refine ⟨λu=>?_,?_,λu=>?_⟩
 . rw [WH hw];split
   . rename_i hu;rw [hu];omega
   . exact Int.le_refl _
 . rw [WH hw,if_pos rfl];omega
 . rw [WH hw];split
   . rename_i hu;by_cases hm:dv d w<=ZB true x p (dv c v)
     . rw [Int.min_eq_left hm,hu];exact hr w
     . rw [Int.min_eq_right (by omega)];exact .inr ⟨i,x,v,hx,by omega,by omega,rfl⟩
   . exact hr u
theorem Lst.step {l:Land} {p:Span} {c d:List Int} {j:Nat} (h:Lst l p c d j) (hg:OkLP l p) {x:Leg} (hx:l.legs[j]? = some x) {a b:Nat} (ha:x.a=a) (hb:x.b=b) :
 Lst l p c ((d.set b (min (dv d b) (ZB true x p (dv c a)))).set a (min (dv (d.set b (min (dv d b) (ZB true x p (dv c a)))) a) (ZB true x p (dv c b)))) (j+1):=by
 have hen:=hg.ends (List.mem_of_getElem? hx);have hbl:b < d.length:=by rw [h.len];omega
 have hal:a < d.length:=by rw [h.len];omega
 have o1:Zm x (a:Int)=(b:Int):=by rw [Zm,if_pos ha,hb]
 have o2:Zm x (b:Int)=(a:Int):=by rw [Zm,if_neg (by omega),if_pos hb,ha]
 obtain ⟨q1,q2,q3⟩:=ZeD (v:=(a:Int)) h.len hbl hx o1 h.ub h.real;have hl1:(d.set b (min (dv d b) (ZB true x p (dv c a)))).length=d.length:=List.length_set;generalize d.set b (min (dv d b) (ZB true x p (dv c a)))=d1 at q1 q2 q3 hl1;obtain ⟨r1,r2,r3⟩:=ZeD (v:=(b:Int)) (hl1.trans h.len) (by omega:a < d1.length) hx o2 (λw=>Int.le_trans (q1 w) (h.ub w)) q3;have hl2:(d1.set a (min (dv d1 a) (ZB true x p (dv c b)))).length=d1.length:=List.length_set
 generalize d1.set a (min (dv d1 a) (ZB true x p (dv c b)))=d2 at r1 r2 r3 hl2;refine ⟨by rw [hl2,hl1,h.len],λw=>Int.le_trans (r1 w) (Int.le_trans (q1 w) (h.ub w)),λi y v hi hy ho=>?_,r3⟩;by_cases he:i=j
 . subst he;rw [hx] at hy;cases hy;rcases (Yc hg hx (v:=v) (by omega)).2.1 with ⟨e1,e2⟩ | ⟨e1,e2⟩
   . have ev:v=(a:Int):=by omega
     subst ev;rw [o1];exact Int.le_trans (r1 _) q2
   . have ev:v=(b:Int):=by omega
     subst ev;rw [o2];exact r2
 . exact Int.le_trans (r1 _) (Int.le_trans (q1 _) (h.le i y v (by omega) hy ho))
theorem Lst.done {l:Land} {p:Span} {v t:Int} {n:Nat} {d:List Int} (h:Lst l p (ZaV l p v t n) d l.legs.length) (hg:OkLP l p) (ht:0<=t) (ht':t<=100000) (h0:0<=v) (h1:v < l.wells.length):d=ZaV l p v t (n+1):=by
 refine List.ext_getElem (by rw [h.len,ZcX]) λi hi hi'=>?_;have hil:i < l.wells.length:=by rw [h.len] at hi;exact hi
 rw [show (ZaV l p v t (n+1))[i]=Xi l p v t (n+1) i by simp [ZaV],<- WZ hi];have hlow:Xi l p v t (n+1) i<=dv d i:=by
  rcases h.real i with e | ⟨k,x,u,hx,ho,hou,e⟩
  . rw [e];exact (ZbT hg ht ht' h0 h1).2
  . have hin:=Yc hg hx (v:=u) (by omega);rw [Zgr hin.2.2.1 hin.2.2.2] at e;by_cases hr:dv d i=100001
    . rw [hr];exact (ZbT hg ht ht' h0 h1).2
    . have hub:=h.ub i;have hb:=Xf (k:=true) (t:=Xi l p v t n u) (hg.leg hx) hg.pace (ZbT hg ht ht' h0 h1).2;rcases Xe (l:=l) (p:=p) (v:=v) (t:=t) (n:=n) (w:=u) with e' | ⟨a,e1,e2⟩
      . omega
      . rw [e,<- hou];exact VB hg ⟨by simp [e1],Zbs e2 hx (by omega) (by omega)⟩ ht ht' h0 h1
 have hup:dv d i<=Xi l p v t (n+1) i:=by
  rcases Xe (l:=l) (p:=p) (v:=v) (t:=t) (n:=n+1) (w:=i) with e' | ⟨b,e1,e2⟩
  . rw [e'];exact h.ub i
  . obtain ⟨c,k,rfl⟩:∃ c k,b=c ++ [k]:=by
     rcases List.eq_nil_or_concat b with rfl | ⟨c,k,rfl⟩
     . simp at e1
     . exact ⟨c,k,by simp⟩
    obtain ⟨u,x,g1,g2,g3,g4,g5⟩:=Zhc e2;have hin:=Yc hg g2 (v:=u.1) (by omega);have:=h.le k x u.1 (List.getElem?_eq_some_iff.1 g2).1 g2 g3;rw [Zgr hin.2.2.1 hin.2.2.2] at this;have hl:=VB (n:=n) (w:=u.1) (u:=u.2) hg ⟨by simpa using e1,g1⟩ ht ht' h0 h1;have hm:=Zby (k:=true) (hg.leg g2) hg.pace hl;simp only [Prod.mk.injEq] at g5;rw [<- g5.1] at this;omega
 omega
structure Gr (l:Land) (p:Span) (s day to best:Int) (n0 n:Nat) (v t:Int) (out:List Nat):Prop where
 go:goW true l p s day out=some (v,t)
 len:out.length+n=n0
 least:Xi l p v t n to=best
 pre:∀ b,b.length=n0->goW true l p s day b=some (to,best)->b.take out.length=out\/Wm out (b.take out.length)=true
def Fit (l:Land) (p:Span) (to best:Int) (n:Nat) (v t:Int) (i:Nat):Prop:=∃ x,l.legs[i]? = some x/\0<=Zm x v/\ZB true x p t < 100001/\Xi l p (Zm x v) (ZB true x p t) n to=best
theorem Gr.start {l:Land} {p:Span} {s day to best:Int} {n:Nat} (h:Xi l p s day n to=best):Gr l p s day to best n n s day []:=⟨rfl,by simp,h,λ_ _ _=>.inl (by simp)⟩
theorem Zrd {l:Land} {p:Span} {v t:Int} {i:Nat} {c:List Nat} {q:Int × Int} (h:goW true l p v t (i :: c)=some q):∃ x,l.legs[i]? = some x/\0<=Zm x v/\ZB true x p t<=100000/\goW true l p (Zm x v) (ZB true x p t) c=some q:=by
 simp only [goW] at h;cases hx:l.legs[i]? with
 | none=>rw [hx] at h;cases h
 | some x =>
  rw [hx] at h;simp only at h;split at h
  . cases h
  . split at h
    . cases h
    . exact ⟨x,rfl,by omega,by omega,h⟩
theorem Gr.fit {l:Land} {p:Span} {s day to best:Int} {n0 n:Nat} {v t:Int} {out:List Nat} (h:Gr l p s day to best n0 (n+1) v t out) (hg:OkLP l p) (hd:0<=day) (hd':day<=100000) (h0:0<=s) (h1:s < l.wells.length) (hb:best=Xm true l p s day to) {i:Nat} {c:List Nat} (hc:c.length=n)
 (hw:goW true l p v t (i :: c)=some (to,best)):Fit l p to best n v t i:=by
 obtain ⟨x,g1,g2,g3,g4⟩:=Zrd hw;have hbd:=Uj hg h.go hd' h0 h1;have hin:=Yc hg g1 (v:=v) (by omega);have ha:=Xf (k:=true) (t:=t) (hg.leg g1) hg.pace (by omega);have hle:=VB (n:=n) (w:=to) (u:=best) hg ⟨hc,g4⟩ (by omega) g3 hin.1.1 hin.1.2;refine ⟨x,g1,g2,by omega,?_⟩;rcases Xe (l:=l) (p:=p) (v:=Zm x v) (t:=ZB true x p t) (n:=n) (w:=to) with e | ⟨a,e1,e2⟩
 . have:=Uj hg g4 g3 hin.1.1 hin.1.2;omega
 . have hgo:goW true l p s day (out ++ (i :: a))=some (to,Xi l p (Zm x v) (ZB true x p t) n to):=by
    rw [ZbW,h.go];simp only [Option.bind_some,goW,g1];rw [if_neg (by omega),if_neg (by omega)];exact e2
   have:=ZbJ hg hgo hd hd' h0 h1;omega
theorem Gr.ex {l:Land} {p:Span} {s day to best:Int} {n0 n:Nat} {v t:Int} {out:List Nat} (h:Gr l p s day to best n0 (n+1) v t out) (hg:OkLP l p) (hd:0<=day) (hd':day<=100000) (h0:0<=s) (h1:s < l.wells.length) (hb:best=Xm true l p s day to) (hb':best<=100000) :
 ∃ i,i < l.legs.length/\Fit l p to best n v t i:=by
 rcases Xe (l:=l) (p:=p) (v:=v) (t:=t) (n:=n+1) (w:=to) with e | ⟨a,e1,e2⟩
 . have:=h.least;omega
 . rw [h.least] at e2;cases a with
   | nil=>simp at e1
   | cons i c =>
    have hf:=h.fit hg hd hd' h0 h1 hb (by simpa using e1) e2;have hf':=hf;obtain ⟨x,hx,_⟩:=hf';exact ⟨i,(List.getElem?_eq_some_iff.1 hx).1,hf⟩
theorem Gr.step {l:Land} {p:Span} {s day to best:Int} {n0 n:Nat} {v t:Int} {out:List Nat} (h:Gr l p s day to best n0 (n+1) v t out) (hg:OkLP l p) (hd:0<=day) (hd':day<=100000) (h0:0<=s) (h1:s < l.wells.length) (hb:best=Xm true l p s day to) {i:Nat} {x:Leg} (hx:l.legs[i]? = some x) (ho:0<=Zm x v) (ha:ZB true x p t < 100001)
 (hf:Xi l p (Zm x v) (ZB true x p t) n to=best) (hm:∀ j,j < i->¬ Fit l p to best n v t j):Gr l p s day to best n0 n (Zm x v) (ZB true x p t) (out ++ [i]):=by
 refine ⟨Zbs h.go hx (by omega) (by omega),by have:=h.len;simp;omega,hf,λb hbl hbw=>?_⟩;have hlen:=h.len;have hsplit:b.take (out ++ [i]).length=b.take out.length ++ (b[out.length]?).toList:=by
  rw [List.length_append,List.length_singleton];exact List.take_add_one
 have hlt:out.length < b.length:=by omega
 rw [hsplit,List.getElem?_eq_getElem hlt,Option.toList_some];have hl:out.length=(b.take out.length).length:=by rw [List.length_take];omega
 rcases h.pre b hbl hbw with e | e
 . rw [e];have hbeq:b=out ++ (b[out.length] :: b.drop (out.length+1)):=by
    conv=>lhs;rw [<- List.take_append_drop out.length b,e,List.drop_eq_getElem_cons hlt]
   have hw2:goW true l p v t (b[out.length] :: b.drop (out.length+1))=some (to,best):=by
    rw [hbeq,ZbW,h.go] at hbw;simpa using hbw
   have hfit:=h.fit hg hd hd' h0 h1 hb (by rw [List.length_drop];omega) hw2;by_cases heq:b[out.length]=i
   . left;rw [heq]
   . right;have:¬ b[out.length] < i:=λhlt'=>hm _ hlt' hfit;rw [Zbu rfl];simp [Wm,Vr];omega
 . right;rw [Zbu hl,e];rfl
theorem Gr.done {l:Land} {p:Span} {s day to best:Int} {n0:Nat} {v t:Int} {out:List Nat} (h:Gr l p s day to best n0 0 v t out) (hg:OkLP l p) (hd:0<=day) (hd':day<=100000) (h0:0<=s) (h1:s < l.wells.length) (hb:best=Xm true l p s day to) (hb':best<=100000)
 (hm:∀ m,m < n0->Xi l p s day m to≠best):Ztz l p s to day out:=by
 have hbd:=Uj hg h.go hd' h0 h1;have h2:=h.least;rw [Zrz hg (by omega) (by omega) hbd.2.2.1 hbd.2.2.2] at h2;split at h2
 case isFalse=>omega
 rename_i hv;subst hv;subst h2;have hlen:=h.len;refine ⟨by rw [<- hb];exact h.go,λb hbw=>?_⟩;rw [<- hb] at hbw;by_cases hlt:b.length < n0
 . refine absurd ?_ (hm b.length hlt);have q1:=VB (n:=b.length) hg ⟨rfl,hbw⟩ hd hd' h0 h1;rcases Xe (l:=l) (p:=p) (v:=s) (t:=day) (n:=b.length) (w:=to) with e | ⟨a,e1,e2⟩
   . omega
   . have:=ZbJ hg e2 hd hd' h0 h1;omega
 . by_cases he:b.length=n0
   . refine .inr ⟨by omega,?_⟩;have hpre:=h.pre b he hbw;rw [List.take_of_length_le (by omega)] at hpre;rcases hpre with rfl | hpre
     . exact Vr _
     . cases hq:Wm b out with
       | false=>rfl
       | true=>have:=WW hpre hq;rw [Vr] at this;cases this
   . exact .inl (by omega)
structure Stop where
 leg:Int
 well:Int
 leaves:Span
 arrives:Span
deriving DecidableEq
def X0 (l:Land):Int->List Int->Nat->Option Nat
 | _,[],_=>none
 | v,i :: r,k=>if W9 l i v < 0 then some k else X0 l (W9 l i v) r (k+1)
def Uy (l:Land):Int->List Int->List Int
 | _,[]=>[]
 | v,i :: r=>if W9 l i v < 0 then [] else W9 l i v :: Uy l (W9 l i v) r
def goS (l:Land) (p:Span):Int->Int->Int->List Int->Nat->List Stop->List Stop × Int × Int
 | _,_,_,[],_,acc=>(acc,0,0)
 | v,a,b,i :: r,k,acc=>match l.legs[i.toNat]? with
  | none=>([],0,0)
  | some x=>if ZB true x p b > 100000 then ([],k,34)
   else goS l p (Zm x v) (ZB false x p a) (ZB true x p b) r (k+1) (acc ++ [⟨i,Zm x v,⟨leK false x p a,leK true x p b⟩,⟨ZB false x p a,ZB true x p b⟩⟩])
def YK (l:Land) (p:Span) (s day:Int) (legs:List Int):List Stop × Int × Int :=
 if Ul l p≠0 then ([],0,Ul l p)
 else if (inR 0 (l.wells.length - 1) s && inR 0 100000 day)=false then ([],0,2)
 else if legs.length > 24 then ([],0,4)
 else match X0 l s legs 0 with
  | some k=>([],k,8)
  | none=>goS l p s day day legs 0 []
theorem ZaK {l:Land} {i v:Int} (h:¬ W9 l i v < 0):∃ k:Nat,∃ x,i=(k:Int)/\∃ hk:k < l.legs.length,l.legs[k]? = some x/\l.legs[k]=x/\W9 l i v=Zm x v:=by
 unfold W9 at h ⊢;split at h
 . rename_i hk;refine ⟨i.toNat,l.legs[i.toNat],by omega,hk.2,by simp [hk.2],rfl,?_⟩;rw [dif_pos hk]
 . omega
theorem Zfu {l:Land} {i v:Int}:i < 0\/(l.legs.length:Int)<=i->W9 l i v = -1:=λh=>by
 unfold W9;rw [dif_neg (by omega)]
theorem Zck {l:Land} {k:Nat} {v:Int} (hk:k < l.legs.length):W9 l k v=Zm l.legs[k] v:=by
 unfold W9;rw [dif_pos ⟨by omega,by simpa using hk⟩];simp
theorem Wb {α : Type} {l:List α} {j:Nat} (h:j < l.length):l.drop j=l[j] :: l.drop (j+1):=List.drop_eq_getElem_cons h
theorem ZbP {l:Land}:∀ {legs:List Int} {v:Int} {k:Nat},X0 l v legs k=none->(Uy l v legs).length=legs.length
 | [],_,_,_=>rfl
 | i :: r,v,k,h=>by
  simp only [X0] at h;simp only [Uy];split at h
  . cases h
  . rename_i hn;rw [if_neg hn,List.length_cons,List.length_cons,ZbP h]
structure W1 (l:Land) (s:Int) (legs:List Int) (j:Nat) (v:Int) (ends:List Int):Prop where
 bad:X0 l s legs 0=X0 l v (legs.drop j) j
 eds:Uy l s legs=ends ++ Uy l v (legs.drop j)
 len:ends.length=j
 inn:0<=v/\v < l.wells.length
theorem W1.start {l:Land} {s:Int} {legs:List Int} (h:0<=s/\s < l.wells.length):W1 l s legs 0 s []:=⟨by simp,by simp,rfl,h⟩
theorem W1.step {l:Land} {p:Span} {s:Int} {legs:List Int} {j:Nat} {v:Int} {ends:List Int} (h:W1 l s legs j v ends) (hg:OkLP l p) (hj:j < legs.length) (he:¬ W9 l legs[j] v < 0):W1 l s legs (j+1) (W9 l legs[j] v) (ends ++ [W9 l legs[j] v]):=by
 obtain ⟨k,x,_,_,hx,_,e⟩:=ZaK he;refine ⟨?_,?_,by simp [h.len],by rw [e] at he ⊢;exact (Yc hg hx he).1⟩
 . rw [h.bad,Wb hj];simp only [X0];rw [if_neg he]
 . rw [h.eds,Wb hj];simp only [Uy];rw [if_neg he];simp
theorem W1.stop {l:Land} {s:Int} {legs:List Int} {j:Nat} {v:Int} {ends:List Int} (h:W1 l s legs j v ends) (hj:j < legs.length) (he:W9 l legs[j] v < 0):X0 l s legs 0=some j:=by
 rw [h.bad,Wb hj];simp only [X0];rw [if_pos he]
theorem W1.done {l:Land} {s:Int} {legs:List Int} {v:Int} {ends:List Int} (h:W1 l s legs legs.length v ends):X0 l s legs 0=none/\ends=Uy l s legs:=by
 have h1:=h.bad;have h2:=h.eds;rw [List.drop_of_length_le (Nat.le_refl _)] at h1 h2;exact ⟨by rw [h1];rfl,by rw [h2];simp [Uy]⟩
structure W2 (l:Land) (p:Span) (s day:Int) (legs:List Int) (j:Nat) (v a b:Int) (acc:List Stop):Prop where
 eq:goS l p s day day legs 0 []=goS l p v a b (legs.drop j) j acc
 bad:X0 l v (legs.drop j) j=none
 ends:(Uy l s legs).drop j=Uy l v (legs.drop j)
 inn:0<=v/\v < l.wells.length
 da:0<=a/\a<=100001
 db:0<=b/\b<=100000
 len:acc.length=j
theorem W2.start {l:Land} {p:Span} {s day:Int} {legs:List Int} (h:X0 l s legs 0=none) (hs:0<=s/\s < l.wells.length) (hd:0<=day/\day<=100000):W2 l p s day legs 0 s day day []:=⟨by simp,by simpa using h,by simp,hs,⟨hd.1,by omega⟩,hd,rfl⟩
theorem W2.at {l:Land} {p:Span} {s day:Int} {legs:List Int} {j:Nat} {v a b:Int} {acc:List Stop} (h:W2 l p s day legs j v a b acc) (hj:j < legs.length):∃ k:Nat,∃ hk:k < l.legs.length,legs[j]=(k:Int)/\W9 l legs[j] v=Zm l.legs[k] v/\0<=Zm l.legs[k] v/\(Uy l s legs)[j]? = some (Zm l.legs[k] v):=by
 have hb:=h.bad;have he:=h.ends;rw [Wb hj] at hb he;simp only [X0] at hb;simp only [Uy] at he;split at hb
 . cases hb
 . rename_i hn;rw [if_neg hn] at he;obtain ⟨k,x,e1,hk,e2,e3,e4⟩:=ZaK hn;subst e3;refine ⟨k,hk,e1,e4,by omega,?_⟩;have:=congrArg (λq=>q[0]?) he;simp only [List.getElem?_drop,Nat.add_zero,List.getElem?_cons_zero] at this;rw [this,e4]
theorem W2.step {l:Land} {p:Span} {s day:Int} {legs:List Int} {j:Nat} {v a b:Int} {acc:List Stop} (h:W2 l p s day legs j v a b acc) (hg:OkLP l p) (hj:j < legs.length) {k:Nat} (hk:k < l.legs.length) (hl:legs[j]=(k:Int)) (hr:¬ ZB true l.legs[k] p b > 100000) (ho:0<=Zm l.legs[k] v) :
 W2 l p s day legs (j+1) (Zm l.legs[k] v) (ZB false l.legs[k] p a) (ZB true l.legs[k] p b) (acc ++ [⟨k,Zm l.legs[k] v,⟨leK false l.legs[k] p a,leK true l.legs[k] p b⟩,⟨ZB false l.legs[k] p a,ZB true l.legs[k] p b⟩⟩]):=by
 have hx:l.legs[k]? = some l.legs[k]:=List.getElem?_eq_getElem hk;have hend:W9 l legs[j] v=Zm l.legs[k] v:=by rw [hl];exact Zck hk
 have hb:=h.bad;have he:=h.ends;rw [Wb hj] at hb he;simp only [X0,hend] at hb;rw [if_neg (by omega)] at hb;simp only [Uy,hend] at he;rw [if_neg (by omega)] at he;have ha:=Uw (k:=false) (hg.leg hx) hg.pace h.da.2;have ha':=Xf (k:=false) (hg.leg hx) hg.pace h.da.2;have hb':=Uw (k:=true) (t:=b) (hg.leg hx) hg.pace (by have:=h.db;omega);have h1:=h.da;have h2:=h.db;refine ⟨?_,hb,?_,(Yc hg hx (by omega)).1,by omega,by omega,by simp [h.len]⟩
 . rw [h.eq,Wb hj,hl];simp only [goS,Int.toNat_natCast,hx];rw [if_neg hr]
 . have:=congrArg (List.drop 1) he;simpa [List.drop_drop,Nat.add_comm] using this
theorem W2.stop {l:Land} {p:Span} {s day:Int} {legs:List Int} {j:Nat} {v a b:Int} {acc:List Stop} (h:W2 l p s day legs j v a b acc) (hj:j < legs.length) {k:Nat} (hk:k < l.legs.length) (hl:legs[j]=(k:Int)) (hr:ZB true l.legs[k] p b > 100000):goS l p s day day legs 0 []=([],(j:Int),34):=by
 rw [h.eq,Wb hj,hl];simp only [goS,Int.toNat_natCast,List.getElem?_eq_getElem hk];rw [if_pos hr]
theorem W2.done {l:Land} {p:Span} {s day:Int} {legs:List Int} {v a b:Int} {acc:List Stop} (h:W2 l p s day legs legs.length v a b acc):goS l p s day day legs 0 []=(acc,0,0):=by
 rw [h.eq,List.drop_of_length_le (Nat.le_refl _)];rfl
end Go.Azalai
namespace Go.Proofs.YtiigiflofnjilaaGreat
open Go Go.Sx Go.Azalai
def Zw (s:Stop):List SV:=[I s.leg,I s.well,I s.leaves.lo,I s.leaves.hi,I s.arrives.lo,I s.arrives.hi]
def Ve (r:List Stop × Int × Int):SV:=.tup [YM r.2.2 6 (r.1.map Zw),I r.2.1,I r.2.2]
theorem Zgi (r:List Stop × Int × Int):KF (Ve r):=by
 unfold Ve YM;split<;>simp [KFL,KF,Za,Zw]
theorem Znz (l:Land) (hs:Xu l) (s day:Int) (p:Span) (legs:List Int) (hl:legs.length<=1000) (c:Bool):Ct Tryz.prog 36 [.agg (Zt l),I s,I day,.agg (Zc p),.sl c 1 (legs.map Zn)] (Ve (YK l p s day legs)):=by
 have hw:=hs.1;have hleg:=hs.2.1;refine t36.1 (by simp [Zt,Zf,Zl,Zg,Zc,Zn,Za]) (Zgi _) ?_;dsimp only [c36,r36,Zt,Zc,go_sem];by_cases ha:Ul l p=0
 case neg =>
  refine call (Zbg l hs p ha) ?_;dsimp only [go_sem];refine Zq (by simpa using ha) ?_;dsimp only [go_sem];simp [YK,ha,Ve,YM]
 have hok:=Zc1 ha;refine call (Zdf l hs p ha) ?_;dsimp only [Z3,go_sem];refine Zr (by decide) ?_;dsimp only [go_sem];simp only [List.length_map];have h1:=XD hok.land;rw [Zh (n:=(l.wells.length:Int) - 1) (by omega) (by omega)];refine call (ZaC 0 (l.wells.length - 1) s true) ?_;dsimp only [go_sem];repeat (first | (refine gb ?_;dsimp only [go_sem]) | (refine call (ZaC 0 100000 day true) ?_;dsimp only [go_sem]))
 by_cases hr:(inR 0 (l.wells.length - 1) s && inR 0 100000 day)=true
 case neg =>
  refine Zq (by simpa [Bool.and_eq_true,<- Bool.not_and] using hr) ?_;dsimp only [go_sem];simp [YK,ha,Ve,YM,hr]
 refine Zr (by simpa [<- Bool.not_and] using hr) ?_;dsimp only [go_sem];simp only [List.length_map];by_cases hm:legs.length > 24
 . refine Zq (by simp;omega) ?_;dsimp only [go_sem];simp only [YK,ha,hr,ne_eq,not_true_eq_false,if_false,Bool.true_eq_false,hm,if_true,Ve,YM];simp
 refine Zr (by simp;omega) ?_;dsimp only [go_sem];simp only [List.length_map];have hF1:∀ k,X0 l s legs 0=some k->YK l p s day legs=([],(k:Int),8):=λk h=>by
  simp only [YK,ha,hr,ne_eq,not_true_eq_false,if_false,Bool.true_eq_false,hm,h]
 have hF2:X0 l s legs 0=none->YK l p s day legs=goS l p s day day legs 0 []:=λh=>by
  simp only [YK,ha,hr,ne_eq,not_true_eq_false,if_false,Bool.true_eq_false,hm,h]
 simp only [Bool.and_eq_true,inR,decide_eq_true_eq] at hr;obtain ⟨hr1,hd⟩:=hr;refine Zau (Yg 14 1 3 rfl rfl) (λq:Nat × Nat × Int × List Int=>[(54,I q.1),(14,.mr 3 q.2.1),(15,I q.2.2.1)]) (λq=>[(3,.row q.2.1 1 (q.2.2.2.map Zn) 3)])
  (λq=>q.1<=legs.length/\W1 l s legs q.1 q.2.2.1 q.2.2.2) (λq=>legs.length - q.1) (0,0,s,[]) ⟨Nat.zero_le _,W1.start (by omega)⟩ ?_ ?_
 . (refine Zj ?_ ?_ ?_ rfl rfl<;>dsimp only [Zc,Zf,Zl,Zg,Zn,id,go_sem]<;>simp [Zc,Zf,Zl,Zg,Zn,Za])
 rintro ⟨j,v,well,ends⟩ ⟨hj,hI⟩;simp only at hj hI;dsimp only [go_sem];by_cases hlt:j < legs.length
 . refine Zq (by simpa using hlt) ?_;dsimp only [go_sem];refine Zo j hlt rfl ?_;dsimp only [Zn,go_sem];refine call (ZzI l p legs[j] well hleg) ?_;dsimp only [go_sem];by_cases hn:W9 l legs[j] well < 0
   . refine Zq (by simpa using hn) ?_;dsimp only [go_sem];rw [hF1 j (hI.stop hlt hn)];simp [Ve,YM]
   refine Zr (by simpa using hn) ?_;dsimp only [go_sem];simp only [nbr];dsimp only [go_sem];have hst:=hI.step hok hlt hn;refine ⟨(by intro c hc;simp only [List.mem_singleton] at hc;subst hc;rfl),by have:=hI.len;simp;omega,?_⟩;dsimp only [go_sem];rw [Zh (n:=(j:Int)+1) (by omega) (by omega)];have e:ends.map Zn ++ [[SV.v (.int .i64 (W9 l legs[j] well))]]=(ends ++ [W9 l legs[j] well]).map Zn:=by simp [Zn]
   rw [e];refine ⟨(j+1,v+1,W9 l legs[j] well,ends ++ [W9 l legs[j] well]),⟨hlt,hst⟩,by simp only;omega,?_⟩;(refine Zj ?_ ?_ ?_ rfl rfl<;>dsimp only [Zc,Zf,Zl,Zg,Zn,id,go_sem]<;>simp [Zc,Zf,Zl,Zg,Zn,Za])
 refine Zr (by simp;omega) ?_;dsimp only [go_sem];have hje:j=legs.length:=by omega
 subst hje;obtain ⟨hbad,hends⟩:=hI.done;subst hends;have hF:=hF2 hbad;have hlen:=ZbP hbad;have h2:=W2.start (p:=p) hbad (by omega) hd;clear hI;refine Zau (Yg 10 6 94 rfl rfl) (λq:Nat × Nat × Int × Int × Int × List Stop=>[(76,I q.1),(10,.mr 5 q.2.1)]) (λq=>[(5,.row q.2.1 6 (q.2.2.2.2.2.map Zw) 94),(4,.cells [I q.2.2.2.1,I q.2.2.2.2.1] 165)])
  (λq=>q.1<=legs.length/\W2 l p s day legs q.1 q.2.2.1 q.2.2.2.1 q.2.2.2.2.1 q.2.2.2.2.2) (λq=>legs.length - q.1) (0,0,s,day,day,[]) ⟨Nat.zero_le _,h2⟩ ?_ ?_
 . (refine Zj ?_ ?_ ?_ rfl rfl<;>dsimp only [Zc,Zf,Zl,Zg,Zn,Zw,id,go_sem]<;>simp [Zc,Zf,Zl,Zg,Zn,Zw,Za])
 clear h2;rintro ⟨j,u,wl,a,b,acc⟩ ⟨hj,hI⟩;simp only at hj hI;dsimp only [go_sem];by_cases hlt:j < legs.length
 . refine Zq (by simpa using hlt) ?_;dsimp only [go_sem];refine Zo j hlt rfl ?_;dsimp only [Zn,go_sem];obtain ⟨k,hk,hlk,_,ho,hej⟩:=hI.at hlt;have hgl:GoodLeg l.legs[k]:=Y4 hok.land _ (List.getElem_mem _);have hda:=hI.da;have hdb:=hI.db;have q0:inR 0 100001 a=true:=by simp only [inR,decide_eq_true_eq];omega
   have q1:inR 0 100001 b=true:=by simp only [inR,decide_eq_true_eq];omega
   simp only [hlk];refine call (Wt l p k hk a b hgl hok.pace q0 q1) ?_;dsimp only [go_sem];refine call (VD l p k hk a b hgl hok.pace q0 q1) ?_;dsimp only [go_sem];refine ixa 1 rfl (by decide) ?_;dsimp only [go_sem];by_cases hR:ZB true l.legs[k] p b > 100000
   . refine Zq (by simpa using hR) ?_;dsimp only [go_sem];rw [hF,hI.stop hlt hk hlk hR];simp [Ve,YM]
   refine Zr (by simpa using hR) ?_;dsimp only [go_sem];simp only [nbr];dsimp only [go_sem];have hjl:j < (Uy l s legs).length:=by omega
   simp only [List.length_map];refine Wi j rfl hjl ?_;dsimp only [go_sem];simp only [nbr];dsimp only [go_sem];refine Zan hjl ?_;dsimp only [Zn,go_sem];have hej':(Uy l s legs)[j]=Zm l.legs[k] wl:=by rw [List.getElem?_eq_getElem hjl] at hej;exact Option.some.inj hej
   rw [hej'];refine call (Zdl _ _) ?_;dsimp only [go_sem];refine call (Zdl _ _) ?_;dsimp only [go_sem];simp only [nbr];dsimp only [go_sem];have hst:=hI.step hok hlt hk hlk hR ho;refine ⟨(by intro c hc;simp only [List.mem_singleton] at hc;subst hc;rfl),by have:=hI.len;simp;omega,?_⟩;dsimp only [go_sem];rw [Zh (n:=(j:Int)+1) (by omega) (by omega)];have e:acc.map Zw ++ [[SV.v (.int .i64 (k:Int)),SV.v (.int .i64 (Zm l.legs[k] wl)),SV.v (.int .i64 (Zk7 l.legs[k] p a)),SV.v (.int .i64 (ZgI l.legs[k] p b)),SV.v (.int .i64 (ZB false l.legs[k] p a)),SV.v (.int .i64 (ZB true l.legs[k] p b))]] =
    (acc ++ [(⟨(k:Int),Zm l.legs[k] wl,⟨leK false l.legs[k] p a,leK true l.legs[k] p b⟩,⟨ZB false l.legs[k] p a,ZB true l.legs[k] p b⟩⟩:Stop)]).map Zw:=by simp [Zw,leK]
   rw [e];refine ⟨(j+1,u+1,Zm l.legs[k] wl,ZB false l.legs[k] p a,ZB true l.legs[k] p b,_),⟨hlt,hst⟩,by simp only;omega,?_⟩;(refine Zj ?_ ?_ ?_ rfl rfl<;>dsimp only [Zc,Zf,Zl,Zg,Zn,Zw,id,go_sem]<;>simp [Zc,Zf,Zl,Zg,Zn,Zw,Za])
 refine Zr (by simp;omega) ?_;dsimp only [go_sem];have hje:j=legs.length:=by omega
 subst hje;simp only [nbr];dsimp only [go_sem];rw [hF,hI.done];simp [Ve,YM,vwN]
theorem ZpP (l:Land) (hs:Xu l) (s day:Int) (p:Span) (legs:List Int) (hl:legs.length<=1000) (c:Bool):Ct Tryz.prog 104 [.agg (Zt l),I s,I day,.agg (Zc p),.sl c 1 (legs.map Zn)] (Ve (YK l p s day legs)):=by
 have hw:=hs.1;have hleg:=hs.2.1;refine t104.1 (by simp [Zt,Zf,Zl,Zg,Zc,Zn,Za]) (Zgi _) ?_;dsimp only [c104,r104,Zt,Zc,go_sem];refine call (Zbk l hs p) ?_;dsimp only [go_sem];by_cases ha:Ul l p=0
 case neg =>
  refine Zq (by simpa using ha) ?_;dsimp only [go_sem];simp [YK,ha,Ve,YM]
 have hok:=Zc1 ha;refine Zr (by simpa using ha) ?_;dsimp only [go_sem];simp only [List.length_map];have h1:=XD hok.land;rw [Zh (n:=(l.wells.length:Int) - 1) (by omega) (by omega)];refine call (ZW s 0 (l.wells.length - 1)) ?_;dsimp only [go_sem];repeat (first | (refine gb ?_;dsimp only [go_sem]) | (refine call (ZW day 0 100000) ?_;dsimp only [go_sem]))
 by_cases hr:(inR 0 (l.wells.length - 1) s && inR 0 100000 day)=true
 case neg =>
  refine Zq (by simpa [Bool.and_eq_true,<- Bool.not_and] using hr) ?_;dsimp only [go_sem];simp [YK,ha,Ve,YM,hr]
 refine Zr (by simpa [<- Bool.not_and] using hr) ?_;dsimp only [go_sem];simp only [List.length_map];by_cases hm:legs.length > 24
 . refine Zq (by simp;omega) ?_;dsimp only [go_sem];simp only [YK,ha,hr,ne_eq,not_true_eq_false,if_false,Bool.true_eq_false,hm,if_true,Ve,YM];simp
 refine Zr (by simp;omega) ?_;dsimp only [go_sem];have hF1:∀ k,X0 l s legs 0=some k->YK l p s day legs=([],(k:Int),8):=λk h=>by
  simp only [YK,ha,hr,ne_eq,not_true_eq_false,if_false,Bool.true_eq_false,hm,h]
 have hF2:X0 l s legs 0=none->YK l p s day legs=goS l p s day day legs 0 []:=λh=>by
  simp only [YK,ha,hr,ne_eq,not_true_eq_false,if_false,Bool.true_eq_false,hm,h]
 simp only [Bool.and_eq_true,inR,decide_eq_true_eq] at hr;obtain ⟨hr1,hd⟩:=hr;refine Yy (λq:Nat × Int × List Int=>[(15,I q.1),(14,I q.2.1)]) (λ_=>[])
  (λq=>q.1<=legs.length/\W1 l s legs q.1 q.2.1 q.2.2) (λq=>legs.length - q.1) (0,s,[]) ⟨Nat.zero_le _,W1.start (by omega)⟩ ?_ ?_
 . (refine Zj ?_ ?_ ?_ rfl rfl<;>dsimp only [Zc,Zf,Zl,Zg,Zn,id,go_sem]<;>simp [Zc,Zf,Zl,Zg,Zn,Za])
 rintro ⟨j,well,ends⟩ ⟨hj,hI⟩;simp only at hj hI;dsimp only [go_sem];simp only [List.length_map];by_cases hlt:j < legs.length
 . refine Zq (by simpa using hlt) ?_;dsimp only [go_sem];refine Zo j hlt rfl ?_;dsimp only [Zn,go_sem];simp only [List.length_map];rw [Zh (n:=(l.legs.length:Int) - 1) (by omega) (by omega)];refine call (ZW legs[j] 0 (l.legs.length - 1)) ?_;dsimp only [go_sem];by_cases hin:inR 0 (l.legs.length - 1) legs[j]=true
   case neg =>
    rw [Bool.not_eq_true] at hin;rw [hin];repeat (refine gb ?_;dsimp only [go_sem])
    refine Zo j hlt rfl ?_;dsimp only [Zn,go_sem];repeat (refine gb ?_;dsimp only [go_sem])
    refine ixs_v 0 (Zl ⟨0,0,⟨0,0⟩,[]⟩) rfl (λh=>by cases h) ?_;dsimp only [Zl,go_sem];repeat (refine gb ?_;dsimp only [go_sem])
    refine call (Vz ⟨0,0,⟨0,0⟩,[]⟩ well) ?_;dsimp only [go_sem];repeat (refine gb ?_;dsimp only [go_sem])
    refine Zq (by simp) ?_;dsimp only [go_sem];have hn:W9 l legs[j] well < 0:=by
     simp only [inR,decide_eq_false_iff_not] at hin;rw [Zfu (by omega)];decide
    rw [hF1 j (hI.stop hlt hn)];simp [Ve,YM]
   rw [hin];simp only [inR,decide_eq_true_eq] at hin;obtain ⟨k,hk,hlk⟩:∃ k:Nat,k < l.legs.length/\legs[j]=(k:Int):=⟨legs[j].toNat,by omega,by omega⟩
   have hend:W9 l legs[j] well=Zm l.legs[k] well:=by rw [hlk];exact Zck hk
   repeat (refine gb ?_;dsimp only [go_sem])
   refine Zo j hlt rfl ?_;dsimp only [Zn,go_sem];repeat (refine gb ?_;dsimp only [go_sem])
   refine Zo k hk hlk ?_;dsimp only [Zl,go_sem];repeat (refine gb ?_;dsimp only [go_sem])
   refine call (Vz l.legs[k] well) ?_;dsimp only [go_sem];repeat (refine gb ?_;dsimp only [go_sem])
   by_cases hn:Zm l.legs[k] well < 0
   . refine Zq (by simpa using hn) ?_;dsimp only [go_sem];rw [hF1 j (hI.stop hlt (by omega))];simp [Ve,YM]
   refine Zr (by simpa using hn) ?_;dsimp only [go_sem];refine Zo j hlt rfl ?_;dsimp only [Zn,go_sem];refine Zo k hk hlk ?_;dsimp only [Zl,go_sem];refine call (Vz l.legs[k] well) ?_;dsimp only [go_sem];have hst:=hI.step hok hlt (by omega);rw [hend] at hst;rw [Zh (n:=(j:Int)+1) (by omega) (by omega)];refine ⟨(j+1,Zm l.legs[k] well,_),⟨hlt,hst⟩,by simp only;omega,?_⟩;(refine Zj ?_ ?_ ?_ rfl rfl<;>dsimp only [Zc,Zf,Zl,Zg,Zn,id,go_sem]<;>simp [Zc,Zf,Zl,Zg,Zn,Za])
 refine Zr (by simp;omega) ?_;dsimp only [go_sem];have hje:j=legs.length:=by omega
 subst hje;obtain ⟨hbad,hends⟩:=hI.done;subst hends;have hF:=hF2 hbad;have hlen:=ZbP hbad;have h2:=W2.start (p:=p) hbad (by omega) hd;clear hI;refine Zau (Yg 16 6 94 rfl rfl) (λq:Nat × Nat × Int × Int × Int × List Stop=>[(18,I q.1),(16,.mr 3 q.2.1),(14,I q.2.2.1)]) (λq=>[(3,.row q.2.1 6 (q.2.2.2.2.2.map Zw) 94),(2,.cells [I q.2.2.2.1,I q.2.2.2.2.1] 27)])
  (λq=>q.1<=legs.length/\W2 l p s day legs q.1 q.2.2.1 q.2.2.2.1 q.2.2.2.2.1 q.2.2.2.2.2) (λq=>legs.length - q.1) (0,0,s,day,day,[]) ⟨Nat.zero_le _,h2⟩ ?_ ?_
 . (refine Zj ?_ ?_ ?_ rfl rfl<;>dsimp only [Zc,Zf,Zl,Zg,Zn,Zw,id,go_sem]<;>simp [Zc,Zf,Zl,Zg,Zn,Zw,Za])
 clear h2;rintro ⟨j,u,wl,a,b,acc⟩ ⟨hj,hI⟩;simp only at hj hI;dsimp only [go_sem];simp only [List.length_map];by_cases hlt:j < legs.length
 . refine Zq (by simpa using hlt) ?_;dsimp only [go_sem];refine Zo j hlt rfl ?_;dsimp only [Zn,go_sem];obtain ⟨k,hk,hlk,_,ho,hej⟩:=hI.at hlt;have hgl:GoodLeg l.legs[k]:=Y4 hok.land _ (List.getElem_mem _);have hda:=hI.da;have hdb:=hI.db;have q0:inR 0 100001 a=true:=by simp only [inR,decide_eq_true_eq];omega
   have q1:inR 0 100001 b=true:=by simp only [inR,decide_eq_true_eq];omega
   have hbd:=Xf (k:=true) (t:=b) hgl hok.pace (by omega);refine Zo k hk hlk ?_;dsimp only [Zl,go_sem];refine call (VW l.legs[k] p a b hgl hok.pace q0 q1) ?_;dsimp only [go_sem];by_cases hR:ZB true l.legs[k] p b > 100000
   . refine Zq (by simp;omega) ?_;dsimp only [go_sem];rw [hF,hI.stop hlt hk hlk hR];simp [Ve,YM]
   refine Zr (by simp;omega) ?_;dsimp only [go_sem];refine call (Vz l.legs[k] wl) ?_;dsimp only [go_sem];refine Zo j hlt rfl ?_;dsimp only [Zn,go_sem];refine call (Ztn l.legs[k] a p hgl hok.pace q0) ?_;dsimp only [go_sem];refine call (Zjq l.legs[k] b p hgl hok.pace q1) ?_;dsimp only [go_sem];simp only [nbr];dsimp only [go_sem];have hst:=hI.step hok hlt hk hlk hR ho;refine ⟨(by intro c hc;simp only [List.mem_singleton] at hc;subst hc;rfl),by have:=hI.len;simp;omega,?_⟩
   dsimp only [go_sem];rw [Zh (n:=(j:Int)+1) (by omega) (by omega),hlk];have e:acc.map Zw ++ [[SV.v (.int .i64 (k:Int)),SV.v (.int .i64 (Zm l.legs[k] wl)),SV.v (.int .i64 (Zk7 l.legs[k] p a)),SV.v (.int .i64 (ZgI l.legs[k] p b)),SV.v (.int .i64 (ZB false l.legs[k] p a)),SV.v (.int .i64 (ZB true l.legs[k] p b))]] =
    (acc ++ [(⟨(k:Int),Zm l.legs[k] wl,⟨leK false l.legs[k] p a,leK true l.legs[k] p b⟩,⟨ZB false l.legs[k] p a,ZB true l.legs[k] p b⟩⟩:Stop)]).map Zw:=by simp [Zw,leK]
   rw [e];refine ⟨(j+1,u+1,Zm l.legs[k] wl,ZB false l.legs[k] p a,ZB true l.legs[k] p b,_),⟨hlt,hst⟩,by simp only;omega,?_⟩;(refine Zj ?_ ?_ ?_ rfl rfl<;>dsimp only [Zc,Zf,Zl,Zg,Zn,Zw,id,go_sem]<;>simp [Zc,Zf,Zl,Zg,Zn,Zw,Za])
 refine Zr (by simp;omega) ?_;dsimp only [go_sem];have hje:j=legs.length:=by omega
 subst hje;simp only [nbr];dsimp only [go_sem];rw [hF,hI.done];simp [Ve,YM,vwN]
end Go.Proofs.YtiigiflofnjilaaGreat
namespace Go.Azalai
open Go.Sx
structure Scene where
 heat:Span
 grass:Span
 yields:List Span
 prices:List Int
deriving DecidableEq
structure Season where
 land:Land
 pace:Span
 breed:Breed
 camel:Camel
 herd:Int
 hours:Int
 slab:Int
 cost:Int
 sale:Int
 start:Int
 day:Int
 till:Int
 scenes:List Scene
deriving DecidableEq
structure Plan where
 legs:List Int
 animals:Int
 slabs:Int
deriving DecidableEq
def ZaT (x:Scene):Bool:=decide (x.yields.length > 20) || decide (x.prices.length > 20)
def ZbH (s:Season):Bool:=ZbU s.land || decide (s.scenes.length > 8) || s.scenes.any ZaT
structure SmallS (s:Season):Prop where
 land:Xu s.land
 sc:s.scenes.length<=8
 each:∀ x ∈ s.scenes,x.yields.length<=20/\x.prices.length<=20
def YB (n:Nat) (x:Scene):Bool :=
 Yl 0 60 x.heat && Yl 0 1000000 x.grass && decide (x.yields.length=n) && decide (x.prices.length=n) && x.yields.all (Yl 0 10000000) && x.prices.all (inR 0 1000000)
def Zba (s:Season):Bool :=
 inR 1 30 s.herd && inR 1 24 s.hours && inR 1 1000000 s.slab && inR 0 1000000 s.cost && inR 0 1000000 s.sale && inR 0 s.till s.day && decide (s.till<=100000)
def ZZ (s:Season):Bool :=
 ZX s.land && ZY s.pace && decide (ZaG s.breed s.camel=0) && Zba s && inR 0 (s.land.wells.length - 1) s.start && inR 1 4 s.scenes.length && s.scenes.all (YB s.land.wells.length)
theorem ZrZ {l:Land} (h:ZbU l=false):Xu l:=by
 simp only [ZbU,Bool.or_eq_false_iff,decide_eq_false_iff_not,List.any_eq_false,decide_eq_true_eq] at h;exact ⟨by omega,by omega,λx hx=>by have:=h.2 x hx;omega⟩
theorem Zi0 {s:Season} (h:ZbH s=false):SmallS s:=by
 simp only [ZbH,Bool.or_eq_false_iff,decide_eq_false_iff_not,List.any_eq_false,ZaT,Bool.or_eq_true,decide_eq_true_eq] at h;exact ⟨ZrZ h.1.1,by omega,λx hx=>by have:=h.2 x hx;omega⟩
end Go.Azalai
namespace Go.Proofs.YtiigiflofnjilaaGreat
open Go Go.Sx Go.Azalai
def Zi (x:Scene):List SV:=[I x.heat.lo,I x.heat.hi,I x.grass.lo,I x.grass.hi,.sl false 2 (x.yields.map Zc),.sl false 1 (x.prices.map Zn)]
def Zs (s:Season):List SV :=
 [.sl false 9 (s.land.wells.map Zf),.sl false 5 (s.land.legs.map Zl),I s.pace.lo,I s.pace.hi,
  I s.breed.full,I s.breed.fed,I s.breed.rest.lo,I s.breed.rest.hi,I s.breed.heat.lo,I s.breed.heat.hi,I s.breed.toil.lo,I s.breed.toil.hi,I s.breed.burn.lo,I s.breed.burn.hi,I s.breed.rub.lo,I s.breed.rub.hi,I s.breed.milk.lo,I s.breed.milk.hi,I s.breed.heal,I s.breed.strong.lo,I s.breed.strong.hi,
  I s.camel.water.lo,I s.camel.water.hi,I s.camel.fat.lo,I s.camel.fat.hi,I s.camel.sore.lo,I s.camel.sore.hi,B s.camel.milks,
  I s.herd,I s.hours,I s.slab,I s.cost,I s.sale,I s.start,I s.day,I s.till,.sl false 6 (s.scenes.map Zi)]
def ZK (p:Plan):List SV:=[.sl false 1 (p.legs.map Zn),I p.animals,I p.slabs]
theorem WI (n lo hi:Int):Ct Tryz.prog 61 [I n,I lo,I hi] (B (inR lo hi n)):=by
 refine t61.1 (by simp) (by simp) ?_;dsimp only [c61,r61,go_sem];repeat (refine gb ?_;dsimp only [go_sem])
 (simp only [inR,Option.some.injEq,SV.v.injEq,Value.bool.injEq]<;>grind)
theorem Us (s:Span) (lo hi:Int):Ct Tryz.prog 96 [.agg (Zc s),I lo,I hi] (B (Yl lo hi s)):=by
 refine t96.1 (by simp [Zc]) (by simp) ?_;dsimp only [c96,r96,Zc,go_sem];refine call (WI _ _ _) ?_;dsimp only [go_sem];repeat (refine gb ?_;dsimp only [go_sem])
 (simp only [Yl,inR,Option.some.injEq,SV.v.injEq,Value.bool.injEq]<;>grind)
theorem Zk6 (lo hi x:Int):Ct Tryz.prog 99 [I x,.ps [I lo] 0,.ps [I hi] 0] (B (!inR lo hi x)):=by
 refine t99.1 (by simp) (by simp) ?_;dsimp only [c99,r99,go_sem];repeat (refine gb ?_;dsimp only [go_sem])
 (simp only [inR,Option.some.injEq,SV.v.injEq,Value.bool.injEq]<;>grind)
theorem Zbw (lo hi:Int) (l:List Int) (hl:l.length < 4611686018427387904) (c:Bool):Ct Tryz.prog 53 [I lo,I hi,.sl c 1 (l.map Zn)] (B (l.all (inR lo hi))):=by
 refine t53.1 (by simp [Za,Zn]) (by simp) ?_;dsimp only [c53,r53,go_sem];refine Zaz (by simp [FLT]) (res:=B (l.any λx=>!inR lo hi x)) ?_ ?_
 . dsimp only [go_sem];exact ZzS 99 [.ps [I lo] 0,.ps [I hi] 0] (by simp) (λx=>!inR lo hi x) l (λx _=>Zk6 lo hi x) hl
 . dsimp only [go_sem];simp [List.all_eq_not_any_not]
theorem Zz1 (lo hi a:Int) (c:Bool):Ct Tryz.prog 53 [I lo,I hi,.sl c 1 [[I a]]] (B (inR lo hi a)):=by
 have:=Zbw lo hi [a] (by simp) c;simpa [Zn] using this
theorem Ztr (lo hi a b:Int) (c:Bool):Ct Tryz.prog 53 [I lo,I hi,.sl c 1 [[I a],[I b]]] (B (inR lo hi a && inR lo hi b)):=by
 have:=Zbw lo hi [a,b] (by simp) c;simpa [Zn] using this
theorem ZeN (lo hi:Int) (s:Span):Ct Tryz.prog 103 [.agg (Zc s),.ps [I lo] 0,.ps [I hi] 0] (B (!Yl lo hi s)):=by
 refine t103.1 (by simp [Zc]) (by simp) ?_;dsimp only [c103,r103,Zc,go_sem];repeat (first | (refine gb ?_;dsimp only [go_sem]) | (refine call (Ztr _ _ _ _ _) ?_;dsimp only [go_sem]))
 (simp only [Yl,inR,Option.some.injEq,SV.v.injEq,Value.bool.injEq]<;>grind)
theorem ZaU (lo hi:Int) (l:List Span) (hl:l.length < 4611686018427387904) (c:Bool):Ct Tryz.prog 55 [I lo,I hi,.sl c 2 (l.map Zc)] (B (l.all (Yl lo hi))):=by
 refine t55.1 (by simp [Za,Zc]) (by simp) ?_;dsimp only [c55,r55,go_sem];refine Zaz (by simp [FLT]) (res:=B (l.any λx=>!Yl lo hi x)) ?_ ?_
 . dsimp only [go_sem];exact Ztx 103 [.ps [I lo] 0,.ps [I hi] 0] (by simp) (λx=>!Yl lo hi x) l (λx _=>ZeN lo hi x) hl
 . dsimp only [go_sem];simp [List.all_eq_not_any_not]
theorem Zeo (lo hi:Int) (s:Span) (c:Bool):Ct Tryz.prog 55 [I lo,I hi,.sl c 2 [[I s.lo,I s.hi]]] (B (Yl lo hi s)):=by
 have:=ZaU lo hi [s] (by simp) c;simpa [Zc] using this
theorem Zjy (s:Season):Ct Tryz.prog 12 [.agg (Zs s)] (B (ZbH s)):=by
 refine t12.1 (by simp [Zs,Zi,Zf,Zl,Zg,Zc,Zn,Za]) (by simp) ?_;dsimp only [c12,r12,Zs,go_sem];refine call (Zpb s.land) ?_;dsimp only [go_sem];repeat (refine gb ?_;dsimp only [go_sem])
 simp only [List.length_map];refine br ?_ ?_
 . intro h;dsimp only [go_sem]
   (simp only [ZbH,Option.some.injEq,SV.v.injEq,Value.bool.injEq]<;>grind)
 intro h;dsimp only [go_sem];have hg:ZbH s=s.scenes.any ZaT:=by simp only [ZbH];grind
 have hlen:s.scenes.length<=8:=by grind
 rw [hg];refine Yy (λk:Nat=>[(3,I k)]) (λ_=>[]) (λk=>k<=s.scenes.length/\(s.scenes.drop k).any ZaT=s.scenes.any ZaT) (λk=>s.scenes.length - k) 0 ⟨Nat.zero_le _,rfl⟩ ?_ ?_
 . (refine Zj ?_ ?_ ?_ rfl rfl<;>dsimp only [Zg,Zf,Zl,Zi,Zc,Zn,id,go_sem]<;>simp [Zg,Zf,Zl,Zi,Zc,Zn,Za])
 intro k ⟨hk,hi⟩;dsimp only [go_sem];simp only [List.length_map];by_cases hlt:k < s.scenes.length
 . refine Zq (by simpa using hlt) ?_;dsimp only [go_sem];refine Zo k hlt rfl ?_;dsimp only [Zi,go_sem];repeat (first | (refine gb ?_;dsimp only [go_sem]) | (refine Zo k hlt rfl ?_;dsimp only [Zi,go_sem]))
   simp only [List.length_map];rw [List.drop_eq_getElem_cons hlt,List.any_cons] at hi;refine br ?_ ?_
   . intro hb;dsimp only [go_sem];rw [<- hi];simp only [ZaT];grind
   . intro hb;dsimp only [go_sem];rw [Zh (n:=(k:Int)+1) (by omega) (by omega)];have:ZaT s.scenes[k]=false:=by simp only [ZaT];grind
     rw [this,Bool.false_or] at hi;refine ⟨k+1,⟨hlt,hi⟩,by omega,?_⟩;(refine Zj ?_ ?_ ?_ rfl rfl<;>dsimp only [Zg,Zf,Zl,Zi,Zc,Zn,id,go_sem]<;>simp [Zg,Zf,Zl,Zi,Zc,Zn,Za])
 refine Zr (by simp;omega) ?_;dsimp only [go_sem];rw [<- hi,List.drop_eq_nil_of_le (by omega)];rfl
end Go.Proofs.YtiigiflofnjilaaGreat
namespace Go.Sx
open Go Go.RowKit
theorem Ct.res {P:Program} {f:FuncId} {args:List SV} {res res0:SV} (h:Ct P f args res) (kr:KF res0) (hw:ZdU res res0):Ct P f args res0 :=
 ⟨h.1,h.2,kr,λw ok vs hR=>Calls.mono (h.4 w ok vs hR) λe w' q=>by
  obtain ⟨y,h1,h2,h3⟩:=q
  exact ⟨y,h1,hw _ _ _ _ _ h2,h3⟩⟩
theorem XK {l:List SV}:∀ (w:World) (E:Env) (n ok:Nat->Prop) (ys:List Value),RL w E n ok l ys->RL w E n ok l ys:=λ_ _ _ _ _ h=>h
def Zbb (fr:List (Nat × SV)):List Nat->List (Nat × SV)
 | []=>[]
 | t :: ts=>(t,lk t fr) :: Zbb fr ts
theorem Zju (fr:List (Nat × SV)):Zbb fr []=[]:=rfl
theorem ZhG (fr:List (Nat × SV)) (t:Nat) (ts:List Nat):Zbb fr (t :: ts)=(t,lk t fr) :: Zbb fr ts:=rfl
attribute [go_sem] Zju ZhG
theorem ZdY (fr:List (Nat × SV)):∀ ts,ZyV (Zbb fr ts) fr
 | []=>trivial
 | _ :: ts=>⟨rfl,ZdY fr ts⟩
theorem Ww {m:Nat} {σ : St} (ts:List Nat) (hg:ZyW (Zbb σ.fr ts)=true):Ent m σ ⟨Zbb σ.fr ts,σ.hp,σ.n,σ.N,[]⟩:=by
 intro C E a w _ h;refine ⟨E,λt=>?_,h.sz,h.df,λt j b s ht=>absurd ht (Zfn hg t j b s),h.hs⟩;have hfr:=h.fr t;rcases Zkt (ZdY σ.fr ts) t with h1 | h1
 . rw [h1];exact trivial
 . rw [h1];have:=Zfn hg t;rw [h1] at this;cases hq:lk t σ.fr<;>rw [hq] at hfr this<;>first | exact hfr | exact absurd rfl (this _ _ _)
theorem XE {m:Nat} {f:CT} {σ : St} {K:Ex->St->Prop} {S:Type} (ts:List Nat) (hg:ZyW (Zbb σ.fr ts)=true) (ov:S->List (Nat × SV)) (hv:S->List (Nat × HB)) (rel:S->Prop) (μ : S->Nat) (s0:S) (h0:rel s0)
 (he:Ent m ⟨Zbb σ.fr ts,σ.hp,σ.n,σ.N,[]⟩ (stO ⟨Zbb σ.fr ts,σ.hp,σ.n,σ.N,[]⟩ ov hv s0))
 (hb:∀ s,rel s->f (stO ⟨Zbb σ.fr ts,σ.hp,σ.n,σ.N,[]⟩ ov hv s) (ZoR m (stO ⟨Zbb σ.fr ts,σ.hp,σ.n,σ.N,[]⟩ ov hv) rel μ s K)):Zt9 m f σ K :=
 Zau (Ww ts hg) ov hv rel μ s0 h0 he hb
end Go.Sx
