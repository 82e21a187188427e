/- Walks and plain laws that lead to the given statement, part 8 of 9. -/
import Derived.Test.YtiigiflofnjilaaGreatHG
import Derived.WideLaws
import Derived.Test.YtiigiflofnjilaaGreatProg
set_option linter.all false
open Nat renaming reduceAdd→rA,reduceMul→rM,reduceSub→rS,beq_refl→nbr
set_option maxRecDepth 100000
set_option maxHeartbeats 4000000
namespace Go.Azalai
open Go.Sx
def Wp (l:Land):Int→List Int→List Int→Option Int
 | v,_,[]=>some v
 | v,been,i :: r=>if Wq l i v < 0 then none else if Wq l i v ∈ been then none else Wp l (Wq l i v) (Wq l i v :: been) r
end Go.Azalai
namespace Go.Proofs.YtiigiflofnjilaaGreat
open Go Go.Sx Go.Azalai
theorem ZjC.set {been:List Int} {L:List (Nat × Int × Bool)} {c:Nat} {v:Int} (h:ZjC been L):ZjC (v :: been) (VZ c v true L):=fun u=>by
 rw [ZbX]
 by_cases hu:u=v
 · simp [hu]
 · rw [if_neg hu,h u];simp [hu]
theorem Zv5:YK Tryz.prog 4=some (.bool false):=by kernel_rfl
theorem bz_RS:∀ w E n ok,R w E n ok (B false) (.bool false):=fun w E n ok=>by simp only [R]
theorem Zgg (s:Season) (hs:SmallS s) (hl:ZU s.land=true) (hp:ZW s.pace=true) (h0:0≤s.start∧s.start < s.land.wells.length) (legs:List Int) (hg:legs.length≤1000) (c:Bool) :
 Ct Tryz.prog 58 [.agg (Zr s),.sl c 1 (legs.map Zq)] (.tup [I ((Wp s.land s.start [s.start] legs).getD 0),B (Wp s.land s.start [s.start] legs).isSome]):=by
 have hw:=hs.land.1
 have hlg:=hs.land.2.1
 have hlp:OkLP s.land s.pace:=⟨hl,hp⟩
 refine t58 (by simp [Zr,Zk,Zf,Zm,Zg,Zc,Zq,Za,KFL,KF]) (by simp [KFL,KF]) ?_
 dsimp only [c58,r58,Zr,go_sem,rA,rM,rS]
 refine Zcp rfl rfl rfl ?_
 dsimp only [go_sem,rA,rM,rS]
 refine Zc7 (ins:=true) (key:=kI) (val:=B) (L:=[]) (k:=s.start) (v:=true) rfl rfl Zrb ZsU rfl rfl (by simp) ?_
 dsimp only [go_sem,rA,rM,rS]
 have hb0:ZjC [s.start] (VZ 0 s.start true []):=fun u=>by rw [ZbX];simp [Xv]
 refine W8 [1,2,6,16,17,18,4,5] rfl (fun q:Nat × Int × List Int × List (Nat × Int × Bool) × Nat=>[(18,I q.1),(4,I q.2.1)]) (fun q=>[(1,.map (mpS kI B q.2.2.2.1) q.2.2.2.2)])
  (fun q=>q.1≤legs.length∧Wp s.land q.2.1 q.2.2.1 (legs.drop q.1)=Wp s.land s.start [s.start] legs∧ZjC q.2.2.1 q.2.2.2.1∧MW q.2.2.2.1 q.2.2.2.2∧0≤q.2.1∧q.2.1 < s.land.wells.length)
  (fun q=>legs.length - q.1) (0,s.start,[s.start],VZ 0 s.start true [],ZaZ 0 s.start ([]:List (Nat × Int × Bool))) ⟨Nat.zero_le _,rfl,hb0,MW.nil.set true,h0⟩ ?_ ?_
 · (refine Zl ?_ ?_ ?_ rfl rfl<;>dsimp only [Zg,Zf,Zm,Zk,Zc,Zq,Yt,Z8,id,go_sem,rA,rM,rS]<;>simp [Zg,Zf,Zm,Zk,Zc,Zq,Yt,Z8,Za,Zi,KFR,KFL,KF,Zd,mtO,nbr])
 rintro ⟨k,v,been,L,c⟩ ⟨hk,hi,hb,hM,hv⟩
 simp only at hk hi hb hM hv
 dsimp only [go_sem,rA,rM,rS]
 simp only [List.length_map]
 by_cases hlt:k < legs.length
 case neg =>
  refine Zu (by simp;omega) ?_
  dsimp only [go_sem,rA,rM,rS]
  rw [← hi,List.drop_eq_nil_of_le (by omega)]
  rfl
 refine Zt (by simpa using hlt) ?_
 dsimp only [go_sem,rA,rM,rS]
 refine Zo k hlt rfl ?_
 dsimp only [Zq,go_sem,rA,rM,rS]
 simp only [List.length_map]
 rw [Ze (n:=(s.land.legs.length:Int) - 1) (by omega) (by omega)]
 refine call (Zib _ _ _ _) ?_
 dsimp only [go_sem,rA,rM,rS]
 rw [List.drop_eq_getElem_cons hlt,Wp] at hi
 by_cases hr:inR 0 (s.land.legs.length - 1) legs[k]=true
 case neg =>
  refine Zt (by simpa using hr) ?_
  dsimp only [go_sem,rA,rM,rS]
  simp only [inR,decide_eq_true_eq] at hr
  rw [if_pos (by rw [ZdQ (by omega)];decide)] at hi
  rw [← hi];rfl
 refine Zu (by simpa using hr) ?_
 dsimp only [go_sem,rA,rM,rS]
 simp only [inR,decide_eq_true_eq] at hr
 obtain ⟨n,hn⟩:=Int.eq_ofNat_of_zero_le hr.1
 rw [hn] at hr hi ⊢
 have hnl:n < s.land.legs.length:=by omega
 refine Zo n hnl rfl ?_
 dsimp only [Zm,go_sem,rA,rM,rS]
 have hends:=hlp.ends (List.getElem_mem hnl)
 rw [ZbP hnl] at hi
 repeat (refine gb ?_;dsimp only [go_sem,rA,rM,rS])
 by_cases hof:v=s.land.legs[n].a∨v=s.land.legs[n].b
 case neg =>
  refine Zt (by simp [bne];omega) ?_
  dsimp only [go_sem,rA,rM,rS]
  rw [if_pos (by unfold Zn;rw [if_neg (by omega),if_neg (by omega)];decide)] at hi
  rw [← hi];rfl
 refine Zu (by simp [bne];omega) ?_
 dsimp only [go_sem,rA,rM,rS]
 have ho:Zn s.land.legs[n] v=s.land.legs[n].a+s.land.legs[n].b - v:=by
  unfold Zn;rcases hof with h | h
  · rw [if_pos h.symm];omega
  · rw [if_neg (by omega),if_pos h.symm];omega
 rw [Ze (n:=s.land.legs[n].a+s.land.legs[n].b) (by omega) (by omega),Ze (n:=s.land.legs[n].a+s.land.legs[n].b - v) (by omega) (by omega)]
 have hoi:0≤s.land.legs[n].a+s.land.legs[n].b - v∧s.land.legs[n].a+s.land.legs[n].b - v < s.land.wells.length:=by omega
 rw [ho,if_neg (by omega)] at hi
 generalize s.land.legs[n].a+s.land.legs[n].b - v=u at hi hoi
 have hbu:=hb u
 refine Zso (key:=kI) (val:=B) (sv:=sI) (L:=L) (k:=u) (zs:=B false) rfl rfl Zrb ZsU rfl Zv5 bz_RS (fun b hg=>?_) (fun hg=>?_)
 · rw [hbu] at hg
   by_cases hm:u ∈ been
   case neg=>rw [if_neg hm] at hg;cases hg
   rw [if_pos hm] at hg hi
   cases hg
   dsimp only [go_sem,rA,rM,rS]
   refine Zt rfl ?_
   dsimp only [go_sem,rA,rM,rS]
   rw [← hi];rfl
 · rw [hbu] at hg
   by_cases hm:u ∈ been
   · rw [if_pos hm] at hg;cases hg
   rw [if_neg hm] at hi
   dsimp only [go_sem,rA,rM,rS]
   refine Zu rfl ?_
   dsimp only [go_sem,rA,rM,rS]
   refine Zc7 (ins:=false) (key:=kI) (val:=B) (L:=L) (k:=u) (v:=true) rfl rfl Zrb ZsU rfl rfl (by simp) ?_
   dsimp only [go_sem,rA,rM,rS]
   rw [Ze (n:=(k:Int)+1) (by omega) (by omega)]
   refine ⟨(k+1,u,u :: been,VZ c u true L,ZaZ c u L),⟨hlt,hi,hb.set,hM.set true,hoi⟩,by simp only;omega,?_⟩
   (refine Zl ?_ ?_ ?_ rfl rfl<;>dsimp only [Zg,Zf,Zm,Zk,Zc,Zq,Yt,Z8,id,go_sem,rA,rM,rS]<;>simp [Zg,Zf,Zm,Zk,Zc,Zq,Yt,Z8,Za,Zi,KFR,KFL,KF,Zd,mtO,nbr])
def ZaX (n:Nat) (been:List Int):List Bool:=(List.range n).map fun u:Nat=>decide ((u:Int) ∈ been)
theorem Yl {n:Nat} {been:List Int}:(ZaX n been).length=n:=by simp [ZaX]
theorem X1 {n u:Nat} {been:List Int} (h:u < (ZaX n been).length):(ZaX n been)[u]=decide ((u:Int) ∈ been):=by simp [ZaX]
theorem ZaS {n u:Nat} {been:List Int} (h:u < n):(ZaX n been).set u true=ZaX n ((u:Int) :: been):=by
 apply List.ext_getElem (by simp [Yl])
 intro i h1 h2
 rw [List.getElem_set,X1]
 by_cases hi:u=i
 · subst hi;rw [if_pos rfl,X1];simp
 · rw [if_neg hi,X1]
   have:¬ (i:Int)=(u:Int):=by omega
   simp [this]
theorem ZhN {n:Nat}:ZaX n []=List.replicate n false:=by
 apply List.ext_getElem (by simp [Yl])
 intro i h1 h2
 rw [X1];simp
theorem ZuD (s:Season) (hs:SmallS s) (hl:ZU s.land=true) (hp:ZW s.pace=true) (h0:0≤s.start∧s.start < s.land.wells.length) (legs:List Int) (hg:legs.length≤1000) (c:Bool) :
 Ct Tryz.prog 87 [.agg (Zr s),.sl c 1 (legs.map Zq)] (I ((Wp s.land s.start [s.start] legs).getD (-1))):=by
 have hw:=hs.land.1
 have hlg:=hs.land.2.1
 have hlp:OkLP s.land s.pace:=⟨hl,hp⟩
 refine t87 (by simp [Zr,Zk,Zf,Zm,Zg,Zc,Zq,Za,KFL,KF]) (by simp [KFL,KF]) ?_
 dsimp only [c87,r87,Zr,go_sem,rA,rM,rS]
 simp only [List.length_map]
 refine ⟨s.land.wells.length,rfl,by omega,?_⟩
 dsimp only [go_sem,rA,rM,rS]
 obtain ⟨n0,hn0⟩:=Int.eq_ofNat_of_zero_le h0.1
 have hb0:List.replicate s.land.wells.length [B false]=(ZaX s.land.wells.length []).map fun b=>[B b]:=by rw [ZhN];simp
 rw [hb0]
 rw [hn0] at h0 ⊢
 refine Ug n0 rfl (by simp [Yl];omega) ?_
 dsimp only [go_sem,rA,rM,rS]
 refine Zf2 true (by simp [Yl];omega) (by simp) (by simp [splice]) ?_
 rw [ZaS (by omega)]
 dsimp only [go_sem,rA,rM,rS]
 refine W8 [1,2,4,5,6,7] rfl (fun q:Nat × Int × List Int=>[(7,I q.1),(6,I q.2.1)]) (fun q=>[(1,.row 0 1 ((ZaX s.land.wells.length q.2.2).map fun b=>[B b]) 4)])
  (fun q=>q.1≤legs.length∧Wp s.land q.2.1 q.2.2 (legs.drop q.1)=Wp s.land n0 [(n0:Int)] legs∧0≤q.2.1∧q.2.1 < s.land.wells.length)
  (fun q=>legs.length - q.1) (0,n0,[(n0:Int)]) ⟨Nat.zero_le _,rfl,h0⟩ ?_ ?_
 · (refine Zl ?_ ?_ ?_ rfl rfl<;>dsimp only [Zg,Zf,Zm,Zk,Zc,Zq,id,go_sem,rA,rM,rS]<;>simp [Zg,Zf,Zm,Zk,Zc,Zq,Za,Zi,KFR,KFL,KF,Zd,mtO,nbr])
 rintro ⟨k,v,been⟩ ⟨hk,hi,hv⟩
 simp only at hk hi hv
 dsimp only [go_sem,rA,rM,rS]
 simp only [List.length_map]
 by_cases hlt:k < legs.length
 case neg =>
  refine Zu (by simp;omega) ?_
  dsimp only [go_sem,rA,rM,rS]
  rw [← hi,List.drop_eq_nil_of_le (by omega)]
  rfl
 refine Zt (by simpa using hlt) ?_
 dsimp only [go_sem,rA,rM,rS]
 refine Zo k hlt rfl ?_
 dsimp only [Zq,go_sem,rA,rM,rS]
 simp only [List.length_map]
 rw [Ze (n:=(s.land.legs.length:Int) - 1) (by omega) (by omega)]
 refine call (Xm _ _ _) ?_
 dsimp only [go_sem,rA,rM,rS]
 rw [List.drop_eq_getElem_cons hlt,Wp] at hi
 by_cases hr:inR 0 (s.land.legs.length - 1) legs[k]=true
 case neg =>
  refine Zt (by simpa using hr) ?_
  dsimp only [go_sem,rA,rM,rS]
  simp only [inR,decide_eq_true_eq] at hr
  rw [if_pos (by rw [ZdQ (by omega)];decide)] at hi
  rw [← hi];rfl
 refine Zu (by simpa using hr) ?_
 dsimp only [go_sem,rA,rM,rS]
 refine Zo k hlt rfl ?_
 dsimp only [Zq,go_sem,rA,rM,rS]
 simp only [inR,decide_eq_true_eq] at hr
 obtain ⟨n,hn⟩:=Int.eq_ofNat_of_zero_le hr.1
 rw [hn] at hr hi ⊢
 have hnl:n < s.land.legs.length:=by omega
 refine Zo n hnl rfl ?_
 dsimp only [Zm,go_sem,rA,rM,rS]
 have hends:=hlp.ends (List.getElem_mem hnl)
 rw [ZbP hnl] at hi
 by_cases hva:v=s.land.legs[n].a
 · refine Zt (by simpa using hva) ?_
   dsimp only [go_sem,rA,rM,rS]
   rw [show Zn s.land.legs[n] v=s.land.legs[n].b from by unfold Zn;rw [if_pos hva.symm],if_neg (by omega)] at hi
   have hoi:0≤s.land.legs[n].b∧s.land.legs[n].b < s.land.wells.length:=by omega
   obtain ⟨u,hu⟩:=Int.eq_ofNat_of_zero_le hoi.1
   rw [hu] at hi hoi ⊢
   refine Ug u rfl (by simp [Yl];omega) ?_
   dsimp only [go_sem,rA,rM,rS]
   refine ZcM (by simp [Yl];omega) ?_
   rw [X1]
   dsimp only [go_sem,rA,rM,rS]
   by_cases hm:(u:Int) ∈ been
   · refine Zt (by simpa using hm) ?_
     dsimp only [go_sem,rA,rM,rS]
     rw [if_pos hm] at hi
     rw [← hi];rfl
   refine Zu (by simpa using hm) ?_
   dsimp only [go_sem,rA,rM,rS]
   rw [if_neg hm] at hi
   refine Ug u rfl (by simp [Yl];omega) ?_
   dsimp only [go_sem,rA,rM,rS]
   refine Zf2 true (by simp [Yl];omega) (by simp) (by simp [splice]) ?_
   rw [ZaS (by omega)]
   dsimp only [go_sem,rA,rM,rS]
   rw [Ze (n:=(k:Int)+1) (by omega) (by omega)]
   refine ⟨(k+1,u,(u:Int) :: been),⟨hlt,hi,hoi⟩,by simp only;omega,?_⟩
   (refine Zl ?_ ?_ ?_ rfl rfl<;>dsimp only [Zg,Zf,Zm,Zk,Zc,Zq,id,go_sem,rA,rM,rS]<;>simp [Zg,Zf,Zm,Zk,Zc,Zq,Za,Zi,KFR,KFL,KF,Zd,mtO,nbr])
 refine Zu (by simpa using hva) ?_
 dsimp only [go_sem,rA,rM,rS]
 by_cases hvb:v=s.land.legs[n].b
 case neg =>
  refine Zu (by simpa using hvb) ?_
  dsimp only [go_sem,rA,rM,rS]
  rw [if_pos (by unfold Zn;rw [if_neg (by omega),if_neg (by omega)];decide)] at hi
  rw [← hi];rfl
 refine Zt (by simpa using hvb) ?_
 dsimp only [go_sem,rA,rM,rS]
 rw [show Zn s.land.legs[n] v=s.land.legs[n].a from by unfold Zn;rw [if_neg (by omega),if_pos hvb.symm],if_neg (by omega)] at hi
 have hoi:0≤s.land.legs[n].a∧s.land.legs[n].a < s.land.wells.length:=by omega
 obtain ⟨u,hu⟩:=Int.eq_ofNat_of_zero_le hoi.1
 rw [hu] at hi hoi ⊢
 refine Ug u rfl (by simp [Yl];omega) ?_
 dsimp only [go_sem,rA,rM,rS]
 refine ZcM (by simp [Yl];omega) ?_
 rw [X1]
 dsimp only [go_sem,rA,rM,rS]
 by_cases hm:(u:Int) ∈ been
 · refine Zt (by simpa using hm) ?_
   dsimp only [go_sem,rA,rM,rS]
   rw [if_pos hm] at hi
   rw [← hi];rfl
 refine Zu (by simpa using hm) ?_
 dsimp only [go_sem,rA,rM,rS]
 rw [if_neg hm] at hi
 refine Ug u rfl (by simp [Yl];omega) ?_
 dsimp only [go_sem,rA,rM,rS]
 refine Zf2 true (by simp [Yl];omega) (by simp) (by simp [splice]) ?_
 rw [ZaS (by omega)]
 dsimp only [go_sem,rA,rM,rS]
 rw [Ze (n:=(k:Int)+1) (by omega) (by omega)]
 refine ⟨(k+1,u,(u:Int) :: been),⟨hlt,hi,hoi⟩,by simp only;omega,?_⟩
 (refine Zl ?_ ?_ ?_ rfl rfl<;>dsimp only [Zg,Zf,Zm,Zk,Zc,Zq,id,go_sem,rA,rM,rS]<;>simp [Zg,Zf,Zm,Zk,Zc,Zq,Za,Zi,KFR,KFL,KF,Zd,mtO,nbr])
end Go.Proofs.YtiigiflofnjilaaGreat
set_option maxRecDepth 100000
set_option maxHeartbeats 4000000
namespace Go.Azalai
open Go.Sx
def VY (s:Season) (p:Plan):Bool:=(Wp s.land s.start [s.start] p.legs).isSome && inR 0 s.herd p.animals && inR 0 12 p.slabs
def ZY (s:Season) (legs:List Int):List Stop:=(YE s.land s.pace s.start s.day legs).1
def ZdI (l:List Stop):Stop:=l.getLast?.getD ⟨0,0,⟨0,0⟩,⟨0,0⟩⟩
def Uy (s:Season) (legs:List Int):Bool:=decide ((YE s.land s.pace s.start s.day legs).2.2=0) && (decide ((ZY s legs).length=0) || decide ((ZdI (ZY s legs)).arrives.hi≤s.till))
theorem Zeg {l:Land} {p:Span} (hg:OkLP l p):∀ {legs:List Int} {v:Int} {been:List Int} {u:Int},0≤v∧v < l.wells.length→Wp l v been legs=some u→0≤u∧u < l.wells.length
 | [],v,_,u,hv,h=>by simp only [Wp,Option.some.injEq] at h;subst h;exact hv
 | i :: r,v,been,u,hv,h=>by
  simp only [Wp] at h
  split at h
  · cases h
  rename_i he
  split at h
  · cases h
  obtain ⟨k,x,_,_,hx,_,e⟩:=Zby he
  rw [e] at he h
  exact Zeg hg (YB hg hx he).1 h
theorem Zca {l:List Stop} (h:l.length≠0):l[l.length - 1]? = some (ZdI l):=by
 unfold ZdI
 rw [List.getLast?_eq_getElem?]
 rw [List.getElem?_eq_getElem (by omega)];rfl
theorem ZiG {l:Land} {p:Span}:∀ {legs:List Int} {v a b:Int} {k:Nat} {acc:List Stop},(goS l p v a b legs k acc).2.2≠0→(goS l p v a b legs k acc).1=[]
 | [],_,_,_,_,_,h=>by simp [goS] at h
 | i :: r,v,a,b,k,acc,h=>by
  simp only [goS] at h ⊢
  split
  · rfl
  · rename_i x hx
    rw [hx] at h;simp only at h
    split
    · rfl
    · rename_i hn;rw [if_neg hn] at h;exact ZiG h
theorem ZhH {l:Land} {p:Span}:∀ {legs:List Int} {v a b:Int} {k:Nat} {acc:List Stop},(goS l p v a b legs k acc).1.length≤acc.length+legs.length
 | [],_,_,_,_,_=>by simp [goS]
 | i :: r,v,a,b,k,acc=>by
  simp only [goS]
  split
  · simp
  · split
    · simp
    · refine Nat.le_trans ZhH ?_;simp;omega
theorem Vv {l:Land} {p:Span} {s d:Int} {legs:List Int}:(YE l p s d legs).1.length≤legs.length:=by
 unfold YE
 split
 · simp
 split
 · simp
 split
 · simp
 split
 · simp
 refine Nat.le_trans ZhH (by simp)
theorem Zg0 {l:Land} {p:Span} {s d:Int} {legs:List Int} (h:(YE l p s d legs).2.2≠0):(YE l p s d legs).1=[]:=by
 unfold YE at h ⊢
 split
 · rfl
 rename_i h1
 rw [if_neg h1] at h
 split
 · rfl
 rename_i h2
 rw [if_neg h2] at h
 split
 · rfl
 rename_i h3
 rw [if_neg h3] at h
 split
 · rfl
 rename_i h4
 rw [h4] at h
 exact ZiG h
end Go.Azalai
namespace Go.Proofs.YtiigiflofnjilaaGreat
open Go Go.Sx Go.Azalai
structure OkS (s:Season):Prop where
 small:SmallS s
 ok:ZR s=true
theorem OkS.land {s:Season} (h:OkS s):ZU s.land=true:=by have:=h.ok;simp only [ZR,Bool.and_eq_true] at this;exact this.1.1.1.1.1.1
theorem OkS.pace {s:Season} (h:OkS s):ZW s.pace=true:=by have:=h.ok;simp only [ZR,Bool.and_eq_true] at this;exact this.1.1.1.1.1.2
theorem OkS.lp {s:Season} (h:OkS s):OkLP s.land s.pace:=⟨h.land,h.pace⟩
theorem OkS.beast {s:Season} (h:OkS s):Zw s.breed=true∧Zv s.breed s.camel=true:=by
 have:=h.ok;simp only [ZR,Bool.and_eq_true,decide_eq_true_eq] at this;exact Cm.errC_0.1 this.1.1.1.1.2
theorem OkS.num {s:Season} (h:OkS s):1≤s.herd∧s.herd≤30∧1≤s.hours∧s.hours≤24∧1≤s.slab∧s.slab≤1000000∧0≤s.cost∧s.cost≤1000000∧0≤s.sale∧s.sale≤1000000∧0≤s.day∧s.day≤s.till∧s.till≤100000:=by
 have:=h.ok;simp only [ZR,Uz,inR,Bool.and_eq_true,decide_eq_true_eq] at this;omega
theorem OkS.start {s:Season} (h:OkS s):0≤s.start∧s.start < s.land.wells.length:=by
 have:=h.ok;simp only [ZR,inR,Bool.and_eq_true,decide_eq_true_eq] at this;omega
theorem OkS.scene {s:Season} (h:OkS s):∀ x ∈ s.scenes,Yn s.land.wells.length x=true:=by
 have:=h.ok;simp only [ZR,Bool.and_eq_true,List.all_eq_true] at this;exact this.2
theorem Zr9 (s:Season) (h:OkS s) (p:Plan) (hg:p.legs.length≤1000):Ct Tryz.prog 44 [.agg (Zr s),.agg (Y3 p)] (B (VY s p)):=by
 refine t44 (by simp [Zr,Y3,Zk,Zf,Zm,Zg,Zc,Zq,Za,KFL,KF]) (by simp [KFL,KF]) ?_
 dsimp only [c44,r44,Zr,Y3,go_sem,rA,rM,rS]
 refine call (ZuD s h.small h.land h.pace h.start p.legs hg _) ?_
 dsimp only [go_sem,rA,rM,rS]
 repeat (first | (refine gb ?_;dsimp only [go_sem,rA,rM,rS]) | (refine call (Xm _ _ _) ?_;dsimp only [go_sem,rA,rM,rS]))
 have:decide ((Wp s.land s.start [s.start] p.legs).getD (-1) ≥ 0)=(Wp s.land s.start [s.start] p.legs).isSome:=by
  cases hq:Wp s.land s.start [s.start] p.legs with
  | none=>rfl
  | some u=>have:=(Zeg h.lp h.start hq).1;simpa using this
 rw [this];rfl
theorem Zmd (s:Season) (hs:SmallS s) (p:Plan) (hg:p.legs.length≤1000):Ct Tryz.prog 48 [.agg (Zr s),.agg (Y3 p)] (I (if ZR s=false then 90 else if VY s p=false then 91 else 0)):=by
 refine t48 (by simp [Zr,Y3,Zk,Zf,Zm,Zg,Zc,Zq,Za,KFL,KF]) (by simp [KFL,KF]) ?_
 dsimp only [c48,r48,Zr,Y3,go_sem,rA,rM,rS]
 refine call (ZcN s hs) ?_
 dsimp only [go_sem,rA,rM,rS]
 by_cases ho:ZR s=true
 case neg =>
  refine Zt (by simp [ho]) ?_
  dsimp only [go_sem,rA,rM,rS]
  simp [ho]
 refine Zu (by simp [ho]) ?_
 dsimp only [go_sem,rA,rM,rS]
 have h:OkS s:=⟨hs,ho⟩
 refine call (Zgg s h.small h.land h.pace h.start p.legs hg _) ?_
 dsimp only [go_sem,rA,rM,rS]
 repeat (first | (refine gb ?_;dsimp only [go_sem,rA,rM,rS]) | (refine call (Zib _ _ _ _) ?_;dsimp only [go_sem,rA,rM,rS]))
 refine br ?_ ?_
 · intro hb
   dsimp only [go_sem,rA,rM,rS]
   have:VY s p=false:=by simp only [VY];revert hb;generalize Option.isSome _=a;generalize inR 0 s.herd p.animals=b;generalize inR 0 12 p.slabs=c;revert a b c;decide
   rw [ho,this];rfl
 intro hb
 dsimp only [go_sem,rA,rM,rS]
 have:VY s p=true:=by simp only [VY];revert hb;generalize Option.isSome _=a;generalize inR 0 s.herd p.animals=b;generalize inR 0 12 p.slabs=c;revert a b c;decide
 rw [ho,this];rfl
theorem ZxQ (s:Season) (h:OkS s) (legs:List Int) (hg:legs.length≤1000) (c:Bool) {f:Nat}
 (hc:Ct Tryz.prog f [.agg (Zz s.land),I s.start,I s.day,.agg (Zc s.pace),.sl c 1 (legs.map Zq)] (X5 (YE s.land s.pace s.start s.day legs))) :
 Ct Tryz.prog f [.agg (Zz s.land),I s.start,I s.day,.agg (Zc s.pace),.sl c 1 (legs.map Zq)] (.tup [.sl false 6 ((ZY s legs).map Zx),I (YE s.land s.pace s.start s.day legs).2.1,I (YE s.land s.pace s.start s.day legs).2.2]):=by
 unfold X5 Xu at hc
 split at hc
 · exact hc
 · rename_i he
   refine hc.res (by simp [Za,Zx,KFL,KF]) ?_
   rw [ZY,Zg0 he]
   exact UV (ZT YZ Uj)
theorem Zmc (s:Season) (h:OkS s) (legs:List Int) (hg:legs.length≤1000) (c:Bool):Ct Tryz.prog 90 [.agg (Zr s),.sl c 1 (legs.map Zq)] (.tup [.sl false 6 ((ZY s legs).map Zx),B (Uy s legs)]):=by
 refine t90 (by simp [Zr,Zk,Zf,Zm,Zg,Zc,Zq,Za,KFL,KF]) (by simp [Za,Zx,KFL,KF]) ?_
 dsimp only [c90,r90,Zr,go_sem,rA,rM,rS]
 refine call (ZxQ s h legs hg c (ZjZ s.land h.small.land s.start s.day s.pace legs hg c)) ?_
 dsimp only [go_sem,rA,rM,rS]
 repeat (refine gb ?_;dsimp only [go_sem,rA,rM,rS])
 have hlen:(ZY s legs).length≤1000:=Nat.le_trans Vv hg
 simp only [List.length_map]
 refine ZdR ((ZY s legs).length - 1) (Zx (ZdI (ZY s legs))) rfl (fun hb=>?_) ?_
 · have hz:(ZY s legs).length≠0:=by simpa using hb
   rw [Ze (by omega) (by omega)]
   exact ⟨by omega,by rw [List.getElem?_map,Zca hz];rfl⟩
 dsimp only [Zx,go_sem,rA,rM,rS]
 repeat (refine gb ?_;dsimp only [go_sem,rA,rM,rS])
 have:((YE s.land s.pace s.start s.day legs).2.2 == 0 && (((ZY s legs).length:Int) == 0 || decide ((ZdI (ZY s legs)).arrives.hi≤s.till)))=Uy s legs:=by
  have h1:(((ZY s legs).length:Int) == 0)=decide ((ZY s legs).length=0):=by rw [Bool.eq_iff_iff];simp
  simp only [Uy,h1];rfl
 rw [this]
theorem Zum (s:Season) (h:OkS s) (legs:List Int) (hg:legs.length≤1000) (c:Bool):Ct Tryz.prog 62 [.agg (Zr s),.sl c 1 (legs.map Zq)] (.tup [.sl false 6 ((ZY s legs).map Zx),B (Uy s legs)]):=by
 refine t62 (by simp [Zr,Zk,Zf,Zm,Zg,Zc,Zq,Za,KFL,KF]) (by simp [Za,Zx,KFL,KF]) ?_
 dsimp only [c62,r62,Zr,go_sem,rA,rM,rS]
 refine call (ZxQ s h legs hg c (Zkb s.land h.small.land s.start s.day s.pace legs hg c)) ?_
 dsimp only [go_sem,rA,rM,rS]
 repeat (refine gb ?_;dsimp only [go_sem,rA,rM,rS])
 have hlen:(ZY s legs).length≤1000:=Nat.le_trans Vv hg
 simp only [List.length_map]
 refine ZdR ((ZY s legs).length - 1) (Zx (ZdI (ZY s legs))) rfl (fun hb=>?_) ?_
 · have hz:(ZY s legs).length≠0:=by simpa using hb
   rw [Ze (by omega) (by omega)]
   exact ⟨by omega,by rw [List.getElem?_map,Zca hz];rfl⟩
 dsimp only [Zx,go_sem,rA,rM,rS]
 repeat (refine gb ?_;dsimp only [go_sem,rA,rM,rS])
 have:((YE s.land s.pace s.start s.day legs).2.2 == 0 && (((ZY s legs).length:Int) == 0 || decide ((ZdI (ZY s legs)).arrives.hi≤s.till)))=Uy s legs:=by
  have h1:(((ZY s legs).length:Int) == 0)=decide ((ZY s legs).length=0):=by rw [Bool.eq_iff_iff];simp
  simp only [Uy,h1];rfl
 rw [this]
end Go.Proofs.YtiigiflofnjilaaGreat
namespace Go.Sx
open Go Go.RowKit
section
variable {K V:Type} [DecidableEq K] {k k':K} {v v0:V} {c:Nat} {L:List (Nat × K × V)}
def mbrn (c:Nat) (k:K):List (Nat × K × V)→Nat
 | []=>c
 | e :: l=>if e.2.1=k then e.1 else mbrn c k l
def sset (b:Nat) (v:V):List (Nat × K × V)→List (Nat × K × V)
 | []=>[]
 | e :: l=>if e.1=b then (e.1,e.2.1,v) :: l else e :: sset b v l
end
section
variable {P:Program} {K' V:Type} [DecidableEq K'] {key:K'→Value} {sv:K'→SV} {val:V→SV} {L:List (Nat × K' × V)} {km c:Nat} {kt et t ty:TypeId} {mx ix vx sx:Operand} {σ : St} {r:KT} {K:RK} {d:Option Nat} {k:K'}
end
section
variable {P:Program} {ty T T':TypeId} {ix jx:Operand} {σ : St} {r:KT} {K:RK} {d:Option Nat} {s:SV}
def Zb8 (P:Program) (T:TypeId):Bool :=
 match P.underlying T with
 | some (.interface _)=>false
 | some _=>true
 | none=>false
theorem Zh6 (hT:Zb8 P T=true) (hi:Zad σ ix=s) (hg:∀ j b u,s≠.gd j b u) (h:putK d (.ifc T s) none σ r K):RAW P d (.makeInterface T ix) ty σ r K:=by
 intro o C E a w next Q e1 e2 e3 hS hn hq
 have hiv:=WW hS hi hg
 have hx:(execOp a.eval o).run P w = .ok (.value (.iface T (a.eval ix))) w:=by
  obtain ⟨dst',op',ty',pos,after,guard⟩:=o
  simp only at e2;subst e2
  unfold Zb8 at hT
  cases hu:P.underlying T with
  | none=>rw [hu] at hT;cases hT
  | some u =>
   rw [hu] at hT
   cases u<;>first | exact absurd hT Bool.false_ne_true | simp [execOp,Sem.run_bind,Instr.makeInterface,run_underlying hu,Result.andThen_ok,Sem.run_pure]
 refine ZC hx (by simp) ?_
 show next (a.put o.dst _) _
 rw [e1]
 refine X9 h hS ?_ hn
 simp only [R];exact ⟨_,rfl,hiv⟩
theorem Zjy (hi:Zad σ ix = .ifc T s) (h:K (.pan (.ifc T s)) σ):RAW P d (.panic ix) ty σ r K:=by
 intro o C E a w next Q e1 e2 e3 hS hn hq
 have hiv:=WW hS hi (fun _ _ _=>by simp)
 simp only [R] at hiv
 obtain ⟨x,hx,hR⟩:=hiv
 have hy:(execOp a.eval o).run P w = .halt (.panic (.iface T x)) w:=by
  obtain ⟨dst',op',ty',pos,after,guard⟩:=o
  simp only at e2;subst e2
  simp [execOp,Sem.run_bind,hx,Instr.panic,goPanic,Result.andThen]
 exact Zi8 hy (by rw [e2];simp) (hq _ _ _ _ _ h hS (by simp only [R];exact ⟨x,rfl,hR⟩))
theorem UW (hT:Zb8 P T=true) (hi:Zad σ ix = .ifc T s) (h:putK d (.tup [s,.v (.bool true)]) none σ r K):RAW P d (.typeAssert ix T' T true) ty σ r K:=by
 intro o C E a w next Q e1 e2 e3 hS hn hq
 have hiv:=WW hS hi (fun _ _ _=>by simp)
 simp only [R] at hiv
 obtain ⟨x,hx,hR⟩:=hiv
 have hy:(execOp a.eval o).run P w = .ok (.value (.tuple #[x,.bool true])) w:=by
  obtain ⟨dst',op',ty',pos,after,guard⟩:=o
  simp only at e2;subst e2
  unfold Zb8 at hT
  cases hu:P.underlying T with
  | none=>rw [hu] at hT;cases hT
  | some u =>
   rw [hu] at hT
   cases u<;>first | exact absurd hT Bool.false_ne_true | simp [execOp,Sem.run_bind,hx,Instr.typeAssert,run_underlying hu,Result.andThen_ok,Sem.run_pure]
 refine ZC hy (by simp) ?_
 show next (a.put o.dst _) _
 rw [e1]
 refine X9 h hS ?_ hn
 simp only [R,RL];exact ⟨_,rfl,_,_,rfl,hR,_,_,rfl,rfl,rfl⟩
end
end Go.Sx
namespace Go.Sx
open Go Go.RowKit
def NK:Nat→Prop:=fun _=>False
def mqV (es:List (Nat × Value × SV)):VP where
 f w ok y:=∃ b ys c,y = .map (some b)∧ok b∧w.heap[b]? = some (.map ys c)∧RM w E0 NK ok es ys.toList
 one:=by rintro w ok y ⟨b,ys,c,rfl,_⟩;rfl
 mono:=by
  rintro w w' ok ok' y hs ⟨b,ys,c,rfl,h1,h2,h3⟩
  obtain ⟨k1,k2⟩:=hs b h1 (.inr ⟨_,_,h2⟩)
  exact ⟨b,ys,c,rfl,k1,k2.trans h2,WA hs (fun k hk=>hk.elim) (fun k hk=>hk) _ _ h3⟩
section
variable {K V:Type} [DecidableEq K] {P:Program} {key:K→Value} {sv:K→SV} {val:V→SV} {L:List (Nat × K × V)} {km c:Nat} {kt et t:TypeId} {σ : St} {k:K} {i j:Nat} {ok:Bool} {zs:SV} {z:Value} {v:V}
def lkS (ok:Bool) (val:V→SV) (zs:SV):Option V→SV
 | some v=>bif ok then .tup [val v,.v (.bool true)] else val v
 | none=>bif ok then .tup [zs,.v (.bool false)] else zs
def pend1 (key:K→Value) (val:V→SV) (c:Nat) (k:K) (v0:V) (L:List (Nat × K × V)):OP where
 f w ok o:=∃ ys c',o = .map ys c'∧((RM w E0 NK ok (mpS key val L) ys.toList∧c'=c)∨(RM w E0 NK ok (mpS key val (VZ c k v0 L)) ys.toList∧c'=ZaZ c k L))
 mono:=by
  rintro w w' ok ok' o hs ⟨ys,c',rfl,h⟩
  refine ⟨ys,c',rfl,?_⟩
  rcases h with ⟨h,e⟩ | ⟨h,e⟩
  · exact .inl ⟨WA hs (fun k hk=>hk.elim) (fun k hk=>hk) _ _ h,e⟩
  · exact .inr ⟨WA hs (fun k hk=>hk.elim) (fun k hk=>hk) _ _ h,e⟩
end
end Go.Sx
set_option maxRecDepth 100000
set_option maxHeartbeats 4000000
namespace Go.Azalai
open Go.Sx
def Vy (s:Season) (x:Scene) (slabs:Int):March:=⟨s.hours,slabs * s.slab,x.heat,x.grass,⟨0,0⟩⟩
def ZcW (b:Breed) (c:Camel):Span:=if VT b c=0 then ZnJ b c else Xe
def ZfK (a b:Span):Span:=⟨min a.lo b.lo,max a.hi b.hi⟩
def Zds (a b:Camel):Camel:=⟨ZfK a.water b.water,ZfK a.fat b.fat,ZfK a.sore b.sore,a.milks⟩
def VV (b:Breed) (m:March) (lo:Int):Nat→Nat→Camel→Camel→Camel × Int
 | 0,_,_,out=>(out,0)
 | j+1,n,c,out =>
  if m.load > (ZcW b c).lo then (Yg,2)
  else if (Yo b c m).2.2≠0∨(Yo b c m).2.1≠0 then (Yg,3)
  else VV b m lo j (n+1) (Yo b c m).1 (if (n:Int)+1=lo then (Yo b c m).1 else if (n:Int)+1 > lo then Zds out (Yo b c m).1 else out)
def Yr (s:Season) (x:Scene) (d:Span) (slabs:Int) (c:Camel):Camel × Int:=VV s.breed (Vy s x slabs) d.lo d.hi.toNat 0 c Yg
end Go.Azalai
namespace Go.Proofs.YtiigiflofnjilaaGreat
open Go Go.Sx Go.Azalai
abbrev camelL:=Cm.camelL
abbrev U8 (n:Int):SV:=.v (.int .u8 n)
def YC (s:Season) (k:Int):List SV :=
 [.sl false 9 (s.land.wells.map Zf),.sl false 5 (s.land.legs.map Zm),I s.pace.lo,I s.pace.hi,
  I s.breed.full,I s.breed.fed,I s.breed.rest.lo,I s.breed.rest.hi,I s.breed.heat.lo,I s.breed.heat.hi,I s.breed.toil.lo,I s.breed.toil.hi,I s.breed.burn.lo,I s.breed.burn.hi,I s.breed.rub.lo,I s.breed.rub.hi,I s.breed.milk.lo,I s.breed.milk.hi,I s.breed.heal,I s.breed.strong.lo,I s.breed.strong.hi,
  I s.camel.water.lo,I s.camel.water.hi,I s.camel.fat.lo,I s.camel.fat.hi,I s.camel.sore.lo,I s.camel.sore.hi,B s.camel.milks,
  I s.herd,I s.hours,I s.slab,I s.cost,I s.sale,I s.start,I s.day,I s.till,.sl false 6 (s.scenes.map Zk),I k]
theorem ZbA (a b:Span):Ct Tryz.prog 151 [.agg (Zc a),.agg (Zc b)] (.agg (Zc (ZfK a b))):=by
 refine t151 (by simp [Zc,KFL,KF]) (by simp [Zc,KFL,KF]) ?_
 dsimp only [c151,r151,Zc,go_sem,rA,rM,rS]
 rfl
theorem ZdN (a b:Span) (c:Bool):Ct Tryz.prog 172 [.agg (Zc a),.sl c 2 [[I b.lo,I b.hi]]] (.agg (Zc (ZfK a b))):=by
 refine t172 ⟨by simp [KF,KFL,Zc],by simp [KF,KFR,KFL],trivial⟩ (by simp [Zc,KFL,KF]) ?_
 dsimp only [c172,r172,Zc,go_sem,rA,rM,rS]
 refine Y9 2 ?_
 dsimp only [Zb,go_sem,rA,rM,rS]
 refine Zt (by decide) ?_
 dsimp only [go_sem,rA,rM,rS]
 refine ixs 0 [I b.lo,I b.hi] rfl rfl ?_
 dsimp only [go_sem,rA,rM,rS]
 refine Zu (by decide) ?_
 dsimp only [go_sem,rA,rM,rS]
 rfl
theorem ZkS (s:Season) (x:Scene) (c:Camel) (d:Span) (slabs:Int) (hn:0≤slabs∧slabs≤12) (hs:0≤s.slab∧s.slab≤1000000) (hd:d.hi≤1000000000) :
 Ct Tryz.prog 107 [.agg (Zr s),.agg (Zk x),.agg (camelL c),.agg (Zc d),I slabs] (.tup [.agg (camelL (Yr s x d slabs c).1),U8 (Yr s x d slabs c).2]):=by
 have hb:0≤slabs * s.slab∧slabs * s.slab≤12 * 1000000:=⟨Int.mul_nonneg hn.1 hs.1,Int.mul_le_mul hn.2 hs.2 hs.1 (by decide)⟩
 refine t107 (by simp [Zr,Zk,Zf,Zm,Zg,Zc,Zq,Cm.camelL,Za,KFL,KF]) (by simp [Cm.camelL,KFL,KF]) ?_
 dsimp only [c107,r107,Zr,Zk,Zc,Cm.camelL,go_sem,rA,rM,rS]
 rw [Ze (n:=slabs * s.slab) (by omega) (by omega)]
 refine W8 [5,7,8,10,11,12,13,14] rfl (fun q:Nat × Camel × Camel=>[(14,I (q.1+1))]) (fun q=>[(2,.cells (Cm.camelL q.2.1) 31),(6,.cells (Cm.camelL q.2.2) 31)])
  (fun q=>q.1≤d.hi.toNat∧VV s.breed (Vy s x slabs) d.lo (d.hi.toNat - q.1) q.1 q.2.1 q.2.2=Yr s x d slabs c) (fun q=>d.hi.toNat - q.1) (0,c,Yg) ⟨Nat.zero_le _,rfl⟩ ?_ ?_
 · (refine Zl ?_ ?_ ?_ rfl rfl<;>dsimp only [Cm.camelL,Yg,Xe,Zg,Zf,Zm,Zk,Zc,Zq,mtL,mtB,mtS,id,go_sem,rA,rM,rS]<;>simp [Cm.camelL,Yg,Xe,Zg,Zf,Zm,Zk,Zc,Zq,mtL,mtB,mtS,Za,Zi,KFR,KFL,KF,Zd,mtO,nbr])
 rintro ⟨n,c,out⟩ ⟨hk,hi⟩
 simp only at hk hi
 dsimp only [Cm.camelL,go_sem,rA,rM,rS]
 by_cases hlt:n < d.hi.toNat
 case neg =>
  refine Zu (by simp;omega) ?_
  dsimp only [go_sem,rA,rM,rS]
  rw [← hi,show d.hi.toNat - n=0 from by omega]
  rfl
 refine Zt (by simp;omega) ?_
 dsimp only [go_sem,rA,rM,rS]
 refine call (Cm.carriesR_ok s.breed c) ?_
 dsimp only [Cm.sres,Zc,go_sem,rA,rM,rS]
 rw [show (if VT s.breed c=0 then ZnJ s.breed c else Xe)=ZcW s.breed c from rfl]
 have hj:d.hi.toNat - n=(d.hi.toNat - (n+1))+1:=by omega
 rw [hj,VV] at hi
 by_cases hw:(Vy s x slabs).load > (ZcW s.breed c).lo
 · refine Zt (decide_eq_true hw) ?_
   dsimp only [go_sem,rA,rM,rS]
   rw [← hi,if_pos hw];rfl
 refine Zu (decide_eq_false hw) ?_
 dsimp only [go_sem,rA,rM,rS]
 rw [if_neg hw] at hi
 refine call (Cm.after2_ok s.breed c (Vy s x slabs)) ?_
 generalize Yo s.breed c (Vy s x slabs)=r at hi ⊢
 dsimp only [Cm.camelL,go_sem,rA,rM,rS]
 repeat (refine gb ?_;dsimp only [go_sem,rA,rM,rS])
 by_cases hf:r.2.2≠0∨r.2.1≠0
 · refine Zt (by simp [bne];omega) ?_
   dsimp only [go_sem,rA,rM,rS]
   rw [← hi,if_pos hf];rfl
 refine Zu (by simp [bne];omega) ?_
 dsimp only [go_sem,rA,rM,rS]
 rw [if_neg hf] at hi
 by_cases hl:(n:Int)+1=d.lo
 · refine Zt (by simpa using hl) ?_
   dsimp only [go_sem,rA,rM,rS]
   rw [if_pos hl] at hi
   refine Zu (by simp;omega) ?_
   dsimp only [go_sem,rA,rM,rS]
   rw [Ze (n:=(n:Int)+1+1) (by omega) (by omega)]
   refine ⟨(n+1,r.1,r.1),⟨hlt,hi⟩,by simp only;omega,?_⟩
   (refine Zl ?_ ?_ ?_ rfl rfl<;>dsimp only [Cm.camelL,Yg,Xe,Zg,Zf,Zm,Zk,Zc,Zq,mtL,mtB,mtS,id,go_sem,rA,rM,rS]<;>simp [Cm.camelL,Yg,Xe,Zg,Zf,Zm,Zk,Zc,Zq,mtL,mtB,mtS,Za,Zi,KFR,KFL,KF,Zd,mtO,nbr])
 refine Zu (by simpa using hl) ?_
 dsimp only [go_sem,rA,rM,rS]
 rw [if_neg hl] at hi
 by_cases hm:(n:Int)+1 > d.lo
 · refine Zt (by simpa using hm) ?_
   dsimp only [go_sem,rA,rM,rS]
   rw [if_pos hm] at hi
   refine call (ZbA out.water r.1.water) ?_
   dsimp only [go_sem,rA,rM,rS]
   refine call (ZbA out.fat r.1.fat) ?_
   dsimp only [go_sem,rA,rM,rS]
   refine call (ZbA out.sore r.1.sore) ?_
   dsimp only [Zc,go_sem,rA,rM,rS]
   rw [Ze (n:=(n:Int)+1+1) (by omega) (by omega)]
   refine ⟨(n+1,r.1,Zds out r.1),⟨hlt,hi⟩,by simp only;omega,?_⟩
   (refine Zl ?_ ?_ ?_ rfl rfl<;>dsimp only [Cm.camelL,Zds,Yg,Xe,Zg,Zf,Zm,Zk,Zc,Zq,mtL,mtB,mtS,id,go_sem,rA,rM,rS]<;>simp [Cm.camelL,Zds,Yg,Xe,Zg,Zf,Zm,Zk,Zc,Zq,mtL,mtB,mtS,Za,Zi,KFR,KFL,KF,Zd,mtO,nbr])
 refine Zu (by simp;omega) ?_
 dsimp only [go_sem,rA,rM,rS]
 rw [if_neg hm] at hi
 rw [Ze (n:=(n:Int)+1+1) (by omega) (by omega)]
 refine ⟨(n+1,r.1,out),⟨hlt,hi⟩,by simp only;omega,?_⟩
 (refine Zl ?_ ?_ ?_ rfl rfl<;>dsimp only [Cm.camelL,Yg,Xe,Zg,Zf,Zm,Zk,Zc,Zq,mtL,mtB,mtS,id,go_sem,rA,rM,rS]<;>simp [Cm.camelL,Yg,Xe,Zg,Zf,Zm,Zk,Zc,Zq,mtL,mtB,mtS,Za,Zi,KFR,KFL,KF,Zd,mtO,nbr])
end Go.Proofs.YtiigiflofnjilaaGreat
set_option maxRecDepth 100000
set_option maxHeartbeats 4000000
namespace Go.Proofs.YtiigiflofnjilaaGreat
open Go Go.Sx Go.Azalai
theorem ZbI:Zb8 Tryz.prog 117=true:=by kernel_rfl
def Xc (why at_:Int):Ot:=⟨true,.ifc 117 (.agg [U8 why,I at_]),[],0⟩
theorem VQ (w k:Int):CtM Tryz.prog 91 [] 0 [B true,U8 w,I k] (fun o=>o=⟨false,.tup [],[],0⟩):=by
 refine m91 (by simp [hpb]) (fun o ho=>by subst ho;simp [KX,KXL,KXP]) ?_
 dsimp only [c91,r91,go_sem,rA,rM,rS]
 refine Zu rfl ?_
 dsimp only [go_sem,rA,rM,rS]
 refine ⟨_,rfl,?_⟩
 (refine YX ?_ ?_ ?_ rfl<;>dsimp only [id,go_sem,rA,rM,rS]<;>simp [Za,Zi,KFR,KFL,KF,Zd,mtO,nbr])
theorem ZaL (w k:Int):CtM Tryz.prog 91 [] 0 [B false,U8 w,I k] (fun o=>o=Xc w k):=by
 refine m91 (by simp [hpb]) (fun o ho=>by subst ho;simp [Xc,KX,KXL,KXP]) ?_
 dsimp only [c91,r91,go_sem,rA,rM,rS]
 refine Zt rfl ?_
 dsimp only [go_sem,rA,rM,rS]
 refine Zh6 (s:=.agg [U8 w,I k]) ZbI rfl (fun _ _ _ e=>by cases e) ?_
 dsimp only [go_sem,rA,rM,rS]
 refine Zjy rfl ?_
 dsimp only [go_sem,rA,rM,rS]
 refine ⟨_,rfl,?_⟩
 (refine YX ?_ ?_ ?_ rfl<;>dsimp only [Xc,id,go_sem,rA,rM,rS]<;>simp [Xc,Za,Zi,KFR,KFL,KF,Zd,mtO,nbr])
theorem ZjT (s:Season) (k:Nat) (hk:k < s.scenes.length):Ct Tryz.prog 156 [.agg (YC s k)] (.agg (Zk s.scenes[k])):=by
 refine t156 (by simp [YC,Zk,Zf,Zm,Zg,Zc,Zq,Za,KFL,KF]) (by simp [Zk,Zc,Zq,Za,KFL,KF]) ?_
 dsimp only [c156,r156,YC,go_sem,rA,rM,rS]
 refine Zo k hk rfl ?_
 dsimp only [Zk,go_sem,rA,rM,rS]
def U4 (at_:Int) (r:Camel × Int):Ot:=if r.2=0 then ⟨false,.agg (camelL r.1),[],0⟩ else Xc r.2 at_
theorem ZmX (s:Season) (k:Nat) (hk:k < s.scenes.length) (at_:Int) (c:Camel) (d:Span) (slabs:Int) (hn:0≤slabs∧slabs≤12) (hs:0≤s.slab∧s.slab≤1000000) (hd:d.hi≤1000000000) :
 CtM Tryz.prog 164 [] 0 [.agg (YC s k),I at_,.agg (camelL c),.agg (Zc d),I slabs] (fun o=>o=U4 at_ (Yr s s.scenes[k] d slabs c)):=by
 have hb:0≤slabs * s.slab∧slabs * s.slab≤12 * 1000000:=⟨Int.mul_nonneg hn.1 hs.1,Int.mul_le_mul hn.2 hs.2 hs.1 (by decide)⟩
 refine m164 (by simp [hpb]) (fun o ho=>by subst ho;unfold U4;split<;>simp [Xc,Cm.camelL,KX,KXL,KXP]) ?_
 dsimp only [c164,r164,Zc,Cm.camelL,YC,go_sem,rA,rM,rS]
 refine call (ZjT s k hk) ?_
 dsimp only [Zk,go_sem,rA,rM,rS]
 refine call (ZjT s k hk) ?_
 dsimp only [Zk,go_sem,rA,rM,rS]
 rw [Ze (n:=slabs * s.slab) (by omega) (by omega)]
 refine W8 [1,5,7,8,10,11,12,13,35,36] rfl (fun q:Nat × Camel × Camel=>[(36,I q.1)]) (fun q=>[(1,.cells (Cm.camelL q.2.1) 31),(5,.cells (Cm.camelL q.2.2) 31)])
  (fun q=>q.1≤d.hi.toNat∧VV s.breed (Vy s s.scenes[k] slabs) d.lo (d.hi.toNat - q.1) q.1 q.2.1 q.2.2=Yr s s.scenes[k] d slabs c) (fun q=>d.hi.toNat - q.1) (0,c,Yg) ⟨Nat.zero_le _,rfl⟩ ?_ ?_
 · (refine Zl ?_ ?_ ?_ rfl rfl<;>dsimp only [Cm.camelL,Yg,Xe,Zg,Zf,Zm,Zk,Zc,Zq,mtL,mtB,mtS,id,go_sem,rA,rM,rS]<;>simp [Cm.camelL,Yg,Xe,Zg,Zf,Zm,Zk,Zc,Zq,mtL,mtB,mtS,Za,Zi,KFR,KFL,KF,Zd,mtO,nbr])
 rintro ⟨n,c,out⟩ ⟨hk',hi⟩
 simp only at hk' hi
 dsimp only [Cm.camelL,go_sem,rA,rM,rS]
 by_cases hlt:n < d.hi.toNat
 case neg =>
  refine Zu (by simp;omega) ?_
  dsimp only [go_sem,rA,rM,rS]
  rw [show d.hi.toNat - n=0 from by omega,VV] at hi
  rw [← hi]
  refine ⟨_,rfl,?_⟩
  simp only [U4,if_true]
  (refine YX ?_ ?_ ?_ rfl<;>dsimp only [Cm.camelL,mtL,mtB,mtS,id,go_sem,rA,rM,rS]<;>simp [Cm.camelL,mtL,mtB,mtS,Za,Zi,KFR,KFL,KF,Zd,mtO,nbr])
 refine Zt (by simp;omega) ?_
 dsimp only [go_sem,rA,rM,rS]
 refine call (Cm.carries_ok s.breed c) ?_
 dsimp only [Cm.sres,Zc,go_sem,rA,rM,rS]
 rw [show (if VT s.breed c=0 then ZnJ s.breed c else Xe)=ZcW s.breed c from rfl]
 have hj:d.hi.toNat - n=(d.hi.toNat - (n+1))+1:=by omega
 rw [hj,VV] at hi
 by_cases hw:(Vy s s.scenes[k] slabs).load > (ZcW s.breed c).lo
 · rw [show decide (slabs * s.slab≤(ZcW s.breed c).lo)=false from decide_eq_false (by have:slabs * s.slab > (ZcW s.breed c).lo:=hw;omega)]
   refine Xp [] (ZaL 2 at_) rfl rfl rfl ?_ ?_ ?_
   · (repeat first | dsimp only [go_sem,rA,rM,rS] | simp only [nbr])
     try simp [mtL,mtB,mtS]
   · trivial
   rintro _ rfl
   (repeat first | dsimp only [Xc,go_sem,rA,rM,rS] | simp only [nbr])
   rw [← hi,if_pos hw]
   refine ⟨_,rfl,?_⟩
   simp only [U4]
   (refine YX ?_ ?_ ?_ rfl<;>dsimp only [Xc,id,go_sem,rA,rM,rS]<;>simp [Xc,Za,Zi,KFR,KFL,KF,Zd,mtO,nbr])
 rw [show decide (slabs * s.slab≤(ZcW s.breed c).lo)=true from decide_eq_true (by have:¬ slabs * s.slab > (ZcW s.breed c).lo:=hw;omega)]
 refine Xp [] (VQ 2 at_) rfl rfl rfl ?_ ?_ ?_
 · (repeat first | dsimp only [go_sem,rA,rM,rS] | simp only [nbr])
   try simp [mtL,mtB,mtS]
 · trivial
 rintro _ rfl
 (repeat first | dsimp only [go_sem,rA,rM,rS] | simp only [nbr])
 rw [if_neg hw] at hi
 refine call (Cm.after1_ok s.breed c (Vy s s.scenes[k] slabs)) ?_
 generalize Yo s.breed c (Vy s s.scenes[k] slabs)=r at hi ⊢
 dsimp only [Cm.camelL,Cm.U8,go_sem,rA,rM,rS]
 repeat (refine gb ?_;dsimp only [go_sem,rA,rM,rS])
 by_cases hf:r.2.2≠0∨r.2.1≠0
 · rw [show (r.2.2 == 0 && r.2.1 == 0)=false from by simp;omega]
   refine Xp [] (ZaL 3 at_) rfl rfl rfl ?_ ?_ ?_
   · (repeat first | dsimp only [go_sem,rA,rM,rS] | simp only [nbr])
     try simp [mtL,mtB,mtS]
   · trivial
   rintro _ rfl
   (repeat first | dsimp only [Xc,go_sem,rA,rM,rS] | simp only [nbr])
   rw [← hi,if_pos hf]
   refine ⟨_,rfl,?_⟩
   simp only [U4]
   (refine YX ?_ ?_ ?_ rfl<;>dsimp only [Xc,id,go_sem,rA,rM,rS]<;>simp [Xc,Za,Zi,KFR,KFL,KF,Zd,mtO,nbr])
 rw [show (r.2.2 == 0 && r.2.1 == 0)=true from by simp;omega]
 refine Xp [] (VQ 3 at_) rfl rfl rfl ?_ ?_ ?_
 · (repeat first | dsimp only [go_sem,rA,rM,rS] | simp only [nbr])
   try simp [mtL,mtB,mtS]
 · trivial
 rintro _ rfl
 (repeat first | dsimp only [go_sem,rA,rM,rS] | simp only [nbr])
 rw [if_neg hf] at hi
 rw [Ze (n:=(n:Int)+1) (by omega) (by omega)]
 by_cases hl:(n:Int)+1=d.lo
 · refine Zt (by simpa using hl) ?_
   dsimp only [go_sem,rA,rM,rS]
   rw [if_pos hl] at hi
   try rw [Ze (n:=(n:Int)+1) (by omega) (by omega)]
   refine ⟨(n+1,r.1,r.1),⟨hlt,hi⟩,by simp only;omega,?_⟩
   (refine Zl ?_ ?_ ?_ rfl rfl<;>dsimp only [Cm.camelL,Yg,Xe,Zg,Zf,Zm,Zk,Zc,Zq,mtL,mtB,mtS,id,go_sem,rA,rM,rS]<;>simp [Cm.camelL,Yg,Xe,Zg,Zf,Zm,Zk,Zc,Zq,mtL,mtB,mtS,Za,Zi,KFR,KFL,KF,Zd,mtO,nbr])
 refine Zu (by simpa using hl) ?_
 dsimp only [go_sem,rA,rM,rS]
 rw [if_neg hl] at hi
 try rw [Ze (n:=(n:Int)+1) (by omega) (by omega)]
 by_cases hm:(n:Int)+1 > d.lo
 · refine Zt (by simpa using hm) ?_
   dsimp only [go_sem,rA,rM,rS]
   rw [if_pos hm] at hi
   refine call (ZdN out.water r.1.water _) ?_
   dsimp only [go_sem,rA,rM,rS]
   refine call (ZdN out.fat r.1.fat _) ?_
   dsimp only [go_sem,rA,rM,rS]
   refine call (ZdN out.sore r.1.sore _) ?_
   dsimp only [Zc,go_sem,rA,rM,rS]
   try rw [Ze (n:=(n:Int)+1) (by omega) (by omega)]
   refine ⟨(n+1,r.1,Zds out r.1),⟨hlt,hi⟩,by simp only;omega,?_⟩
   (refine Zl ?_ ?_ ?_ rfl rfl<;>dsimp only [Cm.camelL,Zds,Yg,Xe,Zg,Zf,Zm,Zk,Zc,Zq,mtL,mtB,mtS,id,go_sem,rA,rM,rS]<;>simp [Cm.camelL,Zds,Yg,Xe,Zg,Zf,Zm,Zk,Zc,Zq,mtL,mtB,mtS,Za,Zi,KFR,KFL,KF,Zd,mtO,nbr])
 refine Zu (by simp;omega) ?_
 dsimp only [go_sem,rA,rM,rS]
 rw [if_neg hm] at hi
 try rw [Ze (n:=(n:Int)+1) (by omega) (by omega)]
 refine ⟨(n+1,r.1,out),⟨hlt,hi⟩,by simp only;omega,?_⟩
 (refine Zl ?_ ?_ ?_ rfl rfl<;>dsimp only [Cm.camelL,Yg,Xe,Zg,Zf,Zm,Zk,Zc,Zq,mtL,mtB,mtS,id,go_sem,rA,rM,rS]<;>simp [Cm.camelL,Yg,Xe,Zg,Zf,Zm,Zk,Zc,Zq,mtL,mtB,mtS,Za,Zi,KFR,KFL,KF,Zd,mtO,nbr])
end Go.Proofs.YtiigiflofnjilaaGreat
set_option maxRecDepth 100000
namespace Go.Proofs.YtiigiflofnjilaaGreat
open Go Go.Sx
def Zuv:SC:=(.seq (.reg [
 o1 2 (.mv (.c (.slice none 0 0)))])
 (.seq (.seq (.reg [
 m1 3 0,
 o1 4 (.isn (.t 3))])
 (.cond (.t 4)
 (.seq (.reg [
  o1 2 (.mv (.c (.slice none 0 0)))])
  .ret)
 .skip))
 (.seq (.reg [
 o1 5 (.bsl 9 88 []),
 m1 6 0,
 o1 7 (.cln 9 72 88 (.t 5) (.t 6)),
 m1 2 7])
 .ret)))
def Zqq:List RV:=[.tmp 2]
theorem nw155:Tryz.f155.ntmps=8:=by kernel_rfl
theorem bw155:Zp Tryz.prog 155=true:=by kernel_rfl
theorem ZmW:Zy Tryz.prog Zuv ((Tryz.f155.body).getD .skip)=true:=by kernel_rfl
theorem ZlP:ZA Tryz.prog Zqq Tryz.f155.results.toList=true:=by kernel_rfl
theorem mw155 {n0:Nat} {hp0:List (Nat × HB)} {args:List SV} {ZX:Ot→Prop} (hh:hpb n0 hp0) (hx:∀ o,ZX o→KX o.res∧KXP o.hp) (h:sx Tryz.prog Y0 n0 Zuv ⟨enum 0 args,hp0,n0,8,[]⟩ (retM Zqq fun o=>∃ o',ZX o'∧Zdv n0 o o')) (hA:Nat.ble args.length 8=true:=by rfl):CtM Tryz.prog 155 hp0 n0 args ZX:=Y6 Tryz.func155 rfl bw155 ZmW ZlP nw155 (Nat.le_of_ble_eq_true hA) hh hx h
def Zro:SC:=(.seq (.reg [
 o1 2 (.box (.t 0) 0 120),
 o1 3 (.box (.t 1) 0 94),
 o1 4 (.mv (.c (.int .i64 0)))])
 (.seq (.reg [
 o1 10 (.addo (.t 2) 0),
 o1 11 (.addo (.t 10) 0),
 o1 12 (.ld (.t 11) 2 true),
 o1 5 (.alloc [.slice none 0 0,.slice none 0 0] 25),
 ⟨none,.st (.t 5) (.t 12) 2,none,[]⟩])
 (.seq (.reg [
 o1 13 (.addo (.t 5) 0),
 o1 14 (.ld (.t 13) 1 false),
 o1 15 (.callm 155 [.t 14]),
 o1 16 (.addo (.t 5) 0),
 ⟨none,.st (.t 16) (.t 15) 1,none,[]⟩])
 (.seq (.seq (.reg [
 o1 17 (.addo (.t 5) 0),
 o1 18 (.ld (.t 17) 1 false),
 o1 19 (.len (.t 18)),
 o1 20 (.mv (.c (.int .i64 0)))])
 (.block 0 (.loop (.seq (.reg [
  o1 21 (.bin .lss (.t 20) (.t 19))])
  (.seq (.cond (.t 21)
  .skip
  (.exit 0))
  (.seq (.block 1 (.seq (.reg [
   m1 22 20,
   m1 6 22])
   (.regd [0,1,2,3,4,5,6,7,8,9,10,11] [
   .op (o1 23 (.addo (.t 5) 0)),
   .op ⟨some 24,.ld (.t 23) 1 false,none,[0]⟩,
   .op (m1 25 6),
   .op (o1 26 (.ld (.t 2) 38 true)),
   .op ⟨some 27,.call 156 [.t 26],none,[3]⟩,
   .op ⟨some 28,.fld (.t 27) 4 1 false,none,[4]⟩,
   .op (m1 29 6),
   .op ⟨some 30,.ixs (.t 28) (.t 29) 2,none,[5,6]⟩,
   .op ⟨some 31,.ld (.t 30) 2 true,none,[7]⟩,
   .op ⟨some 32,.ixs (.t 24) (.t 25) 9,none,[0,1,2,3,4,5,6,7,8]⟩,
   .op ⟨some 33,.addo (.t 32) 3,none,[0,1,2,3,4,5,6,7,8,9]⟩] 0 1 [
   ⟨none,.st (.t 33) (.t 31) 2,none,[0,1,2,3,4,5,6,7,8,10]⟩])))
  (.reg [
  o1 34 (.bin .add (.t 20) (.c (.int .i64 1))),
  m1 20 34])))))))
 (.seq (.reg [
 o1 36 (.ld (.t 5) 2 true),
 o1 37 (.addo (.t 3) 1),
 o1 38 (.ld (.t 37) 1 false),
 o1 39 (.addo (.t 3) 4),
 o1 40 (.addo (.t 39) 0),
 o1 41 (.ld (.t 40) 1 false),
 o1 42 (.call 42 [.t 36,.t 38,.c (.slice none 0 0),.t 41]),
 m1 35 42,
 o1 43 (.ext (.t 35) 0),
 o1 44 (.ext (.t 35) 1),
 o1 45 (.ext (.t 35) 2),
 o1 7 (.alloc [.int .i64 0,.int .i64 0] 27),
 ⟨none,.st (.t 7) (.t 43) 2,none,[]⟩,
 m1 8 44,
 m1 9 45])
 (.seq (.reg [
 o1 46 (.addo (.t 7) 0),
 o1 47 (.ld (.t 46) 1 false),
 m1 4 47])
 .ret))))))
def Zts:List RV:=[.tmp 4]
theorem nw113:Tryz.f113.ntmps=48:=by kernel_rfl
theorem bw113:Zp Tryz.prog 113=true:=by kernel_rfl
theorem Zmh:Zy Tryz.prog Zro ((Tryz.f113.body).getD .skip)=true:=by kernel_rfl
theorem Zla:ZA Tryz.prog Zts Tryz.f113.results.toList=true:=by kernel_rfl
theorem tw113 {args:List SV} {res:SV} (ka:KFL args) (kr:KF res) (h:sx Tryz.prog Y0 0 Zro (st0 args 48) (ZQ Zts res)) (hA:Nat.ble args.length 48=true:=by rfl):Ct Tryz.prog 113 args res:=Zj Tryz.func113 rfl bw113 Zmh Zla nw113 (Nat.le_of_ble_eq_true hA) ka kr h
def cw38:SC:=(.seq (.reg [
 o1 2 (.box (.t 0) 0 34),
 o1 4 (.alloc [.slice none 0 0,.slice none 0 0] 25)])
 (.seq (.reg [
 o1 7 (.addo (.t 2) 0),
 o1 8 (.ld (.t 7) 2 true),
 o1 9 (.callm 47 [.t 8]),
 o1 5 (.alloc [.slice none 0 0,.slice none 0 0] 25),
 ⟨none,.st (.t 5) (.t 9) 2,none,[]⟩])
 (.seq (.seq (.reg [
 o1 6 (.mv (.c (.int .i64 0)))])
 (.block 0 (.loop (.seq (.seq (.reg [
  m1 10 6,
  o1 11 (.addo (.t 5) 0),
  o1 12 (.ld (.t 11) 1 false),
  o1 13 (.len (.t 12)),
  o1 14 (.bin .lss (.t 10) (.t 13))])
  (.cond (.t 14)
  .skip
  (.exit 0)))
  (.seq (.block 1 (.regd [0,1,2,3,4,5,6,7,8,9,10,11,12,13,14] [
   .op (o1 17 (.addo (.t 5) 0)),
   .op ⟨some 18,.ld (.t 17) 1 false,none,[0]⟩,
   .op (m1 19 6),
   .op (o1 20 (.addo (.t 2) 36)),
   .op ⟨some 21,.ld (.t 20) 1 false,none,[3]⟩,
   .op (m1 22 1),
   .op ⟨some 23,.ixs (.t 21) (.t 22) 6,none,[4,5]⟩,
   .op ⟨some 24,.addo (.t 23) 4,none,[6]⟩,
   .op ⟨some 25,.ld (.t 24) 1 false,none,[7]⟩,
   .op (m1 26 6),
   .op ⟨some 27,.ixs (.t 25) (.t 26) 2,none,[8,9]⟩,
   .op ⟨some 28,.ld (.t 27) 2 true,none,[10]⟩,
   .op ⟨some 29,.ixs (.t 18) (.t 19) 9,none,[0,1,2,3,4,5,6,7,8,9,10,11]⟩,
   .op ⟨some 30,.addo (.t 29) 3,none,[0,1,2,3,4,5,6,7,8,9,10,11,12]⟩] 0 1 [
   ⟨none,.st (.t 30) (.t 28) 2,none,[0,1,2,3,4,5,6,7,8,9,10,11,13]⟩]))
  (.reg [
  m1 15 6,
  o1 16 (.bin .add (.t 15) (.c (.int .i64 1))),
  m1 6 16]))))))
 (.seq (.reg [
 o1 31 (.ld (.t 5) 2 true),
 ⟨none,.st (.t 4) (.t 31) 2,none,[]⟩])
 .ret))))
def rw38:List RV:=[.cell 4 2 true]
theorem nw38:Tryz.f38.ntmps=32:=by kernel_rfl
theorem bw38:Zp Tryz.prog 38=true:=by kernel_rfl
theorem ZvK:Zy Tryz.prog cw38 ((Tryz.f38.body).getD .skip)=true:=by kernel_rfl
theorem Zrl:ZA Tryz.prog rw38 Tryz.f38.results.toList=true:=by kernel_rfl
theorem tw38 {args:List SV} {res:SV} (ka:KFL args) (kr:KF res) (h:sx Tryz.prog Y0 0 cw38 (st0 args 32) (ZQ rw38 res)) (hA:Nat.ble args.length 32=true:=by rfl):Ct Tryz.prog 38 args res:=Zj Tryz.func38 rfl bw38 ZvK Zrl nw38 (Nat.le_of_ble_eq_true hA) ka kr h
def cw47:SC:=(.seq (.reg [
 o1 1 (.box (.t 0) 0 25),
 o1 2 (.alloc [.slice none 0 0,.slice none 0 0] 25)])
 (.seq (.reg [
 o1 4 (.bsl 9 88 []),
 o1 5 (.addo (.t 1) 0),
 o1 6 (.ld (.t 5) 1 false),
 o1 7 (.cln 9 72 88 (.t 4) (.t 6)),
 o1 8 (.addo (.t 1) 0),
 ⟨none,.st (.t 8) (.t 7) 1,none,[]⟩])
 (.seq (.reg [
 o1 9 (.bsl 5 83 []),
 o1 10 (.addo (.t 1) 1),
 o1 11 (.ld (.t 10) 1 false),
 o1 12 (.cln 5 56 83 (.t 9) (.t 11)),
 o1 13 (.addo (.t 1) 1),
 ⟨none,.st (.t 13) (.t 12) 1,none,[]⟩])
 (.seq (.seq (.reg [
 o1 3 (.mv (.c (.int .i64 0)))])
 (.block 0 (.loop (.seq (.seq (.reg [
  m1 14 3,
  o1 15 (.addo (.t 1) 1),
  o1 16 (.ld (.t 15) 1 false),
  o1 17 (.len (.t 16)),
  o1 18 (.bin .lss (.t 14) (.t 17))])
  (.cond (.t 18)
  .skip
  (.exit 0)))
  (.seq (.block 1 (.regd [0,1,2,3,4,5,6,7,8,9,10,11,12,13] [
   .op (o1 21 (.addo (.t 1) 1)),
   .op ⟨some 22,.ld (.t 21) 1 false,none,[0]⟩,
   .op (m1 23 3),
   .op (o1 24 (.bsl 4 85 [])),
   .op (o1 25 (.addo (.t 1) 1)),
   .op ⟨some 26,.ld (.t 25) 1 false,none,[4]⟩,
   .op (m1 27 3),
   .op ⟨some 28,.ixs (.t 26) (.t 27) 5,none,[5,6]⟩,
   .op ⟨some 29,.addo (.t 28) 4,none,[7]⟩,
   .op ⟨some 30,.ld (.t 29) 1 false,none,[8]⟩,
   .op ⟨some 31,.app 4 32 85 (.t 24) (.t 30),none,[3,9]⟩,
   .op ⟨some 32,.ixs (.t 22) (.t 23) 5,none,[0,1,2,3,4,5,6,7,8,9,10]⟩,
   .op ⟨some 33,.addo (.t 32) 4,none,[0,1,2,3,4,5,6,7,8,9,10,11]⟩] 0 1 [
   ⟨none,.st (.t 33) (.t 31) 1,none,[0,1,2,3,4,5,6,7,8,9,10,12]⟩]))
  (.reg [
  m1 19 3,
  o1 20 (.bin .add (.t 19) (.c (.int .i64 1))),
  m1 3 20]))))))
 (.seq (.reg [
 o1 34 (.ld (.t 1) 2 true),
 ⟨none,.st (.t 2) (.t 34) 2,none,[]⟩])
 .ret)))))
def rw47:List RV:=[.cell 2 2 true]
theorem nw47:Tryz.f47.ntmps=35:=by kernel_rfl
theorem bw47:Zp Tryz.prog 47=true:=by kernel_rfl
theorem ZqO:Zy Tryz.prog cw47 ((Tryz.f47.body).getD .skip)=true:=by kernel_rfl
theorem Zr8:ZA Tryz.prog rw47 Tryz.f47.results.toList=true:=by kernel_rfl
theorem mw47 {n0:Nat} {hp0:List (Nat × HB)} {args:List SV} {ZX:Ot→Prop} (hh:hpb n0 hp0) (hx:∀ o,ZX o→KX o.res∧KXP o.hp) (h:sx Tryz.prog Y0 n0 cw47 ⟨enum 0 args,hp0,n0,35,[]⟩ (retM rw47 fun o=>∃ o',ZX o'∧Zdv n0 o o')) (hA:Nat.ble args.length 35=true:=by rfl):CtM Tryz.prog 47 hp0 n0 args ZX:=Y6 Tryz.func47 rfl bw47 ZqO Zr8 nw47 (Nat.le_of_ble_eq_true hA) hh hx h
end Go.Proofs.YtiigiflofnjilaaGreat
set_option maxRecDepth 100000
set_option maxHeartbeats 4000000
namespace Go.Azalai
open Go.Sx
def Zb3 (ws:List Well) (ys:List Span):List Well:=List.zipWith (fun w y=>{ w with yld:=y }) ws ys
def Wk (s:Season) (x:Scene):Land:=⟨Zb3 s.land.wells x.yields,s.land.legs⟩
def XN (ws Z:List Well) (k:Nat):List Well:=Z.take k ++ ws.drop k
theorem Zbw {ws:List Well} {ys:List Span} (h:ys.length=ws.length):(Zb3 ws ys).length=ws.length:=by simp [Zb3,h]
theorem WC {ws Z:List Well} {k:Nat} (h:Z.length=ws.length) (hk:k≤ws.length):(XN ws Z k).length=ws.length:=by simp [XN];omega
theorem VR {ws Z:List Well} {k:Nat} (h:Z.length=ws.length) (hk:k < ws.length) (hk':k < (XN ws Z k).length):(XN ws Z k)[k]=ws[k]:=by
 simp only [XN]
 rw [List.getElem_append_right (by simp;omega)]
 simp [Nat.min_eq_left (Nat.le_of_lt (h ▸ hk:k < Z.length))]
theorem ZcS {ws Z:List Well} {k:Nat} (h:Z.length=ws.length) (hk:k < ws.length) (hz:k < Z.length):(XN ws Z k).set k Z[k]=XN ws Z (k+1):=by
 simp only [XN]
 rw [List.set_append_right _ _ (by simp;omega)]
 have h1:(Z.take k).length=k:=by simp;omega
 rw [h1,Nat.sub_self,List.drop_eq_getElem_cons hk,List.set_cons_zero,List.take_succ_eq_append_getElem hz,List.append_assoc]
 rfl
theorem ZdW {ws:List Well} {ys:List Span} {k:Nat} (h1:k < ws.length) (h2:k < ys.length) (h:k < (Zb3 ws ys).length):(Zb3 ws ys)[k]={ ws[k] with yld:=ys[k] }:=by simp [Zb3]
def ZeB (s:Season) (x:Scene) (st:Stop):Int:=(Xd (Wk s x) st.well [] st.arrives.lo).1.lo
end Go.Azalai
namespace Go.Proofs.YtiigiflofnjilaaGreat
open Go Go.Sx Go.Azalai
theorem Uu {s:Season} {x:Scene} (h:Xr s.land) (hx:x.yields.length=s.land.wells.length):Xr (Wk s x):=by
 refine ⟨?_,h.2.1,h.2.2⟩
 simp only [Wk];rw [Zbw hx];exact h.1
theorem Ziu (l:List Well) (hL:l.length≤1000) (k:Bool):CtM Tryz.prog 155 [] 0 [.sl k 9 (l.map Zf)] (fun o=>o=⟨false,.mr 0 0,[(0,.row 0 9 (l.map Zf) 88)],1⟩):=by
 refine mw155 (by simp [hpb]) (fun o ho=>by subst ho;simp [KX,KXL,KXP,KXH,Za,KFL,KF,Zf]) ?_
 dsimp only [Zuv,Zqq,go_sem,rA,rM,rS]
 intro b hb
 dsimp only [go_sem,rA,rM,rS]
 cases b with
 | true =>
  have hl:l=[]:=by simpa using hb rfl
  subst hl
  refine Zt rfl ?_
  dsimp only [go_sem,rA,rM,rS]
  refine ⟨_,rfl,?_⟩
  refine Vi (Yv (YW 0 9 88 rfl rfl) ?_) (fun _ _ _ e=>by cases e)
  (refine Zl ?_ ?_ ?_ rfl rfl<;>dsimp only [Zf,id,go_sem,rA,rM,rS]<;>simp [Zf,Za,Zi,KFR,KFL,KF,Zd,mtO,nbr])
 | false =>
  refine Zu rfl ?_
  dsimp only [go_sem,rA,rM,rS]
  refine ⟨by simp;omega,?_⟩
  dsimp only [go_sem,rA,rM,rS]
  refine ⟨_,rfl,?_⟩
  (refine YX ?_ ?_ ?_ rfl<;>dsimp only [Zf,id,go_sem,rA,rM,rS]<;>simp [Zf,Za,Zi,KFR,KFL,KF,Zd,mtO,nbr])
theorem ZoI (l:Land) (hs:Xr l):CtM Tryz.prog 47 [] 0 [.agg (Zz l)] (fun o=>o=⟨false,.agg [.mr 0 0,.mr 1 0],[(0,.row 0 9 (l.wells.map Zf) 88),(1,.row 0 5 (l.legs.map Zm) 83)],2⟩):=by
 refine mw47 (by simp [hpb]) (fun o ho=>by subst ho;simp [KX,KXL,KXP,KXH,Za,KFL,KF,Zz,Zf,Zm,Zg]) ?_
 dsimp only [cw47,rw47,Zz,go_sem,rA,rM,rS]
 refine ⟨by simp;have:=hs.1;omega,?_⟩
 dsimp only [go_sem,rA,rM,rS]
 refine ⟨by simp;have:=hs.2.1;omega,?_⟩
 dsimp only [go_sem,rA,rM,rS]
 refine Yx (fun k:Nat=>[(3,I k)]) (fun _=>[]) (fun k=>k≤l.legs.length) (fun k=>l.legs.length - k) 0 (Nat.zero_le _) ?_ ?_
 · (refine Zl ?_ ?_ ?_ rfl rfl<;>dsimp only [Zg,Zf,Zm,id,go_sem,rA,rM,rS]<;>simp [Zg,Zf,Zm,Za,Zi,KFR,KFL,KF,Zd,mtO,nbr])
 intro k hk
 dsimp only [go_sem,rA,rM,rS]
 simp only [List.length_map]
 by_cases hlt:k < l.legs.length
 · refine Zt (by simpa using hlt) ?_
   dsimp only [go_sem,rA,rM,rS]
   refine Ug k rfl (by simpa using hlt) ?_
   dsimp only [go_sem,rA,rM,rS]
   refine ZcM hlt ?_
   dsimp only [Zm,go_sem,rA,rM,rS]
   refine Zpg (by simp;have:=hs.2.2 _ (List.getElem_mem hlt);omega) ?_
   dsimp only [go_sem,rA,rM,rS]
   refine Ug k rfl (by simpa using hlt) ?_
   dsimp only [go_sem,rA,rM,rS]
   refine Zf2 l.legs[k] hlt (by simp [Zm]) (by simp [Zm,splice]) ?_
   rw [List.set_getElem_self]
   dsimp only [go_sem,rA,rM,rS]
   rw [Ze (n:=(k:Int)+1) (by omega) (by have:=hs.2.1;omega)]
   refine ⟨k+1,hlt,by omega,?_⟩
   (refine Zl ?_ ?_ ?_ rfl rfl<;>dsimp only [Zg,Zf,Zm,id,go_sem,rA,rM,rS]<;>simp [Zg,Zf,Zm,Za,Zi,KFR,KFL,KF,Zd,mtO,nbr])
 refine Zu (by simp;omega) ?_
 dsimp only [go_sem,rA,rM,rS]
 refine ⟨_,rfl,?_⟩
 refine entO (fun i=>i+2) ?_ ?_ ?_ (fun i hi j hj h=>by omega) rfl (fun i hi=>absurd hi (Nat.not_lt_zero i))<;>dsimp only [go_sem,rA,rM,rS]<;>simp [Za,Zi,KFR,KFL,KF,Zd,mtO,nbr,Zf,Zm,Zg]
theorem ZxL (s:Season) (hs:SmallS s) (k:Nat) (hk:k < s.scenes.length) (hy:s.scenes[k].yields.length=s.land.wells.length) (st:Stop):Ct Tryz.prog 113 [.agg (YC s k),.agg (Zx st)] (I (ZeB s s.scenes[k] st)):=by
 have hw:=hs.land.1
 refine tw113 (by simp [YC,Zx,Zk,Zf,Zm,Zg,Zc,Zq,Za,KFL,KF]) (by simp [KFL,KF]) ?_
 dsimp only [Zro,Zts,YC,Zx,go_sem,rA,rM,rS]
 refine Zbh [] (Ziu s.land.wells hw false) rfl rfl rfl ?_ ?_ ?_
 · exact Zd (by simp [Za,Zf,KFL,KF])
 · trivial
 dsimp only [go_sem,rA,rM,rS]
 simp only [List.length_map]
 have hz:=Zbw hy
 refine W8 [2,3,4,5,19,20] rfl (fun q:Nat=>[(20,I q)]) (fun q=>[(3,.row 0 9 ((XN s.land.wells (Zb3 s.land.wells s.scenes[k].yields) q).map Zf) 88)])
  (fun q=>q≤s.land.wells.length) (fun q=>s.land.wells.length - q) 0 (Nat.zero_le _) ?_ ?_
 · (refine Zl ?_ ?_ ?_ rfl rfl<;>dsimp only [Zf,Zm,Zg,Zk,Zc,Zq,XN,id,go_sem,rA,rM,rS]<;>simp [Zf,Zm,Zg,Zk,Zc,Zq,XN,Za,Zi,KFR,KFL,KF,Zd,mtO,nbr])
 intro q hq
 dsimp only [go_sem,rA,rM,rS]
 by_cases hlt:q < s.land.wells.length
 · refine Zt (by simpa using hlt) ?_
   dsimp only [go_sem,rA,rM,rS]
   refine call (ZjT s k hk) ?_
   dsimp only [Zk,go_sem,rA,rM,rS]
   refine Zo q (by omega) rfl ?_
   dsimp only [Zc,go_sem,rA,rM,rS]
   refine Ug q rfl (by simp [WC hz hq];omega) ?_
   dsimp only [go_sem,rA,rM,rS]
   have hq2:q < (XN s.land.wells (Zb3 s.land.wells s.scenes[k].yields) q).length:=by rw [WC hz hq];exact hlt
   have hq3:q < (Zb3 s.land.wells s.scenes[k].yields).length:=by omega
   refine Zf2 ((Zb3 s.land.wells s.scenes[k].yields)[q]) hq2 (by rw [VR hz hlt];simp [Zf]) (by rw [VR hz hlt,ZdW hlt (by omega)];simp [Zf,splice]) ?_
   rw [ZcS hz hlt hq3]
   dsimp only [go_sem,rA,rM,rS]
   rw [Ze (n:=(q:Int)+1) (by omega) (by omega)]
   refine ⟨q+1,by omega,by omega,?_⟩
   (refine Zl ?_ ?_ ?_ rfl rfl<;>dsimp only [Zf,Zm,Zg,Zk,Zc,Zq,id,go_sem,rA,rM,rS]<;>simp [Zf,Zm,Zg,Zk,Zc,Zq,Za,Zi,KFR,KFL,KF,Zd,mtO,nbr])
 refine Zu (by simp;omega) ?_
 dsimp only [go_sem,rA,rM,rS]
 have hq':XN s.land.wells (Zb3 s.land.wells s.scenes[k].yields) q=Zb3 s.land.wells s.scenes[k].yields:=by
  simp only [XN];rw [List.take_of_length_le (by omega),List.drop_eq_nil_of_le (by omega),List.append_nil]
 rw [hq']
 have hwa:=(ZmN (Wk s s.scenes[k]) (Uu hs.land hy) st.well st.arrives.lo [] (by simp)).args (args0:=[.agg (Zz (Wk s s.scenes[k])),I st.well,.v (.slice none 0 0),I st.arrives.lo]) (by simp [Zz,Zf,Zm,Zg,Za,KFL,KF]) (ZT (fun _ _ _ _ _ h=>h) (ZT (fun _ _ _ _ _ h=>h) (ZT YZ Uj)))
 refine Zck (by simp [FLT,ZvV,ZcX,Zc]) (res:=ZcX (Xd (Wk s s.scenes[k]) st.well [] st.arrives.lo)) ?_ ?_
 · dsimp only [go_sem,rA,rM,rS]
   exact hwa
 dsimp only [ZcX,Zc,go_sem,rA,rM,rS]
 rfl
end Go.Proofs.YtiigiflofnjilaaGreat
set_option maxRecDepth 100000
set_option maxHeartbeats 4000000
namespace Go.Proofs.YtiigiflofnjilaaGreat
open Go Go.Sx Go.Azalai
theorem Zhr (s:Season) (hs:SmallS s) (k:Nat) (hk:k < s.scenes.length) (hy:s.scenes[k].yields.length=s.land.wells.length):Ct Tryz.prog 38 [.agg (Zr s),I k] (.agg (Zz (Wk s s.scenes[k]))):=by
 have hw:=hs.land.1
 refine tw38 (by simp [Zr,Zk,Zf,Zm,Zg,Zc,Zq,Za,KFL,KF]) (by simp [Zz,Zf,Zm,Zg,Za,KFL,KF]) ?_
 dsimp only [cw38,rw38,Zr,go_sem,rA,rM,rS]
 refine Zbh [] (ZoI s.land hs.land) rfl rfl rfl ?_ ?_ ?_
 · exact Zd (by simp [Zz,Zf,Zm,Zg,Za,KFL,KF])
 · trivial
 dsimp only [go_sem,rA,rM,rS]
 have hz:=Zbw hy
 refine W8 [2,4,5,6,1] rfl (fun q:Nat=>[(6,I q)]) (fun q=>[(2,.row 0 9 ((XN s.land.wells (Zb3 s.land.wells s.scenes[k].yields) q).map Zf) 88)])
  (fun q=>q≤s.land.wells.length) (fun q=>s.land.wells.length - q) 0 (Nat.zero_le _) ?_ ?_
 · (refine Zl ?_ ?_ ?_ rfl rfl<;>dsimp only [Zf,Zm,Zg,Zk,Zc,Zq,XN,id,go_sem,rA,rM,rS]<;>simp [Zf,Zm,Zg,Zk,Zc,Zq,XN,Za,Zi,KFR,KFL,KF,Zd,mtO,nbr])
 intro q hq
 dsimp only [go_sem,rA,rM,rS]
 simp only [List.length_map,WC hz hq]
 by_cases hlt:q < s.land.wells.length
 · refine Zt (by simpa using hlt) ?_
   dsimp only [go_sem,rA,rM,rS]
   refine Zo k hk rfl ?_
   dsimp only [Zk,go_sem,rA,rM,rS]
   refine Zo q (by omega) rfl ?_
   dsimp only [Zc,go_sem,rA,rM,rS]
   refine Ug q rfl (by simp [WC hz hq];omega) ?_
   dsimp only [go_sem,rA,rM,rS]
   have hq2:q < (XN s.land.wells (Zb3 s.land.wells s.scenes[k].yields) q).length:=by rw [WC hz hq];exact hlt
   have hq3:q < (Zb3 s.land.wells s.scenes[k].yields).length:=by omega
   refine Zf2 ((Zb3 s.land.wells s.scenes[k].yields)[q]) hq2 (by rw [VR hz hlt];simp [Zf]) (by rw [VR hz hlt,ZdW hlt (by omega)];simp [Zf,splice]) ?_
   rw [ZcS hz hlt hq3]
   dsimp only [go_sem,rA,rM,rS]
   rw [Ze (n:=(q:Int)+1) (by omega) (by omega)]
   refine ⟨q+1,by omega,by omega,?_⟩
   (refine Zl ?_ ?_ ?_ rfl rfl<;>dsimp only [Zf,Zm,Zg,Zk,Zc,Zq,id,go_sem,rA,rM,rS]<;>simp [Zf,Zm,Zg,Zk,Zc,Zq,Za,Zi,KFR,KFL,KF,Zd,mtO,nbr])
 refine Zu (by simp;omega) ?_
 dsimp only [go_sem,rA,rM,rS]
 have hq':XN s.land.wells (Zb3 s.land.wells s.scenes[k].yields) q=Zb3 s.land.wells s.scenes[k].yields:=by
  simp only [XN];rw [List.take_of_length_le (by omega),List.drop_eq_nil_of_le (by omega),List.append_nil]
 rw [hq']
 rfl
end Go.Proofs.YtiigiflofnjilaaGreat
set_option maxRecDepth 100000
set_option maxHeartbeats 4000000
namespace Go.Sx
open Go Go.RowKit
theorem Zew {l l':List SV} (h:∀ (w:World) (E:Env) (n ok:Nat→Prop) (ys:List Value),RL w E n ok l ys→RL w E n ok l' ys):Ze2 (.agg l) (.agg l'):=fun w E n ok y hy=>by
 simp only [R] at hy ⊢
 obtain ⟨cs,h1,h2⟩:=hy
 exact ⟨cs,h1,h _ _ _ _ _ h2⟩
end Go.Sx
namespace Go.Azalai
open Go.Sx
def WX (b:Breed) (c:Camel):Camel:={ c with water:=⟨b.full,b.full⟩ }
def goG (s:Season) (x:Scene) (slabs:Int):List Stop→Nat→Camel→List (Int × Int)→Int × Int × List (Int × Int)
 | [],_,_,acc=>(0,0,acc)
 | st :: r,i,c,acc =>
  if (Yr s x (YA s.land st.leg s.pace).1 slabs c).2≠0 then ((Yr s x (YA s.land st.leg s.pace).1 slabs c).2,i,acc)
  else goG s x slabs r (i+1) (WX s.breed (Yr s x (YA s.land st.leg s.pace).1 slabs c).1)
   (if r=[] then acc else acc ++ [(s.breed.full - (Yr s x (YA s.land st.leg s.pace).1 slabs c).1.water.lo,ZeB s x st)])
def goF (s:Season) (x:Scene) (slabs:Int) (l:List Stop):Int × Int × List (Int × Int) :=
 if l=[] then (if slabs * s.slab > (ZcW s.breed s.camel).lo then 2 else 0,0,[]) else goG s x slabs l 0 s.camel []
theorem Zdi {lo hi:Int} {a b:Span} (ha:Z5 lo hi a=true) (hb:Z5 lo hi b=true):Z5 lo hi (ZfK a b)=true:=by
 simp only [Z5,decide_eq_true_eq] at ha hb
 show decide (lo≤min a.lo b.lo∧min a.lo b.lo≤max a.hi b.hi∧max a.hi b.hi≤hi)=true
 rw [decide_eq_true_eq];omega
theorem ZhQ {b:Breed} {c:Camel} {m:March} (hb:Zw b=true) (hc:Zv b c=true) (he:(Yo b c m).2.2=0):Zv b (Yo b c m).1=true:=by
 unfold Yo at he ⊢
 rw [if_neg (by rw [Go.Proofs.YtiigiflofnjilaaGreat.Cm.errC_0.2 ⟨hb,hc⟩];simp)] at he ⊢
 split
 · rename_i h;rw [if_pos h] at he;simp at he
 · rename_i h
   rw [if_neg h] at he
   split
   · rename_i h2;rw [if_pos h2] at he;simp at he
   · rename_i h2
     exact Go.Azalai.after_ok hb hc (by simpa using h) h2
theorem Zbv {b:Breed} (hb:Zw b=true):Zv b Yg=true:=by
 have:=Go.Proofs.YtiigiflofnjilaaGreat.Cm.breed_bd hb
 simp [Zv,Yg,Z5];omega
theorem Zcr {b:Breed} {m:March} {lo:Int} (hb:Zw b=true):∀ {j n:Nat} {c out:Camel},Zv b c=true→Zv b out=true→Zv b (VV b m lo j n c out).1=true
 | 0,_,_,_,_,ho=>ho
 | j+1,n,c,out,hc,ho=>by
  simp only [VV]
  split
  · exact Zbv hb
  split
  · exact Zbv hb
  rename_i h1 h2
  have ha:=ZhQ (m:=m) hb hc (by omega)
  refine Zcr hb ha ?_
  split
  · exact ha
  split
  · simp only [Zv,Bool.and_eq_true] at ha ho ⊢
    exact ⟨⟨Zdi ho.1.1 ha.1.1,Zdi ho.1.2 ha.1.2⟩,Zdi ho.2 ha.2⟩
  · exact ho
theorem ZaF {s:Season} {x:Scene} {d:Span} {slabs:Int} {c:Camel} (hb:Zw s.breed=true) (hc:Zv s.breed c=true):Zv s.breed (Yr s x d slabs c).1=true:=Zcr hb hc (Zbv hb)
theorem Vu {b:Breed} {c:Camel} (hb:Zw b=true) (hc:Zv b c=true):Zv b (WX b c)=true:=by
 have:=Go.Proofs.YtiigiflofnjilaaGreat.Cm.breed_bd hb
 simp only [Zv,WX,Bool.and_eq_true] at hc ⊢
 exact ⟨⟨by simp only [Z5,decide_eq_true_eq];omega,hc.1.2⟩,hc.2⟩
theorem Zev {l:Land} {p:Span} {leg:Int} (hg:OkLP l p):(YA l leg p).1.hi≤1000000000:=by
 unfold YA
 split
 · simp
 split
 · simp
 split
 · rename_i x hx
   have:=Go.Azalai.day_bd (hg.leg hx) hg.pace
   simp only;omega
 · simp
theorem ZbV {b:Breed} {c:Camel} (hb:Zw b=true) (hc:Zv b c=true):0≤c.water.lo∧c.water.lo≤b.full∧1≤b.full∧b.full≤1000000:=by
 have h1:=Go.Proofs.YtiigiflofnjilaaGreat.Cm.breed_bd hb
 have h2:=Go.Proofs.YtiigiflofnjilaaGreat.Cm.camel_bd hb hc
 omega
end Go.Azalai
namespace Go.Proofs.YtiigiflofnjilaaGreat
open Go Go.Sx Go.Azalai
theorem ZpW (s:Season) (h:OkS s) (leg:Int):Ct Tryz.prog 39 [.agg (Zz s.land),I leg,.agg (Zc s.pace)] (sres (YA s.land leg s.pace)):=Zov s.land h.small.land leg s.pace
theorem u63 {args:List SV} {res:SV} (ka:KFL args) (kr:KF res) (h:sx Tryz.prog Y0 0 c63 (st0 args 139) (ZzG r63 res)) (hA:Nat.ble args.length 139=true:=by rfl):Ct Tryz.prog 63 args res:=Zhw Tryz.func63 rfl b63 Zy4 Zyw n63 (Nat.le_of_ble_eq_true hA) ka kr h
def Zhb (g:Int × Int × List (Int × Int)):List SV:=[U8 g.1,I g.2.1,.sl false 1 (g.2.2.map fun p=>Zq p.1),.sl false 1 (g.2.2.map fun p=>Zq p.2)]
theorem ZpM (s:Season) (h:OkS s) (k:Nat) (hk:k < s.scenes.length) (legs:List Int) (sts:List Stop) (hl:legs=sts.map Stop.leg) (hg:legs.length≤1000) (slabs:Int) (hn:0≤slabs∧slabs≤12) (c1 c2:Bool) :
 Ct Tryz.prog 63 [.agg (Zr s),I k,.sl c1 1 (legs.map Zq),.sl c2 6 (sts.map Zx),I slabs] (.agg (Zhb (goF s s.scenes[k] slabs sts))):=by
 have hnum:=h.num
 have hx:=h.scene _ (List.getElem_mem hk)
 have hy:s.scenes[k].yields.length=s.land.wells.length:=by simp only [Yn,Bool.and_eq_true,decide_eq_true_eq] at hx;omega
 have hb:0≤slabs * s.slab∧slabs * s.slab≤12 * 1000000:=⟨Int.mul_nonneg hn.1 (by omega),Int.mul_le_mul hn.2 (by omega) (by omega) (by decide)⟩
 refine u63 (by simp [Zr,Zk,Zf,Zm,Zg,Zc,Zq,Zx,Za,KFL,KF]) (by simp [Zhb,Zq,Za,KFL,KF]) ?_
 dsimp only [c63,r63,Zr,go_sem,rA,rM,rS]
 refine Zo k hk rfl ?_
 dsimp only [Zk,go_sem,rA,rM,rS]
 simp only [List.length_map]
 by_cases hs0:sts=[]
 · subst hs0
   subst hl
   refine Zt (by simp) ?_
   dsimp only [go_sem,rA,rM,rS]
   refine call (Cm.carriesR_ok s.breed s.camel) ?_
   dsimp only [Cm.sres,Zc,go_sem,rA,rM,rS]
   rw [show (if VT s.breed s.camel=0 then ZnJ s.breed s.camel else Xe)=ZcW s.breed s.camel from rfl,Ze (n:=slabs * s.slab) (by omega) (by omega)]
   by_cases hw:slabs * s.slab > (ZcW s.breed s.camel).lo
   · refine Zt (by simpa using hw) ?_
     dsimp only [go_sem,rA,rM,rS]
     refine ⟨_,rfl,?_⟩
     simp only [goF,if_true,if_pos hw,Zhb,List.map_nil]
     exact Zew (ZT (fun _ _ _ _ _ h=>h) (ZT (fun _ _ _ _ _ h=>h) (ZT YZ (ZT YZ Uj))))
   · refine Zu (by simpa using hw) ?_
     dsimp only [go_sem,rA,rM,rS]
     refine ⟨_,rfl,?_⟩
     simp only [goF,if_true,if_neg hw,Zhb,List.map_nil]
     exact Zew (ZT (fun _ _ _ _ _ h=>h) (ZT (fun _ _ _ _ _ h=>h) (ZT YZ (ZT YZ Uj))))
 have hlen:legs.length=sts.length:=by rw [hl];simp
 have h0:sts.length≠0:=fun e=>hs0 (List.length_eq_zero_iff.1 e)
 refine Zu (by rw [hlen];simpa using hs0) ?_
 dsimp only [go_sem,rA,rM,rS]
 refine call (Zhr s h.small k hk hy) ?_
 dsimp only [Zz,go_sem,rA,rM,rS]
 subst hl
 simp only [List.length_map] at hg
 have hgF:goF s s.scenes[k] slabs sts=goG s s.scenes[k] slabs sts 0 s.camel []:=by simp only [goF,if_neg hs0]
 rw [hgF]
 have hgs:∀ (j n:Nat) (hj:j < sts.length) c acc,goG s s.scenes[k] slabs (sts.drop j) n c acc=if (Yr s s.scenes[k] (YA s.land sts[j].leg s.pace).1 slabs c).2≠0 then ((Yr s s.scenes[k] (YA s.land sts[j].leg s.pace).1 slabs c).2,(n:Int),acc)
  else goG s s.scenes[k] slabs (sts.drop (j+1)) (n+1) (WX s.breed (Yr s s.scenes[k] (YA s.land sts[j].leg s.pace).1 slabs c).1)
   (if sts.drop (j+1)=[] then acc else acc ++ [(s.breed.full - (Yr s s.scenes[k] (YA s.land sts[j].leg s.pace).1 slabs c).1.water.lo,ZeB s s.scenes[k] sts[j])]):=fun j n hj c acc=>by
  rw [List.drop_eq_getElem_cons hj,goG]
 refine ZdP (Yv (ZbR [2,3,4,5,10,11,12,13,16,17] rfl) (Yv (Wf 2 2 1 3 rfl rfl) (Wf 2 3 1 3 rfl rfl))) (fun q:Nat × Camel × List (Int × Int) × Nat × Nat=>[(17,I q.1)])
  (fun q=>[(2,.cells [U8 0,I 0,.mr 6 q.2.2.2.1,.mr 7 q.2.2.2.2] 139),(6,.row q.2.2.2.1 1 (q.2.2.1.map fun p=>Zq p.1) 3),(7,.row q.2.2.2.2 1 (q.2.2.1.map fun p=>Zq p.2) 3),(4,.cells (Cm.camelL q.2.1) 31)])
  (fun q=>q.1≤sts.length∧goG s s.scenes[k] slabs (sts.drop q.1) q.1 q.2.1 q.2.2.1=goG s s.scenes[k] slabs sts 0 s.camel []∧Zv s.breed q.2.1=true∧q.2.2.1.length≤q.1) (fun q=>sts.length - q.1) (0,s.camel,[],0,0)
  ⟨Nat.zero_le _,rfl,h.beast.2,Nat.le_refl _⟩ ?_ ?_
 · (refine Zl ?_ ?_ ?_ rfl rfl<;>dsimp only [Cm.camelL,Zf,Zm,Zg,Zk,Zc,Zq,Zx,mtL,mtB,mtS,id,go_sem,rA,rM,rS]<;>simp [Cm.camelL,Zf,Zm,Zg,Zk,Zc,Zq,Zx,mtL,mtB,mtS,Za,Zi,KFR,KFL,KF,Zd,mtO,nbr])
 rintro ⟨j,c,acc,v1,v2⟩ ⟨hj,hi,hc,hal⟩
 simp only at hj hi hc hal
 dsimp only [Cm.camelL,go_sem,rA,rM,rS]
 simp only [List.length_map]
 by_cases hlt:j < sts.length
 case neg =>
  refine Zu (by simp;omega) ?_
  dsimp only [go_sem,rA,rM,rS]
  rw [← hi,List.drop_eq_nil_of_le (by omega),goG]
  simp only [nbr]
  exact ⟨_,rfl,fun _ _ _ _ _ h=>h⟩
 refine Zt (by simpa using hlt) ?_
 dsimp only [go_sem,rA,rM,rS]
 refine Zo j (by simpa using hlt) rfl ?_
 simp only [List.getElem_map]
 dsimp only [Zq,go_sem,rA,rM,rS]
 refine call (ZmL s.land h.small.land sts[j].leg s.pace) ?_
 dsimp only [sres,Zc,go_sem,rA,rM,rS]
 refine call (ZkS s s.scenes[k] c (YA s.land sts[j].leg s.pace).1 slabs hn (by omega) (Zev h.lp)) ?_
 rw [hgs j j hlt] at hi
 have hbo:=ZaF (x:=s.scenes[k]) (d:=(YA s.land sts[j].leg s.pace).1) (slabs:=slabs) h.beast.1 hc
 generalize Yr s s.scenes[k] (YA s.land sts[j].leg s.pace).1 slabs c=b at hi hbo ⊢
 dsimp only [camelL,Cm.camelL,go_sem,rA,rM,rS]
 by_cases hw:b.2=0
 case neg =>
  refine Zt (by simpa using hw) ?_
  dsimp only [go_sem,rA,rM,rS]
  rw [if_pos hw] at hi
  rw [← hi]
  simp only [nbr]
  exact ⟨_,rfl,fun _ _ _ _ _ h=>h⟩
 refine Zu (by simpa using hw) ?_
 dsimp only [go_sem,rA,rM,rS]
 rw [if_neg (by simpa using hw)] at hi
 have hwb:=ZbV h.beast.1 hbo
 rw [Ze (n:=(j:Int)+1) (by omega) (by omega)]
 simp only [List.length_map]
 by_cases hlast:j+1 < sts.length
 · refine Zt (by simp;omega) ?_
   dsimp only [go_sem,rA,rM,rS]
   rw [if_neg (by intro e;rw [List.drop_eq_nil_iff] at e;omega)] at hi
   refine Zo j hlt rfl ?_
   dsimp only [Zx,go_sem,rA,rM,rS]
   refine Zo j hlt rfl ?_
   dsimp only [Zx,go_sem,rA,rM,rS]
   have hwa:=(Zii (Wk s s.scenes[k]) (Uu h.small.land hy) sts[j].well sts[j].arrives.lo [] (by simp)).args (args0:=[.agg (Zz (Wk s s.scenes[k])),I sts[j].well,.v (.slice none 0 0),I sts[j].arrives.lo]) (by simp [Zz,Zf,Zm,Zg,Za,KFL,KF]) (ZT (fun _ _ _ _ _ h=>h) (ZT (fun _ _ _ _ _ h=>h) (ZT YZ Uj)))
   refine call hwa ?_
   dsimp only [ZcX,Zc,go_sem,rA,rM,rS]
   rw [Ze (n:=s.breed.full - b.1.water.lo) (by omega) (by omega)]
   simp only [nbr]
   dsimp only [go_sem,rA,rM,rS]
   refine ⟨(by intro c hc;simp only [List.mem_singleton] at hc;subst hc;rfl),by simp;omega,?_⟩
   dsimp only [go_sem,rA,rM,rS]
   simp only [nbr]
   dsimp only [go_sem,rA,rM,rS]
   refine ⟨(by intro c hc;simp only [List.mem_singleton] at hc;subst hc;rfl),by simp;omega,?_⟩
   dsimp only [go_sem,rA,rM,rS]
   rw [Ze (n:=(j:Int)+1) (by omega) (by omega)]
   refine ⟨(j+1,WX s.breed b.1,acc ++ [(s.breed.full - b.1.water.lo,ZeB s s.scenes[k] sts[j])],v1+1,v2+1),⟨hlt,hi,Vu h.beast.1 hbo,by simp;omega⟩,by simp only;omega,?_⟩
   simp only [List.map_append,List.map_cons,List.map_nil]
   (refine Zl ?_ ?_ ?_ rfl rfl<;>dsimp only [Cm.camelL,WX,ZeB,Zf,Zm,Zg,Zk,Zc,Zq,Zx,mtL,mtB,mtS,id,go_sem,rA,rM,rS]<;>simp [Cm.camelL,WX,ZeB,Zf,Zm,Zg,Zk,Zc,Zq,Zx,mtL,mtB,mtS,Za,Zi,KFR,KFL,KF,Zd,mtO,nbr])
 refine Zu (by simp;omega) ?_
 dsimp only [go_sem,rA,rM,rS]
 rw [if_pos (List.drop_eq_nil_of_le (by omega))] at hi
 rw [Ze (n:=(j:Int)+1) (by omega) (by omega)]
 refine ⟨(j+1,WX s.breed b.1,acc,v1,v2),⟨hlt,hi,Vu h.beast.1 hbo,by simp only;omega⟩,by simp only;omega,?_⟩
 (refine Zl ?_ ?_ ?_ rfl rfl<;>dsimp only [Cm.camelL,WX,Zf,Zm,Zg,Zk,Zc,Zq,Zx,mtL,mtB,mtS,id,go_sem,rA,rM,rS]<;>simp [Cm.camelL,WX,Zf,Zm,Zg,Zk,Zc,Zq,Zx,mtL,mtB,mtS,Za,Zi,KFR,KFL,KF,Zd,mtO,nbr])
end Go.Proofs.YtiigiflofnjilaaGreat
set_option maxRecDepth 100000
set_option maxHeartbeats 4000000
namespace Go.Azalai
open Go.Sx
theorem Zd3 {l:Land} {p:Span}:∀ {legs:List Int} {v a b:Int} {k k':Nat} {acc:List Stop},XV l v legs k'=none→(goS l p v a b legs k acc).2.2=0→(goS l p v a b legs k acc).1.map Stop.leg=acc.map Stop.leg ++ legs
 | [],_,_,_,_,_,_,_,_=>by simp [goS]
 | i :: r,v,a,b,k,k',acc,h,h0=>by
  simp only [XV] at h
  split at h
  · cases h
  rename_i hn
  obtain ⟨n,x,rfl,hk,hx,_,e⟩:=Zby hn
  simp only [goS,Int.toNat_natCast,hx] at h0 ⊢
  split
  · rename_i h1;rw [if_pos h1] at h0;simp at h0
  · rename_i h1;rw [if_neg h1] at h0
    rw [e] at h
    rw [Zd3 h h0];simp
theorem ZfW {l:Land} {p:Span} {s d:Int} {legs:List Int} (h:(YE l p s d legs).2.2=0):(YE l p s d legs).1.map Stop.leg=legs:=by
 unfold YE at h ⊢
 split
 · rename_i h1;rw [if_pos h1] at h;exact absurd h h1
 rename_i h1
 rw [if_neg h1] at h
 split
 · rename_i h2;rw [if_pos h2] at h;simp at h
 rename_i h2
 rw [if_neg h2] at h
 split
 · rename_i h3;rw [if_pos h3] at h;simp at h
 rename_i h3
 rw [if_neg h3] at h
 split
 · rename_i h4;rw [h4] at h;simp at h
 rename_i h4
 rw [h4] at h
 rw [Zd3 h4 h];simp
theorem Ze3 {s:Season} {legs:List Int} (h:Uy s legs=true):(ZY s legs).map Stop.leg=legs:=by
 simp only [Uy,Bool.and_eq_true,decide_eq_true_eq] at h
 exact ZfW h.1
def VH (n:Int):List (Int × Int)→Nat→Option Nat
 | [],_=>none
 | p :: r,i=>if n * p.1 > p.2 then some i else VH n r (i+1)
def Uh (n:Int) (g:Int × Int × List (Int × Int)):Int × Int :=
 match VH n g.2.2 0 with
 | some i=>(4,i)
 | none=>(g.1,g.2.1)
def XH (s:Season) (p:Plan) (x:Scene):Int × Int :=
 if Uy s p.legs=false then (1,0) else if p.animals=0 then (0,0) else Uh p.animals (goF s x p.slabs (ZY s p.legs))
def Wm (s:Season) (p:Plan):List Scene→Nat→Int × Int × Int × Int
 | [],_=>(0,0,0,0)
 | x :: r,i=>if (XH s p x).1≠0 then ((XH s p x).1,i,(XH s p x).2,0) else Wm s p r (i+1)
def WZ (s:Season) (p:Plan):Int × Int × Int × Int :=
 if ZR s=false then (0,0,0,90) else if VY s p=false then (0,0,0,91) else Wm s p s.scenes 0
theorem Zjl {s:Season} {x:Scene} {slabs:Int} (hb:Zw s.breed=true):∀ {l:List Stop} {i:Nat} {c:Camel} {acc:List (Int × Int)},Zv s.breed c=true→(∀ q ∈ acc,0≤q.1∧q.1≤1000000) →
 (∀ q ∈ (goG s x slabs l i c acc).2.2,0≤q.1∧q.1≤1000000)∧(goG s x slabs l i c acc).2.2.length≤acc.length+l.length
 | [],_,_,acc,_,ha=>⟨ha,by simp [goG]⟩
 | st :: r,i,c,acc,hc,ha=>by
  simp only [goG]
  split
  · exact ⟨ha,by simp only;omega⟩
  have hbo:=ZaF (x:=x) (d:=(YA s.land st.leg s.pace).1) (slabs:=slabs) hb hc
  have hw:=ZbV hb hbo
  split
  · obtain ⟨h1,h2⟩:=Zjl (s:=s) (x:=x) (slabs:=slabs) hb (l:=r) (i:=i+1) (acc:=acc) (Vu hb hbo) ha
    exact ⟨h1,by simp only [List.length_cons];omega⟩
  · obtain ⟨h1,h2⟩:=Zjl (s:=s) (x:=x) (slabs:=slabs) hb (l:=r) (i:=i+1) (acc:=acc ++ [(s.breed.full - (Yr s x (YA s.land st.leg s.pace).1 slabs c).1.water.lo,ZeB s x st)]) (Vu hb hbo) (fun q hq=>by
     rcases List.mem_append.1 hq with hq | hq
     · exact ha q hq
     · simp only [List.mem_singleton] at hq;subst hq;simp only;omega)
    exact ⟨h1,by simp only [List.length_cons,List.length_append,List.length_nil] at h2 ⊢;omega⟩
theorem ZyN {s:Season} {x:Scene} {slabs:Int} {l:List Stop} (hb:Zw s.breed=true) (hc:Zv s.breed s.camel=true):(∀ q ∈ (goF s x slabs l).2.2,0≤q.1∧q.1≤1000000)∧(goF s x slabs l).2.2.length≤l.length:=by
 unfold goF
 split
 · simp
 · obtain ⟨h1,h2⟩:=Zjl (x:=x) (slabs:=slabs) hb (l:=l) (i:=0) (acc:=[]) hc (by simp)
   exact ⟨h1,by simpa using h2⟩
end Go.Azalai
namespace Go.Proofs.YtiigiflofnjilaaGreat
open Go Go.Sx Go.Azalai
theorem ZcB {s:Season} {p:Plan} (h:VY s p=true):(∃ v,Wp s.land s.start [s.start] p.legs=some v)∧0≤p.animals∧p.animals≤s.herd∧0≤p.slabs∧p.slabs≤12:=by
 simp only [VY,inR,Bool.and_eq_true,decide_eq_true_eq,Option.isSome_iff_exists] at h
 exact ⟨h.1.1,by omega⟩
theorem Znp (s:Season) (h:OkS s) (p:Plan) (hp:VY s p=true) (hg:p.legs.length≤1000) (k:Nat) (hk:k < s.scenes.length) :
 Ct Tryz.prog 51 [.agg (Zr s),.agg (Y3 p),I k] (.tup [U8 (XH s p s.scenes[k]).1,I (XH s p s.scenes[k]).2]):=by
 have hnum:=h.num
 obtain ⟨_,hpl⟩:=ZcB hp
 refine t51 (by simp [Zr,Y3,Zk,Zf,Zm,Zg,Zc,Zq,Zx,Za,KFL,KF]) (by simp [KFL,KF]) ?_
 dsimp only [c51,r51,Zr,Y3,go_sem,rA,rM,rS]
 refine call (Zum s h p.legs hg _) ?_
 dsimp only [go_sem,rA,rM,rS]
 by_cases hs:Uy s p.legs=true
 case neg =>
  refine Zt (by simpa using hs) ?_
  dsimp only [go_sem,rA,rM,rS]
  simp only [XH,Bool.eq_false_iff.2 hs,if_true]
 refine Zu (by simpa using hs) ?_
 dsimp only [go_sem,rA,rM,rS]
 by_cases ha:p.animals=0
 · refine Zt (by simpa using ha) ?_
   dsimp only [go_sem,rA,rM,rS]
   simp only [XH,hs,ha,if_true,Bool.true_eq_false,if_false]
 refine Zu (by simpa using ha) ?_
 dsimp only [go_sem,rA,rM,rS]
 have hF:XH s p s.scenes[k]=Uh p.animals (goF s s.scenes[k] p.slabs (ZY s p.legs)):=by simp only [XH,hs,ha,Bool.true_eq_false,if_false]
 rw [hF]
 refine call (ZpM s h k hk p.legs (ZY s p.legs) (Ze3 hs).symm hg p.slabs ⟨hpl.2.2.1,hpl.2.2.2⟩ _ _) ?_
 obtain ⟨hb1,hb2⟩:=ZyN (s:=s) (x:=s.scenes[k]) (slabs:=p.slabs) (l:=ZY s p.legs) h.beast.1 h.beast.2
 have hln:(ZY s p.legs).length≤1000:=Nat.le_trans Vv hg
 generalize goF s s.scenes[k] p.slabs (ZY s p.legs)=g at hb1 hb2 ⊢
 dsimp only [Zhb,go_sem,rA,rM,rS]
 refine W8 [4,10,11] rfl (fun q:Nat=>[(11,I q)]) (fun _=>[]) (fun q=>q≤g.2.2.length∧VH p.animals (g.2.2.drop q) q=VH p.animals g.2.2 0) (fun q=>g.2.2.length - q) 0 ⟨Nat.zero_le _,rfl⟩ ?_ ?_
 · (refine Zl ?_ ?_ ?_ rfl rfl<;>dsimp only [Zf,Zm,Zg,Zk,Zc,Zq,Zx,id,go_sem,rA,rM,rS]<;>simp [Zf,Zm,Zg,Zk,Zc,Zq,Zx,Za,Zi,KFR,KFL,KF,Zd,mtO,nbr])
 rintro j ⟨hj,hi⟩
 dsimp only [go_sem,rA,rM,rS]
 simp only [List.length_map]
 by_cases hlt:j < g.2.2.length
 case neg =>
  refine Zu (by simp;omega) ?_
  dsimp only [go_sem,rA,rM,rS]
  rw [List.drop_eq_nil_of_le (by omega),VH] at hi
  simp only [Uh,← hi]
 refine Zt (by simpa using hlt) ?_
 dsimp only [go_sem,rA,rM,rS]
 refine Zo j hlt rfl ?_
 dsimp only [Zq,go_sem,rA,rM,rS]
 have hq:=hb1 _ (List.getElem_mem hlt)
 have hm:0≤p.animals * g.2.2[j].1∧p.animals * g.2.2[j].1≤30 * 1000000:=⟨Int.mul_nonneg hpl.1 hq.1,Int.mul_le_mul (by omega) hq.2 hq.1 (by decide)⟩
 rw [Ze (n:=p.animals * g.2.2[j].1) (by omega) (by omega)]
 refine Zo j hlt rfl ?_
 dsimp only [Zq,go_sem,rA,rM,rS]
 rw [List.drop_eq_getElem_cons hlt,VH] at hi
 by_cases hd:p.animals * g.2.2[j].1 > g.2.2[j].2
 · refine Zt (by simpa using hd) ?_
   dsimp only [go_sem,rA,rM,rS]
   rw [if_pos hd] at hi
   simp only [Uh,← hi]
 refine Zu (by simpa using hd) ?_
 dsimp only [go_sem,rA,rM,rS]
 rw [if_neg hd] at hi
 rw [Ze (n:=(j:Int)+1) (by omega) (by omega)]
 refine ⟨j+1,⟨hlt,hi⟩,by omega,?_⟩
 (refine Zl ?_ ?_ ?_ rfl rfl<;>dsimp only [Zf,Zm,Zg,Zk,Zc,Zq,Zx,id,go_sem,rA,rM,rS]<;>simp [Zf,Zm,Zg,Zk,Zc,Zq,Zx,Za,Zi,KFR,KFL,KF,Zd,mtO,nbr])
def ZaW (r:Int × Int × Int × Int):SV:=.tup [U8 r.1,I r.2.1,I r.2.2.1,I r.2.2.2]
theorem Zha (s:Season) (hs:SmallS s) (p:Plan) (hg:p.legs.length≤1000):Ct Tryz.prog 15 [.agg (Zr s),.agg (Y3 p)] (ZaW (WZ s p)):=by
 refine t15 (by simp [Zr,Y3,Zk,Zf,Zm,Zg,Zc,Zq,Zx,Za,KFL,KF]) (by simp [ZaW,KFL,KF]) ?_
 dsimp only [c15,r15,Zr,Y3,go_sem,rA,rM,rS]
 refine call (Zcu s hs) ?_
 dsimp only [go_sem,rA,rM,rS]
 by_cases ho:ZR s=true
 case neg =>
  refine Zt (by simpa using ho) ?_
  dsimp only [go_sem,rA,rM,rS]
  simp only [ZaW,WZ,Bool.eq_false_iff.2 ho,if_true]
 refine Zu (by simpa using ho) ?_
 dsimp only [go_sem,rA,rM,rS]
 have h:OkS s:=⟨hs,ho⟩
 refine call (Zr9 s h p hg) ?_
 dsimp only [go_sem,rA,rM,rS]
 by_cases hp:VY s p=true
 case neg =>
  refine Zt (by simpa using hp) ?_
  dsimp only [go_sem,rA,rM,rS]
  simp only [ZaW,WZ,ho,Bool.eq_false_iff.2 hp,if_true,Bool.true_eq_false,if_false]
 refine Zu (by simpa using hp) ?_
 dsimp only [go_sem,rA,rM,rS]
 have hF:WZ s p=Wm s p s.scenes 0:=by simp only [WZ,ho,hp,Bool.true_eq_false,if_false]
 rw [hF]
 have hsc:=hs.sc
 refine W8 [2,3,8] rfl (fun q:Nat=>[(8,I q)]) (fun _=>[]) (fun q=>q≤s.scenes.length∧Wm s p (s.scenes.drop q) q=Wm s p s.scenes 0) (fun q=>s.scenes.length - q) 0 ⟨Nat.zero_le _,rfl⟩ ?_ ?_
 · (refine Zl ?_ ?_ ?_ rfl rfl<;>dsimp only [Zf,Zm,Zg,Zk,Zc,Zq,Zx,id,go_sem,rA,rM,rS]<;>simp [Zf,Zm,Zg,Zk,Zc,Zq,Zx,Za,Zi,KFR,KFL,KF,Zd,mtO,nbr])
 rintro j ⟨hj,hi⟩
 dsimp only [go_sem,rA,rM,rS]
 simp only [List.length_map]
 by_cases hlt:j < s.scenes.length
 case neg =>
  refine Zu (by simp;omega) ?_
  dsimp only [go_sem,rA,rM,rS]
  rw [List.drop_eq_nil_of_le (by omega),Wm] at hi
  rw [← hi];rfl
 refine Zt (by simpa using hlt) ?_
 dsimp only [go_sem,rA,rM,rS]
 refine call (Znp s h p hp hg j hlt) ?_
 dsimp only [go_sem,rA,rM,rS]
 rw [List.drop_eq_getElem_cons hlt,Wm] at hi
 by_cases hf:(XH s p s.scenes[j]).1=0
 case neg =>
  refine Zt (by simpa using hf) ?_
  dsimp only [go_sem,rA,rM,rS]
  rw [if_pos hf] at hi
  rw [← hi];rfl
 refine Zu (by simpa using hf) ?_
 dsimp only [go_sem,rA,rM,rS]
 rw [if_neg (by simpa using hf)] at hi
 rw [Ze (n:=(j:Int)+1) (by omega) (by omega)]
 refine ⟨j+1,⟨hlt,hi⟩,by omega,?_⟩
 (refine Zl ?_ ?_ ?_ rfl rfl<;>dsimp only [Zf,Zm,Zg,Zk,Zc,Zq,Zx,id,go_sem,rA,rM,rS]<;>simp [Zf,Zm,Zg,Zk,Zc,Zq,Zx,Za,Zi,KFR,KFL,KF,Zd,mtO,nbr])
end Go.Proofs.YtiigiflofnjilaaGreat
set_option maxRecDepth 100000
set_option maxHeartbeats 4000000
namespace Go.Azalai
open Go.Sx
def Za1 (n:Int) (st:Stop) (p:Int × Int):Draw:=⟨st.well,st.arrives.lo,n * p.1⟩
def Vt (n:Int) (l:List Stop) (g:List (Int × Int)):List Draw:=List.zipWith (Za1 n) l g
def VU (s:Season) (x:Scene) (n slabs:Int) (l:List Stop):List Draw :=
 if l=[] then [] else if n=0 then l.dropLast.map fun st=>⟨st.well,st.arrives.lo,0⟩ else Vt n l (goF s x slabs l).2.2
def ZfD (s:Season) (x:Scene) (n slabs:Int) (l:List Stop):Int × Int:=if n=0 then (0,0) else Uh n (goF s x slabs l)
theorem Zde {s:Season} {x:Scene} {slabs:Int}:∀ {l:List Stop} {i:Nat} {c:Camel} {acc:List (Int × Int)},∃ more,(goG s x slabs l i c acc).2.2=acc ++ more
 | [],_,_,acc=>⟨[],by simp [goG]⟩
 | st :: r,i,c,acc=>by
  simp only [goG]
  split
  · exact ⟨[],by simp⟩
  split
  · exact Zde
  · obtain ⟨m,hm⟩:=Zde (s:=s) (x:=x) (slabs:=slabs) (l:=r) (i:=i+1) (c:=WX s.breed (Yr s x (YA s.land st.leg s.pace).1 slabs c).1) (acc:=acc ++ [(s.breed.full - (Yr s x (YA s.land st.leg s.pace).1 slabs c).1.water.lo,ZeB s x st)])
    exact ⟨_,by rw [hm,List.append_assoc]⟩
theorem Zan {n:Int}:∀ {a b:List (Int × Int)} {i:Nat},VH n a i=none→VH n (a ++ b) i=VH n b (i+a.length)
 | [],_,_,_=>by simp
 | p :: a,b,i,h=>by
  simp only [VH] at h
  split at h
  · cases h
  rename_i hp
  simp only [List.cons_append,VH]
  rw [if_neg hp,Zan h,List.length_cons];congr 1;omega
theorem Zdd {n:Int} {l:List Stop} {acc:List (Int × Int)} {p:Int × Int} {j:Nat} (hj:j < l.length) (ha:acc.length=j):Vt n l (acc ++ [p])=Vt n l acc ++ [Za1 n l[j] p]:=by
 simp only [Vt]
 subst ha
 have h1:l=l.take acc.length ++ l.drop acc.length:=(List.take_append_drop ..).symm
 have hlen:(l.take acc.length).length=acc.length:=by simp;omega
 have e1:List.zipWith (Za1 n) l (acc ++ [p])=List.zipWith (Za1 n) (l.take acc.length) acc ++ List.zipWith (Za1 n) (l.drop acc.length) [p]:=by
  rw [← List.zipWith_append hlen,← h1]
 have e2:List.zipWith (Za1 n) l acc=List.zipWith (Za1 n) (l.take acc.length) acc:=by
  have:=List.zipWith_append (f:=Za1 n) (l₁:=l.take acc.length) (l₁':=l.drop acc.length) (l₂:=acc) (l₂':=[]) hlen
  rw [← h1] at this;simpa using this
 rw [e1,e2,List.drop_eq_getElem_cons hj]
 simp only [List.zipWith_cons_cons,List.zipWith_nil_right]
end Go.Azalai
namespace Go.Proofs.YtiigiflofnjilaaGreat
open Go Go.Sx Go.Azalai
def Zwx (s:Season) (k:Int) (l:List Stop) (slabs:Int):Ot:=⟨false,.cl 163 [.p 0 0,.p 1 0,.p 2 0],[(0,.cells (YC s k) 120),(1,.cells [.sl false 6 (l.map Zx)] 90),(2,.cells [I slabs] 3)],3⟩
theorem Zdo (s:Season) (k:Int) (l:List Stop) (slabs:Int):CtM Tryz.prog 135 [] 0 [.agg (YC s k),.sl false 6 (l.map Zx),I slabs] (fun o=>o=Zwx s k l slabs):=by
 refine m135 (by simp [hpb]) (fun o ho=>by subst ho;simp [Zwx,YC,KX,KXL,KXP,KXH,Za,KFL,KF,Zf,Zm,Zg,Zk,Zc,Zq,Zx]) ?_
 dsimp only [c135,r135,go_sem,rA,rM,rS]
 refine ⟨_,rfl,?_⟩
 (refine YX ?_ ?_ ?_ rfl<;>dsimp only [Zwx,YC,Zf,Zm,Zg,Zk,Zc,Zq,Zx,id,go_sem,rA,rM,rS]<;>simp [Zwx,YC,Zf,Zm,Zg,Zk,Zc,Zq,Zx,Za,Zi,KFR,KFL,KF,Zd,mtO,nbr])
def WY (w:Int × Int) (ds:List Draw):Ot:=if w.1=0 then ⟨false,.sl false 3 (ds.map Z0),[],0⟩ else Xc w.1 w.2
theorem ZnI (s:Season) (h:OkS s) (k:Nat) (hk:k < s.scenes.length) (l:List Stop) (hl:l.length≤1000) (n slabs:Int) (hn:0≤n∧n≤s.herd) (hsl:0≤slabs∧slabs≤12) :
 CtM Tryz.prog 92 [] 0 [.agg (YC s k),.sl false 6 (l.map Zx),I n,I slabs] (fun o=>o=WY (ZfD s s.scenes[k] n slabs l) (VU s s.scenes[k] n slabs l)):=by
 have hnum:=h.num
 have hx:=h.scene _ (List.getElem_mem hk)
 have hy:s.scenes[k].yields.length=s.land.wells.length:=by simp only [Yn,Bool.and_eq_true,decide_eq_true_eq] at hx;omega
 have hb:0≤slabs * s.slab∧slabs * s.slab≤12 * 1000000:=⟨Int.mul_nonneg hsl.1 (by omega),Int.mul_le_mul hsl.2 (by omega) (by omega) (by decide)⟩
 refine m92 (by simp [hpb]) (fun o ho=>by subst ho;unfold WY;split<;>simp [Xc,KX,KXL,KXP,Za,KFL,KF,Z0]) ?_
 dsimp only [c92,r92,YC,go_sem,rA,rM,rS]
 simp only [List.length_map]
 by_cases hl0:l=[]
 · subst hl0
   refine Zt (by simp) ?_
   dsimp only [go_sem,rA,rM,rS]
   refine call (Cm.carries_ok s.breed s.camel) ?_
   dsimp only [Cm.sres,Zc,go_sem,rA,rM,rS]
   rw [show (if VT s.breed s.camel=0 then ZnJ s.breed s.camel else Xe)=ZcW s.breed s.camel from rfl]
   repeat (refine gb ?_;dsimp only [go_sem,rA,rM,rS])
   rw [Ze (n:=slabs * s.slab) (by omega) (by omega)]
   by_cases hok:n=0∨slabs * s.slab≤(ZcW s.breed s.camel).lo
   · rw [show (n == 0 || decide (slabs * s.slab≤(ZcW s.breed s.camel).lo))=true from by simpa using hok]
     refine Xp [] (VQ 2 0) rfl rfl rfl ?_ ?_ ?_
     · (repeat first | dsimp only [go_sem,rA,rM,rS] | simp only [nbr])
       try simp [mtL,mtB,mtS]
     · trivial
     rintro _ rfl
     (repeat first | dsimp only [go_sem,rA,rM,rS] | simp only [nbr])
     refine ⟨_,rfl,?_⟩
     have hw:ZfD s s.scenes[k] n slabs []=(0,0):=by
      unfold ZfD
      split
      · rfl
      · rw [goF,if_pos rfl,if_neg (by omega)];rfl
     rw [hw]
     simp only [WY,if_true,VU,List.map_nil]
     refine Vi (Yv (YW 0 3 111 rfl rfl) (Yv (Zdu 0 4 0 rfl rfl rfl rfl) ?_)) (fun _ _ _ e=>by cases e)
     (refine Zl ?_ ?_ ?_ rfl rfl<;>dsimp only [id,go_sem,rA,rM,rS]<;>simp [Za,Zi,KFR,KFL,KF,Zd,mtO,nbr])
   · rw [show (n == 0 || decide (slabs * s.slab≤(ZcW s.breed s.camel).lo))=false from by simpa using hok]
     refine Xp [] (ZaL 2 0) rfl rfl rfl ?_ ?_ ?_
     · (repeat first | dsimp only [go_sem,rA,rM,rS] | simp only [nbr])
       try simp [mtL,mtB,mtS]
     · trivial
     rintro _ rfl
     (repeat first | dsimp only [Xc,go_sem,rA,rM,rS] | simp only [nbr])
     refine ⟨_,rfl,?_⟩
     have hw:ZfD s s.scenes[k] n slabs []=(2,0):=by
      unfold ZfD
      rw [if_neg (by omega),goF,if_pos rfl,if_pos (by omega)];rfl
     rw [hw]
     simp only [WY]
     (refine YX ?_ ?_ ?_ rfl<;>dsimp only [Xc,id,go_sem,rA,rM,rS]<;>simp [Xc,Za,Zi,KFR,KFL,KF,Zd,mtO,nbr])
 have hl1:l.length≠0:=fun e=>hl0 (List.length_eq_zero_iff.1 e)
 refine Zu (by simpa using hl0) ?_
 dsimp only [go_sem,rA,rM,rS]
 by_cases hn0:n=0
 · refine Zt (by simpa using hn0) ?_
   dsimp only [go_sem,rA,rM,rS]
   simp only [List.length_map]
   refine ⟨0,l.length - 1,⟨rfl,by rw [Ze (by omega) (by omega)];omega,by omega,by simp⟩,?_⟩
   rw [List.drop_zero,show (l.map Zx).take (l.length - 1)=l.dropLast.map Zx from by rw [List.dropLast_eq_take,List.map_take]]
   dsimp only [go_sem,rA,rM,rS]
   simp only [List.length_map]
   have hwF:ZfD s s.scenes[k] n slabs l=(0,0):=by simp only [ZfD,if_pos hn0]
   have hdF:VU s s.scenes[k] n slabs l=l.dropLast.map fun st=>⟨st.well,st.arrives.lo,0⟩:=by simp only [VU,if_neg hl0,if_pos hn0]
   have hdl:l.dropLast.length≤1000:=by simp;omega
   rw [hwF,hdF]
   generalize l.dropLast=m at hdl ⊢
   refine ZdP (Yv (ZbR [4,5,6,8,11,49,50,51] rfl) (Wf 3 0 3 111 rfl rfl)) (fun q:Nat × Nat × List Draw=>[(51,I q.1)])
    (fun q=>[(3,.cells [.mr 4 q.2.1] 54),(4,.row q.2.1 3 (q.2.2.map Z0) 111)]) (fun q=>q.1≤m.length∧q.2.2=(m.map fun st=>(⟨st.well,st.arrives.lo,0⟩:Draw)).take q.1) (fun q=>m.length - q.1) (0,0,[]) ⟨Nat.zero_le _,by simp⟩ ?_ ?_
   · (refine Zl ?_ ?_ ?_ rfl rfl<;>dsimp only [YC,Zf,Zm,Zg,Zk,Zc,Zq,Zx,Z0,id,go_sem,rA,rM,rS]<;>simp [YC,Zf,Zm,Zg,Zk,Zc,Zq,Zx,Z0,Za,Zi,KFR,KFL,KF,Zd,mtO,nbr])
   rintro ⟨j,v,D⟩ ⟨hj,hD⟩
   simp only at hj hD
   dsimp only [go_sem,rA,rM,rS]
   by_cases hlt:j < m.length
   · refine Zt (by simpa using hlt) ?_
     dsimp only [go_sem,rA,rM,rS]
     refine Zo j hlt rfl ?_
     dsimp only [Zx,go_sem,rA,rM,rS]
     simp only [nbr]
     dsimp only [go_sem,rA,rM,rS]
     refine ⟨(by intro c hc;simp only [List.mem_singleton] at hc;subst hc;rfl),by simp [hD];omega,?_⟩
     dsimp only [go_sem,rA,rM,rS]
     rw [Ze (n:=(j:Int)+1) (by omega) (by omega)]
     refine ⟨(j+1,v+1,D ++ [⟨m[j].well,m[j].arrives.lo,0⟩]),⟨hlt,?_⟩,by simp only;omega,?_⟩
     · simp only;rw [List.take_succ_eq_append_getElem (by simpa using hlt),← hD,List.getElem_map]
     simp only [List.map_append,List.map_cons,List.map_nil]
     (refine Zl ?_ ?_ ?_ rfl rfl<;>dsimp only [YC,Zf,Zm,Zg,Zk,Zc,Zq,Zx,Z0,id,go_sem,rA,rM,rS]<;>simp [YC,Zf,Zm,Zg,Zk,Zc,Zq,Zx,Z0,Za,Zi,KFR,KFL,KF,Zd,mtO,nbr])
   refine Zu (by simp;omega) ?_
   dsimp only [go_sem,rA,rM,rS]
   rw [List.take_of_length_le (by simp;omega)] at hD
   rw [← hD]
   refine ⟨_,rfl,?_⟩
   simp only [WY,if_true]
   refine Vi (Yv (Zdu 0 4 v rfl rfl rfl rfl) ?_) (fun _ _ _ e=>by cases e)
   (refine Zl ?_ ?_ ?_ rfl rfl<;>dsimp only [Z0,id,go_sem,rA,rM,rS]<;>simp [Z0,Za,Zi,KFR,KFL,KF,Zd,mtO,nbr])
 refine Zu (by simpa using hn0) ?_
 dsimp only [go_sem,rA,rM,rS]
 refine Zbh [] (Zdo s k l slabs) rfl rfl rfl ?_ ?_ ?_
 · exact Zd (by simp [YC,Zf,Zm,Zg,Zk,Zc,Zq,Zx,Za,KFL,KF])
 · trivial
 dsimp only [Zwx,YC,go_sem,rA,rM,rS]
 refine gh (Wf 3 0 3 111 rfl rfl) ?_
 dsimp only [go_sem,rA,rM,rS]
 refine ⟨b163,fun rec=>?_⟩
 refine y163 ?_
 dsimp only [c163,r163,go_sem,rA,rM,rS]
 have hgF:goF s s.scenes[k] slabs l=goG s s.scenes[k] slabs l 0 s.camel []:=by simp only [goF,if_neg hl0]
 have hgs:∀ (j n:Nat) (hj:j < l.length) c acc,goG s s.scenes[k] slabs (l.drop j) n c acc=if (Yr s s.scenes[k] (YA s.land l[j].leg s.pace).1 slabs c).2≠0 then ((Yr s s.scenes[k] (YA s.land l[j].leg s.pace).1 slabs c).2,(n:Int),acc)
  else goG s s.scenes[k] slabs (l.drop (j+1)) (n+1) (WX s.breed (Yr s s.scenes[k] (YA s.land l[j].leg s.pace).1 slabs c).1)
   (if l.drop (j+1)=[] then acc else acc ++ [(s.breed.full - (Yr s s.scenes[k] (YA s.land l[j].leg s.pace).1 slabs c).1.water.lo,ZeB s s.scenes[k] l[j])]):=fun j n hj c acc=>by
  rw [List.drop_eq_getElem_cons hj,goG]
 have hwF:ZfD s s.scenes[k] n slabs l=Uh n (goF s s.scenes[k] slabs l):=by simp only [ZfD,if_neg hn0]
 have hdF:VU s s.scenes[k] n slabs l=Vt n l (goF s s.scenes[k] slabs l).2.2:=by simp only [VU,if_neg hl0,if_neg hn0]
 rw [hwF,hdF]
 refine W8 [0,1,2,3,5,13,14,15] rfl (fun q:Nat × Camel × List (Int × Int) × Nat=>[(15,I q.1)])
  (fun q=>[(9,.cells (Cm.camelL q.2.1) 31),(3,.cells [.mr 7 q.2.2.2] 54),(7,.row q.2.2.2 3 ((Vt n l q.2.2.1).map Z0) 111)])
  (fun q=>q.1 < l.length∧goG s s.scenes[k] slabs (l.drop q.1) q.1 q.2.1 q.2.2.1=goF s s.scenes[k] slabs l∧Zv s.breed q.2.1=true∧VH n q.2.2.1 0=none∧q.2.2.1.length=q.1) (fun q=>l.length - q.1) (0,s.camel,[],0)
  ⟨by simp only;omega,hgF.symm,h.beast.2,rfl,rfl⟩ ?_ ?_
 · (refine Zl ?_ ?_ ?_ rfl rfl<;>dsimp only [Cm.camelL,Vt,YC,Zf,Zm,Zg,Zk,Zc,Zq,Zx,Z0,mtL,mtB,mtS,id,go_sem,rA,rM,rS]<;>simp [Cm.camelL,Vt,YC,Zf,Zm,Zg,Zk,Zc,Zq,Zx,Z0,mtL,mtB,mtS,Za,Zi,KFR,KFL,KF,Zd,mtO,nbr])
 rintro ⟨j,c,acc,v⟩ ⟨hlt,hi,hc,hdry,hal⟩
 simp only at hlt hi hc hdry hal
 dsimp only [Cm.camelL,go_sem,rA,rM,rS]
 simp only [List.length_map]
 refine Zt (by simpa using hlt) ?_
 dsimp only [go_sem,rA,rM,rS]
 refine Zo j hlt rfl ?_
 dsimp only [Zx,go_sem,rA,rM,rS]
 refine call (ZpW s h l[j].leg) ?_
 dsimp only [sres,Zc,go_sem,rA,rM,rS]
 have hm:=ZmX s k hk j c (YA s.land l[j].leg s.pace).1 slabs hsl (by omega) (Zev h.lp)
 rw [hgs j j hlt] at hi
 have hbo:=ZaF (x:=s.scenes[k]) (d:=(YA s.land l[j].leg s.pace).1) (slabs:=slabs) h.beast.1 hc
 generalize Yr s s.scenes[k] (YA s.land l[j].leg s.pace).1 slabs c=b at hi hbo hm
 have hwb:=ZbV h.beast.1 hbo
 by_cases hw:b.2=0
 case neg =>
  simp only [U4,if_neg hw] at hm
  refine Xp [] hm rfl rfl rfl ?_ ?_ ?_
  · exact Zd (by simp [YC,Cm.camelL,Zf,Zm,Zg,Zk,Zc,Zq,Zx,Za,KFL,KF])
  · trivial
  rintro _ rfl
  (repeat first | dsimp only [Xc,go_sem,rA,rM,rS] | simp only [nbr])
  rw [if_pos hw] at hi
  rw [← hi]
  refine ⟨_,rfl,?_⟩
  rw [show Uh n (b.2,(j:Int),acc)=(b.2,(j:Int)) from by simp only [Uh,hdry]]
  simp only [WY,if_neg hw]
  (refine YX ?_ ?_ ?_ rfl<;>dsimp only [Xc,id,go_sem,rA,rM,rS]<;>simp [Xc,Za,Zi,KFR,KFL,KF,Zd,mtO,nbr])
 simp only [U4,if_pos hw] at hm
 refine Xp [] hm rfl rfl rfl ?_ ?_ ?_
 · exact Zd (by simp [YC,Cm.camelL,Zf,Zm,Zg,Zk,Zc,Zq,Zx,Za,KFL,KF])
 · trivial
 rintro _ rfl
 (repeat first | dsimp only [camelL,Cm.camelL,go_sem,rA,rM,rS] | simp only [nbr])
 rw [if_neg (by simpa using hw)] at hi
 refine ⟨trivial,trivial,?_⟩
 rw [Ze (n:=(j:Int)+1) (by omega) (by omega)]
 simp only [List.length_map]
 by_cases hlast:j+1=l.length
 · refine Zt (by simp;omega) ?_
   dsimp only [go_sem,rA,rM,rS]
   refine ⟨by trivial,?_⟩
   refine Zt rfl ?_
   dsimp only [go_sem,rA,rM,rS]
   rw [if_pos (List.drop_eq_nil_of_le (by omega)),List.drop_eq_nil_of_le (by omega),goG] at hi
   rw [← hi]
   refine ⟨_,rfl,?_⟩
   rw [show Uh n (0,0,acc)=(0,0) from by simp only [Uh,hdry]]
   simp only [WY,if_true]
   refine Vi (Yv (Zdu 0 7 v rfl rfl rfl rfl) ?_) (fun _ _ _ e=>by cases e)
   (refine Zl ?_ ?_ ?_ rfl rfl<;>dsimp only [Z0,id,go_sem,rA,rM,rS]<;>simp [Z0,Za,Zi,KFR,KFL,KF,Zd,mtO,nbr])
 refine Zu (by simp;omega) ?_
 dsimp only [go_sem,rA,rM,rS]
 rw [if_neg (by intro e;rw [List.drop_eq_nil_iff] at e;omega)] at hi
 refine Zo j hlt rfl ?_
 dsimp only [Zx,go_sem,rA,rM,rS]
 refine Zo j hlt rfl ?_
 dsimp only [Zx,go_sem,rA,rM,rS]
 have hm2:0≤n * (s.breed.full - b.1.water.lo)∧n * (s.breed.full - b.1.water.lo)≤30 * 1000000:=⟨Int.mul_nonneg hn.1 (by omega),Int.mul_le_mul (by omega) (by omega) (by omega) (by decide)⟩
 rw [Ze (n:=s.breed.full - b.1.water.lo) (by omega) (by omega),Ze (n:=n * (s.breed.full - b.1.water.lo)) (by omega) (by omega)]
 refine Zo j hlt rfl ?_
 dsimp only [Zx,go_sem,rA,rM,rS]
 refine call (ZxL s h.small k hk hy l[j]) ?_
 dsimp only [go_sem,rA,rM,rS]
 by_cases hdr:n * (s.breed.full - b.1.water.lo)≤ZeB s s.scenes[k] l[j]
 case neg =>
  rw [show decide (n * (s.breed.full - b.1.water.lo)≤ZeB s s.scenes[k] l[j])=false from decide_eq_false hdr]
  refine Xp [] (ZaL 4 j) rfl rfl rfl ?_ ?_ ?_
  · (repeat first | dsimp only [go_sem,rA,rM,rS] | simp only [nbr])
    try simp [mtL,mtB,mtS]
  · trivial
  rintro _ rfl
  (repeat first | dsimp only [Xc,go_sem,rA,rM,rS] | simp only [nbr])
  refine ⟨_,rfl,?_⟩
  obtain ⟨more,hmore⟩:=Zde (s:=s) (x:=s.scenes[k]) (slabs:=slabs) (l:=l.drop (j+1)) (i:=j+1) (c:=WX s.breed b.1) (acc:=acc ++ [(s.breed.full - b.1.water.lo,ZeB s s.scenes[k] l[j])])
  have hf:Uh n (goF s s.scenes[k] slabs l)=(4,(j:Int)):=by
   rw [← hi];simp only [Uh]
   rw [hmore,List.append_assoc,Zan hdry,hal]
   simp only [List.cons_append,List.nil_append,VH]
   rw [if_pos (by omega)];simp
  rw [hf]
  simp only [WY]
  (refine YX ?_ ?_ ?_ rfl<;>dsimp only [Xc,id,go_sem,rA,rM,rS]<;>simp [Xc,Za,Zi,KFR,KFL,KF,Zd,mtO,nbr])
 rw [show decide (n * (s.breed.full - b.1.water.lo)≤ZeB s s.scenes[k] l[j])=true from decide_eq_true hdr]
 refine Xp [] (VQ 4 j) rfl rfl rfl ?_ ?_ ?_
 · (repeat first | dsimp only [go_sem,rA,rM,rS] | simp only [nbr])
   try simp [mtL,mtB,mtS]
 · trivial
 rintro _ rfl
 (repeat first | dsimp only [go_sem,rA,rM,rS] | simp only [nbr])
 refine ⟨(by intro c hc;simp only [List.mem_singleton] at hc;subst hc;rfl),by simp [Vt];omega,?_⟩
 dsimp only [go_sem,rA,rM,rS]
 refine ⟨by trivial,?_⟩
 refine Zu rfl ?_
 dsimp only [go_sem,rA,rM,rS]
 rw [Ze (n:=(j:Int)+1) (by omega) (by omega)]
 refine ⟨(j+1,WX s.breed b.1,acc ++ [(s.breed.full - b.1.water.lo,ZeB s s.scenes[k] l[j])],v+1),⟨by simp only;omega,hi,Vu h.beast.1 hbo,?_,by simp;omega⟩,by simp only;omega,?_⟩
 · simp only
   rw [Zan hdry]
   simp only [VH]
   rw [if_neg (by omega)]
 simp only
 rw [Zdd hlt hal]
 simp only [List.map_append,List.map_cons,List.map_nil]
 (refine Zl ?_ ?_ ?_ rfl rfl<;>dsimp only [Cm.camelL,WX,Za1,YC,Zf,Zm,Zg,Zk,Zc,Zq,Zx,Z0,mtL,mtB,mtS,id,go_sem,rA,rM,rS]<;>simp [Cm.camelL,WX,Za1,YC,Zf,Zm,Zg,Zk,Zc,Zq,Zx,Z0,mtL,mtB,mtS,Za,Zi,KFR,KFL,KF,Zd,mtO,nbr])
end Go.Proofs.YtiigiflofnjilaaGreat
set_option maxRecDepth 100000
namespace Go.Proofs.YtiigiflofnjilaaGreat
open Go Go.Sx
def ZzS:List Ins:=[
 m1 2 5]
def ZzD:SC:=(.seq (.reg [
 m1 6 2,
 o1 7 (.raw (Go.Op.binOp Go.BinOp.neq 20 (Go.Operand.tmp 6) (Go.Operand.const Go.Value.nilIface) 20) 4)])
 (.cond (.t 7)
 (.seq (.reg [
  m1 9 2,
  o1 10 (.raw (Go.Op.typeAssert (Go.Operand.tmp 9) 20 117 Bool.true) 177),
  m1 8 10,
  o1 11 (.ext (.t 8) 0),
  o1 12 (.ext (.t 8) 1),
  o1 3 (.alloc [.int .u8 0,.int .i64 0] 117),
  ⟨none,.st (.t 3) (.t 11) 2,none,[]⟩,
  m1 4 12])
  (.seq (.seq (.reg [
  m1 13 4,
  o1 14 (.un .not (.t 13))])
  (.cond (.t 14)
  (.reg [
   m1 15 2,
   ⟨none,.raw (Go.Op.panic (Go.Operand.tmp 15)) 0,none,[]⟩])
  .skip))
  (.regd [0,1,2] [
  .hide (.t 0),
  .op (o1 16 (.ld (.t 3) 2 true))] 0 2 [
  ⟨none,.st (.t 0) (.c (.slice none 0 0)) 1,none,[]⟩,
  ⟨none,.st (.t 1) (.t 16) 2,none,[0,1]⟩])))
 .skip))
theorem qw89:RcF Tryz.prog 89 5 ZzS ZzD 17:=⟨⟨Tryz.f89,_,_,_,_,Tryz.func89,rfl,rfl,by kernel_rfl,by kernel_rfl,by kernel_rfl,by kernel_rfl,by decide,rfl⟩,by kernel_rfl⟩
def cw14:SC:=(.seq (.reg [
 o1 2 (.box (.t 0) 0 34),
 o1 3 (.box (.t 1) 0 37),
 o1 4 (.mv (.c (.int .u8 0))),
 o1 5 (.mv (.c (.int .i64 0))),
 o1 6 (.mv (.c (.int .i64 0))),
 o1 7 (.mv (.c (.int .i64 0)))])
 (.seq (.seq (.reg [
 o1 12 (.ld (.t 2) 37 true),
 o1 13 (.ld (.t 3) 3 true),
 o1 14 (.call 48 [.t 12,.t 13]),
 m1 8 14])
 (.seq (.reg [
 m1 15 8,
 o1 16 (.bin .neq (.t 15) (.c (.int .i64 0)))])
 (.cond (.t 16)
 (.seq (.reg [
  m1 17 8,
  o1 4 (.mv (.c (.int .u8 0))),
  o1 5 (.mv (.c (.int .i64 0))),
  o1 6 (.mv (.c (.int .i64 0))),
  m1 7 17])
  .ret)
 .skip)))
 (.seq (.seq (.reg [
 o1 18 (.addo (.t 2) 36),
 o1 19 (.ld (.t 18) 1 false),
 o1 20 (.len (.t 19)),
 o1 21 (.mv (.c (.int .i64 0)))])
 (.block 0 (.loop (.seq (.reg [
  o1 22 (.bin .lss (.t 21) (.t 20))])
  (.seq (.cond (.t 22)
  .skip
  (.exit 0))
  (.seq (.block 1 (.seq (.reg [
   m1 23 21,
   m1 9 23])
   (.seq (.reg [
   o1 25 (.ld (.t 2) 37 true),
   m1 26 9,
   o1 27 (.build [.slice none 0 0,.slice none 0 0,.int .i64 0,.int .i64 0,.int .i64 0,.int .i64 0,.int .i64 0,.int .i64 0,.int .i64 0,.int .i64 0,.int .i64 0,.int .i64 0,.int .i64 0,.int .i64 0,.int .i64 0,.int .i64 0,.int .i64 0,.int .i64 0,.int .i64 0,.int .i64 0,.int .i64 0,.int .i64 0,.int .i64 0,.int .i64 0,.int .i64 0,.int .i64 0,.int .i64 0,.bool false,.int .i64 0,.int .i64 0,.int .i64 0,.int .i64 0,.int .i64 0,.int .i64 0,.int .i64 0,.int .i64 0,.slice none 0 0,.int .i64 0] [(0,37,.t 25),(37,1,.t 26)]),
   o1 28 (.ld (.t 3) 3 true),
   o1 29 (.callm 49 [.t 27,.t 28]),
   m1 24 29,
   o1 30 (.ext (.t 24) 0),
   o1 31 (.ext (.t 24) 1),
   o1 11 (.alloc [.int .u8 0,.int .i64 0] 117),
   m1 10 30,
   ⟨none,.st (.t 11) (.t 31) 2,none,[]⟩])
   (.seq (.reg [
   o1 32 (.addo (.t 11) 0),
   o1 33 (.ld (.t 32) 1 false),
   o1 34 (.bin .neq (.t 33) (.c (.int .u8 0)))])
   (.cond (.t 34)
   (.seq (.regd [0,1,2,3,4,5,6,7,8] [
    .op (o1 35 (.addo (.t 11) 0)),
    .op ⟨some 36,.ld (.t 35) 1 false,none,[0]⟩,
    .op (m1 37 9),
    .op (o1 38 (.addo (.t 11) 1)),
    .op ⟨some 39,.ld (.t 38) 1 false,none,[3]⟩,
    .op ⟨some 4,.mv (.t 36),none,[0,1]⟩,
    .op ⟨some 5,.mv (.t 37),none,[0,1,2,5]⟩,
    .op ⟨some 6,.mv (.t 39),none,[0,1,2,3,4,5,6]⟩,
    .op ⟨some 7,.mv (.c (.int .i64 0)),none,[0,1,2,3,4,5,6,7]⟩] 0 0 [
])
 .ret)
 .skip)))))
 (.reg [
 o1 40 (.bin .add (.t 21) (.c (.int .i64 1))),
 m1 21 40])))))))
 (.seq (.reg [
 o1 4 (.mv (.c (.int .u8 0))),
 o1 5 (.mv (.c (.int .i64 0))),
 o1 6 (.mv (.c (.int .i64 0))),
 o1 7 (.mv (.c (.int .i64 0)))])
 .ret))))
def rw14:List RV:=[.tmp 4,.tmp 5,.tmp 6,.tmp 7]
theorem nw14:Tryz.f14.ntmps=41:=by kernel_rfl
theorem bw14:Zp Tryz.prog 14=true:=by kernel_rfl
theorem Zrm:Zy Tryz.prog cw14 ((Tryz.f14.body).getD .skip)=true:=by kernel_rfl
theorem Zsd:ZA Tryz.prog rw14 Tryz.f14.results.toList=true:=by kernel_rfl
theorem tw14 {args:List SV} {res:SV} (ka:KFL args) (kr:KF res) (h:sx Tryz.prog Y0 0 cw14 (st0 args 41) (ZQ rw14 res)) (hA:Nat.ble args.length 41=true:=by rfl):Ct Tryz.prog 14 args res:=Zj Tryz.func14 rfl bw14 Zrm Zsd nw14 (Nat.le_of_ble_eq_true hA) ka kr h
def cw22:SC:=(.seq (.reg [
 o1 3 (.box (.t 0) 0 34),
 o1 4 (.box (.t 1) 0 37),
 o1 6 (.mv (.c (.slice none 0 0))),
 o1 7 (.mv (.c (.int .i64 0)))])
 (.seq (.reg [
 o1 15 (.ld (.t 3) 37 true),
 o1 16 (.ld (.t 4) 3 true),
 o1 17 (.call 14 [.t 15,.t 16]),
 m1 14 17,
 o1 18 (.ext (.t 14) 0),
 o1 19 (.ext (.t 14) 1),
 o1 20 (.ext (.t 14) 2),
 o1 21 (.ext (.t 14) 3),
 m1 8 18,
 m1 9 19,
 m1 10 20,
 m1 11 21])
 (.seq (.block 0 (.seq (.reg [
  m1 23 11,
  o1 24 (.bin .neq (.t 23) (.c (.int .i64 0))),
  m1 22 24])
  (.cond (.t 22)
  (.seq (.reg [
   m1 25 11,
   o1 6 (.mv (.c (.slice none 0 0))),
   m1 7 25])
   .ret)
  (.seq (.reg [
   m1 27 8,
   o1 28 (.bin .neq (.t 27) (.c (.int .u8 0))),
   m1 29 28,
   ⟨some 30,.addo (.t 3) 36,some (29,false),[]⟩,
   ⟨some 31,.ld (.t 30) 1 false,some (29,false),[]⟩,
   ⟨some 32,.len (.t 31),some (29,false),[]⟩,
   ⟨some 33,.bin .sub (.t 32) (.c (.int .i64 1)),some (29,false),[]⟩,
   ⟨some 34,.mv (.t 2),some (29,false),[]⟩,
   ⟨some 35,.bsl 1 3 [.t 34],some (29,false),[]⟩,
   ⟨some 36,.call 53 [.c (.int .i64 0),.t 33,.t 35],some (29,false),[]⟩,
   ⟨some 37,.un .not (.t 36),some (29,false),[]⟩,
   o1 38 (.pick (.t 29) (.c (.bool true)) (.t 37)),
   m1 26 38])
   (.cond (.t 26)
   (.seq (.reg [
    o1 6 (.mv (.c (.slice none 0 0))),
    o1 7 (.mv (.c (.int .i64 92)))])
    .ret)
   .skip)))))
 (.seq (.reg [
 o1 40 (.ld (.t 3) 37 true),
 m1 41 2,
 o1 42 (.build [.slice none 0 0,.slice none 0 0,.int .i64 0,.int .i64 0,.int .i64 0,.int .i64 0,.int .i64 0,.int .i64 0,.int .i64 0,.int .i64 0,.int .i64 0,.int .i64 0,.int .i64 0,.int .i64 0,.int .i64 0,.int .i64 0,.int .i64 0,.int .i64 0,.int .i64 0,.int .i64 0,.int .i64 0,.int .i64 0,.int .i64 0,.int .i64 0,.int .i64 0,.int .i64 0,.int .i64 0,.bool false,.int .i64 0,.int .i64 0,.int .i64 0,.int .i64 0,.int .i64 0,.int .i64 0,.int .i64 0,.int .i64 0,.slice none 0 0,.int .i64 0] [(0,37,.t 40),(37,1,.t 41)]),
 o1 43 (.ld (.t 4) 3 true),
 o1 44 (.callm 49 [.t 42,.t 43]),
 m1 39 44,
 o1 45 (.ext (.t 39) 0),
 o1 46 (.ext (.t 39) 1),
 o1 13 (.alloc [.int .u8 0,.int .i64 0] 117),
 m1 12 45,
 ⟨none,.st (.t 13) (.t 46) 2,none,[]⟩])
 (.seq (.reg [
 m1 47 12,
 m1 6 47,
 o1 7 (.mv (.c (.int .i64 0)))])
 .ret)))))
def rw22:List RV:=[.tmp 6,.tmp 7]
def cw66:SC:=(.seq (.reg [
 o1 3 (.box (.t 0) 0 34),
 o1 6 (.mv (.c (.int .i64 0)))])
 (.seq (.reg [
 o1 14 (.addo (.t 3) 28),
 o1 15 (.ld (.t 14) 1 false),
 m1 7 15])
 (.seq (.seq (.reg [
 o1 16 (.addo (.t 3) 36),
 o1 17 (.ld (.t 16) 1 false),
 o1 18 (.len (.t 17)),
 o1 19 (.mv (.c (.int .i64 0)))])
 (.block 0 (.loop (.seq (.reg [
  o1 20 (.bin .lss (.t 19) (.t 18))])
  (.seq (.cond (.t 20)
  .skip
  (.exit 0))
  (.seq (.block 1 (.seq (.reg [
   m1 21 19,
   m1 8 21])
   (.seq (.reg [
   o1 22 (.ld (.t 3) 37 true),
   m1 23 8,
   o1 24 (.build [.slice none 0 0,.slice none 0 0,.int .i64 0,.int .i64 0,.int .i64 0,.int .i64 0,.int .i64 0,.int .i64 0,.int .i64 0,.int .i64 0,.int .i64 0,.int .i64 0,.int .i64 0,.int .i64 0,.int .i64 0,.int .i64 0,.int .i64 0,.int .i64 0,.int .i64 0,.int .i64 0,.int .i64 0,.int .i64 0,.int .i64 0,.int .i64 0,.int .i64 0,.int .i64 0,.int .i64 0,.bool false,.int .i64 0,.int .i64 0,.int .i64 0,.int .i64 0,.int .i64 0,.int .i64 0,.int .i64 0,.int .i64 0,.slice none 0 0,.int .i64 0] [(0,37,.t 22),(37,1,.t 23)]),
   o1 9 (.alloc [.slice none 0 0,.slice none 0 0,.int .i64 0,.int .i64 0,.int .i64 0,.int .i64 0,.int .i64 0,.int .i64 0,.int .i64 0,.int .i64 0,.int .i64 0,.int .i64 0,.int .i64 0,.int .i64 0,.int .i64 0,.int .i64 0,.int .i64 0,.int .i64 0,.int .i64 0,.int .i64 0,.int .i64 0,.int .i64 0,.int .i64 0,.int .i64 0,.int .i64 0,.int .i64 0,.int .i64 0,.bool false,.int .i64 0,.int .i64 0,.int .i64 0,.int .i64 0,.int .i64 0,.int .i64 0,.int .i64 0,.int .i64 0,.slice none 0 0,.int .i64 0] 120),
   ⟨none,.st (.t 9) (.t 24) 38,none,[]⟩])
   (.seq (.reg [
   o1 26 (.ld (.t 9) 38 true),
   m1 27 1,
   m1 28 2,
   o1 29 (.build [.slice none 0 0,.int .i64 0,.int .i64 0] [(0,1,.t 27),(1,1,.c (.int .i64 1)),(2,1,.t 28)]),
   o1 30 (.callm 49 [.t 26,.t 29]),
   m1 25 30,
   o1 31 (.ext (.t 25) 0),
   o1 32 (.ext (.t 25) 1),
   o1 11 (.alloc [.int .u8 0,.int .i64 0] 117),
   m1 10 31,
   ⟨none,.st (.t 11) (.t 32) 2,none,[]⟩])
   (.seq (.seq (.reg [
   o1 33 (.addo (.t 11) 0),
   o1 34 (.ld (.t 33) 1 false),
   o1 35 (.bin .neq (.t 34) (.c (.int .u8 0)))])
   (.cond (.t 35)
   (.seq (.reg [
    o1 6 (.mv (.c (.int .i64 0)))])
    .ret)
   .skip))
   (.seq (.reg [
   m1 36 10,
   o1 37 (.len (.t 36)),
   o1 38 (.mv (.c (.int .i64 0)))])
   (.block 2 (.loop (.seq (.reg [
    o1 39 (.bin .lss (.t 38) (.t 37))])
    (.seq (.cond (.t 39)
    .skip
    (.exit 2))
    (.seq (.block 3 (.seq (.reg [
     o1 40 (.ixs (.t 36) (.t 38) 3),
     o1 41 (.ld (.t 40) 3 true),
     o1 13 (.alloc [.int .i64 0,.int .i64 0,.int .i64 0] 111),
     ⟨none,.st (.t 13) (.t 41) 3,none,[]⟩])
     (.seq (.reg [
     o1 42 (.addo (.t 13) 2),
     o1 43 (.ld (.t 42) 1 false),
     o1 44 (.bin .gtr (.t 43) (.c (.int .i64 0)))])
     (.cond (.t 44)
     (.regd [0,1,2,3,4,5,6,7,8,9,10,11,12,13] [
      .op (m1 45 7),
      .op (o1 46 (.ld (.t 9) 38 true)),
      .op (o1 47 (.addo (.t 13) 0)),
      .op ⟨some 48,.ld (.t 47) 1 false,none,[2]⟩,
      .op (o1 49 (.addo (.t 13) 1)),
      .op ⟨some 50,.ld (.t 49) 1 false,none,[4]⟩,
      .op ⟨some 51,.build [.int .i64 0,.int .i64 0] [(0,1,.t 50)],none,[5]⟩,
      .op ⟨some 52,.build [.int .i64 0,.int .i64 0,.int .i64 0,.int .i64 0,.int .i64 0,.int .i64 0] [(1,1,.t 48),(4,2,.t 51)],none,[3,6]⟩,
      .op ⟨some 53,.call 113 [.t 46,.t 52],none,[1,7]⟩,
      .op (o1 54 (.addo (.t 13) 2)),
      .op ⟨some 55,.ld (.t 54) 1 false,none,[9]⟩,
      .op ⟨some 56,.div .quo (.t 53) (.t 55),none,[8,10]⟩,
      .op ⟨some 57,.mm false [.t 45,.t 56],none,[0,11]⟩] 0 0 [
      ⟨some 7,.mv (.t 57),none,[0,1,2,3,4,5,6,7,8,9,10,11,12]⟩])
     .skip))))
    (.reg [
    o1 58 (.bin .add (.t 38) (.c (.int .i64 1))),
    m1 38 58]))))))))))))
  (.reg [
  o1 59 (.bin .add (.t 19) (.c (.int .i64 1))),
  m1 19 59])))))))
 (.seq (.reg [
 m1 60 7,
 m1 6 60])
 .ret))))
def rw66:List RV:=[.tmp 6]
end Go.Proofs.YtiigiflofnjilaaGreat
set_option maxRecDepth 100000
set_option maxHeartbeats 4000000
namespace Go.Sx
open Go Go.RowKit
section
variable {P:Program} {ty T T':TypeId} {ix jx:Operand} {σ : St} {r:KT} {K:RK} {d:Option Nat} {s:SV}
theorem Zeu {pt:TypeId} (hu:P.underlying T'=some (.interface (P.methodsAt T'))) (hi:Zad σ ix = .ifc T s) (h:putK d (.v (.bool true)) none σ r K):RAW P d (.binOp .neq T' ix (.const .nilIface) pt) ty σ r K:=by
 intro o C E a w next Q e1 e2 e3 hS hn hq
 have hiv:=WW hS hi (fun _ _ _=>by simp)
 simp only [R] at hiv
 obtain ⟨x,hx,hR⟩:=hiv
 have hb:=run_neq_held_nil (P:=P) w T' T x hu
 have hy:(execOp a.eval o).run P w = .ok (.value (.bool true)) w:=by
  obtain ⟨dst',op',ty',pos,after,guard⟩:=o
  simp only at e2;subst e2
  have h0:a.eval (.const .nilIface) = .nilIface:=rfl
  have hg:(eqGuard .neq T' ix (.const .nilIface) (.iface T x) .nilIface).run P w = .ok () w:=by
   simp [eqGuard,Sem.run_pure]
  simp only [execOp,Sem.run_bind,hx,h0,hg,hb,Result.andThen_ok,Sem.run_pure]
 refine ZC hy (by simp) ?_
 show next (a.put o.dst _) _
 rw [e1]
 exact X9 h hS (by simp only [R]) hn
theorem ZiU {pt:TypeId} (hu:P.underlying T'=some (.interface (P.methodsAt T'))) (hi:Zad σ ix = .v .nilIface) (h:putK d (.v (.bool false)) none σ r K):RAW P d (.binOp .neq T' ix (.const .nilIface) pt) ty σ r K:=by
 intro o C E a w next Q e1 e2 e3 hS hn hq
 have hx:=WW hS hi (fun _ _ _=>by simp)
 simp only [R] at hx
 have hb:=run_neq_nil_nil (P:=P) w T' hu
 have hy:(execOp a.eval o).run P w = .ok (.value (.bool false)) w:=by
  obtain ⟨dst',op',ty',pos,after,guard⟩:=o
  simp only at e2;subst e2
  have h0:a.eval (.const .nilIface) = .nilIface:=rfl
  have hg:(eqGuard .neq T' ix (.const .nilIface) .nilIface .nilIface).run P w = .ok () w:=by
   simp [eqGuard,Sem.run_pure]
  simp only [execOp,Sem.run_bind,hx,h0,hg,hb,Result.andThen_ok,Sem.run_pure]
 refine ZC hy (by simp) ?_
 show next (a.put o.dst _) _
 rw [e1]
 exact X9 h hS (by simp only [R]) hn
end
end Go.Sx
namespace Go.Proofs.YtiigiflofnjilaaGreat
open Go Go.Sx Go.Azalai
theorem ZwJ {s:Season} {x:Scene} {slabs:Int}:∀ {l:List Stop} {i:Nat} {c:Camel} {acc:List (Int × Int)},(goG s x slabs l i c acc).1=0→((goG s x slabs l i c acc).1,(goG s x slabs l i c acc).2.1)=(0,0)
 | [],_,_,acc,_=>by simp [goG]
 | st :: r,i,c,acc,h=>by
  simp only [goG] at h ⊢
  split
  · rename_i hb;rw [if_pos hb] at h;exact absurd h hb
  · rename_i hb;rw [if_neg hb] at h
    exact ZwJ h
theorem goF_z {s:Season} {x:Scene} {slabs:Int} {l:List Stop} (h:(goF s x slabs l).1=0):((goF s x slabs l).1,(goF s x slabs l).2.1)=(0,0):=by
 unfold goF at h ⊢
 split
 · rename_i hb;rw [if_pos hb] at h;simp only at h ⊢;rw [h]
 · rename_i hb;rw [if_neg hb] at h;exact ZwJ h
theorem u20:Tryz.prog.underlying 20=some (.interface (Tryz.prog.methodsAt 20)):=by kernel_rfl
theorem Zcd {s:Season} {p:Plan} {x:Scene}:XH s p x=if Uy s p.legs=false then (1,0) else ZfD s x p.animals p.slabs (ZY s p.legs):=by
 unfold XH ZfD;rfl
def Zir (s:Season) (p:Plan) (x:Scene):List Draw:=if (XH s p x).1=0 then VU s x p.animals p.slabs (ZY s p.legs) else []
def ZvU (w:Int × Int) (ds:List Draw):Ot:=⟨false,.tup [.sl false 3 (ds.map Z0),.agg [U8 w.1,I w.2]],[],0⟩
theorem Zxu (s:Season) (h:OkS s) (k:Nat) (hk:k < s.scenes.length) (p:Plan) (hp:VY s p=true) (hg:p.legs.length≤1000) :
 CtM Tryz.prog 49 [] 0 [.agg (YC s k),.agg (Y3 p)] (fun o=>o=ZvU (XH s p s.scenes[k]) (Zir s p s.scenes[k])):=by
 have hnum:=h.num
 obtain ⟨_,hpl⟩:=ZcB hp
 refine m49 (by simp [hpb]) (fun o ho=>by subst ho;simp [ZvU,KX,KXL,KXP,Za,KFL,KF,Z0]) ?_
 dsimp only [c49,r49,YC,Y3,go_sem,rA,rM,rS]
 refine call (Zmc s h p.legs hg _) ?_
 dsimp only [go_sem,rA,rM,rS]
 by_cases hs:Uy s p.legs=true
 case neg =>
  rw [Bool.eq_false_iff.2 hs]
  refine Xp [] (ZaL 1 0) rfl rfl rfl ?_ ?_ ?_
  · (repeat first | dsimp only [go_sem,rA,rM,rS] | simp only [nbr])
    try simp [mtL,mtB,mtS]
  · trivial
  rintro _ rfl
  (repeat first | dsimp only [Xc,go_sem,rA,rM,rS] | simp only [nbr])
  refine ⟨_,_,_,_,qw89,?_⟩
  dsimp only [ZzS,ZzD,go_sem,rA,rM,rS]
  refine ⟨rfl,?_⟩
  refine Zeu u20 rfl ?_
  dsimp only [go_sem,rA,rM,rS]
  refine Zt rfl ?_
  dsimp only [go_sem,rA,rM,rS]
  refine UW ZbI rfl ?_
  dsimp only [go_sem,rA,rM,rS]
  refine Zu rfl ?_
  dsimp only [go_sem,rA,rM,rS]
  refine ⟨_,rfl,?_⟩
  have hF:XH s p s.scenes[k]=(1,0):=by rw [Zcd,if_pos (Bool.eq_false_iff.2 hs)]
  rw [ZvU,Zir,hF]
  refine Vi (Yv (Zcy (s':=.tup [.sl false 3 [],.agg [U8 1,I 0]]) 0 rfl (UV (ZT YZ Uj)) (fun _ _ _ h=>by cases h)) ?_) (fun _ _ _ e=>by cases e)
  (refine Zl ?_ ?_ ?_ rfl rfl<;>dsimp only [id,go_sem,rA,rM,rS]<;>simp [Za,Zi,KFR,KFL,KF,Zd,mtO,nbr])
 rw [hs]
 refine Xp [] (VQ 1 0) rfl rfl rfl ?_ ?_ ?_
 · (repeat first | dsimp only [go_sem,rA,rM,rS] | simp only [nbr])
   try simp [mtL,mtB,mtS]
 · trivial
 rintro _ rfl
 (repeat first | dsimp only [go_sem,rA,rM,rS] | simp only [nbr])
 have hF:XH s p s.scenes[k]=ZfD s s.scenes[k] p.animals p.slabs (ZY s p.legs):=by rw [Zcd,if_neg (by simp [hs])]
 have hd:=ZnI s h k hk (ZY s p.legs) (Nat.le_trans Vv hg) p.animals p.slabs ⟨hpl.1,hpl.2.1⟩ hpl.2.2
 rw [← hF] at hd
 have hT:Zir s p s.scenes[k]=if (XH s p s.scenes[k]).1=0 then VU s s.scenes[k] p.animals p.slabs (ZY s p.legs) else []:=rfl
 rw [hT]
 have hz:(XH s p s.scenes[k]).1=0→XH s p s.scenes[k]=(0,0):=fun h0=>by
  rw [hF] at h0 ⊢
  revert h0
  unfold ZfD
  split
  · intro _;rfl
  · unfold Uh
    split
    · intro h1;simp at h1
    · intro h1;exact goF_z h1
 generalize XH s p s.scenes[k]=w at hd hz ⊢
 generalize VU s s.scenes[k] p.animals p.slabs (ZY s p.legs)=D at hd ⊢
 by_cases hw:w.1=0
 · simp only [WY,if_pos hw] at hd
   refine Xp [] hd rfl rfl rfl ?_ ?_ ?_
   · exact Zd (by simp [YC,Zf,Zm,Zg,Zk,Zc,Zq,Zx,Za,KFL,KF])
   · trivial
   rintro _ rfl
   (repeat first | dsimp only [go_sem,rA,rM,rS] | simp only [nbr])
   refine ⟨_,_,_,_,qw89,?_⟩
   dsimp only [ZzS,ZzD,go_sem,rA,rM,rS]
   refine ⟨rfl,?_⟩
   refine ZiU u20 rfl ?_
   dsimp only [go_sem,rA,rM,rS]
   refine Zu rfl ?_
   dsimp only [go_sem,rA,rM,rS]
   refine ⟨_,rfl,?_⟩
   rw [hz hw]
   simp only [ZvU,if_true]
   (refine YX ?_ ?_ ?_ rfl<;>dsimp only [Z0,id,go_sem,rA,rM,rS]<;>simp [Z0,Za,Zi,KFR,KFL,KF,Zd,mtO,nbr])
 simp only [WY,if_neg hw] at hd
 refine Xp [] hd rfl rfl rfl ?_ ?_ ?_
 · exact Zd (by simp [YC,Zf,Zm,Zg,Zk,Zc,Zq,Zx,Za,KFL,KF])
 · trivial
 rintro _ rfl
 (repeat first | dsimp only [Xc,go_sem,rA,rM,rS] | simp only [nbr])
 refine ⟨_,_,_,_,qw89,?_⟩
 dsimp only [ZzS,ZzD,go_sem,rA,rM,rS]
 refine ⟨rfl,?_⟩
 refine Zeu u20 rfl ?_
 dsimp only [go_sem,rA,rM,rS]
 refine Zt rfl ?_
 dsimp only [go_sem,rA,rM,rS]
 refine UW ZbI rfl ?_
 dsimp only [go_sem,rA,rM,rS]
 refine Zu rfl ?_
 dsimp only [go_sem,rA,rM,rS]
 refine ⟨_,rfl,?_⟩
 rw [ZvU,if_neg hw]
 refine Vi (Yv (Zcy (s':=.tup [.sl false 3 [],.agg [U8 w.1,I w.2]]) 0 rfl (UV (ZT YZ Uj)) (fun _ _ _ h=>by cases h)) ?_) (fun _ _ _ e=>by cases e)
 (refine Zl ?_ ?_ ?_ rfl rfl<;>dsimp only [id,go_sem,rA,rM,rS]<;>simp [Za,Zi,KFR,KFL,KF,Zd,mtO,nbr])
end Go.Proofs.YtiigiflofnjilaaGreat
set_option maxRecDepth 100000
set_option maxHeartbeats 4000000
namespace Go.Proofs.YtiigiflofnjilaaGreat
open Go Go.Sx Go.Azalai
theorem ZlR {a b:Span} (h1:a.lo=b.lo) (h2:a.hi=b.hi):a=b:=by
 obtain ⟨_,_⟩:=a
 obtain ⟨_,_⟩:=b
 simp_all
theorem Zgw (a b:List Span) (ha:a.length≤1000000) (hb:b.length≤1000000) (c c':Bool):Ct Tryz.prog 56 [.sl c 2 (a.map Zc),.sl c' 2 (b.map Zc)] (B (decide (a=b))):=by
 refine t56 (by simp [Za,Zc,KFL,KF]) (by simp [KFL,KF]) ?_
 dsimp only [c56,r56,go_sem,rA,rM,rS]
 simp only [List.length_map]
 by_cases hl:a.length=b.length
 case neg =>
  refine Zt (by simp;omega) ?_
  dsimp only [go_sem,rA,rM,rS]
  have:a≠b:=fun e=>hl (by rw [e])
  simp [this]
 refine Zu (by simp;omega) ?_
 dsimp only [go_sem,rA,rM,rS]
 refine Yx (fun j:Nat=>[(5,I j)]) (fun _=>[]) (fun j=>j≤a.length∧a.take j=b.take j) (fun j=>a.length - j) 0 ⟨Nat.zero_le _,rfl⟩ ?_ ?_
 · (refine Zl ?_ ?_ ?_ rfl rfl<;>dsimp only [Zc,id,go_sem,rA,rM,rS]<;>simp [Zc,Za,Zi,KFR,KFL,KF,Zd,mtO,nbr])
 rintro j ⟨hj,ht⟩
 dsimp only [go_sem,rA,rM,rS]
 simp only [List.length_map]
 by_cases hlt:j < a.length
 · refine Zt (by simpa using hlt) ?_
   dsimp only [go_sem,rA,rM,rS]
   have hltb:j < b.length:=by omega
   refine Zo j hlt rfl ?_
   dsimp only [go_sem,rA,rM,rS]
   refine Zo j hltb rfl ?_
   dsimp only [Zc,go_sem,rA,rM,rS]
   by_cases he:a[j]=b[j]
   · refine Zu (by rw [he];simp [ngB]) ?_
     dsimp only [go_sem,rA,rM,rS]
     rw [Ze (n:=(j:Int)+1) (by omega) (by omega)]
     refine ⟨j+1,⟨hlt,?_⟩,by omega,?_⟩
     · rw [List.take_succ_eq_append_getElem hlt,List.take_succ_eq_append_getElem hltb,ht,he]
     (refine Zl ?_ ?_ ?_ rfl rfl<;>dsimp only [Zc,id,go_sem,rA,rM,rS]<;>simp [Zc,Za,Zi,KFR,KFL,KF,Zd,mtO,nbr])
   · refine Zt ?_ ?_
     · apply Decidable.byContradiction;intro hq;simp at hq;exact he (ZlR hq.1 hq.2)
     dsimp only [go_sem,rA,rM,rS]
     have:a≠b:=fun e=>he (by subst e;rfl)
     simp [this]
 refine Zu (by simp;omega) ?_
 dsimp only [go_sem,rA,rM,rS]
 have:a=b:=by
  rw [List.take_of_length_le (by omega),List.take_of_length_le (by omega)] at ht
  exact ht
 simp [this]
theorem Zcs (a b:List Int) (ha:a.length≤1000000) (hb:b.length≤1000000) (c c':Bool):Ct Tryz.prog 57 [.sl c 1 (a.map Zq),.sl c' 1 (b.map Zq)] (B (decide (a=b))):=by
 refine t57 (by simp [Za,Zq,KFL,KF]) (by simp [KFL,KF]) ?_
 dsimp only [c57,r57,go_sem,rA,rM,rS]
 simp only [List.length_map]
 by_cases hl:a.length=b.length
 case neg =>
  refine Zt (by simp;omega) ?_
  dsimp only [go_sem,rA,rM,rS]
  have:a≠b:=fun e=>hl (by rw [e])
  simp [this]
 refine Zu (by simp;omega) ?_
 dsimp only [go_sem,rA,rM,rS]
 refine Yx (fun j:Nat=>[(5,I j)]) (fun _=>[]) (fun j=>j≤a.length∧a.take j=b.take j) (fun j=>a.length - j) 0 ⟨Nat.zero_le _,rfl⟩ ?_ ?_
 · (refine Zl ?_ ?_ ?_ rfl rfl<;>dsimp only [Zq,id,go_sem,rA,rM,rS]<;>simp [Zq,Za,Zi,KFR,KFL,KF,Zd,mtO,nbr])
 rintro j ⟨hj,ht⟩
 dsimp only [go_sem,rA,rM,rS]
 simp only [List.length_map]
 by_cases hlt:j < a.length
 · refine Zt (by simpa using hlt) ?_
   dsimp only [go_sem,rA,rM,rS]
   have hltb:j < b.length:=by omega
   refine Zo j hlt rfl ?_
   dsimp only [go_sem,rA,rM,rS]
   refine Zo j hltb rfl ?_
   dsimp only [Zq,go_sem,rA,rM,rS]
   by_cases he:a[j]=b[j]
   · refine Zu (by rw [he];simp [ngB]) ?_
     dsimp only [go_sem,rA,rM,rS]
     rw [Ze (n:=(j:Int)+1) (by omega) (by omega)]
     refine ⟨j+1,⟨hlt,?_⟩,by omega,?_⟩
     · rw [List.take_succ_eq_append_getElem hlt,List.take_succ_eq_append_getElem hltb,ht,he]
     (refine Zl ?_ ?_ ?_ rfl rfl<;>dsimp only [Zq,id,go_sem,rA,rM,rS]<;>simp [Zq,Za,Zi,KFR,KFL,KF,Zd,mtO,nbr])
   · refine Zt ?_ ?_
     · simpa using he
     dsimp only [go_sem,rA,rM,rS]
     have:a≠b:=fun e=>he (by subst e;rfl)
     simp [this]
 refine Zu (by simp;omega) ?_
 dsimp only [go_sem,rA,rM,rS]
 have:a=b:=by
  rw [List.take_of_length_le (by omega),List.take_of_length_le (by omega)] at ht
  exact ht
 simp [this]
end Go.Proofs.YtiigiflofnjilaaGreat
set_option maxRecDepth 100000
set_option maxHeartbeats 4000000
namespace Go.Proofs.YtiigiflofnjilaaGreat
open Go Go.Sx Go.Azalai
theorem ZoE (s:Season) (hs:SmallS s) (p:Plan) (hg:p.legs.length≤1000):Ct Tryz.prog 14 [.agg (Zr s),.agg (Y3 p)] (ZaW (WZ s p)):=by
 refine tw14 (by simp [Zr,Y3,Zk,Zf,Zm,Zg,Zc,Zq,Zx,Za,KFL,KF]) (by simp [ZaW,KFL,KF]) ?_
 dsimp only [cw14,rw14,Zr,Y3,go_sem,rA,rM,rS]
 refine call (Zmd s hs p hg) ?_
 dsimp only [go_sem,rA,rM,rS]
 by_cases ho:ZR s=true
 case neg =>
  refine Zt (by simp [ho]) ?_
  dsimp only [go_sem,rA,rM,rS]
  simp [ZaW,WZ,ho]
 by_cases hp:VY s p=true
 case neg =>
  refine Zt (by simp [ho,hp]) ?_
  dsimp only [go_sem,rA,rM,rS]
  simp [ZaW,WZ,ho,hp]
 refine Zu (by simp [ho,hp]) ?_
 dsimp only [go_sem,rA,rM,rS]
 simp only [List.length_map]
 have h:OkS s:=⟨hs,ho⟩
 have hF:WZ s p=Wm s p s.scenes 0:=by simp only [WZ,ho,hp,Bool.true_eq_false,if_false]
 rw [hF]
 have hsc:=hs.sc
 refine W8 [2,3,20,21] rfl (fun q:Nat=>[(21,I q)]) (fun _=>[]) (fun q=>q≤s.scenes.length∧Wm s p (s.scenes.drop q) q=Wm s p s.scenes 0) (fun q=>s.scenes.length - q) 0 ⟨Nat.zero_le _,rfl⟩ ?_ ?_
 · (refine Zl ?_ ?_ ?_ rfl rfl<;>dsimp only [Zf,Zm,Zg,Zk,Zc,Zq,Zx,id,go_sem,rA,rM,rS]<;>simp [Zf,Zm,Zg,Zk,Zc,Zq,Zx,Za,Zi,KFR,KFL,KF,Zd,mtO,nbr])
 rintro j ⟨hj,hi⟩
 dsimp only [go_sem,rA,rM,rS]
 by_cases hlt:j < s.scenes.length
 case neg =>
  refine Zu (by simp;omega) ?_
  dsimp only [go_sem,rA,rM,rS]
  rw [List.drop_eq_nil_of_le (by omega),Wm] at hi
  rw [← hi];rfl
 refine Zt (by simpa using hlt) ?_
 dsimp only [go_sem,rA,rM,rS]
 have ht:=Zxu s h j hlt p hp hg
 rw [List.drop_eq_getElem_cons hlt,Wm] at hi
 generalize XH s p s.scenes[j]=w at ht hi
 refine Xp [] ht rfl rfl rfl ?_ ?_ ?_
 · exact Zd (by simp [YC,Y3,Zf,Zm,Zg,Zk,Zc,Zq,Zx,Za,KFL,KF])
 · trivial
 rintro _ rfl
 (repeat first | dsimp only [ZvU,go_sem,rA,rM,rS] | simp only [nbr])
 by_cases hf:w.1=0
 case neg =>
  refine Zt (by simpa using hf) ?_
  dsimp only [go_sem,rA,rM,rS]
  rw [if_pos hf] at hi
  rw [← hi];rfl
 refine Zu (by simpa using hf) ?_
 dsimp only [go_sem,rA,rM,rS]
 rw [if_neg (by simpa using hf)] at hi
 rw [Ze (n:=(j:Int)+1) (by omega) (by omega)]
 refine ⟨j+1,⟨hlt,hi⟩,by omega,?_⟩
 (refine Zl ?_ ?_ ?_ rfl rfl<;>dsimp only [Zf,Zm,Zg,Zk,Zc,Zq,Zx,id,go_sem,rA,rM,rS]<;>simp [Zf,Zm,Zg,Zk,Zc,Zq,Zx,Za,Zi,KFR,KFL,KF,Zd,mtO,nbr])
theorem ZlQ (s:Season) (hs:SmallS s):Ct Tryz.prog 13 [.agg (Zr s)] (.agg (Zr s)):=by
 have hsc:=hs.sc
 refine t13 (by simp [Zr,Zk,Zf,Zm,Zg,Zc,Zq,Za,KFL,KF]) (by simp [Zr,Zk,Zf,Zm,Zg,Zc,Zq,Za,KFL,KF]) ?_
 dsimp only [c13,r13,Zr,go_sem,rA,rM,rS]
 refine call (ZqL s.land hs.land) ?_
 dsimp only [Zz,go_sem,rA,rM,rS]
 refine ⟨by simp;omega,?_⟩
 dsimp only [go_sem,rA,rM,rS]
 refine W8 [1,2,3] rfl (fun k:Nat=>[(3,I k)]) (fun _=>[]) (fun k=>k≤s.scenes.length) (fun k=>s.scenes.length - k) 0 (Nat.zero_le _) ?_ ?_
 · (refine Zl ?_ ?_ ?_ rfl rfl<;>dsimp only [Zg,Zf,Zm,Zk,Zc,Zq,id,go_sem,rA,rM,rS]<;>simp [Zg,Zf,Zm,Zk,Zc,Zq,Za,Zi,KFR,KFL,KF,Zd,mtO,nbr])
 intro k hk
 dsimp only [go_sem,rA,rM,rS]
 simp only [List.length_map]
 by_cases hlt:k < s.scenes.length
 · have hx:=hs.each _ (List.getElem_mem hlt)
   refine Zt (by simpa using hlt) ?_
   dsimp only [go_sem,rA,rM,rS]
   refine Ug k rfl (by simpa using hlt) ?_
   dsimp only [go_sem,rA,rM,rS]
   refine ZcM hlt ?_
   dsimp only [Zk,go_sem,rA,rM,rS]
   refine Zpg (by simp;omega) ?_
   dsimp only [go_sem,rA,rM,rS]
   refine Ug k rfl (by simpa using hlt) ?_
   dsimp only [go_sem,rA,rM,rS]
   refine Zf2 s.scenes[k] hlt (by simp [Zk]) (by simp [Zk,splice]) ?_
   rw [List.set_getElem_self]
   dsimp only [go_sem,rA,rM,rS]
   refine Ug k rfl (by simpa using hlt) ?_
   dsimp only [go_sem,rA,rM,rS]
   refine ZcM hlt ?_
   dsimp only [Zk,go_sem,rA,rM,rS]
   refine Zpg (by simp;omega) ?_
   dsimp only [go_sem,rA,rM,rS]
   refine Ug k rfl (by simpa using hlt) ?_
   dsimp only [go_sem,rA,rM,rS]
   refine Zf2 s.scenes[k] hlt (by simp [Zk]) (by simp [Zk,splice]) ?_
   rw [List.set_getElem_self]
   dsimp only [go_sem,rA,rM,rS]
   rw [Ze (n:=(k:Int)+1) (by omega) (by omega)]
   refine ⟨k+1,hlt,by omega,?_⟩
   (refine Zl ?_ ?_ ?_ rfl rfl<;>dsimp only [Zg,Zf,Zm,Zk,Zc,Zq,id,go_sem,rA,rM,rS]<;>simp [Zg,Zf,Zm,Zk,Zc,Zq,Za,Zi,KFR,KFL,KF,Zd,mtO,nbr])
 refine Zu (by simp;omega) ?_
 dsimp only [go_sem,rA,rM,rS]
theorem Zll (s:Season) (hs:SmallS s):Ct Tryz.prog 18 [.agg (Zr s),.agg (Zr s)] (B true):=by
 have hsc:=hs.sc
 refine t18 (by simp [Zr,Zk,Zf,Zm,Zg,Zc,Zq,Za,KFL,KF]) (by simp [KFL,KF]) ?_
 dsimp only [c18,r18,Zr,go_sem,rA,rM,rS]
 refine call (ZqW s.land hs.land) ?_
 dsimp only [go_sem,rA,rM,rS]
 repeat (refine gb ?_;dsimp only [go_sem,rA,rM,rS])
 refine Zu (by simp [ngB]) ?_
 dsimp only [go_sem,rA,rM,rS]
 repeat (refine gb ?_;dsimp only [go_sem,rA,rM,rS])
 refine Zu (by simp) ?_
 dsimp only [go_sem,rA,rM,rS]
 refine W8 [2,3,4,5] rfl (fun k:Nat=>[(5,I k)]) (fun _=>[]) (fun k=>k≤s.scenes.length) (fun k=>s.scenes.length - k) 0 (Nat.zero_le _) ?_ ?_
 · (refine Zl ?_ ?_ ?_ rfl rfl<;>dsimp only [Zg,Zf,Zm,Zk,Zc,Zq,id,go_sem,rA,rM,rS]<;>simp [Zg,Zf,Zm,Zk,Zc,Zq,Za,Zi,KFR,KFL,KF,Zd,mtO,nbr])
 intro k hk
 dsimp only [go_sem,rA,rM,rS]
 simp only [List.length_map]
 by_cases hlt:k < s.scenes.length
 · have hx:=hs.each _ (List.getElem_mem hlt)
   refine Zt (by simpa using hlt) ?_
   dsimp only [go_sem,rA,rM,rS]
   refine Zo k hlt rfl ?_
   dsimp only [go_sem,rA,rM,rS]
   refine Zo k hlt rfl ?_
   dsimp only [Zk,go_sem,rA,rM,rS]
   repeat (first | (refine gb ?_;dsimp only [go_sem,rA,rM,rS]) | (refine call (Zgw s.scenes[k].yields s.scenes[k].yields (by omega) (by omega) _ _) ?_;dsimp only [go_sem,rA,rM,rS]) | (refine call (Zcs s.scenes[k].prices s.scenes[k].prices (by omega) (by omega) _ _) ?_;dsimp only [go_sem,rA,rM,rS]))
   refine Zu (by simp [ngB]) ?_
   dsimp only [go_sem,rA,rM,rS]
   rw [Ze (n:=(k:Int)+1) (by omega) (by omega)]
   refine ⟨k+1,hlt,by omega,?_⟩
   (refine Zl ?_ ?_ ?_ rfl rfl<;>dsimp only [Zg,Zf,Zm,Zk,Zc,Zq,id,go_sem,rA,rM,rS]<;>simp [Zg,Zf,Zm,Zk,Zc,Zq,Za,Zi,KFR,KFL,KF,Zd,mtO,nbr])
 refine Zu (by simp;omega) ?_
 dsimp only [go_sem,rA,rM,rS]
theorem Zdx (p q:Plan) (hp:p.legs.length≤1000) (hq:q.legs.length≤1000):Ct Tryz.prog 19 [.agg (Y3 p),.agg (Y3 q)] (B (decide (p=q))):=by
 refine t19 (by simp [Y3,Zq,Za,KFL,KF]) (by simp [KFL,KF]) ?_
 dsimp only [c19,r19,Y3,go_sem,rA,rM,rS]
 repeat (first | (refine gb ?_;dsimp only [go_sem,rA,rM,rS]) | (refine call (Zcs p.legs q.legs (by omega) (by omega) _ _) ?_;dsimp only [go_sem,rA,rM,rS]))
 have:(p.animals == q.animals && p.slabs == q.slabs && decide (p.legs=q.legs))=decide (p=q):=by
  obtain ⟨a,b,c⟩:=p;obtain ⟨a',b',c'⟩:=q
  rw [Bool.eq_iff_iff];simp;constructor
  · rintro ⟨⟨h1,h2⟩,h3⟩;exact ⟨h3,h1,h2⟩
  · rintro ⟨h1,h2,h3⟩;exact ⟨⟨h2,h3⟩,h1⟩
 rw [this]
end Go.Proofs.YtiigiflofnjilaaGreat
set_option maxRecDepth 100000
namespace Go.Proofs.YtiigiflofnjilaaGreat
open Go Go.Sx
def c3:SC:=(.seq (.reg [
 o1 2 (.box (.t 0) 0 34),
 o1 3 (.box (.t 1) 0 37),
 o1 4 (.mv (.c (.bool false)))])
 (.seq (.seq (.reg [
 o1 15 (.ld (.t 2) 37 true),
 o1 16 (.call 12 [.t 15]),
 m1 17 16,
 ⟨some 18,.addo (.t 3) 0,some (17,false),[]⟩,
 ⟨some 19,.ld (.t 18) 1 false,some (17,false),[]⟩,
 ⟨some 20,.len (.t 19),some (17,false),[]⟩,
 ⟨some 21,.bin .gtr (.t 20) (.c (.int .i64 40)),some (17,false),[]⟩,
 o1 22 (.pick (.t 17) (.c (.bool true)) (.t 21))])
 (.cond (.t 22)
 (.seq (.reg [
  o1 4 (.mv (.c (.bool true)))])
  .ret)
 .skip))
 (.seq (.regd [0,1,2,3,4,5,6] [
 .op (o1 23 (.ld (.t 2) 37 true)),
 .op ⟨some 24,.call 13 [.t 23],none,[0]⟩,
 .op (o1 25 (.ld (.t 3) 3 true))] 2 2 [
 o1 5 (.alloc [.slice none 0 0,.slice none 0 0,.int .i64 0,.int .i64 0,.int .i64 0,.int .i64 0,.int .i64 0,.int .i64 0,.int .i64 0,.int .i64 0,.int .i64 0,.int .i64 0,.int .i64 0,.int .i64 0,.int .i64 0,.int .i64 0,.int .i64 0,.int .i64 0,.int .i64 0,.int .i64 0,.int .i64 0,.int .i64 0,.int .i64 0,.int .i64 0,.int .i64 0,.int .i64 0,.int .i64 0,.bool false,.int .i64 0,.int .i64 0,.int .i64 0,.int .i64 0,.int .i64 0,.int .i64 0,.int .i64 0,.int .i64 0,.slice none 0 0] 34),
 o1 6 (.alloc [.slice none 0 0,.int .i64 0,.int .i64 0] 37),
 ⟨none,.st (.t 5) (.t 24) 37,none,[0,1,3,4]⟩,
 ⟨none,.st (.t 6) (.t 25) 3,none,[0,1,2,3,4,5]⟩])
 (.seq (.reg [
 o1 26 (.bsl 1 3 []),
 o1 27 (.addo (.t 3) 0),
 o1 28 (.ld (.t 27) 1 false),
 o1 29 (.app 1 8 3 (.t 26) (.t 28)),
 o1 30 (.addo (.t 6) 0),
 ⟨none,.st (.t 30) (.t 29) 1,none,[]⟩])
 (.seq (.reg [
 o1 32 (.ld (.t 5) 37 true),
 o1 33 (.ld (.t 6) 3 true),
 o1 34 (.call 14 [.t 32,.t 33]),
 m1 31 34,
 o1 35 (.ext (.t 31) 0),
 o1 36 (.ext (.t 31) 1),
 o1 37 (.ext (.t 31) 2),
 o1 38 (.ext (.t 31) 3),
 m1 7 35,
 m1 8 36,
 m1 9 37,
 m1 10 38])
 (.seq (.reg [
 o1 40 (.ld (.t 2) 37 true),
 o1 41 (.ld (.t 3) 3 true),
 o1 42 (.call 15 [.t 40,.t 41]),
 m1 39 42,
 o1 43 (.ext (.t 39) 0),
 o1 44 (.ext (.t 39) 1),
 o1 45 (.ext (.t 39) 2),
 o1 46 (.ext (.t 39) 3),
 m1 11 43,
 m1 12 44,
 m1 13 45,
 m1 14 46])
 (.seq (.regd [0,1,2,3,4,5,6,7,8,9,10,11,12,13,14,15,16,17,18,19,20,21,22,23,24,25,26,27,28,29,30,31,32,33,34,35] [
 .op (o1 47 (.ld (.t 5) 37 true)),
 .op ⟨some 48,.call 16 [.t 47],none,[0]⟩,
 .op (o1 49 (.ld (.t 2) 37 true)),
 .op ⟨some 50,.call 17 [.t 49],none,[1,2]⟩,
 .op ⟨some 51,.bin .eql (.t 48) (.t 50),none,[1,3]⟩,
 .op ⟨some 52,.mv (.t 51),none,[3,4]⟩,
 .op ⟨some 53,.mv (.t 7),some (52,true),[5]⟩,
 .op ⟨some 54,.mv (.t 11),some (52,true),[5]⟩,
 .op ⟨some 55,.bin .eql (.t 53) (.t 54),some (52,true),[5,6,7]⟩,
 .op ⟨some 56,.pick (.t 52) (.t 55) (.c (.bool false)),none,[5,8]⟩,
 .op ⟨some 57,.mv (.t 56),none,[5,9]⟩,
 .op ⟨some 58,.mv (.t 8),some (57,true),[10]⟩,
 .op ⟨some 59,.mv (.t 12),some (57,true),[10]⟩,
 .op ⟨some 60,.bin .eql (.t 58) (.t 59),some (57,true),[10,11,12]⟩,
 .op ⟨some 61,.pick (.t 57) (.t 60) (.c (.bool false)),none,[10,13]⟩,
 .op ⟨some 62,.mv (.t 61),none,[10,14]⟩,
 .op ⟨some 63,.mv (.t 9),some (62,true),[15]⟩,
 .op ⟨some 64,.mv (.t 13),some (62,true),[15]⟩,
 .op ⟨some 65,.bin .eql (.t 63) (.t 64),some (62,true),[15,16,17]⟩,
 .op ⟨some 66,.pick (.t 62) (.t 65) (.c (.bool false)),none,[15,18]⟩,
 .op ⟨some 67,.mv (.t 66),none,[15,19]⟩,
 .op ⟨some 68,.mv (.t 10),some (67,true),[20]⟩,
 .op ⟨some 69,.mv (.t 14),some (67,true),[20]⟩,
 .op ⟨some 70,.bin .eql (.t 68) (.t 69),some (67,true),[20,21,22]⟩,
 .op ⟨some 71,.pick (.t 67) (.t 70) (.c (.bool false)),none,[20,23]⟩,
 .op ⟨some 72,.mv (.t 71),none,[20,24]⟩,
 .op ⟨some 73,.ld (.t 5) 37 true,some (72,true),[25]⟩,
 .op ⟨some 74,.ld (.t 2) 37 true,some (72,true),[25]⟩,
 .op ⟨some 75,.call 18 [.t 73,.t 74],some (72,true),[25,26,27]⟩,
 .op ⟨some 76,.pick (.t 72) (.t 75) (.c (.bool false)),none,[25,28]⟩,
 .op ⟨some 77,.mv (.t 76),none,[28,29]⟩,
 .op ⟨some 78,.ld (.t 6) 3 true,some (77,true),[30]⟩,
 .op ⟨some 79,.ld (.t 3) 3 true,some (77,true),[30]⟩,
 .op ⟨some 80,.call 19 [.t 78,.t 79],some (77,true),[30,31,32]⟩,
 .op ⟨some 81,.pick (.t 77) (.t 80) (.c (.bool false)),none,[30,33]⟩,
 .op ⟨some 4,.mv (.t 81),none,[0,1,2,3,4,5,6,7,8,9,10,11,12,13,14,15,16,17,18,19,20,21,22,23,24,25,26,27,28,29,30,31,32,33,34]⟩] 0 0 [
])
 .ret)))))))
def r3:List RV:=[.tmp 4]
theorem n3:Tryz.f3.ntmps=82:=by kernel_rfl
theorem b3:Zp Tryz.prog 3=true:=by kernel_rfl
theorem c3_ok:Zy Tryz.prog c3 ((Tryz.f3.body).getD .skip)=true:=by kernel_rfl
theorem r3_ok:ZA Tryz.prog r3 Tryz.f3.results.toList=true:=by kernel_rfl
theorem t3 {args:List SV} {res:SV} (ka:KFL args) (kr:KF res) (h:sx Tryz.prog Y0 0 c3 (st0 args 82) (ZQ r3 res)) (hA:Nat.ble args.length 82=true:=by rfl):Ct Tryz.prog 3 args res:=Zj Tryz.func3 rfl b3 c3_ok r3_ok n3 (Nat.le_of_ble_eq_true hA) ka kr h
end Go.Proofs.YtiigiflofnjilaaGreat
set_option maxRecDepth 100000
set_option maxHeartbeats 4000000
namespace Go.Proofs.YtiigiflofnjilaaGreat
open Go Go.Sx Go.Azalai
theorem Ze5 (s:Season) (hs:SmallS s):Ct Tryz.prog 17 [.agg (Zr s)] (I (if ZR s=true then 0 else 90)):=by
 refine t17 (by simp [Zr,Zk,Zf,Zm,Zg,Zc,Zq,Za,KFL,KF]) (by simp [KFL,KF]) ?_
 dsimp only [c17,r17,Zr,go_sem,rA,rM,rS]
 refine call (Zcu s hs) ?_
 dsimp only [go_sem,rA,rM,rS]
 refine br ?_ ?_
 · intro h
   dsimp only [go_sem,rA,rM,rS]
   simp at h
   simp [h]
 · intro h
   dsimp only [go_sem,rA,rM,rS]
   simp at h
   simp [h]
theorem Za4 (s:Season) (p:Plan):Ct Tryz.prog 3 [.agg (Zr s),.agg (Y3 p)] (B true):=by
 refine t3 (by simp [Zr,Y3,Zk,Zf,Zm,Zg,Zc,Zq,Za,KFL,KF]) (by simp [KFL,KF]) ?_
 dsimp only [c3,r3,Zr,Y3,go_sem,rA,rM,rS]
 refine call (ZiD s) ?_
 dsimp only [go_sem,rA,rM,rS]
 repeat (refine gb ?_;dsimp only [go_sem,rA,rM,rS])
 simp only [List.length_map]
 by_cases hq:Uv s=false∧p.legs.length≤40
 case neg =>
  refine Zt ?_ ?_
  · cases hgs:Uv s
    · have:¬ p.legs.length≤40:=fun h=>hq ⟨hgs,h⟩
      simp;omega
    · simp
  dsimp only [go_sem,rA,rM,rS]
 refine Zu (by simp [hq.1];omega) ?_
 dsimp only [go_sem,rA,rM,rS]
 have hs:=ZhW hq.1
 have hg:p.legs.length≤1000:=by omega
 refine call (ZlQ s hs) ?_
 dsimp only [Zr,go_sem,rA,rM,rS]
 refine Zpg (by simp;omega) ?_
 dsimp only [go_sem,rA,rM,rS]
 refine call (ZoE s hs p hg) ?_
 dsimp only [ZaW,go_sem,rA,rM,rS]
 refine call (Zha s hs p hg) ?_
 dsimp only [ZaW,go_sem,rA,rM,rS]
 refine call (ZcN s hs) ?_
 dsimp only [go_sem,rA,rM,rS]
 refine call (Ze5 s hs) ?_
 dsimp only [go_sem,rA,rM,rS]
 repeat (first | (refine gb ?_;dsimp only [go_sem,rA,rM,rS]) | (refine call (Zll s hs) ?_;dsimp only [go_sem,rA,rM,rS]) | (refine call (Zdx p p hg hg) ?_;dsimp only [go_sem,rA,rM,rS]))
 simp
end Go.Proofs.YtiigiflofnjilaaGreat
