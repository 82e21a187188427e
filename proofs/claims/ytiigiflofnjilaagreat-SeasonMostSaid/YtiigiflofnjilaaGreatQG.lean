/- Walks and plain laws that lead to the given statement, part 7 of 9. -/
import Derived.Test.YtiigiflofnjilaaGreatQF
import Derived.Test.YtiigiflofnjilaaGreatProg
import Derived.WideLaws
set_option maxRecDepth 100000
set_option maxHeartbeats 8000000
set_option linter.all false
open Nat renaming reduceAdd->rA,reduceMul->rM,reduceSub->rS,beq_refl->nbr
namespace Go.Proofs.YtiigiflofnjilaaGreat
open Go Go.Sx Go.Azalai
theorem Zat {α : Type} (p:α->Bool) {l:List α} {k:Nat} (h:k < l.length):(l.drop k).all p=(p l[k] && (l.drop (k+1)).all p):=by
 rw [List.drop_eq_getElem_cons h,List.all_cons]
theorem ibne (a b:Nat):((a:Int) != (b:Int)) = !decide (a=b):=by
 rw [Bool.eq_iff_iff];simp [bne];omega
theorem okX1 (n:Nat) (x:Scene):(!Ya 0 60 x.heat || !Ya 0 1000000 x.grass || (x.yields.length:Int) != (n:Int) || !x.yields.all (Ya 0 10000000) || (x.prices.length:Int) != (n:Int) || !x.prices.all (inR 0 1000000)) = !Yx n x:=by
 simp only [ibne,Yx]
 generalize Ya 0 60 x.heat=a;generalize Ya 0 1000000 x.grass=b;generalize decide (x.yields.length=n)=c;generalize decide (x.prices.length=n)=d
 generalize x.yields.all (Ya 0 10000000)=e;generalize x.prices.all (inR 0 1000000)=f
 revert a b c d e f;decide
theorem okX2 (n:Nat) (x:Scene) (h:(!Ya 0 60 x.heat || !Ya 0 1000000 x.grass || (x.yields.length:Int) != (n:Int) || (x.prices.length:Int) != (n:Int))=true):Yx n x=false:=by
 simp only [ibne] at h;simp only [Yx]
 revert h
 generalize Ya 0 60 x.heat=a;generalize Ya 0 1000000 x.grass=b;generalize decide (x.yields.length=n)=c;generalize decide (x.prices.length=n)=d
 generalize x.yields.all (Ya 0 10000000)=e;generalize x.prices.all (inR 0 1000000)=f
 revert a b c d e f;decide
theorem okX3 (n:Nat) (x:Scene) (h:(!Ya 0 60 x.heat || !Ya 0 1000000 x.grass || (x.yields.length:Int) != (n:Int) || (x.prices.length:Int) != (n:Int))=false) :
 Yx n x=(x.yields.all (Ya 0 10000000) && x.prices.all (inR 0 1000000))/\x.yields.length=n/\x.prices.length=n:=by
 simp only [ibne,Bool.or_eq_false_iff,Bool.not_eq_false',decide_eq_true_eq] at h
 obtain ⟨⟨⟨h1,h2⟩,h3⟩,h4⟩:=h
 refine ⟨?_,h3,h4⟩
 simp only [Yx,h1,h2,h3,h4,decide_true,Bool.true_and]
theorem Zi6 (s:Season) (hs:SmallS s):∃ xs:List (List SV),KFR xs/\Ct Tryz.prog 52 [.agg (Yg s.land),I s.start,I s.day,.agg (Zd s.pace)] (.tup [.sl false 2 xs,I (X7 s.land s.pace s.start s.day)]):=by
 have h:=Zdi s.land hs.land s.start s.day s.pace
 unfold Xz at h;split at h
 . exact ⟨_,by simp [Za,Zd,KFL,KF],h⟩
 . exact ⟨[],trivial,h.res (res0:=.tup [.sl false 2 [],I (X7 s.land s.pace s.start s.day)]) (by simp [Za,KFR,KFL,KF]) (XY (Z0 YN XZ))⟩
theorem Zj1 {s:Season}:X7 s.land s.pace s.start s.day=0↔ZS s.land=true/\Z1 s.pace=true/\inR 0 (s.land.wells.length - 1) s.start=true/\inR 0 100000 s.day=true:=by
 unfold X7 Zac
 cases ZS s.land<;>cases Z1 s.pace<;>cases inR 0 (s.land.wells.length - 1) s.start<;>cases inR 0 100000 s.day<;>simp
theorem Zfi (s:Season):Zw s=((decide (X7 s.land s.pace s.start s.day=0) && decide (ZbS s.breed s.camel=0) && U6 s && inR 1 4 s.scenes.length) && s.scenes.all (Yx s.land.wells.length)):=by
 have hd:U6 s=true->inR 0 100000 s.day=true:=fun h=>by
  simp only [U6,inR,Bool.and_eq_true,decide_eq_true_eq] at h ⊢;omega
 have hr:decide (X7 s.land s.pace s.start s.day=0)=(ZS s.land && Z1 s.pace && inR 0 (s.land.wells.length - 1) s.start && inR 0 100000 s.day):=by
  rw [Bool.eq_iff_iff,decide_eq_true_eq,Zj1];simp only [Bool.and_eq_true,and_assoc]
 rw [hr]
 simp only [Zw]
 cases hn:U6 s
 . simp
 . rw [hd hn]
   cases ZS s.land<;>cases Z1 s.pace<;>cases inR 0 (s.land.wells.length - 1) s.start<;>simp
theorem Za1 (s:Season) (hs:SmallS s):Ct Tryz.prog 16 [.agg (Zr s)] (I (if Zw s=true then 0 else 90)):=by
 have hw:=hs.land.1
 have hsc:=hs.sc
 refine t16.1 (by simp [Zr,Zk,Zf,Zm,Zg,Zd,Zo,Za,KFL,KF]) (by simp [KFL,KF]) ?_
 dsimp only [c16,r16,Zr,go_sem,rA,rM,rS]
 obtain ⟨x,hx0,hc⟩:=Zi6 s hs
 refine call hc ?_
 dsimp only [go_sem,rA,rM,rS]
 repeat (first | (refine gb ?_;dsimp only [go_sem,rA,rM,rS]) | (refine call (ZfR _ _ _ _) ?_;dsimp only [go_sem,rA,rM,rS]) | (refine call (Zrh _ _ _ _ _) ?_;dsimp only [go_sem,rA,rM,rS]) | (refine call (Cm.checkCamel_ok s.breed s.camel) ?_;dsimp only [go_sem,rA,rM,rS]))
 simp only [List.length_map]
 by_cases hA:(decide (X7 s.land s.pace s.start s.day=0) && decide (ZbS s.breed s.camel=0) && U6 s && inR 1 4 s.scenes.length)=true
 case neg =>
  refine Zu ?_ ?_
  . simp only [U6] at hA;grind
  dsimp only [go_sem,rA,rM,rS]
  rw [Zfi,Bool.eq_false_iff.2 hA,Bool.false_and];rfl
 refine Zv ?_ ?_
 . simp only [U6] at hA;grind
 dsimp only [go_sem,rA,rM,rS]
 rw [Zfi,hA,Bool.true_and]
 simp only [List.length_map]
 refine Vf [1,3,85,86,87] rfl (fun k:Nat=>[(87,I k)]) (fun _=>[]) (fun k=>k<=s.scenes.length/\(s.scenes.drop k).all (Yx s.land.wells.length)=s.scenes.all (Yx s.land.wells.length)) (fun k=>s.scenes.length - k) 0 ⟨Nat.zero_le _,rfl⟩ ?_ ?_
 . (refine Zl ?_ ?_ ?_ rfl rfl<;>dsimp only [Zg,Zf,Zm,Zk,Zd,Zo,hx0,id,go_sem,rA,rM,rS]<;>simp [Zg,Zf,Zm,Zk,Zd,Zo,hx0,Za,Ze,KFR,KFL,KF,Zc,mtO,nbr])
 intro k ⟨hk,hi⟩
 dsimp only [go_sem,rA,rM,rS]
 by_cases hlt:k < s.scenes.length
 . refine Zu (by simpa using hlt) ?_
   dsimp only [go_sem,rA,rM,rS]
   have hx:=hs.each _ (List.getElem_mem hlt)
   refine Zp k hlt rfl ?_
   dsimp only [Zk,go_sem,rA,rM,rS]
   repeat (first | (refine gb ?_;dsimp only [go_sem,rA,rM,rS]) | (refine call (Zd4 _ _ s.scenes[k].heat _) ?_;dsimp only [go_sem,rA,rM,rS]) | (refine call (Zd4 _ _ s.scenes[k].grass _) ?_;dsimp only [go_sem,rA,rM,rS]) | (refine call (U3 _ _ s.scenes[k].yields (by omega) _) ?_;dsimp only [go_sem,rA,rM,rS]) | (refine call (Za0 _ _ s.scenes[k].prices (by omega) _) ?_;dsimp only [go_sem,rA,rM,rS]))
   simp only [List.length_map]
   rw [Zat _ hlt] at hi
   rw [okX1]
   refine br ?_ ?_
   . intro hb
     dsimp only [go_sem,rA,rM,rS]
     rw [<- hi,(by simpa using hb:Yx s.land.wells.length s.scenes[k]=false)];rfl
   intro hb
   dsimp only [go_sem,rA,rM,rS]
   rw [Zi (n:=(k:Int)+1) (by omega) (by omega)]
   rw [(by simpa using hb:Yx s.land.wells.length s.scenes[k]=true),Bool.true_and] at hi
   refine ⟨k+1,⟨hlt,hi⟩,by omega,?_⟩
   (refine Zl ?_ ?_ ?_ rfl rfl<;>dsimp only [Zg,Zf,Zm,Zk,Zd,Zo,hx0,id,go_sem,rA,rM,rS]<;>simp [Zg,Zf,Zm,Zk,Zd,Zo,hx0,Za,Ze,KFR,KFL,KF,Zc,mtO,nbr])
 refine Zv (by simp;omega) ?_
 dsimp only [go_sem,rA,rM,rS]
 rw [<- hi,List.drop_eq_nil_of_le (by omega)]
 rfl
theorem ZjR (s:Season) (hs:SmallS s):Ct Tryz.prog 50 [.agg (Zr s)] (B (Zw s)):=by
 refine t50.1 (by simp [Zr,Zk,Zf,Zm,Zg,Zd,Zo,Za,KFL,KF]) (by simp [KFL,KF]) ?_
 dsimp only [c50,r50,Zr,go_sem,rA,rM,rS]
 refine call (ZjJ s.land hs.land) ?_
 dsimp only [go_sem,rA,rM,rS]
 repeat (first | (refine gb ?_;dsimp only [go_sem,rA,rM,rS]) | (refine call (Zol s.pace) ?_;dsimp only [go_sem,rA,rM,rS]) | (refine call (Cm.checkCamelR_ok s.breed s.camel) ?_;dsimp only [go_sem,rA,rM,rS]))
 have hw:=hs.land.1
 have hsc:=hs.sc
 refine br ?_ ?_
 . intro h
   dsimp only [go_sem,rA,rM,rS]
   (simp only [Zw,Option.some.injEq,SV.v.injEq,Value.bool.injEq]<;>grind)
 intro h
 dsimp only [go_sem,rA,rM,rS]
 repeat (first | (refine gb ?_;dsimp only [go_sem,rA,rM,rS]) | (refine call (XH _ _ _) ?_;dsimp only [go_sem,rA,rM,rS]))
 refine br ?_ ?_
 . intro h2
   dsimp only [go_sem,rA,rM,rS]
   (simp only [Zw,U6,Option.some.injEq,SV.v.injEq,Value.bool.injEq]<;>grind)
 intro h2
 dsimp only [go_sem,rA,rM,rS]
 simp only [List.length_map]
 rw [Zi (n:=(s.land.wells.length:Int) - 1) (by omega) (by omega)]
 repeat (first | (refine gb ?_;dsimp only [go_sem,rA,rM,rS]) | (refine call (XH _ _ _) ?_;dsimp only [go_sem,rA,rM,rS]))
 simp only [List.length_map]
 refine br ?_ ?_
 . intro h3
   dsimp only [go_sem,rA,rM,rS]
   (simp only [Zw,U6,Option.some.injEq,SV.v.injEq,Value.bool.injEq]<;>grind)
 intro h3
 dsimp only [go_sem,rA,rM,rS]
 have hO:Zw s=s.scenes.all (Yx s.land.wells.length):=by simp only [Zw,U6];grind
 rw [hO]
 refine Vf [1,3] rfl (fun k:Nat=>[(3,I k)]) (fun _=>[]) (fun k=>k<=s.scenes.length/\(s.scenes.drop k).all (Yx s.land.wells.length)=s.scenes.all (Yx s.land.wells.length)) (fun k=>s.scenes.length - k) 0 ⟨Nat.zero_le _,rfl⟩ ?_ ?_
 . (refine Zl ?_ ?_ ?_ rfl rfl<;>dsimp only [Zg,Zf,Zm,Zk,Zd,Zo,id,go_sem,rA,rM,rS]<;>simp [Zg,Zf,Zm,Zk,Zd,Zo,Za,Ze,KFR,KFL,KF,Zc,mtO,nbr])
 intro k ⟨hk,hi⟩
 dsimp only [go_sem,rA,rM,rS]
 simp only [List.length_map]
 by_cases hlt:k < s.scenes.length
 . refine Zu (by simpa using hlt) ?_
   dsimp only [go_sem,rA,rM,rS]
   have hx:=hs.each _ (List.getElem_mem hlt)
   refine Zp k hlt rfl ?_
   dsimp only [Zk,go_sem,rA,rM,rS]
   rw [Zat _ hlt] at hi
   repeat (first | (refine gb ?_;dsimp only [go_sem,rA,rM,rS]) | (refine call (VJ s.scenes[k].heat _ _) ?_;dsimp only [go_sem,rA,rM,rS]) | (refine call (VJ s.scenes[k].grass _ _) ?_;dsimp only [go_sem,rA,rM,rS]))
   simp only [List.length_map]
   refine br ?_ ?_
   . intro hb
     dsimp only [go_sem,rA,rM,rS]
     rw [<- hi,okX2 _ _ hb];rfl
   intro hb
   dsimp only [go_sem,rA,rM,rS]
   obtain ⟨hy,hx1,hx2⟩:=okX3 _ _ hb
   rw [hy] at hi
   refine Vf [1,3,4,5] rfl (fun j:Nat=>[(5,I j)]) (fun _=>[]) (fun j=>j<=s.scenes[k].yields.length/\((s.scenes[k].yields.drop j).all (Ya 0 10000000) && (s.scenes[k].prices.drop j).all (inR 0 1000000))=(s.scenes[k].yields.all (Ya 0 10000000) && s.scenes[k].prices.all (inR 0 1000000))) (fun j=>s.scenes[k].yields.length - j) 0 ⟨Nat.zero_le _,rfl⟩ ?_ ?_
   . (refine Zl ?_ ?_ ?_ rfl rfl<;>dsimp only [Zg,Zf,Zm,Zk,Zd,Zo,id,go_sem,rA,rM,rS]<;>simp [Zg,Zf,Zm,Zk,Zd,Zo,Za,Ze,KFR,KFL,KF,Zc,mtO,nbr])
   intro j ⟨hj,hij⟩
   dsimp only [go_sem,rA,rM,rS]
   simp only [List.length_map]
   by_cases hlj:j < s.scenes[k].yields.length
   . refine Zu (by simpa using hlj) ?_
     dsimp only [go_sem,rA,rM,rS]
     refine Zp j hlj rfl ?_
     dsimp only [Zd,go_sem,rA,rM,rS]
     refine call (VJ s.scenes[k].yields[j] _ _) ?_
     dsimp only [go_sem,rA,rM,rS]
     have hlp:j < s.scenes[k].prices.length:=by omega
     rw [Zat _ hlj,Zat _ hlp] at hij
     repeat (first | (refine gb ?_;dsimp only [go_sem,rA,rM,rS]) | (refine Zp j hlp rfl ?_;dsimp only [Zo,go_sem,rA,rM,rS]) | (refine Zrb j hlp rfl ?_;dsimp only [Zo,go_sem,rA,rM,rS]) | (refine call (XH _ _ _) ?_;dsimp only [go_sem,rA,rM,rS]))
     refine br ?_ ?_
     . intro hc
       dsimp only [go_sem,rA,rM,rS]
       rw [<- hi,<- hij]
       cases h1:Ya 0 10000000 s.scenes[k].yields[j]<;>cases h2:inR 0 1000000 s.scenes[k].prices[j]<;>simp [h1,h2] at hc ⊢
     intro hc
     dsimp only [go_sem,rA,rM,rS]
     rw [Zi (n:=(j:Int)+1) (by omega) (by omega)]
     simp only [Bool.or_eq_false_iff,Bool.not_eq_false'] at hc
     rw [hc.1,hc.2,Bool.true_and,Bool.true_and] at hij
     refine ⟨j+1,⟨hlj,hij⟩,by omega,?_⟩
     (refine Zl ?_ ?_ ?_ rfl rfl<;>dsimp only [Zg,Zf,Zm,Zk,Zd,Zo,id,go_sem,rA,rM,rS]<;>simp [Zg,Zf,Zm,Zk,Zd,Zo,Za,Ze,KFR,KFL,KF,Zc,mtO,nbr])
   refine Zv (by simp;omega) ?_
   dsimp only [go_sem,rA,rM,rS]
   rw [List.drop_eq_nil_of_le (by omega),List.drop_eq_nil_of_le (by omega)] at hij
   rw [<- hij] at hi
   rw [Zi (n:=(k:Int)+1) (by omega) (by omega)]
   refine ⟨k+1,⟨hlt,by simpa using hi⟩,by omega,?_⟩
   (refine Zl ?_ ?_ ?_ rfl rfl<;>dsimp only [Zg,Zf,Zm,Zk,Zd,Zo,id,go_sem,rA,rM,rS]<;>simp [Zg,Zf,Zm,Zk,Zd,Zo,Za,Ze,KFR,KFL,KF,Zc,mtO,nbr])
 refine Zv (by simp;omega) ?_
 dsimp only [go_sem,rA,rM,rS]
 rw [<- hi,List.drop_eq_nil_of_le (by omega)]
 rfl
end Go.Proofs.YtiigiflofnjilaaGreat
namespace Go.Azalai
open Go.Sx
def XC (l:Land) (p:Span) (to till:Int):Nat->List Int->Int->Int->List (List Nat)
 | 0,_,_,_=>[]
 | f+1,been,v,t =>
  if t > till then []
  else if v=to then [[]]
  else (List.range l.legs.length).flatMap fun i=>match l.legs[i]? with
   | none=>[]
   | some x=>if Zj x v < 0\/Zj x v ∈ v :: been then [] else (XC l p to till f (v :: been) (Zj x v) (ZO true x p t)).map (i :: ·)
def Y5 (l:Land) (p:Span) (to till:Int) (f:Nat) (been:List Int) (v t:Int) (i:Nat):List (List Nat) :=
 match l.legs[i]? with
 | none=>[]
 | some x=>if Zj x v < 0\/Zj x v ∈ v :: been then [] else (XC l p to till f (v :: been) (Zj x v) (ZO true x p t)).map (i :: ·)
def Z8 (l:Land) (p:Span) (to till:Int) (f:Nat) (been:List Int) (v t:Int) (j:Nat):List (List Nat):=(List.range j).flatMap (Y5 l p to till f been v t)
theorem Zdu {l:Land} {p:Span} {to till:Int} {f:Nat} {been:List Int} {v t:Int}:Z8 l p to till f been v t 0=[]:=rfl
theorem ZZ {l:Land} {p:Span} {to till:Int} {f:Nat} {been:List Int} {v t:Int} {j:Nat}:Z8 l p to till f been v t (j+1)=Z8 l p to till f been v t j ++ Y5 l p to till f been v t j:=by
 simp [Z8,List.range_succ]
theorem YC {l:Land} {p:Span} {to till:Int} {f:Nat} {been:List Int} {v t:Int}:XC l p to till (f+1) been v t=if t > till then [] else if v=to then [[]] else Z8 l p to till f been v t l.legs.length:=rfl
theorem Zb8 {l:Land} {p:Span} {to till:Int} {f:Nat} {been:List Int} {v t:Int} (h:t > till):XC l p to till f been v t=[]:=by
 cases f with
 | zero=>rfl
 | succ f=>rw [YC,if_pos h]
def cap (L:List (List Nat)):List (List Nat):=L.take 201
theorem Zct {A B:List (List Nat)} (h:A.length > 200):cap (A ++ B)=cap A:=by
 unfold cap;rw [List.take_append_of_le_length (by omega)]
theorem Ve {A:List (List Nat)} (h:A.length<=201):cap A=A:=List.take_of_length_le h
def ZlK (l:Land) (f:Nat) (been:List Int):Prop:=been.Nodup/\(∀ v ∈ been,0<=v/\v < l.wells.length)/\f+been.length=l.wells.length+1
theorem Zdq {n:Nat}:∀ {been:List Int},been.Nodup->(∀ v ∈ been,0<=v/\v < n)->been.length<=n:=by
 intro been hn hb
 have h1:(been.map Int.toNat).Nodup:=by
  rw [List.Nodup,List.pairwise_map]
  refine List.Pairwise.imp_of_mem (fun {a b} ha hb' hab=>?_) hn
  have:=hb a ha;have:=hb b hb';omega
 have h2:∀ x ∈ been.map Int.toNat,x ∈ List.range n:=fun x hx=>by
  obtain ⟨v,hv,rfl⟩:=List.mem_map.1 hx
  have:=hb v hv
  simp only [List.mem_range];omega
 have:=List.Nodup.length_le_of_subset h1 h2
 simpa using this
theorem ZlK.pos {l:Land} {f:Nat} {been:List Int} {v:Int} (h:ZlK l f been) (hv:v ∉ been) (hi:0<=v/\v < l.wells.length):∃ g,f=g+1/\ZlK l g (v :: been):=by
 obtain ⟨h1,h2,h3⟩:=h
 have hn:(v :: been).Nodup:=List.nodup_cons.2 ⟨hv,h1⟩
 have hb:∀ u ∈ v :: been,0<=u/\u < l.wells.length:=fun u hu=>by
  rcases List.mem_cons.1 hu with rfl | hu
  . exact hi
  . exact h2 u hu
 have:=Zdq hn hb
 simp only [List.length_cons] at this
 exact ⟨f - 1,by omega,hn,hb,by simp only [List.length_cons];omega⟩
theorem ZlK.start {l:Land}:ZlK l (l.wells.length+1) []:=⟨List.nodup_nil,fun v h=>(by cases h),by simp⟩
def ZbW (l:Land) (p:Span) (s to day till:Int):Int :=
 if Zac l p≠0 then Zac l p
 else if (inR 0 (l.wells.length - 1) s && inR 0 (l.wells.length - 1) to && inR 0 100000 day && inR 0 100000 till)=false then 2
 else if (XC l p to till (l.wells.length+1) [] s day).length > 200 then 9 else 0
def Uq (l:Land) (p:Span) (s to day till:Int):List (List Nat):=XC l p to till (l.wells.length+1) [] s day
end Go.Azalai
namespace Go.Proofs.YtiigiflofnjilaaGreat
open Go Go.Sx Go.Azalai
def Z5 (n:Nat):List SV:=[I (n:Int)]
def ZX (a:List Nat):SV:=.sl false 1 (a.map Z5)
theorem Zq3 (a:Int):Ct Tryz.prog 171 [I a] (B false):=by
 refine t171.1 (by simp [KFR,KFL,KF]) (by simp [KFL,KF]) ?_
 dsimp only [c171,r171,go_sem,rA,rM,rS]
 simp
def ZlJ (a b:Int):Int:=if a < b then -1 else if a > b then 1 else 0
theorem Zs1 (a b:Int):Ct Tryz.prog 157 [I a,I b] (I (ZlJ a b)):=by
 refine t157.1 (by simp [KFR,KFL,KF]) (by simp [KFL,KF]) ?_
 dsimp only [c157,r157,go_sem,rA,rM,rS]
 refine call (Zq3 a) ?_
 dsimp only [go_sem,rA,rM,rS]
 refine call (Zq3 b) ?_
 dsimp only [go_sem,rA,rM,rS]
 refine Zv rfl ?_
 dsimp only [go_sem,rA,rM,rS]
 refine Zv rfl ?_
 dsimp only [go_sem,rA,rM,rS]
 by_cases h:a < b
 . refine Zu (by simpa using h) ?_
   dsimp only [go_sem,rA,rM,rS]
   simp [ZlJ,h]
 refine Zv (by simpa using h) ?_
 dsimp only [go_sem,rA,rM,rS]
 by_cases h':a > b
 . refine Zu (by simpa using h') ?_
   dsimp only [go_sem,rA,rM,rS]
   simp only [ZlJ,if_neg h,if_pos h']
 refine Zv (by simpa using h') ?_
 dsimp only [go_sem,rA,rM,rS]
 simp only [ZlJ,if_neg h,if_neg h']
def UZ:List Nat->List Nat->Int
 | [],[]=>0
 | [],_ :: _=>-1
 | _ :: _,[]=>1
 | x :: a,y :: b=>if x < y then -1 else if x > y then 1 else UZ a b
theorem ZfD:∀ {a b:List Nat},decide (UZ a b < 0)=WA a b
 | [],[]=>rfl
 | [],_ :: _=>rfl
 | _ :: _,[]=>rfl
 | x :: a,y :: b=>by
  have ih:=ZfD (a:=a) (b:=b)
  have e:UZ (x :: a) (y :: b)=if x < y then -1 else if x > y then 1 else UZ a b:=rfl
  generalize UZ (x :: a) (y :: b)=c at e
  subst e
  simp only [WA]
  by_cases h:x < y
  . simp [h]
  . by_cases h':x > y
    . have:(x == y)=false:=by simp;omega
      rw [this];simp [h,h']
    . have:(x == y)=true:=by simp;omega
      rw [this];simp [h,h',<- ih]
theorem ZgL (a b:List Nat) (ha:a.length<=1000000) (hb:b.length<=1000000):Ct Tryz.prog 114 [ZX a,ZX b] (I (UZ a b)):=by
 refine t114.1 (by simp [Za,ZX,Z5,KFL,KF]) (by simp [KFL,KF]) ?_
 dsimp only [c114,r114,ZX,go_sem,rA,rM,rS]
 simp only [List.length_map]
 refine Xf (fun j:Nat=>[(11,I j)]) (fun _=>[]) (fun j=>j<=a.length/\UZ (a.drop j) (b.drop j)=UZ a b/\j<=b.length) (fun j=>a.length - j) 0 ⟨Nat.zero_le _,rfl,Nat.zero_le _⟩ ?_ ?_
 . (refine Zl ?_ ?_ ?_ rfl rfl<;>dsimp only [Z5,id,go_sem,rA,rM,rS]<;>simp [Z5,Za,Ze,KFR,KFL,KF,Zc,mtO,nbr])
 rintro j ⟨hj,hi,hjb⟩
 dsimp only [go_sem,rA,rM,rS]
 by_cases hlt:j < a.length
 . refine Zu (by simpa using hlt) ?_
   dsimp only [go_sem,rA,rM,rS]
   refine Zp j hlt rfl ?_
   dsimp only [Z5,go_sem,rA,rM,rS]
   simp only [List.length_map]
   rw [List.drop_eq_getElem_cons hlt] at hi
   by_cases hb:j < b.length
   . refine Zv (by simpa using hb) ?_
     dsimp only [go_sem,rA,rM,rS]
     refine Zp j hb rfl ?_
     dsimp only [Z5,go_sem,rA,rM,rS]
     refine call (Zs1 _ _) ?_
     dsimp only [go_sem,rA,rM,rS]
     rw [List.drop_eq_getElem_cons hb] at hi
     simp only [UZ] at hi
     by_cases h:a[j] < b[j]
     . rw [if_pos h] at hi
       have e:ZlJ (a[j]:Int) (b[j]:Int) = -1:=by simp only [ZlJ];rw [if_pos (by omega)]
       rw [e]
       refine Zu rfl ?_
       dsimp only [go_sem,rA,rM,rS]
       rw [<- hi]
     rw [if_neg h] at hi
     by_cases h':a[j] > b[j]
     . rw [if_pos h'] at hi
       have e:ZlJ (a[j]:Int) (b[j]:Int)=1:=by simp only [ZlJ];rw [if_neg (by omega),if_pos (by omega)]
       rw [e]
       refine Zu rfl ?_
       dsimp only [go_sem,rA,rM,rS]
       rw [<- hi]
     rw [if_neg h'] at hi
     have e:ZlJ (a[j]:Int) (b[j]:Int)=0:=by simp only [ZlJ];rw [if_neg (by omega),if_neg (by omega)]
     rw [e]
     refine Zv rfl ?_
     dsimp only [go_sem,rA,rM,rS]
     rw [Zi (n:=(j:Int)+1) (by omega) (by omega)]
     refine ⟨j+1,⟨hlt,hi,hb⟩,by omega,?_⟩
     (refine Zl ?_ ?_ ?_ rfl rfl<;>dsimp only [Z5,id,go_sem,rA,rM,rS]<;>simp [Z5,Za,Ze,KFR,KFL,KF,Zc,mtO,nbr])
   . refine Zu (by simp;omega) ?_
     dsimp only [go_sem,rA,rM,rS]
     rw [List.drop_of_length_le (l:=b) (i:=j) (by omega)] at hi
     simp only [UZ] at hi
     rw [<- hi]
 refine Zv (by simp;omega) ?_
 dsimp only [go_sem,rA,rM,rS]
 simp only [List.length_map]
 rw [List.drop_of_length_le (by omega)] at hi
 have hje:j=a.length:=by omega
 subst hje
 by_cases hb:a.length < b.length
 . refine Zu (by simpa using hb) ?_
   dsimp only [go_sem,rA,rM,rS]
   rw [List.drop_eq_getElem_cons hb] at hi
   simp only [UZ] at hi
   rw [<- hi]
 . refine Zv (by simpa using hb) ?_
   dsimp only [go_sem,rA,rM,rS]
   rw [List.drop_of_length_le (by omega)] at hi
   simp only [UZ] at hi
   rw [<- hi]
theorem u78 {args:List SV} {res:SV} (ka:KFL args) (kr:KF res) (h:sx Tryz.prog Y0 0 c110 (st0 args 8) (ZoD r110 res)) (hA:Nat.ble args.length 8=true:=by rfl):Ct Tryz.prog 110 args res:=Wu Tryz.func110 rfl b110 Zt6 Ztn n110 (Nat.le_of_ble_eq_true hA) ka kr h
theorem ZaA (a:List Nat) (ha:a.length<=1000000):Ct Tryz.prog 110 [ZX a] (ZX a):=by
 refine u78 (by simp [Za,ZX,Z5,KFL,KF]) (by simp [Za,ZX,Z5,KFL,KF]) ?_
 dsimp only [c110,r110,ZX,go_sem,rA,rM,rS]
 intro b hb
 dsimp only [go_sem,rA,rM,rS]
 refine br ?_ ?_
 . intro h
   have:=hb h
   dsimp only [go_sem,rA,rM,rS]
   rw [List.map_eq_nil_iff.1 this]
   exact ⟨_,rfl,YN⟩
 . intro h
   dsimp only [go_sem,rA,rM,rS]
   refine Zyt (by simp;omega) ?_
   dsimp only [go_sem,rA,rM,rS]
   exact ⟨_,rfl,Xa.rfl⟩
theorem ZsU (a:List Nat) (ha:a.length<=1000000):Ct Tryz.prog 154 [ZX a] (.sl true 1 (a.map Z5)):=by
 refine t154.1 (by simp [Za,ZX,Z5,KFL,KF]) (by simp [Za,ZX,Z5,KFL,KF]) ?_
 dsimp only [c154,r154,ZX,go_sem,rA,rM,rS]
 refine ⟨ZL.2 fun _=>⟨rfl,rfl⟩,?_⟩
 dsimp only [go_sem,rA,rM,rS]
theorem ZcW (a:List Nat) (i:Nat) (ha:a.length<=1000000):Ct Tryz.prog 112 [ZX a,I i] (ZX (a ++ [i])):=by
 refine t112.1 (by simp [Za,ZX,Z5,KFL,KF]) (by simp [KFL,KF,ZX,Za,Z5,Ze,KFR]) ?_
 dsimp only [c112,r112,go_sem,rA,rM,rS]
 refine call (ZaA a ha) ?_
 dsimp only [go_sem,rA,rM,rS]
 refine call (ZsU a ha) ?_
 dsimp only [go_sem,rA,rM,rS]
 refine Zyt (by simp;omega) ?_
 dsimp only [ZX,go_sem,rA,rM,rS]
 simp [Z5]
theorem Zx {K V:Type} {key:K->Value} {val:V->SV}:mpS key val ([]:List (Nat × K × V))=[]:=rfl
def c109:FB:=(.seq (.gh (.reg [
 o1 8 (.box (.t 0) 0 201),
 o1 9 (.box (.t 1) 0 35),
 o1 10 (.alloc [.bool false] 4)]))
 (.seq (.seq (.reg [
 o1 13 (.addo (.t 8) 1),
 o1 14 (.ld (.t 13) 1 false),
 o1 15 (.ld (.t 2) 1 false),
 o1 16 (.bin .gtr (.t 14) (.t 15))])
 (.cond (.t 16)
 (.seq (.reg [
  ⟨none,.st (.t 10) (.c (.bool true)) 1,none,[]⟩])
  .ret)
 .skip))
 (.seq (.seq (.reg [
 o1 17 (.addo (.t 8) 0),
 o1 18 (.ld (.t 17) 1 false),
 o1 19 (.ld (.t 3) 1 false),
 o1 20 (.bin .eql (.t 18) (.t 19))])
 (.cond (.t 20)
 (.seq (.regd [0,1,2,3,4,5] [
  .op (o1 21 (.ld (.t 4) 1 false)),
  .op (o1 22 (.ld (.t 9) 1 false)),
  .op ⟨some 23,.call 110 [.t 22],none,[1]⟩,
  .op ⟨some 24,.bsl 1 35 [.t 23],none,[2]⟩] 0 2 [
  ⟨some 25,.appm 1 24 35 (.t 21) (.t 24),none,[0,2,3]⟩,
  ⟨none,.st (.t 4) (.t 25) 1,none,[0,1,2,3,4]⟩])
  (.seq (.reg [
  o1 26 (.ld (.t 4) 1 false),
  o1 27 (.len (.t 26)),
  o1 28 (.bin .leq (.t 27) (.c (.int .i64 200))),
  ⟨none,.st (.t 10) (.t 28) 1,none,[]⟩])
  .ret))
 .skip))
 (.seq (.reg [
 o1 29 (.ld (.t 5) 1 false),
 o1 30 (.addo (.t 8) 0),
 o1 31 (.ld (.t 30) 1 false),
 ⟨none,.raw (Go.Op.mapUpdate 189 (Go.Operand.tmp 29) (Go.Operand.tmp 31) (Go.Operand.const (Go.Value.bool Bool.true))) 0,none,[]⟩])
 (.dfr [
 o1 32 (.ld (.t 5) 1 false),
 o1 33 (.addo (.t 8) 0),
 o1 34 (.ld (.t 33) 1 false)] (.t 32) (.t 34) 189
 (.tail (.seq (.seq (.reg [
 o1 35 (.ld (.t 6) 4 true),
 o1 36 (.addo (.t 8) 0),
 o1 37 (.ld (.t 36) 1 false),
 o1 38 (.callm 111 [.t 35,.t 37])])
 (.block 0 (.gh (.rfun (.t 38) [39,40] (.seq (.reg [
  m1 11 39])
  (.reg [
  m1 12 40]))
  (.block 1 (.seq (.regs [0,1,2,3,4,5,6,7,8,9,10,11,12,13,14,15,16,17,18,19,20,21,22] ⟨[
   .op (o1 41 (.ld (.t 5) 1 false)),
   .op (m1 42 12)],0,0,[
   ⟨some 43,.raw (Go.Op.lookup 189 (Go.Operand.tmp 41) (Go.Operand.tmp 42) Bool.false) 4,none,[0,1]⟩]⟩ [⟨[
   .op ⟨some 44,.un .not (.t 43),none,[2]⟩,
   .op ⟨some 45,.mv (.t 44),none,[3]⟩,
   .op ⟨some 46,.ld (.t 7) 1 false,some (45,true),[4]⟩,
   .op ⟨some 47,.mv (.t 12),some (45,true),[4]⟩,
   .op ⟨some 48,.ld (.t 6) 4 true,some (45,true),[4]⟩,
   .op ⟨some 49,.mv (.t 11),some (45,true),[4]⟩,
   .op ⟨some 50,.addo (.t 8) 1,some (45,true),[4]⟩,
   .op ⟨some 51,.ld (.t 50) 1 false,some (45,true),[4,9]⟩,
   .op ⟨some 52,.addo (.t 8) 1,some (45,true),[4]⟩,
   .op ⟨some 53,.ld (.t 52) 1 false,some (45,true),[4,11]⟩,
   .op ⟨some 54,.build [.int .i64 0,.int .i64 0] [(0,1,.t 51),(1,1,.t 53)],some (45,true),[4,10,12]⟩,
   .op ⟨some 55,.call 79 [.t 48,.t 49,.t 54],some (45,true),[4,7,8,13]⟩,
   .op ⟨some 56,.idx (.t 55) (.c (.int .i64 1)) 2 1 false,some (45,true),[4,14]⟩,
   .op ⟨some 57,.build [.int .i64 0,.int .i64 0] [(0,1,.t 47),(1,1,.t 56)],some (45,true),[4,6,15]⟩,
   .op ⟨some 58,.ld (.t 9) 1 false,some (45,true),[4]⟩,
   .op ⟨some 59,.mv (.t 11),some (45,true),[4]⟩,
   .op ⟨some 60,.call 112 [.t 58,.t 59],some (45,true),[4,14,17,18]⟩],0,0,[
   ⟨some 61,.calvm (.t 46) [.t 57,.t 60],some (45,true),[4,5,16,19]⟩,
   ⟨some 62,.un .not (.t 61),some (45,true),[4,20]⟩,
   ⟨some 63,.pick (.t 45) (.t 62) (.c (.bool false)),none,[4,21]⟩]⟩])
   (.cond (.t 63)
   (.seq (.reg [
    ⟨none,.st (.t 10) (.c (.bool false)) 1,none,[]⟩])
    .ret)
   .skip)))))))
 (.seq (.reg [
 ⟨none,.st (.t 10) (.c (.bool true)) 1,none,[]⟩])
 .ret))))))))
def r109:List RV:=[.cell 10 1 false]
theorem n109:Tryz.f109.ntmps=64:=by kernel_rfl
theorem b109:YM Tryz.prog 109=true:=by kernel_rfl
theorem Zu7:Zaa Tryz.prog c109 ((Tryz.f109.body).getD .skip)=true:=by kernel_rfl
theorem Zuu:Wo Tryz.prog r109 Tryz.f109.results.toList=true:=by kernel_rfl
theorem m109 {n0:Nat} {hp0:List (Nat × HB)} {args:List SV} {ZY:Ot->Prop} (hh:hpb n0 hp0) (hx:∀ o,ZY o->KX o.res/\KXP o.hp) (h:fx Tryz.prog n0 c109 ⟨enum 0 args,hp0,n0,64,[]⟩ (retM r109 fun o=>∃ o',ZY o'/\ZeY n0 o o')) (hA:Nat.ble args.length 64=true:=by rfl):CtM Tryz.prog 109 hp0 n0 args ZY:=Zb6 Tryz.func109 rfl b109 Zu7 Zuu n109 (Nat.le_of_ble_eq_true hA) hh hx h
def c65:SC:=(.seq (.reg [
 o1 6 (.box (.t 0) 0 25),
 o1 8 (.box (.t 2) 0 3),
 o1 10 (.box (.t 4) 0 3),
 o1 11 (.box (.t 5) 0 27),
 o1 12 (.mv (.c (.slice none 0 0))),
 o1 13 (.mv (.c (.int .i64 0)))])
 (.seq (.reg [
 o1 20 (.ld (.t 6) 2 true),
 o1 21 (.ld (.t 11) 2 true),
 o1 22 (.call 75 [.t 20,.t 21]),
 m1 19 22,
 o1 23 (.ext (.t 19) 0),
 o1 24 (.ext (.t 19) 1),
 o1 14 (.alloc [.slice none 0 0,.slice none 0 0,.int .i64 0,.int .i64 0] 160),
 ⟨none,.st (.t 14) (.t 23) 4,none,[]⟩,
 m1 15 24])
 (.seq (.block 0 (.seq (.reg [
  m1 26 15,
  o1 27 (.bin .neq (.t 26) (.c (.int .i64 0))),
  m1 25 27])
  (.cond (.t 25)
  (.seq (.reg [
   m1 28 15,
   o1 12 (.mv (.c (.slice none 0 0))),
   m1 13 28])
   .ret)
  (.seq (.reg [
   o1 30 (.addo (.t 6) 0),
   o1 31 (.ld (.t 30) 1 false),
   o1 32 (.len (.t 31)),
   o1 33 (.bin .sub (.t 32) (.c (.int .i64 1))),
   m1 34 1,
   o1 35 (.ld (.t 8) 1 false),
   o1 36 (.bsl 1 3 [.t 34,.t 35]),
   o1 37 (.call 76 [.c (.int .i64 0),.t 33,.t 36]),
   o1 38 (.un .not (.t 37)),
   m1 39 38,
   ⟨some 40,.mv (.t 3),some (39,false),[]⟩,
   ⟨some 41,.ld (.t 10) 1 false,some (39,false),[]⟩,
   ⟨some 42,.bsl 1 3 [.t 40,.t 41],some (39,false),[]⟩,
   ⟨some 43,.call 76 [.c (.int .i64 0),.c (.int .i64 100000),.t 42],some (39,false),[]⟩,
   ⟨some 44,.un .not (.t 43),some (39,false),[]⟩,
   o1 45 (.pick (.t 39) (.c (.bool true)) (.t 44)),
   m1 29 45])
   (.cond (.t 29)
   (.seq (.reg [
    o1 12 (.mv (.c (.slice none 0 0))),
    o1 13 (.mv (.c (.int .i64 2)))])
    .ret)
   .skip)))))
 (.seq (.reg [
 o1 16 (.alloc [.slice none 0 0] 144)])
 (.seq (.reg [
 o1 46 (.raw (Go.Op.makeMap 189 Option.none) 189),
 o1 17 (.alloc [.map none] 189),
 ⟨none,.st (.t 17) (.t 46) 1,none,[]⟩])
 (.seq (.reg [
 o1 18 (.alloc [.nilFunc] 199)])
 (.seq (.reg [
 o1 47 (.mkf 109 [.t 10,.t 8,.t 16,.t 17,.t 14,.t 18]),
 ⟨none,.st (.t 18) (.t 47) 1,none,[]⟩])
 (.seq (.seq (.gh (.reg [
 o1 48 (.ld (.t 18) 1 false),
 m1 49 1,
 m1 50 3,
 o1 51 (.build [.int .i64 0,.int .i64 0] [(0,1,.t 49),(1,1,.t 50)]),
 o1 52 (.calvm (.t 48) [.t 51,.c (.slice none 0 0)]),
 o1 53 (.un .not (.t 52))]))
 (.cond (.t 53)
 (.seq (.reg [
  o1 12 (.mv (.c (.slice none 0 0))),
  o1 13 (.mv (.c (.int .i64 9)))])
  .ret)
 .skip))
 (.seq (.reg [
 o1 54 (.ld (.t 16) 1 false),
 m1 12 54,
 o1 13 (.mv (.c (.int .i64 0)))])
 .ret)))))))))
def r65:List RV:=[.tmp 12,.tmp 13]
theorem t65:Qt1 Tryz.prog 65 c65 r65 55:=Z6 Tryz.func65 rfl (by kernel_rfl) (by kernel_rfl) (by kernel_rfl) (by kernel_rfl)
end Go.Proofs.YtiigiflofnjilaaGreat
namespace Go.Azalai
open Go.Sx
theorem Y6 {l:Land} {p:Span} {to till:Int} {f:Nat} {been:List Int} {v t:Int} {j:Nat}:∀ (k:Nat),∃ R,Z8 l p to till f been v t (j+k)=Z8 l p to till f been v t j ++ R
 | 0=>⟨[],by simp⟩
 | k+1=>by
  obtain ⟨R,h⟩:=Y6 k
  exact ⟨R ++ Y5 l p to till f been v t (j+k),by rw [<- Nat.add_assoc,ZZ,h,List.append_assoc]⟩
theorem Wr {l:Land} {p:Span} {to till:Int} {f:Nat} {been:List Int} {v t:Int} {j:Nat} {x:Leg} (hx:l.legs[j]? = some x) (h:Zj x v < 0\/Zj x v ∈ v :: been):Y5 l p to till f been v t j=[]:=by
 simp only [Y5,hx];rw [if_pos h]
theorem Wv {l:Land} {p:Span} {to till:Int} {f:Nat} {been:List Int} {v t:Int} {j:Nat} {x:Leg} (hx:l.legs[j]? = some x) (h0:¬ Zj x v < 0) (h:Zj x v ∉ v :: been) :
 Y5 l p to till f been v t j=(XC l p to till f (v :: been) (Zj x v) (ZO true x p t)).map (j :: ·):=by
 simp only [Y5,hx];rw [if_neg (fun q=>q.elim h0 h)]
end Go.Azalai
namespace Go.Proofs.YtiigiflofnjilaaGreat
open Go Go.Sx Go.Azalai
def Yr (w:List Nat):List SV:=[ZX w]
def YH (l:Land) (p:Span) (till to:Int) (all:List (List Nat)) (ver:Nat) (L:List (Nat × Int × Bool)) (clk:Nat):List (Nat × HB) :=
 [(0,.cells [I till] 3),(1,.cells [I to] 3),(2,.cells [.mr 6 ver] 144),(3,.cells [.mp 7] 189),(4,.cells (ZJ l p) 160),(5,.cells [.cl 109 [.p 0 0,.p 1 0,.p 2 0,.p 3 0,.p 4 0,.p 5 0]] 199),(6,.row ver 1 (all.map Yr) 35),(7,.map (mpS kI B L) clk)]
def lookP (l:Land) (p:Span) (till to:Int) (all:List (List Nat)) (L:List (Nat × Int × Bool)) (W:List (List Nat)):Ot->Prop:=fun o =>
 ∃ ver clk,MW L clk/\o=⟨false,B (decide ((all ++ W).length<=200)),YH l p till to (cap (all ++ W)) ver L clk,8⟩
def Zd6 (been:List Int) (L:List (Nat × Int × Bool)):Prop:=∀ u:Int,Xu u L=if u ∈ been then some true else none
theorem ZfV {L:List (Nat × Int × Bool)} {c:Nat} {v:Int} {b:Bool} (h:Xu v L=none):V2 v (VG c v b L)=L:=by
 rw [Zax h]
 have key:∀ (L:List (Nat × Int × Bool)),Xu v L=none->V2 v (L ++ [(c,v,b)])=L:=by
  intro L
  induction L with
  | nil=>intro _;simp [V2]
  | cons e L ih =>
   intro h
   have hne:e.2.1≠v:=Xs.1 h e (by simp)
   have hL:Xu v L=none:=Xs.2 fun x hx=>Xs.1 h x (by simp [hx])
   have:=ih hL
   obtain ⟨e1,e2,e3⟩:=e
   simp only at hne
   simp only [List.cons_append,V2]
   rw [this]
   simp [hne,Ne.symm hne]
 exact key L h
theorem ZvQ (l:Land) (p:Span) (hs:WZ l) (hok:OkLP l p) (till to:Int):∀ (f:Nat) (been:List Int) (v t:Int) (way:List Nat) (all:List (List Nat)) (ver clk:Nat) (L:List (Nat × Int × Bool)) (s1:SV),ZlK l f been->v ∉ been->(0<=v/\v < l.wells.length)->(0<=t/\t<=100001) ->
 way.length+f<=1000->all.length<=200->MW L clk->Zd6 been L->(s1=ZX way\/s1 = .v (.slice none 0 0)/\way=[]) ->
 CtM Tryz.prog 109 (YH l p till to all ver L clk) 8 [.agg [I v,I t],s1,.p 0 0,.p 1 0,.p 2 0,.p 3 0,.p 4 0,.p 5 0] (lookP l p till to all L ((XC l p to till f been v t).map (way ++ ·))):=by
 intro f
 induction f with
 | zero =>
  intro been v t way all ver clk L s1 hR hv hvi
  obtain ⟨g,h,_⟩:=hR.pos hv hvi
  omega
 | succ f ih =>
 intro been v t way all ver clk L s1 hR hv hvi ht hlen hall hM hbL hs1
 obtain ⟨g,hg,hR'⟩:=hR.pos hv hvi
 have hgf:g=f:=by omega
 subst hgf
 have hleg:=hs.2.1
 refine m109 (by simp [hpb,YH]) (fun o ho=>?_) ?_
 . obtain ⟨ver',clk',_,rfl⟩:=ho
   simp [YH,KX,KXL,KXP,KXH,Za,KFL,KF,ZJ,Zf,Zm,Zg,Yr,ZX,Z5,Zs,Zn]
 dsimp only [c109,r109,YH,go_sem,rA,rM,rS]
 rcases hs1 with rfl | ⟨rfl,hw0⟩
 . refine gh WR ?_
   dsimp only [ZX,go_sem,rA,rM,rS]
   refine br ?_ ?_
   . intro hlate
     have hlate:t > till:=of_decide_eq_true hlate
     dsimp only [go_sem,rA,rM,rS]
     refine ⟨_,⟨ver,clk,hM,rfl⟩,?_⟩
     rw [Zb8 hlate,List.map_nil,List.append_nil,Ve (by omega),decide_eq_true hall]
     (refine Yb ?_ ?_ ?_ rfl<;>dsimp only [ZJ,Zf,Zm,Zg,Yr,ZX,Z5,Zx,Zs,Zn,Za,YH,id,go_sem,rA,rM,rS]<;>simp [ZJ,Zf,Zm,Zg,Yr,ZX,Z5,Zx,Zs,Zn,Za,YH,Za,Ze,KFR,KFL,KF,Zc,mtO,nbr])
   intro hlate
   have hlate:¬ t > till:=of_decide_eq_false hlate
   dsimp only [go_sem,rA,rM,rS]
   refine br ?_ ?_
   . intro hto
     have hto:v=to:=by simpa using hto
     dsimp only [go_sem,rA,rM,rS]
     refine call (ZaA way (by omega)) ?_
     dsimp only [ZX,go_sem,rA,rM,rS]
     simp only [nbr]
     dsimp only [go_sem,rA,rM,rS]
     refine ⟨(by intro c hc;simp only [List.mem_singleton] at hc;subst hc;rfl),by simp;omega,?_⟩
     dsimp only [go_sem,rA,rM,rS]
     simp only [nbr]
     dsimp only [go_sem,rA,rM,rS]
     have e:all.map Yr ++ [[SV.sl false 1 (way.map Z5)]]=(all ++ [way]).map Yr:=by simp [Yr,ZX]
     rw [e]
     refine ⟨_,⟨ver+1,clk,hM,rfl⟩,?_⟩
     rw [YC,if_neg hlate,if_pos hto]
     simp only [List.map_cons,List.map_nil,List.append_nil,List.length_map]
     rw [Ve (by simp;omega)]
     have hd:decide (((all ++ [way]).length:Int)<=200)=decide ((all ++ [way]).length<=200):=by simp;omega
     rw [hd]
     (refine Yb ?_ ?_ ?_ rfl<;>dsimp only [ZJ,Zf,Zm,Zg,Yr,ZX,Z5,Zx,Zs,Zn,Za,YH,id,go_sem,rA,rM,rS]<;>simp [ZJ,Zf,Zm,Zg,Yr,ZX,Z5,Zx,Zs,Zn,Za,YH,Za,Ze,KFR,KFL,KF,Zc,mtO,nbr])
   intro hto
   have hto:¬ v=to:=by simpa using hto
   dsimp only [go_sem,rA,rM,rS]
   refine Zbv (ins:=false) (key:=kI) (val:=B) (L:=L) (k:=v) (v:=true) rfl rfl Zcy Zcv rfl rfl (by simp) ?_
   dsimp only [go_sem,rA,rM,rS]
   refine ⟨rfl,?_⟩
   have hvL:Xu v L=none:=by rw [hbL,if_neg hv]
   have hM1:=hM.set (k:=v) true
   have hL1:Zd6 (v :: been) (VG clk v true L):=fun u=>by
    rw [V6]
    by_cases hu:u=v
    . simp [hu]
    . rw [if_neg hu,hbL]
      simp [hu]
   have hdel:=ZfV (L:=L) (c:=clk) (b:=true) hvL
   generalize VG clk v true L=L1 at hM1 hL1 hdel ⊢
   generalize ZbR clk v L=clk1 at hM1 ⊢
   refine ZbQ [] (Zas l p v) rfl rfl rfl ?_ ?_ ?_
   . exact Zc (by simp [ZJ,Zf,Zm,Zg,Za,KFL,KF])
   . trivial
   dsimp only [Zbw,ZJ,go_sem,rA,rM,rS]
   refine gh WR ?_
   dsimp only [go_sem,rA,rM,rS]
   refine ⟨ZyD,fun rec=>?_⟩
   refine Zyw ?_
   dsimp only [Zwo,Zwr,go_sem,rA,rM,rS]
   refine Xf (fun q:Nat × List (List Nat) × Nat × Nat=>[(10,I q.1)]) (fun q=>[(2,.cells [.mr 6 q.2.2.1] 144),(6,.row q.2.2.1 1 (q.2.1.map Yr) 35),(7,.map (mpS kI B L1) q.2.2.2)])
    (fun q=>q.1<=l.legs.length/\MW L1 q.2.2.2/\q.2.1=all ++ (Z8 l p to till g been v t q.1).map (way ++ ·)/\q.2.1.length<=200) (fun q=>l.legs.length - q.1) (0,all,ver,clk1) ⟨Nat.zero_le _,hM1,by simp [Zdu],hall⟩ ?_ ?_
   . (refine Zl ?_ ?_ ?_ rfl rfl<;>dsimp only [ZJ,Zf,Zm,Zg,Yr,ZX,Z5,Zx,Zs,Zn,Za,id,go_sem,rA,rM,rS]<;>simp [ZJ,Zf,Zm,Zg,Yr,ZX,Z5,Zx,Zs,Zn,Za,Za,Ze,KFR,KFL,KF,Zc,mtO,nbr])
   rintro ⟨j,allj,ver,clk⟩ ⟨hj,hMj,hallj,hlenj⟩
   simp only at hj hMj hallj hlenj
   dsimp only [go_sem,rA,rM,rS]
   simp only [List.length_map]
   by_cases hlt:j < l.legs.length
   . refine Zu (by simpa using hlt) ?_
     dsimp only [go_sem,rA,rM,rS]
     refine Zp j hlt rfl ?_
     dsimp only [Zm,go_sem,rA,rM,rS]
     have hgl:GoodLeg l.legs[j]:=XI hok.land _ (List.getElem_mem _)
     have hends:=hok.ends (List.getElem_mem hlt)
     have hxj:l.legs[j]? = some l.legs[j]:=List.getElem?_eq_getElem hlt
     have hin:inR 0 100001 t=true:=by simp only [inR,decide_eq_true_eq];omega
     have hab:=Xw (k:=true) (t:=t) hgl hok.pace (by omega)
     by_cases hca:v=l.legs[j].a
     . refine Zu (by simpa using hca) ?_
       have hoth:Zj l.legs[j] v=l.legs[j].b:=by rw [Zj,if_pos hca.symm]
       dsimp only [go_sem,rA,rM,rS]
       refine ⟨rfl,rfl,?_⟩
       refine ZaW (key:=kI) (sv:=sI) (val:=B) (L:=L1) (k:=l.legs[j].b) (z:=.bool false) (zs:=B false) rfl rfl Zcy Zcv rfl (by kernel_rfl) (fun w E n ok=>by simp only [R]) ?_ ?_
       . intro b hget
         have hb:b=true/\Zj l.legs[j] v ∈ v :: been:=by
          have h:=hL1 l.legs[j].b
          rw [hget] at h
          rw [hoth]
          split at h
          . rename_i hm;exact ⟨Option.some.inj h,hm⟩
          . cases h
         obtain ⟨rfl,hmem⟩:=hb
         dsimp only [Bool.not_true,go_sem,rA,rM,rS]
         repeat (refine Vb (by decide) ?_;dsimp only [go_sem,rA,rM,rS])
         refine Zv (by decide) ?_
         dsimp only [go_sem,rA,rM,rS]
         refine ⟨rfl,?_⟩
         refine Zv (by decide) ?_
         dsimp only [go_sem,rA,rM,rS]
         rw [Zi (n:=(j:Int)+1) (by omega) (by omega)]
         refine ⟨(j+1,allj,ver,clk),⟨hlt,hMj,by rw [ZZ,Wr hxj (.inr hmem),List.append_nil];exact hallj,hlenj⟩,by simp only;omega,?_⟩
         (refine Zl ?_ ?_ ?_ rfl rfl<;>dsimp only [ZJ,Zf,Zm,Zg,Yr,ZX,Z5,Zx,Zs,Zn,Za,id,go_sem,rA,rM,rS]<;>simp [ZJ,Zf,Zm,Zg,Yr,ZX,Z5,Zx,Zs,Zn,Za,Za,Ze,KFR,KFL,KF,Zc,mtO,nbr])
       intro hget
       have hnb:Zj l.legs[j] v ∉ v :: been:=fun hm=>by
        have h:=hL1 l.legs[j].b
        rw [hoth] at hm
        rw [hget,if_pos hm] at h;cases h
       have hn0:¬ Zj l.legs[j] v < 0:=by rw [hoth];omega
       dsimp only [Bool.not_false,go_sem,rA,rM,rS]
       iterate 10 (refine Yp rfl ?_;dsimp only [go_sem,rA,rM,rS])
       refine call (XK l p j hlt t t hgl hok.pace hin hin) ?_
       dsimp only [go_sem,rA,rM,rS]
       refine Yp rfl ?_
       dsimp only [go_sem,rA,rM,rS]
       refine ixa 1 rfl (by decide) ?_
       dsimp only [go_sem,rA,rM,rS]
       iterate 4 (refine Yp rfl ?_;dsimp only [go_sem,rA,rM,rS])
       refine call (ZcW way j (by omega)) ?_
       dsimp only [ZX,go_sem,rA,rM,rS]
       refine Yp rfl ?_
       dsimp only [go_sem,rA,rM,rS]
       have hot:=ZV hok hxj hn0
       have hih:=ih (v :: been) (Zj l.legs[j] v) (ZO true l.legs[j] p t) (way ++ [j]) allj ver clk L1 (ZX (way ++ [j])) hR' hnb hot.1 (by omega) (by simp;omega) hlenj hMj hL1 (.inl rfl)
       have hWj:(XC l p to till g (v :: been) (Zj l.legs[j] v) (ZO true l.legs[j] p t)).map (way ++ [j] ++ ·)=(Y5 l p to till g been v t j).map (way ++ ·):=by
        rw [Wv hxj hn0 hnb,List.map_map]
        simp [Function.comp_def]
       rw [hWj,hoth] at hih
       refine YP [0,1,2,3,4,5,6,7] hih rfl rfl ?_ ?_ ?_ ?_
       . rfl
       . dsimp only [rho,ZX,go_sem,rA,rM,rS]
         simp [Za,Ze,KFR,KFL,KF,Zc,mtO,nbr,ZJ,Zf,Zm,Zg,Yr,ZX,Z5,Zs,Zn]
       . dsimp only [rho,YH,ZJ,go_sem,rA,rM,rS]
         simp [Za,Ze,KFR,KFL,KF,Zc,mtO,nbr,ZJ,Zf,Zm,Zg,Yr,ZX,Z5,Zs,Zn]
       rintro o ⟨ver',clk',hM',rfl⟩
       dsimp only [YH,ZJ,go_sem,rA,rM,rS]
       refine Yp rfl ?_
       dsimp only [Bool.not_false,go_sem,rA,rM,rS]
       have hnext:all ++ (Z8 l p to till g been v t (j+1)).map (way ++ ·)=allj ++ (Y5 l p to till g been v t j).map (way ++ ·):=by
        rw [ZZ,List.map_append,<- List.append_assoc,<- hallj]
       generalize hWW:(Y5 l p to till g been v t j).map (way ++ ·)=Wj at hnext ⊢
       by_cases hsm:(allj ++ Wj).length<=200
       . refine Zv (by simp only [hsm,decide_true];rfl) ?_
         dsimp only [go_sem,rA,rM,rS]
         refine ⟨rfl,?_⟩
         refine Zv (by decide) ?_
         dsimp only [go_sem,rA,rM,rS]
         rw [Zi (n:=(j:Int)+1) (by omega) (by omega),Ve (by omega)]
         rw [<- hnext] at hsm ⊢
         refine ⟨(j+1,_,ver',clk'),⟨hlt,hM',rfl,hsm⟩,by simp only;omega,?_⟩
         generalize all ++ (Z8 l p to till g been v t (j+1)).map (way ++ ·)=alln
         (refine Zl ?_ ?_ ?_ rfl rfl<;>dsimp only [ZJ,Zf,Zm,Zg,Yr,ZX,Z5,Zx,Zs,Zn,Za,id,go_sem,rA,rM,rS]<;>simp [ZJ,Zf,Zm,Zg,Yr,ZX,Z5,Zx,Zs,Zn,Za,Za,Ze,KFR,KFL,KF,Zc,mtO,nbr])
       . refine Zu (by simp only [hsm,decide_false];rfl) ?_
         dsimp only [go_sem,rA,rM,rS]
         refine ⟨rfl,?_⟩
         refine Zu rfl ?_
         dsimp only [go_sem,rA,rM,rS]
         have hWs:XC l p to till (g+1) been v t=Z8 l p to till g been v t l.legs.length:=by rw [YC,if_neg hlate,if_neg hto]
         obtain ⟨R,hRs⟩:=Y6 (l:=l) (p:=p) (to:=to) (till:=till) (f:=g) (been:=been) (v:=v) (t:=t) (j:=j+1) (l.legs.length - (j+1))
         rw [show j+1+(l.legs.length - (j+1))=l.legs.length by omega] at hRs
         have hall2:all ++ (XC l p to till (g+1) been v t).map (way ++ ·)=allj ++ Wj ++ R.map (way ++ ·):=by
          rw [hWs,hRs,List.map_append,<- List.append_assoc,hnext]
         have hlong:¬ (allj ++ Wj ++ R.map (way ++ ·)).length<=200:=by rw [List.length_append];omega
         refine ⟨_,Zwu (key:=kI) (val:=B) (sv:=sI) (L:=L1) (k:=v) Zcy Zcv,?_⟩
         rw [hdel]
         have hMf:MW L clk':=by have:=hM'.del (k:=v);rw [hdel] at this;exact this
         refine ⟨_,⟨ver',clk',hMf,rfl⟩,?_⟩
         have hc2:cap (allj ++ Wj ++ R.map (way ++ ·))=cap (allj ++ Wj):=Zct (by omega)
         rw [hall2,hc2,decide_eq_false hlong]
         generalize cap (allj ++ Wj)=alln
         (refine Yb ?_ ?_ ?_ rfl<;>dsimp only [ZJ,Zf,Zm,Zg,Yr,ZX,Z5,Zx,Zs,Zn,Za,YH,id,go_sem,rA,rM,rS]<;>simp [ZJ,Zf,Zm,Zg,Yr,ZX,Z5,Zx,Zs,Zn,Za,YH,Za,Ze,KFR,KFL,KF,Zc,mtO,nbr])
     refine Zv (by simpa using hca) ?_
     dsimp only [go_sem,rA,rM,rS]
     by_cases hcb:v=l.legs[j].b
     . refine Zu (by simpa using hcb) ?_
       have hoth:Zj l.legs[j] v=l.legs[j].a:=by rw [Zj,if_neg (fun h=>hca h.symm),if_pos hcb.symm]
       dsimp only [go_sem,rA,rM,rS]
       refine ⟨rfl,rfl,?_⟩
       refine ZaW (key:=kI) (sv:=sI) (val:=B) (L:=L1) (k:=l.legs[j].a) (z:=.bool false) (zs:=B false) rfl rfl Zcy Zcv rfl (by kernel_rfl) (fun w E n ok=>by simp only [R]) ?_ ?_
       . intro b hget
         have hb:b=true/\Zj l.legs[j] v ∈ v :: been:=by
          have h:=hL1 l.legs[j].a
          rw [hget] at h
          rw [hoth]
          split at h
          . rename_i hm;exact ⟨Option.some.inj h,hm⟩
          . cases h
         obtain ⟨rfl,hmem⟩:=hb
         dsimp only [Bool.not_true,go_sem,rA,rM,rS]
         repeat (refine Vb (by decide) ?_;dsimp only [go_sem,rA,rM,rS])
         refine Zv (by decide) ?_
         dsimp only [go_sem,rA,rM,rS]
         refine ⟨rfl,?_⟩
         refine Zv (by decide) ?_
         dsimp only [go_sem,rA,rM,rS]
         rw [Zi (n:=(j:Int)+1) (by omega) (by omega)]
         refine ⟨(j+1,allj,ver,clk),⟨hlt,hMj,by rw [ZZ,Wr hxj (.inr hmem),List.append_nil];exact hallj,hlenj⟩,by simp only;omega,?_⟩
         (refine Zl ?_ ?_ ?_ rfl rfl<;>dsimp only [ZJ,Zf,Zm,Zg,Yr,ZX,Z5,Zx,Zs,Zn,Za,id,go_sem,rA,rM,rS]<;>simp [ZJ,Zf,Zm,Zg,Yr,ZX,Z5,Zx,Zs,Zn,Za,Za,Ze,KFR,KFL,KF,Zc,mtO,nbr])
       intro hget
       have hnb:Zj l.legs[j] v ∉ v :: been:=fun hm=>by
        have h:=hL1 l.legs[j].a
        rw [hoth] at hm
        rw [hget,if_pos hm] at h;cases h
       have hn0:¬ Zj l.legs[j] v < 0:=by rw [hoth];omega
       dsimp only [Bool.not_false,go_sem,rA,rM,rS]
       iterate 10 (refine Yp rfl ?_;dsimp only [go_sem,rA,rM,rS])
       refine call (XK l p j hlt t t hgl hok.pace hin hin) ?_
       dsimp only [go_sem,rA,rM,rS]
       refine Yp rfl ?_
       dsimp only [go_sem,rA,rM,rS]
       refine ixa 1 rfl (by decide) ?_
       dsimp only [go_sem,rA,rM,rS]
       iterate 4 (refine Yp rfl ?_;dsimp only [go_sem,rA,rM,rS])
       refine call (ZcW way j (by omega)) ?_
       dsimp only [ZX,go_sem,rA,rM,rS]
       refine Yp rfl ?_
       dsimp only [go_sem,rA,rM,rS]
       have hot:=ZV hok hxj hn0
       have hih:=ih (v :: been) (Zj l.legs[j] v) (ZO true l.legs[j] p t) (way ++ [j]) allj ver clk L1 (ZX (way ++ [j])) hR' hnb hot.1 (by omega) (by simp;omega) hlenj hMj hL1 (.inl rfl)
       have hWj:(XC l p to till g (v :: been) (Zj l.legs[j] v) (ZO true l.legs[j] p t)).map (way ++ [j] ++ ·)=(Y5 l p to till g been v t j).map (way ++ ·):=by
        rw [Wv hxj hn0 hnb,List.map_map]
        simp [Function.comp_def]
       rw [hWj,hoth] at hih
       refine YP [0,1,2,3,4,5,6,7] hih rfl rfl ?_ ?_ ?_ ?_
       . rfl
       . dsimp only [rho,ZX,go_sem,rA,rM,rS]
         simp [Za,Ze,KFR,KFL,KF,Zc,mtO,nbr,ZJ,Zf,Zm,Zg,Yr,ZX,Z5,Zs,Zn]
       . dsimp only [rho,YH,ZJ,go_sem,rA,rM,rS]
         simp [Za,Ze,KFR,KFL,KF,Zc,mtO,nbr,ZJ,Zf,Zm,Zg,Yr,ZX,Z5,Zs,Zn]
       rintro o ⟨ver',clk',hM',rfl⟩
       dsimp only [YH,ZJ,go_sem,rA,rM,rS]
       refine Yp rfl ?_
       dsimp only [Bool.not_false,go_sem,rA,rM,rS]
       have hnext:all ++ (Z8 l p to till g been v t (j+1)).map (way ++ ·)=allj ++ (Y5 l p to till g been v t j).map (way ++ ·):=by
        rw [ZZ,List.map_append,<- List.append_assoc,<- hallj]
       generalize hWW:(Y5 l p to till g been v t j).map (way ++ ·)=Wj at hnext ⊢
       by_cases hsm:(allj ++ Wj).length<=200
       . refine Zv (by simp only [hsm,decide_true];rfl) ?_
         dsimp only [go_sem,rA,rM,rS]
         refine ⟨rfl,?_⟩
         refine Zv (by decide) ?_
         dsimp only [go_sem,rA,rM,rS]
         rw [Zi (n:=(j:Int)+1) (by omega) (by omega),Ve (by omega)]
         rw [<- hnext] at hsm ⊢
         refine ⟨(j+1,_,ver',clk'),⟨hlt,hM',rfl,hsm⟩,by simp only;omega,?_⟩
         generalize all ++ (Z8 l p to till g been v t (j+1)).map (way ++ ·)=alln
         (refine Zl ?_ ?_ ?_ rfl rfl<;>dsimp only [ZJ,Zf,Zm,Zg,Yr,ZX,Z5,Zx,Zs,Zn,Za,id,go_sem,rA,rM,rS]<;>simp [ZJ,Zf,Zm,Zg,Yr,ZX,Z5,Zx,Zs,Zn,Za,Za,Ze,KFR,KFL,KF,Zc,mtO,nbr])
       . refine Zu (by simp only [hsm,decide_false];rfl) ?_
         dsimp only [go_sem,rA,rM,rS]
         refine ⟨rfl,?_⟩
         refine Zu rfl ?_
         dsimp only [go_sem,rA,rM,rS]
         have hWs:XC l p to till (g+1) been v t=Z8 l p to till g been v t l.legs.length:=by rw [YC,if_neg hlate,if_neg hto]
         obtain ⟨R,hRs⟩:=Y6 (l:=l) (p:=p) (to:=to) (till:=till) (f:=g) (been:=been) (v:=v) (t:=t) (j:=j+1) (l.legs.length - (j+1))
         rw [show j+1+(l.legs.length - (j+1))=l.legs.length by omega] at hRs
         have hall2:all ++ (XC l p to till (g+1) been v t).map (way ++ ·)=allj ++ Wj ++ R.map (way ++ ·):=by
          rw [hWs,hRs,List.map_append,<- List.append_assoc,hnext]
         have hlong:¬ (allj ++ Wj ++ R.map (way ++ ·)).length<=200:=by rw [List.length_append];omega
         refine ⟨_,Zwu (key:=kI) (val:=B) (sv:=sI) (L:=L1) (k:=v) Zcy Zcv,?_⟩
         rw [hdel]
         have hMf:MW L clk':=by have:=hM'.del (k:=v);rw [hdel] at this;exact this
         refine ⟨_,⟨ver',clk',hMf,rfl⟩,?_⟩
         have hc2:cap (allj ++ Wj ++ R.map (way ++ ·))=cap (allj ++ Wj):=Zct (by omega)
         rw [hall2,hc2,decide_eq_false hlong]
         generalize cap (allj ++ Wj)=alln
         (refine Yb ?_ ?_ ?_ rfl<;>dsimp only [ZJ,Zf,Zm,Zg,Yr,ZX,Z5,Zx,Zs,Zn,Za,YH,id,go_sem,rA,rM,rS]<;>simp [ZJ,Zf,Zm,Zg,Yr,ZX,Z5,Zx,Zs,Zn,Za,YH,Za,Ze,KFR,KFL,KF,Zc,mtO,nbr])
     refine Zv (by simpa using hcb) ?_
     dsimp only [go_sem,rA,rM,rS]
     rw [Zi (n:=(j:Int)+1) (by omega) (by omega)]
     have hoth:Zj l.legs[j] v = -1:=by rw [Zj,if_neg (fun h=>hca h.symm),if_neg (fun h=>hcb h.symm)]
     refine ⟨(j+1,allj,ver,clk),⟨hlt,hMj,by rw [ZZ,Wr hxj (.inl (by omega)),List.append_nil];exact hallj,hlenj⟩,by simp only;omega,?_⟩
     (refine Zl ?_ ?_ ?_ rfl rfl<;>dsimp only [ZJ,Zf,Zm,Zg,Yr,ZX,Z5,Zx,Zs,Zn,Za,id,go_sem,rA,rM,rS]<;>simp [ZJ,Zf,Zm,Zg,Yr,ZX,Z5,Zx,Zs,Zn,Za,Za,Ze,KFR,KFL,KF,Zc,mtO,nbr])
   refine Zv (by simp;omega) ?_
   dsimp only [go_sem,rA,rM,rS]
   have hje:j=l.legs.length:=by omega
   subst hje
   have hWs:XC l p to till (g+1) been v t=Z8 l p to till g been v t l.legs.length:=by rw [YC,if_neg hlate,if_neg hto]
   refine ⟨_,Zwu (key:=kI) (val:=B) (sv:=sI) (L:=L1) (k:=v) Zcy Zcv,?_⟩
   rw [hdel]
   have hMf:MW L clk:=by have:=hMj.del (k:=v);rw [hdel] at this;exact this
   refine ⟨_,⟨ver,clk,hMf,rfl⟩,?_⟩
   rw [hWs,<- hallj,Ve (by omega),decide_eq_true hlenj]
   (refine Yb ?_ ?_ ?_ rfl<;>dsimp only [ZJ,Zf,Zm,Zg,Yr,ZX,Z5,Zx,Zs,Zn,Za,YH,id,go_sem,rA,rM,rS]<;>simp [ZJ,Zf,Zm,Zg,Yr,ZX,Z5,Zx,Zs,Zn,Za,YH,Za,Ze,KFR,KFL,KF,Zc,mtO,nbr])
 . refine gh (ZaO (s':=.sl false 1 (way.map Z5)) 1 rfl (by subst hw0;exact YN) (fun _ _ _ h=>by cases h)) ?_
   dsimp only [ZX,go_sem,rA,rM,rS]
   refine br ?_ ?_
   . intro hlate
     have hlate:t > till:=of_decide_eq_true hlate
     dsimp only [go_sem,rA,rM,rS]
     refine ⟨_,⟨ver,clk,hM,rfl⟩,?_⟩
     rw [Zb8 hlate,List.map_nil,List.append_nil,Ve (by omega),decide_eq_true hall]
     (refine Yb ?_ ?_ ?_ rfl<;>dsimp only [ZJ,Zf,Zm,Zg,Yr,ZX,Z5,Zx,Zs,Zn,Za,YH,id,go_sem,rA,rM,rS]<;>simp [ZJ,Zf,Zm,Zg,Yr,ZX,Z5,Zx,Zs,Zn,Za,YH,Za,Ze,KFR,KFL,KF,Zc,mtO,nbr])
   intro hlate
   have hlate:¬ t > till:=of_decide_eq_false hlate
   dsimp only [go_sem,rA,rM,rS]
   refine br ?_ ?_
   . intro hto
     have hto:v=to:=by simpa using hto
     dsimp only [go_sem,rA,rM,rS]
     refine call (ZaA way (by omega)) ?_
     dsimp only [ZX,go_sem,rA,rM,rS]
     simp only [nbr]
     dsimp only [go_sem,rA,rM,rS]
     refine ⟨(by intro c hc;simp only [List.mem_singleton] at hc;subst hc;rfl),by simp;omega,?_⟩
     dsimp only [go_sem,rA,rM,rS]
     simp only [nbr]
     dsimp only [go_sem,rA,rM,rS]
     have e:all.map Yr ++ [[SV.sl false 1 (way.map Z5)]]=(all ++ [way]).map Yr:=by simp [Yr,ZX]
     rw [e]
     refine ⟨_,⟨ver+1,clk,hM,rfl⟩,?_⟩
     rw [YC,if_neg hlate,if_pos hto]
     simp only [List.map_cons,List.map_nil,List.append_nil,List.length_map]
     rw [Ve (by simp;omega)]
     have hd:decide (((all ++ [way]).length:Int)<=200)=decide ((all ++ [way]).length<=200):=by simp;omega
     rw [hd]
     (refine Yb ?_ ?_ ?_ rfl<;>dsimp only [ZJ,Zf,Zm,Zg,Yr,ZX,Z5,Zx,Zs,Zn,Za,YH,id,go_sem,rA,rM,rS]<;>simp [ZJ,Zf,Zm,Zg,Yr,ZX,Z5,Zx,Zs,Zn,Za,YH,Za,Ze,KFR,KFL,KF,Zc,mtO,nbr])
   intro hto
   have hto:¬ v=to:=by simpa using hto
   dsimp only [go_sem,rA,rM,rS]
   refine Zbv (ins:=false) (key:=kI) (val:=B) (L:=L) (k:=v) (v:=true) rfl rfl Zcy Zcv rfl rfl (by simp) ?_
   dsimp only [go_sem,rA,rM,rS]
   refine ⟨rfl,?_⟩
   have hvL:Xu v L=none:=by rw [hbL,if_neg hv]
   have hM1:=hM.set (k:=v) true
   have hL1:Zd6 (v :: been) (VG clk v true L):=fun u=>by
    rw [V6]
    by_cases hu:u=v
    . simp [hu]
    . rw [if_neg hu,hbL]
      simp [hu]
   have hdel:=ZfV (L:=L) (c:=clk) (b:=true) hvL
   generalize VG clk v true L=L1 at hM1 hL1 hdel ⊢
   generalize ZbR clk v L=clk1 at hM1 ⊢
   refine ZbQ [] (Zas l p v) rfl rfl rfl ?_ ?_ ?_
   . exact Zc (by simp [ZJ,Zf,Zm,Zg,Za,KFL,KF])
   . trivial
   dsimp only [Zbw,ZJ,go_sem,rA,rM,rS]
   refine gh WR ?_
   dsimp only [go_sem,rA,rM,rS]
   refine ⟨ZyD,fun rec=>?_⟩
   refine Zyw ?_
   dsimp only [Zwo,Zwr,go_sem,rA,rM,rS]
   refine Xf (fun q:Nat × List (List Nat) × Nat × Nat=>[(10,I q.1)]) (fun q=>[(2,.cells [.mr 6 q.2.2.1] 144),(6,.row q.2.2.1 1 (q.2.1.map Yr) 35),(7,.map (mpS kI B L1) q.2.2.2)])
    (fun q=>q.1<=l.legs.length/\MW L1 q.2.2.2/\q.2.1=all ++ (Z8 l p to till g been v t q.1).map (way ++ ·)/\q.2.1.length<=200) (fun q=>l.legs.length - q.1) (0,all,ver,clk1) ⟨Nat.zero_le _,hM1,by simp [Zdu],hall⟩ ?_ ?_
   . (refine Zl ?_ ?_ ?_ rfl rfl<;>dsimp only [ZJ,Zf,Zm,Zg,Yr,ZX,Z5,Zx,Zs,Zn,Za,id,go_sem,rA,rM,rS]<;>simp [ZJ,Zf,Zm,Zg,Yr,ZX,Z5,Zx,Zs,Zn,Za,Za,Ze,KFR,KFL,KF,Zc,mtO,nbr])
   rintro ⟨j,allj,ver,clk⟩ ⟨hj,hMj,hallj,hlenj⟩
   simp only at hj hMj hallj hlenj
   dsimp only [go_sem,rA,rM,rS]
   simp only [List.length_map]
   by_cases hlt:j < l.legs.length
   . refine Zu (by simpa using hlt) ?_
     dsimp only [go_sem,rA,rM,rS]
     refine Zp j hlt rfl ?_
     dsimp only [Zm,go_sem,rA,rM,rS]
     have hgl:GoodLeg l.legs[j]:=XI hok.land _ (List.getElem_mem _)
     have hends:=hok.ends (List.getElem_mem hlt)
     have hxj:l.legs[j]? = some l.legs[j]:=List.getElem?_eq_getElem hlt
     have hin:inR 0 100001 t=true:=by simp only [inR,decide_eq_true_eq];omega
     have hab:=Xw (k:=true) (t:=t) hgl hok.pace (by omega)
     by_cases hca:v=l.legs[j].a
     . refine Zu (by simpa using hca) ?_
       have hoth:Zj l.legs[j] v=l.legs[j].b:=by rw [Zj,if_pos hca.symm]
       dsimp only [go_sem,rA,rM,rS]
       refine ⟨rfl,rfl,?_⟩
       refine ZaW (key:=kI) (sv:=sI) (val:=B) (L:=L1) (k:=l.legs[j].b) (z:=.bool false) (zs:=B false) rfl rfl Zcy Zcv rfl (by kernel_rfl) (fun w E n ok=>by simp only [R]) ?_ ?_
       . intro b hget
         have hb:b=true/\Zj l.legs[j] v ∈ v :: been:=by
          have h:=hL1 l.legs[j].b
          rw [hget] at h
          rw [hoth]
          split at h
          . rename_i hm;exact ⟨Option.some.inj h,hm⟩
          . cases h
         obtain ⟨rfl,hmem⟩:=hb
         dsimp only [Bool.not_true,go_sem,rA,rM,rS]
         repeat (refine Vb (by decide) ?_;dsimp only [go_sem,rA,rM,rS])
         refine Zv (by decide) ?_
         dsimp only [go_sem,rA,rM,rS]
         refine ⟨rfl,?_⟩
         refine Zv (by decide) ?_
         dsimp only [go_sem,rA,rM,rS]
         rw [Zi (n:=(j:Int)+1) (by omega) (by omega)]
         refine ⟨(j+1,allj,ver,clk),⟨hlt,hMj,by rw [ZZ,Wr hxj (.inr hmem),List.append_nil];exact hallj,hlenj⟩,by simp only;omega,?_⟩
         (refine Zl ?_ ?_ ?_ rfl rfl<;>dsimp only [ZJ,Zf,Zm,Zg,Yr,ZX,Z5,Zx,Zs,Zn,Za,id,go_sem,rA,rM,rS]<;>simp [ZJ,Zf,Zm,Zg,Yr,ZX,Z5,Zx,Zs,Zn,Za,Za,Ze,KFR,KFL,KF,Zc,mtO,nbr])
       intro hget
       have hnb:Zj l.legs[j] v ∉ v :: been:=fun hm=>by
        have h:=hL1 l.legs[j].b
        rw [hoth] at hm
        rw [hget,if_pos hm] at h;cases h
       have hn0:¬ Zj l.legs[j] v < 0:=by rw [hoth];omega
       dsimp only [Bool.not_false,go_sem,rA,rM,rS]
       iterate 10 (refine Yp rfl ?_;dsimp only [go_sem,rA,rM,rS])
       refine call (XK l p j hlt t t hgl hok.pace hin hin) ?_
       dsimp only [go_sem,rA,rM,rS]
       refine Yp rfl ?_
       dsimp only [go_sem,rA,rM,rS]
       refine ixa 1 rfl (by decide) ?_
       dsimp only [go_sem,rA,rM,rS]
       iterate 4 (refine Yp rfl ?_;dsimp only [go_sem,rA,rM,rS])
       refine call (ZcW way j (by omega)) ?_
       dsimp only [ZX,go_sem,rA,rM,rS]
       refine Yp rfl ?_
       dsimp only [go_sem,rA,rM,rS]
       have hot:=ZV hok hxj hn0
       have hih:=ih (v :: been) (Zj l.legs[j] v) (ZO true l.legs[j] p t) (way ++ [j]) allj ver clk L1 (ZX (way ++ [j])) hR' hnb hot.1 (by omega) (by simp;omega) hlenj hMj hL1 (.inl rfl)
       have hWj:(XC l p to till g (v :: been) (Zj l.legs[j] v) (ZO true l.legs[j] p t)).map (way ++ [j] ++ ·)=(Y5 l p to till g been v t j).map (way ++ ·):=by
        rw [Wv hxj hn0 hnb,List.map_map]
        simp [Function.comp_def]
       rw [hWj,hoth] at hih
       refine YP [0,1,2,3,4,5,6,7] hih rfl rfl ?_ ?_ ?_ ?_
       . rfl
       . dsimp only [rho,ZX,go_sem,rA,rM,rS]
         simp [Za,Ze,KFR,KFL,KF,Zc,mtO,nbr,ZJ,Zf,Zm,Zg,Yr,ZX,Z5,Zs,Zn]
       . dsimp only [rho,YH,ZJ,go_sem,rA,rM,rS]
         simp [Za,Ze,KFR,KFL,KF,Zc,mtO,nbr,ZJ,Zf,Zm,Zg,Yr,ZX,Z5,Zs,Zn]
       rintro o ⟨ver',clk',hM',rfl⟩
       dsimp only [YH,ZJ,go_sem,rA,rM,rS]
       refine Yp rfl ?_
       dsimp only [Bool.not_false,go_sem,rA,rM,rS]
       have hnext:all ++ (Z8 l p to till g been v t (j+1)).map (way ++ ·)=allj ++ (Y5 l p to till g been v t j).map (way ++ ·):=by
        rw [ZZ,List.map_append,<- List.append_assoc,<- hallj]
       generalize hWW:(Y5 l p to till g been v t j).map (way ++ ·)=Wj at hnext ⊢
       by_cases hsm:(allj ++ Wj).length<=200
       . refine Zv (by simp only [hsm,decide_true];rfl) ?_
         dsimp only [go_sem,rA,rM,rS]
         refine ⟨rfl,?_⟩
         refine Zv (by decide) ?_
         dsimp only [go_sem,rA,rM,rS]
         rw [Zi (n:=(j:Int)+1) (by omega) (by omega),Ve (by omega)]
         rw [<- hnext] at hsm ⊢
         refine ⟨(j+1,_,ver',clk'),⟨hlt,hM',rfl,hsm⟩,by simp only;omega,?_⟩
         generalize all ++ (Z8 l p to till g been v t (j+1)).map (way ++ ·)=alln
         (refine Zl ?_ ?_ ?_ rfl rfl<;>dsimp only [ZJ,Zf,Zm,Zg,Yr,ZX,Z5,Zx,Zs,Zn,Za,id,go_sem,rA,rM,rS]<;>simp [ZJ,Zf,Zm,Zg,Yr,ZX,Z5,Zx,Zs,Zn,Za,Za,Ze,KFR,KFL,KF,Zc,mtO,nbr])
       . refine Zu (by simp only [hsm,decide_false];rfl) ?_
         dsimp only [go_sem,rA,rM,rS]
         refine ⟨rfl,?_⟩
         refine Zu rfl ?_
         dsimp only [go_sem,rA,rM,rS]
         have hWs:XC l p to till (g+1) been v t=Z8 l p to till g been v t l.legs.length:=by rw [YC,if_neg hlate,if_neg hto]
         obtain ⟨R,hRs⟩:=Y6 (l:=l) (p:=p) (to:=to) (till:=till) (f:=g) (been:=been) (v:=v) (t:=t) (j:=j+1) (l.legs.length - (j+1))
         rw [show j+1+(l.legs.length - (j+1))=l.legs.length by omega] at hRs
         have hall2:all ++ (XC l p to till (g+1) been v t).map (way ++ ·)=allj ++ Wj ++ R.map (way ++ ·):=by
          rw [hWs,hRs,List.map_append,<- List.append_assoc,hnext]
         have hlong:¬ (allj ++ Wj ++ R.map (way ++ ·)).length<=200:=by rw [List.length_append];omega
         refine ⟨_,Zwu (key:=kI) (val:=B) (sv:=sI) (L:=L1) (k:=v) Zcy Zcv,?_⟩
         rw [hdel]
         have hMf:MW L clk':=by have:=hM'.del (k:=v);rw [hdel] at this;exact this
         refine ⟨_,⟨ver',clk',hMf,rfl⟩,?_⟩
         have hc2:cap (allj ++ Wj ++ R.map (way ++ ·))=cap (allj ++ Wj):=Zct (by omega)
         rw [hall2,hc2,decide_eq_false hlong]
         generalize cap (allj ++ Wj)=alln
         (refine Yb ?_ ?_ ?_ rfl<;>dsimp only [ZJ,Zf,Zm,Zg,Yr,ZX,Z5,Zx,Zs,Zn,Za,YH,id,go_sem,rA,rM,rS]<;>simp [ZJ,Zf,Zm,Zg,Yr,ZX,Z5,Zx,Zs,Zn,Za,YH,Za,Ze,KFR,KFL,KF,Zc,mtO,nbr])
     refine Zv (by simpa using hca) ?_
     dsimp only [go_sem,rA,rM,rS]
     by_cases hcb:v=l.legs[j].b
     . refine Zu (by simpa using hcb) ?_
       have hoth:Zj l.legs[j] v=l.legs[j].a:=by rw [Zj,if_neg (fun h=>hca h.symm),if_pos hcb.symm]
       dsimp only [go_sem,rA,rM,rS]
       refine ⟨rfl,rfl,?_⟩
       refine ZaW (key:=kI) (sv:=sI) (val:=B) (L:=L1) (k:=l.legs[j].a) (z:=.bool false) (zs:=B false) rfl rfl Zcy Zcv rfl (by kernel_rfl) (fun w E n ok=>by simp only [R]) ?_ ?_
       . intro b hget
         have hb:b=true/\Zj l.legs[j] v ∈ v :: been:=by
          have h:=hL1 l.legs[j].a
          rw [hget] at h
          rw [hoth]
          split at h
          . rename_i hm;exact ⟨Option.some.inj h,hm⟩
          . cases h
         obtain ⟨rfl,hmem⟩:=hb
         dsimp only [Bool.not_true,go_sem,rA,rM,rS]
         repeat (refine Vb (by decide) ?_;dsimp only [go_sem,rA,rM,rS])
         refine Zv (by decide) ?_
         dsimp only [go_sem,rA,rM,rS]
         refine ⟨rfl,?_⟩
         refine Zv (by decide) ?_
         dsimp only [go_sem,rA,rM,rS]
         rw [Zi (n:=(j:Int)+1) (by omega) (by omega)]
         refine ⟨(j+1,allj,ver,clk),⟨hlt,hMj,by rw [ZZ,Wr hxj (.inr hmem),List.append_nil];exact hallj,hlenj⟩,by simp only;omega,?_⟩
         (refine Zl ?_ ?_ ?_ rfl rfl<;>dsimp only [ZJ,Zf,Zm,Zg,Yr,ZX,Z5,Zx,Zs,Zn,Za,id,go_sem,rA,rM,rS]<;>simp [ZJ,Zf,Zm,Zg,Yr,ZX,Z5,Zx,Zs,Zn,Za,Za,Ze,KFR,KFL,KF,Zc,mtO,nbr])
       intro hget
       have hnb:Zj l.legs[j] v ∉ v :: been:=fun hm=>by
        have h:=hL1 l.legs[j].a
        rw [hoth] at hm
        rw [hget,if_pos hm] at h;cases h
       have hn0:¬ Zj l.legs[j] v < 0:=by rw [hoth];omega
       dsimp only [Bool.not_false,go_sem,rA,rM,rS]
       iterate 10 (refine Yp rfl ?_;dsimp only [go_sem,rA,rM,rS])
       refine call (XK l p j hlt t t hgl hok.pace hin hin) ?_
       dsimp only [go_sem,rA,rM,rS]
       refine Yp rfl ?_
       dsimp only [go_sem,rA,rM,rS]
       refine ixa 1 rfl (by decide) ?_
       dsimp only [go_sem,rA,rM,rS]
       iterate 4 (refine Yp rfl ?_;dsimp only [go_sem,rA,rM,rS])
       refine call (ZcW way j (by omega)) ?_
       dsimp only [ZX,go_sem,rA,rM,rS]
       refine Yp rfl ?_
       dsimp only [go_sem,rA,rM,rS]
       have hot:=ZV hok hxj hn0
       have hih:=ih (v :: been) (Zj l.legs[j] v) (ZO true l.legs[j] p t) (way ++ [j]) allj ver clk L1 (ZX (way ++ [j])) hR' hnb hot.1 (by omega) (by simp;omega) hlenj hMj hL1 (.inl rfl)
       have hWj:(XC l p to till g (v :: been) (Zj l.legs[j] v) (ZO true l.legs[j] p t)).map (way ++ [j] ++ ·)=(Y5 l p to till g been v t j).map (way ++ ·):=by
        rw [Wv hxj hn0 hnb,List.map_map]
        simp [Function.comp_def]
       rw [hWj,hoth] at hih
       refine YP [0,1,2,3,4,5,6,7] hih rfl rfl ?_ ?_ ?_ ?_
       . rfl
       . dsimp only [rho,ZX,go_sem,rA,rM,rS]
         simp [Za,Ze,KFR,KFL,KF,Zc,mtO,nbr,ZJ,Zf,Zm,Zg,Yr,ZX,Z5,Zs,Zn]
       . dsimp only [rho,YH,ZJ,go_sem,rA,rM,rS]
         simp [Za,Ze,KFR,KFL,KF,Zc,mtO,nbr,ZJ,Zf,Zm,Zg,Yr,ZX,Z5,Zs,Zn]
       rintro o ⟨ver',clk',hM',rfl⟩
       dsimp only [YH,ZJ,go_sem,rA,rM,rS]
       refine Yp rfl ?_
       dsimp only [Bool.not_false,go_sem,rA,rM,rS]
       have hnext:all ++ (Z8 l p to till g been v t (j+1)).map (way ++ ·)=allj ++ (Y5 l p to till g been v t j).map (way ++ ·):=by
        rw [ZZ,List.map_append,<- List.append_assoc,<- hallj]
       generalize hWW:(Y5 l p to till g been v t j).map (way ++ ·)=Wj at hnext ⊢
       by_cases hsm:(allj ++ Wj).length<=200
       . refine Zv (by simp only [hsm,decide_true];rfl) ?_
         dsimp only [go_sem,rA,rM,rS]
         refine ⟨rfl,?_⟩
         refine Zv (by decide) ?_
         dsimp only [go_sem,rA,rM,rS]
         rw [Zi (n:=(j:Int)+1) (by omega) (by omega),Ve (by omega)]
         rw [<- hnext] at hsm ⊢
         refine ⟨(j+1,_,ver',clk'),⟨hlt,hM',rfl,hsm⟩,by simp only;omega,?_⟩
         generalize all ++ (Z8 l p to till g been v t (j+1)).map (way ++ ·)=alln
         (refine Zl ?_ ?_ ?_ rfl rfl<;>dsimp only [ZJ,Zf,Zm,Zg,Yr,ZX,Z5,Zx,Zs,Zn,Za,id,go_sem,rA,rM,rS]<;>simp [ZJ,Zf,Zm,Zg,Yr,ZX,Z5,Zx,Zs,Zn,Za,Za,Ze,KFR,KFL,KF,Zc,mtO,nbr])
       . refine Zu (by simp only [hsm,decide_false];rfl) ?_
         dsimp only [go_sem,rA,rM,rS]
         refine ⟨rfl,?_⟩
         refine Zu rfl ?_
         dsimp only [go_sem,rA,rM,rS]
         have hWs:XC l p to till (g+1) been v t=Z8 l p to till g been v t l.legs.length:=by rw [YC,if_neg hlate,if_neg hto]
         obtain ⟨R,hRs⟩:=Y6 (l:=l) (p:=p) (to:=to) (till:=till) (f:=g) (been:=been) (v:=v) (t:=t) (j:=j+1) (l.legs.length - (j+1))
         rw [show j+1+(l.legs.length - (j+1))=l.legs.length by omega] at hRs
         have hall2:all ++ (XC l p to till (g+1) been v t).map (way ++ ·)=allj ++ Wj ++ R.map (way ++ ·):=by
          rw [hWs,hRs,List.map_append,<- List.append_assoc,hnext]
         have hlong:¬ (allj ++ Wj ++ R.map (way ++ ·)).length<=200:=by rw [List.length_append];omega
         refine ⟨_,Zwu (key:=kI) (val:=B) (sv:=sI) (L:=L1) (k:=v) Zcy Zcv,?_⟩
         rw [hdel]
         have hMf:MW L clk':=by have:=hM'.del (k:=v);rw [hdel] at this;exact this
         refine ⟨_,⟨ver',clk',hMf,rfl⟩,?_⟩
         have hc2:cap (allj ++ Wj ++ R.map (way ++ ·))=cap (allj ++ Wj):=Zct (by omega)
         rw [hall2,hc2,decide_eq_false hlong]
         generalize cap (allj ++ Wj)=alln
         (refine Yb ?_ ?_ ?_ rfl<;>dsimp only [ZJ,Zf,Zm,Zg,Yr,ZX,Z5,Zx,Zs,Zn,Za,YH,id,go_sem,rA,rM,rS]<;>simp [ZJ,Zf,Zm,Zg,Yr,ZX,Z5,Zx,Zs,Zn,Za,YH,Za,Ze,KFR,KFL,KF,Zc,mtO,nbr])
     refine Zv (by simpa using hcb) ?_
     dsimp only [go_sem,rA,rM,rS]
     rw [Zi (n:=(j:Int)+1) (by omega) (by omega)]
     have hoth:Zj l.legs[j] v = -1:=by rw [Zj,if_neg (fun h=>hca h.symm),if_neg (fun h=>hcb h.symm)]
     refine ⟨(j+1,allj,ver,clk),⟨hlt,hMj,by rw [ZZ,Wr hxj (.inl (by omega)),List.append_nil];exact hallj,hlenj⟩,by simp only;omega,?_⟩
     (refine Zl ?_ ?_ ?_ rfl rfl<;>dsimp only [ZJ,Zf,Zm,Zg,Yr,ZX,Z5,Zx,Zs,Zn,Za,id,go_sem,rA,rM,rS]<;>simp [ZJ,Zf,Zm,Zg,Yr,ZX,Z5,Zx,Zs,Zn,Za,Za,Ze,KFR,KFL,KF,Zc,mtO,nbr])
   refine Zv (by simp;omega) ?_
   dsimp only [go_sem,rA,rM,rS]
   have hje:j=l.legs.length:=by omega
   subst hje
   have hWs:XC l p to till (g+1) been v t=Z8 l p to till g been v t l.legs.length:=by rw [YC,if_neg hlate,if_neg hto]
   refine ⟨_,Zwu (key:=kI) (val:=B) (sv:=sI) (L:=L1) (k:=v) Zcy Zcv,?_⟩
   rw [hdel]
   have hMf:MW L clk:=by have:=hMj.del (k:=v);rw [hdel] at this;exact this
   refine ⟨_,⟨ver,clk,hMf,rfl⟩,?_⟩
   rw [hWs,<- hallj,Ve (by omega),decide_eq_true hlenj]
   (refine Yb ?_ ?_ ?_ rfl<;>dsimp only [ZJ,Zf,Zm,Zg,Yr,ZX,Z5,Zx,Zs,Zn,Za,YH,id,go_sem,rA,rM,rS]<;>simp [ZJ,Zf,Zm,Zg,Yr,ZX,Z5,Zx,Zs,Zn,Za,YH,Za,Ze,KFR,KFL,KF,Zc,mtO,nbr])
end Go.Proofs.YtiigiflofnjilaaGreat
namespace Go.Azalai
open Go.Sx
def Yo (l:Land):Int->List Int->List Int->Option Int
 | v,_,[]=>some v
 | v,been,i :: r=>if W0 l i v < 0 then none else if W0 l i v ∈ been then none else Yo l (W0 l i v) (W0 l i v :: been) r
end Go.Azalai
namespace Go.Proofs.YtiigiflofnjilaaGreat
open Go Go.Sx Go.Azalai
theorem Zd6.set {been:List Int} {L:List (Nat × Int × Bool)} {c:Nat} {v:Int} (h:Zd6 been L):Zd6 (v :: been) (VG c v true L):=fun u=>by
 rw [V6]
 by_cases hu:u=v
 . simp [hu]
 . rw [if_neg hu,h u];simp [hu]
theorem Zyd:YY Tryz.prog 4=some (.bool false):=by kernel_rfl
theorem bz_RS:∀ w E n ok,R w E n ok (B false) (.bool false):=fun w E n ok=>by simp only [R]
theorem ZdF (s:Season) (hs:SmallS s) (hl:ZS s.land=true) (hp:Z1 s.pace=true) (h0:0<=s.start/\s.start < s.land.wells.length) (legs:List Int) (hg:legs.length<=1000) (c:Bool) :
 Ct Tryz.prog 58 [.agg (Zr s),.sl c 1 (legs.map Zo)] (.tup [I ((Yo s.land s.start [s.start] legs).getD 0),B (Yo s.land s.start [s.start] legs).isSome]):=by
 have hw:=hs.land.1
 have hlg:=hs.land.2.1
 have hlp:OkLP s.land s.pace:=⟨hl,hp⟩
 refine t58.1 (by simp [Zr,Zk,Zf,Zm,Zg,Zd,Zo,Za,KFL,KF]) (by simp [KFL,KF]) ?_
 dsimp only [c58,r58,Zr,go_sem,rA,rM,rS]
 refine ZaI rfl rfl rfl ?_
 dsimp only [go_sem,rA,rM,rS]
 refine Zbv (ins:=true) (key:=kI) (val:=B) (L:=[]) (k:=s.start) (v:=true) rfl rfl Zcy Zcv rfl rfl (by simp) ?_
 dsimp only [go_sem,rA,rM,rS]
 have hb0:Zd6 [s.start] (VG 0 s.start true []):=fun u=>by rw [V6];simp [Xu]
 refine Vf [1,2,6,16,17,18,4,5] rfl (fun q:Nat × Int × List Int × List (Nat × Int × Bool) × Nat=>[(18,I q.1),(4,I q.2.1)]) (fun q=>[(1,.map (mpS kI B q.2.2.2.1) q.2.2.2.2)])
  (fun q=>q.1<=legs.length/\Yo s.land q.2.1 q.2.2.1 (legs.drop q.1)=Yo s.land s.start [s.start] legs/\Zd6 q.2.2.1 q.2.2.2.1/\MW q.2.2.2.1 q.2.2.2.2/\0<=q.2.1/\q.2.1 < s.land.wells.length)
  (fun q=>legs.length - q.1) (0,s.start,[s.start],VG 0 s.start true [],ZbR 0 s.start ([]:List (Nat × Int × Bool))) ⟨Nat.zero_le _,rfl,hb0,MW.nil.set true,h0⟩ ?_ ?_
 . (refine Zl ?_ ?_ ?_ rfl rfl<;>dsimp only [Zg,Zf,Zm,Zk,Zd,Zo,Zs,Zn,id,go_sem,rA,rM,rS]<;>simp [Zg,Zf,Zm,Zk,Zd,Zo,Zs,Zn,Za,Ze,KFR,KFL,KF,Zc,mtO,nbr])
 rintro ⟨k,v,been,L,c⟩ ⟨hk,hi,hb,hM,hv⟩
 simp only at hk hi hb hM hv
 dsimp only [go_sem,rA,rM,rS]
 simp only [List.length_map]
 by_cases hlt:k < legs.length
 case neg =>
  refine Zv (by simp;omega) ?_
  dsimp only [go_sem,rA,rM,rS]
  rw [<- hi,List.drop_eq_nil_of_le (by omega)]
  rfl
 refine Zu (by simpa using hlt) ?_
 dsimp only [go_sem,rA,rM,rS]
 refine Zp k hlt rfl ?_
 dsimp only [Zo,go_sem,rA,rM,rS]
 simp only [List.length_map]
 rw [Zi (n:=(s.land.legs.length:Int) - 1) (by omega) (by omega)]
 refine call (ZfR _ _ _ _) ?_
 dsimp only [go_sem,rA,rM,rS]
 rw [List.drop_eq_getElem_cons hlt,Yo] at hi
 by_cases hr:inR 0 (s.land.legs.length - 1) legs[k]=true
 case neg =>
  refine Zu (by simpa using hr) ?_
  dsimp only [go_sem,rA,rM,rS]
  simp only [inR,decide_eq_true_eq] at hr
  rw [if_pos (by rw [Zek (by omega)];decide)] at hi
  rw [<- hi];rfl
 refine Zv (by simpa using hr) ?_
 dsimp only [go_sem,rA,rM,rS]
 simp only [inR,decide_eq_true_eq] at hr
 obtain ⟨n,hn⟩:=Int.eq_ofNat_of_zero_le hr.1
 rw [hn] at hr hi ⊢
 have hnl:n < s.land.legs.length:=by omega
 refine Zp n hnl rfl ?_
 dsimp only [Zm,go_sem,rA,rM,rS]
 have hends:=hlp.ends (List.getElem_mem hnl)
 rw [ZaE hnl] at hi
 repeat (refine gb ?_;dsimp only [go_sem,rA,rM,rS])
 by_cases hof:v=s.land.legs[n].a\/v=s.land.legs[n].b
 case neg =>
  refine Zu (by simp [bne];omega) ?_
  dsimp only [go_sem,rA,rM,rS]
  rw [if_pos (by unfold Zj;rw [if_neg (by omega),if_neg (by omega)];decide)] at hi
  rw [<- hi];rfl
 refine Zv (by simp [bne];omega) ?_
 dsimp only [go_sem,rA,rM,rS]
 have ho:Zj s.land.legs[n] v=s.land.legs[n].a+s.land.legs[n].b - v:=by
  unfold Zj;rcases hof with h | h
  . rw [if_pos h.symm];omega
  . rw [if_neg (by omega),if_pos h.symm];omega
 rw [Zi (n:=s.land.legs[n].a+s.land.legs[n].b) (by omega) (by omega),Zi (n:=s.land.legs[n].a+s.land.legs[n].b - v) (by omega) (by omega)]
 have hoi:0<=s.land.legs[n].a+s.land.legs[n].b - v/\s.land.legs[n].a+s.land.legs[n].b - v < s.land.wells.length:=by omega
 rw [ho,if_neg (by omega)] at hi
 generalize s.land.legs[n].a+s.land.legs[n].b - v=u at hi hoi
 have hbu:=hb u
 refine ZaW (key:=kI) (val:=B) (sv:=sI) (L:=L) (k:=u) (zs:=B false) rfl rfl Zcy Zcv rfl Zyd bz_RS (fun b hg=>?_) (fun hg=>?_)
 . rw [hbu] at hg
   by_cases hm:u ∈ been
   case neg=>rw [if_neg hm] at hg;cases hg
   rw [if_pos hm] at hg hi
   cases hg
   dsimp only [go_sem,rA,rM,rS]
   refine Zu rfl ?_
   dsimp only [go_sem,rA,rM,rS]
   rw [<- hi];rfl
 . rw [hbu] at hg
   by_cases hm:u ∈ been
   . rw [if_pos hm] at hg;cases hg
   rw [if_neg hm] at hi
   dsimp only [go_sem,rA,rM,rS]
   refine Zv rfl ?_
   dsimp only [go_sem,rA,rM,rS]
   refine Zbv (ins:=false) (key:=kI) (val:=B) (L:=L) (k:=u) (v:=true) rfl rfl Zcy Zcv rfl rfl (by simp) ?_
   dsimp only [go_sem,rA,rM,rS]
   rw [Zi (n:=(k:Int)+1) (by omega) (by omega)]
   refine ⟨(k+1,u,u :: been,VG c u true L,ZbR c u L),⟨hlt,hi,hb.set,hM.set true,hoi⟩,by simp only;omega,?_⟩
   (refine Zl ?_ ?_ ?_ rfl rfl<;>dsimp only [Zg,Zf,Zm,Zk,Zd,Zo,Zs,Zn,id,go_sem,rA,rM,rS]<;>simp [Zg,Zf,Zm,Zk,Zd,Zo,Zs,Zn,Za,Ze,KFR,KFL,KF,Zc,mtO,nbr])
def ZbZ (n:Nat) (been:List Int):List Bool:=(List.range n).map fun u:Nat=>decide ((u:Int) ∈ been)
theorem Yz {n:Nat} {been:List Int}:(ZbZ n been).length=n:=by simp [ZbZ]
theorem Ww {n u:Nat} {been:List Int} (h:u < (ZbZ n been).length):(ZbZ n been)[u]=decide ((u:Int) ∈ been):=by simp [ZbZ]
theorem Zbz {n u:Nat} {been:List Int} (h:u < n):(ZbZ n been).set u true=ZbZ n ((u:Int) :: been):=by
 apply List.ext_getElem (by simp [Yz])
 intro i h1 h2
 rw [List.getElem_set,Ww]
 by_cases hi:u=i
 . subst hi;rw [if_pos rfl,Ww];simp
 . rw [if_neg hi,Ww]
   have:¬ (i:Int)=(u:Int):=by omega
   simp [this]
theorem Zkr {n:Nat}:ZbZ n []=List.replicate n false:=by
 apply List.ext_getElem (by simp [Yz])
 intro i h1 h2
 rw [Ww];simp
theorem Zt2 (s:Season) (hs:SmallS s) (hl:ZS s.land=true) (hp:Z1 s.pace=true) (h0:0<=s.start/\s.start < s.land.wells.length) (legs:List Int) (hg:legs.length<=1000) (c:Bool) :
 Ct Tryz.prog 87 [.agg (Zr s),.sl c 1 (legs.map Zo)] (I ((Yo s.land s.start [s.start] legs).getD (-1))):=by
 have hw:=hs.land.1
 have hlg:=hs.land.2.1
 have hlp:OkLP s.land s.pace:=⟨hl,hp⟩
 refine t87.1 (by simp [Zr,Zk,Zf,Zm,Zg,Zd,Zo,Za,KFL,KF]) (by simp [KFL,KF]) ?_
 dsimp only [c87,r87,Zr,go_sem,rA,rM,rS]
 simp only [List.length_map]
 refine ⟨s.land.wells.length,rfl,by omega,?_⟩
 dsimp only [go_sem,rA,rM,rS]
 obtain ⟨n0,hn0⟩:=Int.eq_ofNat_of_zero_le h0.1
 have hb0:List.replicate s.land.wells.length [B false]=(ZbZ s.land.wells.length []).map fun b=>[B b]:=by rw [Zkr];simp
 rw [hb0]
 rw [hn0] at h0 ⊢
 refine Zdg n0 rfl (by simp [Yz];omega) ?_
 dsimp only [go_sem,rA,rM,rS]
 refine Zvo true (by simp [Yz];omega) (by simp) (by simp [splice]) ?_
 rw [Zbz (by omega)]
 dsimp only [go_sem,rA,rM,rS]
 refine Vf [1,2,4,5,6,7] rfl (fun q:Nat × Int × List Int=>[(7,I q.1),(6,I q.2.1)]) (fun q=>[(1,.row 0 1 ((ZbZ s.land.wells.length q.2.2).map fun b=>[B b]) 4)])
  (fun q=>q.1<=legs.length/\Yo s.land q.2.1 q.2.2 (legs.drop q.1)=Yo s.land n0 [(n0:Int)] legs/\0<=q.2.1/\q.2.1 < s.land.wells.length)
  (fun q=>legs.length - q.1) (0,n0,[(n0:Int)]) ⟨Nat.zero_le _,rfl,h0⟩ ?_ ?_
 . (refine Zl ?_ ?_ ?_ rfl rfl<;>dsimp only [Zg,Zf,Zm,Zk,Zd,Zo,id,go_sem,rA,rM,rS]<;>simp [Zg,Zf,Zm,Zk,Zd,Zo,Za,Ze,KFR,KFL,KF,Zc,mtO,nbr])
 rintro ⟨k,v,been⟩ ⟨hk,hi,hv⟩
 simp only at hk hi hv
 dsimp only [go_sem,rA,rM,rS]
 simp only [List.length_map]
 by_cases hlt:k < legs.length
 case neg =>
  refine Zv (by simp;omega) ?_
  dsimp only [go_sem,rA,rM,rS]
  rw [<- hi,List.drop_eq_nil_of_le (by omega)]
  rfl
 refine Zu (by simpa using hlt) ?_
 dsimp only [go_sem,rA,rM,rS]
 refine Zp k hlt rfl ?_
 dsimp only [Zo,go_sem,rA,rM,rS]
 simp only [List.length_map]
 rw [Zi (n:=(s.land.legs.length:Int) - 1) (by omega) (by omega)]
 refine call (XH _ _ _) ?_
 dsimp only [go_sem,rA,rM,rS]
 rw [List.drop_eq_getElem_cons hlt,Yo] at hi
 by_cases hr:inR 0 (s.land.legs.length - 1) legs[k]=true
 case neg =>
  refine Zu (by simpa using hr) ?_
  dsimp only [go_sem,rA,rM,rS]
  simp only [inR,decide_eq_true_eq] at hr
  rw [if_pos (by rw [Zek (by omega)];decide)] at hi
  rw [<- hi];rfl
 refine Zv (by simpa using hr) ?_
 dsimp only [go_sem,rA,rM,rS]
 refine Zp k hlt rfl ?_
 dsimp only [Zo,go_sem,rA,rM,rS]
 simp only [inR,decide_eq_true_eq] at hr
 obtain ⟨n,hn⟩:=Int.eq_ofNat_of_zero_le hr.1
 rw [hn] at hr hi ⊢
 have hnl:n < s.land.legs.length:=by omega
 refine Zp n hnl rfl ?_
 dsimp only [Zm,go_sem,rA,rM,rS]
 have hends:=hlp.ends (List.getElem_mem hnl)
 rw [ZaE hnl] at hi
 by_cases hva:v=s.land.legs[n].a
 . refine Zu (by simpa using hva) ?_
   dsimp only [go_sem,rA,rM,rS]
   rw [show Zj s.land.legs[n] v=s.land.legs[n].b from by unfold Zj;rw [if_pos hva.symm],if_neg (by omega)] at hi
   have hoi:0<=s.land.legs[n].b/\s.land.legs[n].b < s.land.wells.length:=by omega
   obtain ⟨u,hu⟩:=Int.eq_ofNat_of_zero_le hoi.1
   rw [hu] at hi hoi ⊢
   refine Zdg u rfl (by simp [Yz];omega) ?_
   dsimp only [go_sem,rA,rM,rS]
   refine Zf8 (by simp [Yz];omega) ?_
   rw [Ww]
   dsimp only [go_sem,rA,rM,rS]
   by_cases hm:(u:Int) ∈ been
   . refine Zu (by simpa using hm) ?_
     dsimp only [go_sem,rA,rM,rS]
     rw [if_pos hm] at hi
     rw [<- hi];rfl
   refine Zv (by simpa using hm) ?_
   dsimp only [go_sem,rA,rM,rS]
   rw [if_neg hm] at hi
   refine Zdg u rfl (by simp [Yz];omega) ?_
   dsimp only [go_sem,rA,rM,rS]
   refine Zvo true (by simp [Yz];omega) (by simp) (by simp [splice]) ?_
   rw [Zbz (by omega)]
   dsimp only [go_sem,rA,rM,rS]
   rw [Zi (n:=(k:Int)+1) (by omega) (by omega)]
   refine ⟨(k+1,u,(u:Int) :: been),⟨hlt,hi,hoi⟩,by simp only;omega,?_⟩
   (refine Zl ?_ ?_ ?_ rfl rfl<;>dsimp only [Zg,Zf,Zm,Zk,Zd,Zo,id,go_sem,rA,rM,rS]<;>simp [Zg,Zf,Zm,Zk,Zd,Zo,Za,Ze,KFR,KFL,KF,Zc,mtO,nbr])
 refine Zv (by simpa using hva) ?_
 dsimp only [go_sem,rA,rM,rS]
 by_cases hvb:v=s.land.legs[n].b
 case neg =>
  refine Zv (by simpa using hvb) ?_
  dsimp only [go_sem,rA,rM,rS]
  rw [if_pos (by unfold Zj;rw [if_neg (by omega),if_neg (by omega)];decide)] at hi
  rw [<- hi];rfl
 refine Zu (by simpa using hvb) ?_
 dsimp only [go_sem,rA,rM,rS]
 rw [show Zj s.land.legs[n] v=s.land.legs[n].a from by unfold Zj;rw [if_neg (by omega),if_pos hvb.symm],if_neg (by omega)] at hi
 have hoi:0<=s.land.legs[n].a/\s.land.legs[n].a < s.land.wells.length:=by omega
 obtain ⟨u,hu⟩:=Int.eq_ofNat_of_zero_le hoi.1
 rw [hu] at hi hoi ⊢
 refine Zdg u rfl (by simp [Yz];omega) ?_
 dsimp only [go_sem,rA,rM,rS]
 refine Zf8 (by simp [Yz];omega) ?_
 rw [Ww]
 dsimp only [go_sem,rA,rM,rS]
 by_cases hm:(u:Int) ∈ been
 . refine Zu (by simpa using hm) ?_
   dsimp only [go_sem,rA,rM,rS]
   rw [if_pos hm] at hi
   rw [<- hi];rfl
 refine Zv (by simpa using hm) ?_
 dsimp only [go_sem,rA,rM,rS]
 rw [if_neg hm] at hi
 refine Zdg u rfl (by simp [Yz];omega) ?_
 dsimp only [go_sem,rA,rM,rS]
 refine Zvo true (by simp [Yz];omega) (by simp) (by simp [splice]) ?_
 rw [Zbz (by omega)]
 dsimp only [go_sem,rA,rM,rS]
 rw [Zi (n:=(k:Int)+1) (by omega) (by omega)]
 refine ⟨(k+1,u,(u:Int) :: been),⟨hlt,hi,hoi⟩,by simp only;omega,?_⟩
 (refine Zl ?_ ?_ ?_ rfl rfl<;>dsimp only [Zg,Zf,Zm,Zk,Zd,Zo,id,go_sem,rA,rM,rS]<;>simp [Zg,Zf,Zm,Zk,Zd,Zo,Za,Ze,KFR,KFL,KF,Zc,mtO,nbr])
end Go.Proofs.YtiigiflofnjilaaGreat
namespace Go.Azalai
open Go.Sx
def YB (s:Season) (p:Plan):Bool:=(Yo s.land s.start [s.start] p.legs).isSome && inR 0 s.herd p.animals && inR 0 12 p.slabs
def Zz (s:Season) (legs:List Int):List Stop:=(YE s.land s.pace s.start s.day legs).1
def ZgX (l:List Stop):Stop:=l.getLast?.getD ⟨0,0,⟨0,0⟩,⟨0,0⟩⟩
def XV (s:Season) (legs:List Int):Bool:=decide ((YE s.land s.pace s.start s.day legs).2.2=0) && (decide ((Zz s legs).length=0) || decide ((ZgX (Zz s legs)).arrives.hi<=s.till))
theorem VY {l:Land} {p:Span} (hg:OkLP l p):∀ {legs:List Int} {v:Int} {been:List Int} {u:Int},0<=v/\v < l.wells.length->Yo l v been legs=some u->0<=u/\u < l.wells.length
 | [],v,_,u,hv,h=>by simp only [Yo,Option.some.injEq] at h;subst h;exact hv
 | i :: r,v,been,u,hv,h=>by
  simp only [Yo] at h
  split at h
  . cases h
  rename_i he
  split at h
  . cases h
  obtain ⟨k,x,_,_,hx,_,e⟩:=UJ he
  rw [e] at he h
  exact VY hg (ZV hg hx he).1 h
theorem ZdQ {l:List Stop} (h:l.length≠0):l[l.length - 1]? = some (ZgX l):=by
 unfold ZgX
 rw [List.getLast?_eq_getElem?]
 rw [List.getElem?_eq_getElem (by omega)];rfl
theorem Zia {l:Land} {p:Span}:∀ {legs:List Int} {v a b:Int} {k:Nat} {acc:List Stop},(goS l p v a b legs k acc).2.2≠0->(goS l p v a b legs k acc).1=[]
 | [],_,_,_,_,_,h=>by simp [goS] at h
 | i :: r,v,a,b,k,acc,h=>by
  simp only [goS] at h ⊢
  split
  . rfl
  . rename_i x hx
    rw [hx] at h;simp only at h
    split
    . rfl
    . rename_i hn;rw [if_neg hn] at h;exact Zia h
theorem Zip {l:Land} {p:Span}:∀ {legs:List Int} {v a b:Int} {k:Nat} {acc:List Stop},(goS l p v a b legs k acc).1.length<=acc.length+legs.length
 | [],_,_,_,_,_=>by simp [goS]
 | i :: r,v,a,b,k,acc=>by
  simp only [goS]
  split
  . simp
  . split
    . simp
    . refine Nat.le_trans Zip ?_;simp;omega
theorem Zbe {l:Land} {p:Span} {s d:Int} {legs:List Int}:(YE l p s d legs).1.length<=legs.length:=by
 unfold YE
 split
 . simp
 split
 . simp
 split
 . simp
 split
 . simp
 refine Nat.le_trans Zip (by simp)
theorem ZkE {l:Land} {p:Span} {s d:Int} {legs:List Int} (h:(YE l p s d legs).2.2≠0):(YE l p s d legs).1=[]:=by
 unfold YE at h ⊢
 split
 . rfl
 rename_i h1
 rw [if_neg h1] at h
 split
 . rfl
 rename_i h2
 rw [if_neg h2] at h
 split
 . rfl
 rename_i h3
 rw [if_neg h3] at h
 split
 . rfl
 rename_i h4
 rw [h4] at h
 exact Zia h
end Go.Azalai
namespace Go.Proofs.YtiigiflofnjilaaGreat
open Go Go.Sx Go.Azalai
structure OkS (s:Season):Prop where
 small:SmallS s
 ok:Zw s=true
theorem OkS.land {s:Season} (h:OkS s):ZS s.land=true:=by have:=h.ok;simp only [Zw,Bool.and_eq_true] at this;exact this.1.1.1.1.1.1
theorem OkS.pace {s:Season} (h:OkS s):Z1 s.pace=true:=by have:=h.ok;simp only [Zw,Bool.and_eq_true] at this;exact this.1.1.1.1.1.2
theorem OkS.lp {s:Season} (h:OkS s):OkLP s.land s.pace:=⟨h.land,h.pace⟩
theorem OkS.beast {s:Season} (h:OkS s):ZA s.breed=true/\Zy s.breed s.camel=true:=by
 have:=h.ok;simp only [Zw,Bool.and_eq_true,decide_eq_true_eq] at this;exact Cm.errC_0.1 this.1.1.1.1.2
theorem OkS.num {s:Season} (h:OkS s):1<=s.herd/\s.herd<=30/\1<=s.hours/\s.hours<=24/\1<=s.slab/\s.slab<=1000000/\0<=s.cost/\s.cost<=1000000/\0<=s.sale/\s.sale<=1000000/\0<=s.day/\s.day<=s.till/\s.till<=100000:=by
 have:=h.ok;simp only [Zw,U6,inR,Bool.and_eq_true,decide_eq_true_eq] at this;omega
theorem OkS.start {s:Season} (h:OkS s):0<=s.start/\s.start < s.land.wells.length:=by
 have:=h.ok;simp only [Zw,inR,Bool.and_eq_true,decide_eq_true_eq] at this;omega
theorem OkS.scs {s:Season} (h:OkS s):1<=s.scenes.length/\s.scenes.length<=4:=by
 have:=h.ok;simp only [Zw,inR,Bool.and_eq_true,decide_eq_true_eq] at this;omega
theorem OkS.scene {s:Season} (h:OkS s):∀ x ∈ s.scenes,Yx s.land.wells.length x=true:=by
 have:=h.ok;simp only [Zw,Bool.and_eq_true,List.all_eq_true] at this;exact this.2
theorem Zkx (s:Season) (h:OkS s) (p:Plan) (hg:p.legs.length<=1000):Ct Tryz.prog 44 [.agg (Zr s),.agg (ZB p)] (B (YB s p)):=by
 refine t44.1 (by simp [Zr,ZB,Zk,Zf,Zm,Zg,Zd,Zo,Za,KFL,KF]) (by simp [KFL,KF]) ?_
 dsimp only [c44,r44,Zr,ZB,go_sem,rA,rM,rS]
 refine call (Zt2 s h.small h.land h.pace h.start p.legs hg _) ?_
 dsimp only [go_sem,rA,rM,rS]
 repeat (first | (refine gb ?_;dsimp only [go_sem,rA,rM,rS]) | (refine call (XH _ _ _) ?_;dsimp only [go_sem,rA,rM,rS]))
 have:decide ((Yo s.land s.start [s.start] p.legs).getD (-1) ≥ 0)=(Yo s.land s.start [s.start] p.legs).isSome:=by
  cases hq:Yo s.land s.start [s.start] p.legs with
  | none=>rfl
  | some u=>have:=(VY h.lp h.start hq).1;simpa using this
 rw [this];rfl
theorem Zpo (s:Season) (hs:SmallS s) (p:Plan) (hg:p.legs.length<=1000):Ct Tryz.prog 48 [.agg (Zr s),.agg (ZB p)] (I (if Zw s=false then 90 else if YB s p=false then 91 else 0)):=by
 refine t48.1 (by simp [Zr,ZB,Zk,Zf,Zm,Zg,Zd,Zo,Za,KFL,KF]) (by simp [KFL,KF]) ?_
 dsimp only [c48,r48,Zr,ZB,go_sem,rA,rM,rS]
 refine call (Za1 s hs) ?_
 dsimp only [go_sem,rA,rM,rS]
 by_cases ho:Zw s=true
 case neg =>
  refine Zu (by simp [ho]) ?_
  dsimp only [go_sem,rA,rM,rS]
  simp [ho]
 refine Zv (by simp [ho]) ?_
 dsimp only [go_sem,rA,rM,rS]
 have h:OkS s:=⟨hs,ho⟩
 refine call (ZdF s h.small h.land h.pace h.start p.legs hg _) ?_
 dsimp only [go_sem,rA,rM,rS]
 repeat (first | (refine gb ?_;dsimp only [go_sem,rA,rM,rS]) | (refine call (ZfR _ _ _ _) ?_;dsimp only [go_sem,rA,rM,rS]))
 refine br ?_ ?_
 . intro hb
   dsimp only [go_sem,rA,rM,rS]
   have:YB s p=false:=by simp only [YB];revert hb;generalize Option.isSome _=a;generalize inR 0 s.herd p.animals=b;generalize inR 0 12 p.slabs=c;revert a b c;decide
   rw [ho,this];rfl
 intro hb
 dsimp only [go_sem,rA,rM,rS]
 have:YB s p=true:=by simp only [YB];revert hb;generalize Option.isSome _=a;generalize inR 0 s.herd p.animals=b;generalize inR 0 12 p.slabs=c;revert a b c;decide
 rw [ho,this];rfl
theorem walkS (s:Season) (h:OkS s) (legs:List Int) (hg:legs.length<=1000) (c:Bool) {f:Nat}
 (hc:Ct Tryz.prog f [.agg (Yg s.land),I s.start,I s.day,.agg (Zd s.pace),.sl c 1 (legs.map Zo)] (ZbN (YE s.land s.pace s.start s.day legs))) :
 Ct Tryz.prog f [.agg (Yg s.land),I s.start,I s.day,.agg (Zd s.pace),.sl c 1 (legs.map Zo)] (.tup [.sl false 6 ((Zz s legs).map ZQ),I (YE s.land s.pace s.start s.day legs).2.1,I (YE s.land s.pace s.start s.day legs).2.2]):=by
 unfold ZbN Xz at hc
 split at hc
 . exact hc
 . rename_i he
   refine hc.res (by simp [Za,ZQ,KFL,KF]) ?_
   rw [Zz,ZkE he]
   exact XY (Z0 YN XZ)
theorem Zo9 (s:Season) (h:OkS s) (legs:List Int) (hg:legs.length<=1000) (c:Bool):Ct Tryz.prog 90 [.agg (Zr s),.sl c 1 (legs.map Zo)] (.tup [.sl false 6 ((Zz s legs).map ZQ),B (XV s legs)]):=by
 refine t90.1 (by simp [Zr,Zk,Zf,Zm,Zg,Zd,Zo,Za,KFL,KF]) (by simp [Za,ZQ,KFL,KF]) ?_
 dsimp only [c90,r90,Zr,go_sem,rA,rM,rS]
 refine call (walkS s h legs hg c (ZoJ s.land h.small.land s.start s.day s.pace legs hg c)) ?_
 dsimp only [go_sem,rA,rM,rS]
 repeat (refine gb ?_;dsimp only [go_sem,rA,rM,rS])
 have hlen:(Zz s legs).length<=1000:=Nat.le_trans Zbe hg
 simp only [List.length_map]
 refine Zrb ((Zz s legs).length - 1) (ZQ (ZgX (Zz s legs))) rfl (fun hb=>?_) ?_
 . have hz:(Zz s legs).length≠0:=by simpa using hb
   rw [Zi (by omega) (by omega)]
   exact ⟨by omega,by rw [List.getElem?_map,ZdQ hz];rfl⟩
 dsimp only [ZQ,go_sem,rA,rM,rS]
 repeat (refine gb ?_;dsimp only [go_sem,rA,rM,rS])
 have:((YE s.land s.pace s.start s.day legs).2.2 == 0 && (((Zz s legs).length:Int) == 0 || decide ((ZgX (Zz s legs)).arrives.hi<=s.till)))=XV s legs:=by
  have h1:(((Zz s legs).length:Int) == 0)=decide ((Zz s legs).length=0):=by rw [Bool.eq_iff_iff];simp
  simp only [XV,h1];rfl
 rw [this]
end Go.Proofs.YtiigiflofnjilaaGreat
namespace Go.Sx
open Go Go.RowKit
section
variable {K V:Type} [DecidableEq K] {k k':K} {v v0:V} {c:Nat} {L:List (Nat × K × V)}
end
section
variable {P:Program} {K' V:Type} [DecidableEq K'] {key:K'->Value} {sv:K'->SV} {val:V->SV} {L:List (Nat × K' × V)} {km c:Nat} {kt et t ty:TypeId} {mx ix vx sx:Operand} {σ : St} {r:KT} {K:RK} {d:Option Nat} {k:K'}
end
section
variable {P:Program} {ty T T':TypeId} {ix jx:Operand} {σ : St} {r:KT} {K:RK} {d:Option Nat} {s:SV}
def Zd8 (P:Program) (T:TypeId):Bool :=
 match P.underlying T with
 | some (.interface _)=>false
 | some _=>true
 | none=>false
theorem Zjd (hT:Zd8 P T=true) (hi:ZaF σ ix=s) (hg:∀ j b u,s≠.gd j b u) (h:putK d (.ifc T s) none σ r K):RAW P d (.makeInterface T ix) ty σ r K:=by
 intro o C E a w next Q e1 e2 e3 hS hn hq
 have hiv:=Vy hS hi hg
 have hx:(execOp a.eval o).run P w = .ok (.value (.iface T (a.eval ix))) w:=by
  obtain ⟨dst',op',ty',pos,after,guard⟩:=o
  simp only at e2;subst e2
  unfold Zd8 at hT
  cases hu:P.underlying T with
  | none=>rw [hu] at hT;cases hT
  | some u =>
   rw [hu] at hT
   cases u<;>first | exact absurd hT Bool.false_ne_true | simp [execOp,Sem.run_bind,Instr.makeInterface,run_underlying hu,Result.andThen_ok,Sem.run_pure]
 refine ZE hx (by simp) ?_
 show next (a.put o.dst _) _
 rw [e1]
 refine WJ h hS ?_ hn
 simp only [R];exact ⟨_,rfl,hiv⟩
theorem ZkK (hi:ZaF σ ix = .ifc T s) (h:K (.pan (.ifc T s)) σ):RAW P d (.panic ix) ty σ r K:=by
 intro o C E a w next Q e1 e2 e3 hS hn hq
 have hiv:=Vy hS hi (fun _ _ _=>by simp)
 simp only [R] at hiv
 obtain ⟨x,hx,hR⟩:=hiv
 have hy:(execOp a.eval o).run P w = .halt (.panic (.iface T x)) w:=by
  obtain ⟨dst',op',ty',pos,after,guard⟩:=o
  simp only at e2;subst e2
  simp [execOp,Sem.run_bind,hx,Instr.panic,goPanic,Result.andThen]
 exact ZiQ hy (by rw [e2];simp) (hq _ _ _ _ _ h hS (by simp only [R];exact ⟨x,rfl,hR⟩))
theorem Zbk (hT:Zd8 P T=true) (hi:ZaF σ ix = .ifc T s) (h:putK d (.tup [s,.v (.bool true)]) none σ r K):RAW P d (.typeAssert ix T' T true) ty σ r K:=by
 intro o C E a w next Q e1 e2 e3 hS hn hq
 have hiv:=Vy hS hi (fun _ _ _=>by simp)
 simp only [R] at hiv
 obtain ⟨x,hx,hR⟩:=hiv
 have hy:(execOp a.eval o).run P w = .ok (.value (.tuple #[x,.bool true])) w:=by
  obtain ⟨dst',op',ty',pos,after,guard⟩:=o
  simp only at e2;subst e2
  unfold Zd8 at hT
  cases hu:P.underlying T with
  | none=>rw [hu] at hT;cases hT
  | some u =>
   rw [hu] at hT
   cases u<;>first | exact absurd hT Bool.false_ne_true | simp [execOp,Sem.run_bind,hx,Instr.typeAssert,run_underlying hu,Result.andThen_ok,Sem.run_pure]
 refine ZE hy (by simp) ?_
 show next (a.put o.dst _) _
 rw [e1]
 refine WJ h hS ?_ hn
 simp only [R,RL];exact ⟨_,rfl,_,_,rfl,hR,_,_,rfl,rfl,rfl⟩
end
section
variable {K V:Type} [DecidableEq K] {P:Program} {key:K->Value} {sv:K->SV} {val:V->SV} {L:List (Nat × K × V)} {km c:Nat} {kt et t:TypeId} {σ : St} {k:K} {i j:Nat} {ok:Bool} {zs:SV} {z:Value} {v:V}
end
end Go.Sx
namespace Go.Azalai
open Go.Sx
def Zcl (s:Season) (x:Scene) (slabs:Int):March:=⟨s.hours,slabs * s.slab,x.heat,x.grass,⟨0,0⟩⟩
def ZeR (b:Breed) (c:Camel):Span:=if ZbS b c=0 then Zwh b c else U9
def ZkZ (a b:Span):Span:=⟨min a.lo b.lo,max a.hi b.hi⟩
def ZoC (a b:Camel):Camel:=⟨ZkZ a.water b.water,ZkZ a.fat b.fat,ZkZ a.sore b.sore,a.milks⟩
def U5 (b:Breed) (m:March) (lo:Int):Nat->Nat->Camel->Camel->Camel × Int
 | 0,_,_,out=>(out,0)
 | j+1,n,c,out =>
  if m.load > (ZeR b c).lo then (Xh,2)
  else if (Xx b c m).2.2≠0\/(Xx b c m).2.1≠0 then (Xh,3)
  else U5 b m lo j (n+1) (Xx b c m).1 (if (n:Int)+1=lo then (Xx b c m).1 else if (n:Int)+1 > lo then ZoC out (Xx b c m).1 else out)
def Xy (s:Season) (x:Scene) (d:Span) (slabs:Int) (c:Camel):Camel × Int:=U5 s.breed (Zcl s x slabs) d.lo d.hi.toNat 0 c Xh
end Go.Azalai
namespace Go.Proofs.YtiigiflofnjilaaGreat
open Go Go.Sx Go.Azalai
abbrev camelL:=Cm.camelL
abbrev U8 (n:Int):SV:=.v (.int .u8 n)
def Yl (s:Season) (k:Int):List SV :=
 [.sl false 9 (s.land.wells.map Zf),.sl false 5 (s.land.legs.map Zm),I s.pace.lo,I s.pace.hi,
  I s.breed.full,I s.breed.fed,I s.breed.rest.lo,I s.breed.rest.hi,I s.breed.heat.lo,I s.breed.heat.hi,I s.breed.toil.lo,I s.breed.toil.hi,I s.breed.burn.lo,I s.breed.burn.hi,I s.breed.rub.lo,I s.breed.rub.hi,I s.breed.milk.lo,I s.breed.milk.hi,I s.breed.heal,I s.breed.strong.lo,I s.breed.strong.hi,
  I s.camel.water.lo,I s.camel.water.hi,I s.camel.fat.lo,I s.camel.fat.hi,I s.camel.sore.lo,I s.camel.sore.hi,B s.camel.milks,
  I s.herd,I s.hours,I s.slab,I s.cost,I s.sale,I s.start,I s.day,I s.till,.sl false 6 (s.scenes.map Zk),I k]
theorem ZeD (a b:Span) (c:Bool):Ct Tryz.prog 172 [.agg (Zd a),.sl c 2 [[I b.lo,I b.hi]]] (.agg (Zd (ZkZ a b))):=by
 refine t172.1 ⟨by simp [KF,KFL,Zd],by simp [KF,KFR,KFL],trivial⟩ (by simp [Zd,KFL,KF]) ?_
 dsimp only [c172,r172,Zd,go_sem,rA,rM,rS]
 refine Xd 2 ?_
 dsimp only [Zb,go_sem,rA,rM,rS]
 refine Zu (by decide) ?_
 dsimp only [go_sem,rA,rM,rS]
 refine ixs 0 [I b.lo,I b.hi] rfl rfl ?_
 dsimp only [go_sem,rA,rM,rS]
 refine Zv (by decide) ?_
 dsimp only [go_sem,rA,rM,rS]
 rfl
theorem Zc8:Zd8 Tryz.prog 117=true:=by kernel_rfl
def Xv (why at_:Int):Ot:=⟨true,.ifc 117 (.agg [U8 why,I at_]),[],0⟩
theorem Us (w k:Int):CtM Tryz.prog 91 [] 0 [B true,U8 w,I k] (fun o=>o=⟨false,.tup [],[],0⟩):=by
 refine m91 (by simp [hpb]) (fun o ho=>by subst ho;simp [KX,KXL,KXP]) ?_
 dsimp only [c91,r91,go_sem,rA,rM,rS]
 refine Zv rfl ?_
 dsimp only [go_sem,rA,rM,rS]
 refine ⟨_,rfl,?_⟩
 (refine Yb ?_ ?_ ?_ rfl<;>dsimp only [id,go_sem,rA,rM,rS]<;>simp [Za,Ze,KFR,KFL,KF,Zc,mtO,nbr])
theorem ZaX (w k:Int):CtM Tryz.prog 91 [] 0 [B false,U8 w,I k] (fun o=>o=Xv w k):=by
 refine m91 (by simp [hpb]) (fun o ho=>by subst ho;simp [Xv,KX,KXL,KXP]) ?_
 dsimp only [c91,r91,go_sem,rA,rM,rS]
 refine Zu rfl ?_
 dsimp only [go_sem,rA,rM,rS]
 refine Zjd (s:=.agg [U8 w,I k]) Zc8 rfl (fun _ _ _ e=>by cases e) ?_
 dsimp only [go_sem,rA,rM,rS]
 refine ZkK rfl ?_
 dsimp only [go_sem,rA,rM,rS]
 refine ⟨_,rfl,?_⟩
 (refine Yb ?_ ?_ ?_ rfl<;>dsimp only [Xv,id,go_sem,rA,rM,rS]<;>simp [Xv,Za,Ze,KFR,KFL,KF,Zc,mtO,nbr])
theorem ZkO (s:Season) (k:Nat) (hk:k < s.scenes.length):Ct Tryz.prog 156 [.agg (Yl s k)] (.agg (Zk s.scenes[k])):=by
 refine t156.1 (by simp [Yl,Zk,Zf,Zm,Zg,Zd,Zo,Za,KFL,KF]) (by simp [Zk,Zd,Zo,Za,KFL,KF]) ?_
 dsimp only [c156,r156,Yl,go_sem,rA,rM,rS]
 refine Zp k hk rfl ?_
 dsimp only [Zk,go_sem,rA,rM,rS]
def ZbE (at_:Int) (r:Camel × Int):Ot:=if r.2=0 then ⟨false,.agg (camelL r.1),[],0⟩ else Xv r.2 at_
theorem Zni (s:Season) (k:Nat) (hk:k < s.scenes.length) (at_:Int) (c:Camel) (d:Span) (slabs:Int) (hn:0<=slabs/\slabs<=12) (hs:0<=s.slab/\s.slab<=1000000) (hd:d.hi<=1000000000) :
 CtM Tryz.prog 164 [] 0 [.agg (Yl s k),I at_,.agg (camelL c),.agg (Zd d),I slabs] (fun o=>o=ZbE at_ (Xy s s.scenes[k] d slabs c)):=by
 have hb:0<=slabs * s.slab/\slabs * s.slab<=12 * 1000000:=⟨Int.mul_nonneg hn.1 hs.1,Int.mul_le_mul hn.2 hs.2 hs.1 (by decide)⟩
 refine m164 (by simp [hpb]) (fun o ho=>by subst ho;unfold ZbE;split<;>simp [Xv,Cm.camelL,KX,KXL,KXP]) ?_
 dsimp only [c164,r164,Zd,Cm.camelL,Yl,go_sem,rA,rM,rS]
 refine call (ZkO s k hk) ?_
 dsimp only [Zk,go_sem,rA,rM,rS]
 refine call (ZkO s k hk) ?_
 dsimp only [Zk,go_sem,rA,rM,rS]
 rw [Zi (n:=slabs * s.slab) (by omega) (by omega)]
 refine Vf [1,5,7,8,10,11,12,13,35,36] rfl (fun q:Nat × Camel × Camel=>[(36,I q.1)]) (fun q=>[(1,.cells (Cm.camelL q.2.1) 31),(5,.cells (Cm.camelL q.2.2) 31)])
  (fun q=>q.1<=d.hi.toNat/\U5 s.breed (Zcl s s.scenes[k] slabs) d.lo (d.hi.toNat - q.1) q.1 q.2.1 q.2.2=Xy s s.scenes[k] d slabs c) (fun q=>d.hi.toNat - q.1) (0,c,Xh) ⟨Nat.zero_le _,rfl⟩ ?_ ?_
 . (refine Zl ?_ ?_ ?_ rfl rfl<;>dsimp only [Cm.camelL,Xh,U9,Zg,Zf,Zm,Zk,Zd,Zo,mtL,mtB,mtS,id,go_sem,rA,rM,rS]<;>simp [Cm.camelL,Xh,U9,Zg,Zf,Zm,Zk,Zd,Zo,mtL,mtB,mtS,Za,Ze,KFR,KFL,KF,Zc,mtO,nbr])
 rintro ⟨n,c,out⟩ ⟨hk',hi⟩
 simp only at hk' hi
 dsimp only [Cm.camelL,go_sem,rA,rM,rS]
 by_cases hlt:n < d.hi.toNat
 case neg =>
  refine Zv (by simp;omega) ?_
  dsimp only [go_sem,rA,rM,rS]
  rw [show d.hi.toNat - n=0 from by omega,U5] at hi
  rw [<- hi]
  refine ⟨_,rfl,?_⟩
  simp only [ZbE,if_true]
  (refine Yb ?_ ?_ ?_ rfl<;>dsimp only [Cm.camelL,mtL,mtB,mtS,id,go_sem,rA,rM,rS]<;>simp [Cm.camelL,mtL,mtB,mtS,Za,Ze,KFR,KFL,KF,Zc,mtO,nbr])
 refine Zu (by simp;omega) ?_
 dsimp only [go_sem,rA,rM,rS]
 refine call (Cm.carries_ok s.breed c) ?_
 dsimp only [Cm.sres,Zd,go_sem,rA,rM,rS]
 rw [show (if ZbS s.breed c=0 then Zwh s.breed c else U9)=ZeR s.breed c from rfl]
 have hj:d.hi.toNat - n=(d.hi.toNat - (n+1))+1:=by omega
 rw [hj,U5] at hi
 by_cases hw:(Zcl s s.scenes[k] slabs).load > (ZeR s.breed c).lo
 . rw [show decide (slabs * s.slab<=(ZeR s.breed c).lo)=false from decide_eq_false (by have:slabs * s.slab > (ZeR s.breed c).lo:=hw;omega)]
   refine YP [] (ZaX 2 at_) rfl rfl rfl ?_ ?_ ?_
   . (repeat first | dsimp only [go_sem,rA,rM,rS] | simp only [nbr])
     try simp [mtL,mtB,mtS]
   . trivial
   rintro _ rfl
   (repeat first | dsimp only [Xv,go_sem,rA,rM,rS] | simp only [nbr])
   rw [<- hi,if_pos hw]
   refine ⟨_,rfl,?_⟩
   simp only [ZbE]
   (refine Yb ?_ ?_ ?_ rfl<;>dsimp only [Xv,id,go_sem,rA,rM,rS]<;>simp [Xv,Za,Ze,KFR,KFL,KF,Zc,mtO,nbr])
 rw [show decide (slabs * s.slab<=(ZeR s.breed c).lo)=true from decide_eq_true (by have:¬ slabs * s.slab > (ZeR s.breed c).lo:=hw;omega)]
 refine YP [] (Us 2 at_) rfl rfl rfl ?_ ?_ ?_
 . (repeat first | dsimp only [go_sem,rA,rM,rS] | simp only [nbr])
   try simp [mtL,mtB,mtS]
 . trivial
 rintro _ rfl
 (repeat first | dsimp only [go_sem,rA,rM,rS] | simp only [nbr])
 rw [if_neg hw] at hi
 refine call (Cm.after1_ok s.breed c (Zcl s s.scenes[k] slabs)) ?_
 generalize Xx s.breed c (Zcl s s.scenes[k] slabs)=r at hi ⊢
 dsimp only [Cm.camelL,Cm.U8,go_sem,rA,rM,rS]
 repeat (refine gb ?_;dsimp only [go_sem,rA,rM,rS])
 by_cases hf:r.2.2≠0\/r.2.1≠0
 . rw [show (r.2.2 == 0 && r.2.1 == 0)=false from by simp;omega]
   refine YP [] (ZaX 3 at_) rfl rfl rfl ?_ ?_ ?_
   . (repeat first | dsimp only [go_sem,rA,rM,rS] | simp only [nbr])
     try simp [mtL,mtB,mtS]
   . trivial
   rintro _ rfl
   (repeat first | dsimp only [Xv,go_sem,rA,rM,rS] | simp only [nbr])
   rw [<- hi,if_pos hf]
   refine ⟨_,rfl,?_⟩
   simp only [ZbE]
   (refine Yb ?_ ?_ ?_ rfl<;>dsimp only [Xv,id,go_sem,rA,rM,rS]<;>simp [Xv,Za,Ze,KFR,KFL,KF,Zc,mtO,nbr])
 rw [show (r.2.2 == 0 && r.2.1 == 0)=true from by simp;omega]
 refine YP [] (Us 3 at_) rfl rfl rfl ?_ ?_ ?_
 . (repeat first | dsimp only [go_sem,rA,rM,rS] | simp only [nbr])
   try simp [mtL,mtB,mtS]
 . trivial
 rintro _ rfl
 (repeat first | dsimp only [go_sem,rA,rM,rS] | simp only [nbr])
 rw [if_neg hf] at hi
 rw [Zi (n:=(n:Int)+1) (by omega) (by omega)]
 by_cases hl:(n:Int)+1=d.lo
 . refine Zu (by simpa using hl) ?_
   dsimp only [go_sem,rA,rM,rS]
   rw [if_pos hl] at hi
   try rw [Zi (n:=(n:Int)+1) (by omega) (by omega)]
   refine ⟨(n+1,r.1,r.1),⟨hlt,hi⟩,by simp only;omega,?_⟩
   (refine Zl ?_ ?_ ?_ rfl rfl<;>dsimp only [Cm.camelL,Xh,U9,Zg,Zf,Zm,Zk,Zd,Zo,mtL,mtB,mtS,id,go_sem,rA,rM,rS]<;>simp [Cm.camelL,Xh,U9,Zg,Zf,Zm,Zk,Zd,Zo,mtL,mtB,mtS,Za,Ze,KFR,KFL,KF,Zc,mtO,nbr])
 refine Zv (by simpa using hl) ?_
 dsimp only [go_sem,rA,rM,rS]
 rw [if_neg hl] at hi
 try rw [Zi (n:=(n:Int)+1) (by omega) (by omega)]
 by_cases hm:(n:Int)+1 > d.lo
 . refine Zu (by simpa using hm) ?_
   dsimp only [go_sem,rA,rM,rS]
   rw [if_pos hm] at hi
   refine call (ZeD out.water r.1.water _) ?_
   dsimp only [go_sem,rA,rM,rS]
   refine call (ZeD out.fat r.1.fat _) ?_
   dsimp only [go_sem,rA,rM,rS]
   refine call (ZeD out.sore r.1.sore _) ?_
   dsimp only [Zd,go_sem,rA,rM,rS]
   try rw [Zi (n:=(n:Int)+1) (by omega) (by omega)]
   refine ⟨(n+1,r.1,ZoC out r.1),⟨hlt,hi⟩,by simp only;omega,?_⟩
   (refine Zl ?_ ?_ ?_ rfl rfl<;>dsimp only [Cm.camelL,ZoC,Xh,U9,Zg,Zf,Zm,Zk,Zd,Zo,mtL,mtB,mtS,id,go_sem,rA,rM,rS]<;>simp [Cm.camelL,ZoC,Xh,U9,Zg,Zf,Zm,Zk,Zd,Zo,mtL,mtB,mtS,Za,Ze,KFR,KFL,KF,Zc,mtO,nbr])
 refine Zv (by simp;omega) ?_
 dsimp only [go_sem,rA,rM,rS]
 rw [if_neg hm] at hi
 try rw [Zi (n:=(n:Int)+1) (by omega) (by omega)]
 refine ⟨(n+1,r.1,out),⟨hlt,hi⟩,by simp only;omega,?_⟩
 (refine Zl ?_ ?_ ?_ rfl rfl<;>dsimp only [Cm.camelL,Xh,U9,Zg,Zf,Zm,Zk,Zd,Zo,mtL,mtB,mtS,id,go_sem,rA,rM,rS]<;>simp [Cm.camelL,Xh,U9,Zg,Zf,Zm,Zk,Zd,Zo,mtL,mtB,mtS,Za,Ze,KFR,KFL,KF,Zc,mtO,nbr])
def ZvV:SC:=(.seq (.reg [
 o1 2 (.mv (.c (.slice none 0 0)))])
 (.seq (.seq (.reg [
 m1 3 0,
 o1 4 (.isn (.t 3))])
 (.cond (.t 4)
 (.seq (.reg [
  o1 2 (.mv (.c (.slice none 0 0)))])
  .ret)
 .skip))
 (.seq (.reg [
 o1 5 (.bsl 9 88 []),
 m1 6 0,
 o1 7 (.cln 9 72 88 (.t 5) (.t 6)),
 m1 2 7])
 .ret)))
def ZtH:List RV:=[.tmp 2]
theorem nw155:Tryz.f155.ntmps=8:=by kernel_rfl
theorem bw155:YM Tryz.prog 155=true:=by kernel_rfl
theorem Zl2:XB Tryz.prog ZvV ((Tryz.f155.body).getD .skip)=true:=by kernel_rfl
theorem ZoX:Wo Tryz.prog ZtH Tryz.f155.results.toList=true:=by kernel_rfl
theorem mw155 {n0:Nat} {hp0:List (Nat × HB)} {args:List SV} {ZY:Ot->Prop} (hh:hpb n0 hp0) (hx:∀ o,ZY o->KX o.res/\KXP o.hp) (h:sx Tryz.prog Y0 n0 ZvV ⟨enum 0 args,hp0,n0,8,[]⟩ (retM ZtH fun o=>∃ o',ZY o'/\ZeY n0 o o')) (hA:Nat.ble args.length 8=true:=by rfl):CtM Tryz.prog 155 hp0 n0 args ZY:=XQ Tryz.func155 rfl bw155 Zl2 ZoX nw155 (Nat.le_of_ble_eq_true hA) hh hx h
def Zyf:SC:=(.seq (.reg [
 o1 2 (.box (.t 0) 0 120),
 o1 3 (.box (.t 1) 0 94),
 o1 4 (.mv (.c (.int .i64 0)))])
 (.seq (.reg [
 o1 10 (.addo (.t 2) 0),
 o1 11 (.addo (.t 10) 0),
 o1 12 (.ld (.t 11) 2 true),
 o1 5 (.alloc [.slice none 0 0,.slice none 0 0] 25),
 ⟨none,.st (.t 5) (.t 12) 2,none,[]⟩])
 (.seq (.reg [
 o1 13 (.addo (.t 5) 0),
 o1 14 (.ld (.t 13) 1 false),
 o1 15 (.callm 155 [.t 14]),
 o1 16 (.addo (.t 5) 0),
 ⟨none,.st (.t 16) (.t 15) 1,none,[]⟩])
 (.seq (.seq (.reg [
 o1 17 (.addo (.t 5) 0),
 o1 18 (.ld (.t 17) 1 false),
 o1 19 (.len (.t 18)),
 o1 20 (.mv (.c (.int .i64 0)))])
 (.block 0 (.loop (.seq (.reg [
  o1 21 (.bin .lss (.t 20) (.t 19))])
  (.seq (.cond (.t 21)
  .skip
  (.exit 0))
  (.seq (.block 1 (.seq (.reg [
   m1 22 20,
   m1 6 22])
   (.regd [0,1,2,3,4,5,6,7,8,9,10,11] [
   .op (o1 23 (.addo (.t 5) 0)),
   .op ⟨some 24,.ld (.t 23) 1 false,none,[0]⟩,
   .op (m1 25 6),
   .op (o1 26 (.ld (.t 2) 38 true)),
   .op ⟨some 27,.call 156 [.t 26],none,[3]⟩,
   .op ⟨some 28,.fld (.t 27) 4 1 false,none,[4]⟩,
   .op (m1 29 6),
   .op ⟨some 30,.ixs (.t 28) (.t 29) 2,none,[5,6]⟩,
   .op ⟨some 31,.ld (.t 30) 2 true,none,[7]⟩,
   .op ⟨some 32,.ixs (.t 24) (.t 25) 9,none,[0,1,2,3,4,5,6,7,8]⟩,
   .op ⟨some 33,.addo (.t 32) 3,none,[0,1,2,3,4,5,6,7,8,9]⟩] 0 1 [
   ⟨none,.st (.t 33) (.t 31) 2,none,[0,1,2,3,4,5,6,7,8,10]⟩])))
  (.reg [
  o1 34 (.bin .add (.t 20) (.c (.int .i64 1))),
  m1 20 34])))))))
 (.seq (.reg [
 o1 36 (.ld (.t 5) 2 true),
 o1 37 (.addo (.t 3) 1),
 o1 38 (.ld (.t 37) 1 false),
 o1 39 (.addo (.t 3) 4),
 o1 40 (.addo (.t 39) 0),
 o1 41 (.ld (.t 40) 1 false),
 o1 42 (.call 42 [.t 36,.t 38,.c (.slice none 0 0),.t 41]),
 m1 35 42,
 o1 43 (.ext (.t 35) 0),
 o1 44 (.ext (.t 35) 1),
 o1 45 (.ext (.t 35) 2),
 o1 7 (.alloc [.int .i64 0,.int .i64 0] 27),
 ⟨none,.st (.t 7) (.t 43) 2,none,[]⟩,
 m1 8 44,
 m1 9 45])
 (.seq (.reg [
 o1 46 (.addo (.t 7) 0),
 o1 47 (.ld (.t 46) 1 false),
 m1 4 47])
 .ret))))))
def Zym:List RV:=[.tmp 4]
theorem tw113:Qt1 Tryz.prog 113 Zyf Zym 48:=Z6 Tryz.func113 rfl (by kernel_rfl) (by kernel_rfl) (by kernel_rfl) (by kernel_rfl)
end Go.Proofs.YtiigiflofnjilaaGreat
namespace Go.Azalai
open Go.Sx
def Zhz (ws:List Well) (ys:List Span):List Well:=List.zipWith (fun w y=>{ w with yld:=y }) ws ys
def UE (s:Season) (x:Scene):Land:=⟨Zhz s.land.wells x.yields,s.land.legs⟩
def VZ (ws Z:List Well) (k:Nat):List Well:=Z.take k ++ ws.drop k
theorem Zfl {ws:List Well} {ys:List Span} (h:ys.length=ws.length):(Zhz ws ys).length=ws.length:=by simp [Zhz,h]
theorem Zd2 {ws Z:List Well} {k:Nat} (h:Z.length=ws.length) (hk:k<=ws.length):(VZ ws Z k).length=ws.length:=by simp [VZ];omega
theorem Zd5 {ws Z:List Well} {k:Nat} (h:Z.length=ws.length) (hk:k < ws.length) (hk':k < (VZ ws Z k).length):(VZ ws Z k)[k]=ws[k]:=by
 simp only [VZ]
 rw [List.getElem_append_right (by simp;omega)]
 simp [Nat.min_eq_left (Nat.le_of_lt (h ▸ hk:k < Z.length))]
theorem ZhH {ws Z:List Well} {k:Nat} (h:Z.length=ws.length) (hk:k < ws.length) (hz:k < Z.length):(VZ ws Z k).set k Z[k]=VZ ws Z (k+1):=by
 simp only [VZ]
 rw [List.set_append_right _ _ (by simp;omega)]
 have h1:(Z.take k).length=k:=by simp;omega
 rw [h1,Nat.sub_self,List.drop_eq_getElem_cons hk,List.set_cons_zero,List.take_succ_eq_append_getElem hz,List.append_assoc]
 rfl
theorem ZpZ {ws:List Well} {ys:List Span} {k:Nat} (h1:k < ws.length) (h2:k < ys.length) (h:k < (Zhz ws ys).length):(Zhz ws ys)[k]={ ws[k] with yld:=ys[k] }:=by simp [Zhz]
def ZaL (s:Season) (x:Scene) (st:Stop):Int:=(Wf (UE s x) st.well [] st.arrives.lo).1.lo
end Go.Azalai
namespace Go.Proofs.YtiigiflofnjilaaGreat
open Go Go.Sx Go.Azalai
theorem Zdn {s:Season} {x:Scene} (h:WZ s.land) (hx:x.yields.length=s.land.wells.length):WZ (UE s x):=by
 refine ⟨?_,h.2.1,h.2.2⟩
 simp only [UE];rw [Zfl hx];exact h.1
theorem Zln (l:List Well) (hL:l.length<=1000) (k:Bool):CtM Tryz.prog 155 [] 0 [.sl k 9 (l.map Zf)] (fun o=>o=⟨false,.mr 0 0,[(0,.row 0 9 (l.map Zf) 88)],1⟩):=by
 refine mw155 (by simp [hpb]) (fun o ho=>by subst ho;simp [KX,KXL,KXP,KXH,Za,KFL,KF,Zf]) ?_
 dsimp only [ZvV,ZtH,go_sem,rA,rM,rS]
 intro b hb
 dsimp only [go_sem,rA,rM,rS]
 cases b with
 | true =>
  have hl:l=[]:=by simpa using hb rfl
  subst hl
  refine Zu rfl ?_
  dsimp only [go_sem,rA,rM,rS]
  refine ⟨_,rfl,?_⟩
  refine VT (YA (YX 0 9 88 rfl rfl) ?_) (fun _ _ _ e=>by cases e)
  (refine Zl ?_ ?_ ?_ rfl rfl<;>dsimp only [Zf,id,go_sem,rA,rM,rS]<;>simp [Zf,Za,Ze,KFR,KFL,KF,Zc,mtO,nbr])
 | false =>
  refine Zv rfl ?_
  dsimp only [go_sem,rA,rM,rS]
  refine ⟨by simp;omega,?_⟩
  dsimp only [go_sem,rA,rM,rS]
  refine ⟨_,rfl,?_⟩
  (refine Yb ?_ ?_ ?_ rfl<;>dsimp only [Zf,id,go_sem,rA,rM,rS]<;>simp [Zf,Za,Ze,KFR,KFL,KF,Zc,mtO,nbr])
theorem Zq5 (s:Season) (hs:SmallS s) (k:Nat) (hk:k < s.scenes.length) (hy:s.scenes[k].yields.length=s.land.wells.length) (st:Stop):Ct Tryz.prog 113 [.agg (Yl s k),.agg (ZQ st)] (I (ZaL s s.scenes[k] st)):=by
 have hw:=hs.land.1
 refine tw113.1 (by simp [Yl,ZQ,Zk,Zf,Zm,Zg,Zd,Zo,Za,KFL,KF]) (by simp [KFL,KF]) ?_
 dsimp only [Zyf,Zym,Yl,ZQ,go_sem,rA,rM,rS]
 refine ZbQ [] (Zln s.land.wells hw false) rfl rfl rfl ?_ ?_ ?_
 . exact Zc (by simp [Za,Zf,KFL,KF])
 . trivial
 dsimp only [go_sem,rA,rM,rS]
 simp only [List.length_map]
 have hz:=Zfl hy
 refine Vf [2,3,4,5,19,20] rfl (fun q:Nat=>[(20,I q)]) (fun q=>[(3,.row 0 9 ((VZ s.land.wells (Zhz s.land.wells s.scenes[k].yields) q).map Zf) 88)])
  (fun q=>q<=s.land.wells.length) (fun q=>s.land.wells.length - q) 0 (Nat.zero_le _) ?_ ?_
 . (refine Zl ?_ ?_ ?_ rfl rfl<;>dsimp only [Zf,Zm,Zg,Zk,Zd,Zo,VZ,id,go_sem,rA,rM,rS]<;>simp [Zf,Zm,Zg,Zk,Zd,Zo,VZ,Za,Ze,KFR,KFL,KF,Zc,mtO,nbr])
 intro q hq
 dsimp only [go_sem,rA,rM,rS]
 by_cases hlt:q < s.land.wells.length
 . refine Zu (by simpa using hlt) ?_
   dsimp only [go_sem,rA,rM,rS]
   refine call (ZkO s k hk) ?_
   dsimp only [Zk,go_sem,rA,rM,rS]
   refine Zp q (by omega) rfl ?_
   dsimp only [Zd,go_sem,rA,rM,rS]
   refine Zdg q rfl (by simp [Zd2 hz hq];omega) ?_
   dsimp only [go_sem,rA,rM,rS]
   have hq2:q < (VZ s.land.wells (Zhz s.land.wells s.scenes[k].yields) q).length:=by rw [Zd2 hz hq];exact hlt
   have hq3:q < (Zhz s.land.wells s.scenes[k].yields).length:=by omega
   refine Zvo ((Zhz s.land.wells s.scenes[k].yields)[q]) hq2 (by rw [Zd5 hz hlt];simp [Zf]) (by rw [Zd5 hz hlt,ZpZ hlt (by omega)];simp [Zf,splice]) ?_
   rw [ZhH hz hlt hq3]
   dsimp only [go_sem,rA,rM,rS]
   rw [Zi (n:=(q:Int)+1) (by omega) (by omega)]
   refine ⟨q+1,by omega,by omega,?_⟩
   (refine Zl ?_ ?_ ?_ rfl rfl<;>dsimp only [Zf,Zm,Zg,Zk,Zd,Zo,id,go_sem,rA,rM,rS]<;>simp [Zf,Zm,Zg,Zk,Zd,Zo,Za,Ze,KFR,KFL,KF,Zc,mtO,nbr])
 refine Zv (by simp;omega) ?_
 dsimp only [go_sem,rA,rM,rS]
 have hq':VZ s.land.wells (Zhz s.land.wells s.scenes[k].yields) q=Zhz s.land.wells s.scenes[k].yields:=by
  simp only [VZ];rw [List.take_of_length_le (by omega),List.drop_eq_nil_of_le (by omega),List.append_nil]
 rw [hq']
 have hwa:=(ZlN (UE s s.scenes[k]) (Zdn hs.land hy) st.well st.arrives.lo [] (by simp)).args (args0:=[.agg (Yg (UE s s.scenes[k])),I st.well,.v (.slice none 0 0),I st.arrives.lo]) (by simp [Yg,Zf,Zm,Zg,Za,KFL,KF]) (Z0 (fun _ _ _ _ _ h=>h) (Z0 (fun _ _ _ _ _ h=>h) (Z0 YN XZ)))
 refine ZdN (by simp [FLT,Zwp,ZqA,Zd]) (res:=ZqA (Wf (UE s s.scenes[k]) st.well [] st.arrives.lo)) ?_ ?_
 . dsimp only [go_sem,rA,rM,rS]
   exact hwa
 dsimp only [ZqA,Zd,go_sem,rA,rM,rS]
 rfl
end Go.Proofs.YtiigiflofnjilaaGreat
namespace Go.Sx
open Go Go.RowKit
theorem Vo {l l':List SV} (h:∀ (w:World) (E:Env) (n ok:Nat->Prop) (ys:List Value),RL w E n ok l ys->RL w E n ok l' ys):Xa (.agg l) (.agg l'):=fun w E n ok y hy=>by
 simp only [R] at hy ⊢
 obtain ⟨cs,h1,h2⟩:=hy
 exact ⟨cs,h1,h _ _ _ _ _ h2⟩
end Go.Sx
namespace Go.Azalai
open Go.Sx
def Zc9 (b:Breed) (c:Camel):Camel:={ c with water:=⟨b.full,b.full⟩ }
def goG (s:Season) (x:Scene) (slabs:Int):List Stop->Nat->Camel->List (Int × Int)->Int × Int × List (Int × Int)
 | [],_,_,acc=>(0,0,acc)
 | st :: r,i,c,acc =>
  if (Xy s x (Xp s.land st.leg s.pace).1 slabs c).2≠0 then ((Xy s x (Xp s.land st.leg s.pace).1 slabs c).2,i,acc)
  else goG s x slabs r (i+1) (Zc9 s.breed (Xy s x (Xp s.land st.leg s.pace).1 slabs c).1)
   (if r=[] then acc else acc ++ [(s.breed.full - (Xy s x (Xp s.land st.leg s.pace).1 slabs c).1.water.lo,ZaL s x st)])
def goF (s:Season) (x:Scene) (slabs:Int) (l:List Stop):Int × Int × List (Int × Int) :=
 if l=[] then (if slabs * s.slab > (ZeR s.breed s.camel).lo then 2 else 0,0,[]) else goG s x slabs l 0 s.camel []
theorem ZeH {lo hi:Int} {a b:Span} (ha:Ya lo hi a=true) (hb:Ya lo hi b=true):Ya lo hi (ZkZ a b)=true:=by
 simp only [Ya,decide_eq_true_eq] at ha hb
 show decide (lo<=min a.lo b.lo/\min a.lo b.lo<=max a.hi b.hi/\max a.hi b.hi<=hi)=true
 rw [decide_eq_true_eq];omega
theorem Zks {b:Breed} {c:Camel} {m:March} (hb:ZA b=true) (hc:Zy b c=true) (he:(Xx b c m).2.2=0):Zy b (Xx b c m).1=true:=by
 unfold Xx at he ⊢
 rw [if_neg (by rw [Go.Proofs.YtiigiflofnjilaaGreat.Cm.errC_0.2 ⟨hb,hc⟩];simp)] at he ⊢
 split
 . rename_i h;rw [if_pos h] at he;simp at he
 . rename_i h
   rw [if_neg h] at he
   split
   . rename_i h2;rw [if_pos h2] at he;simp at he
   . rename_i h2
     exact Go.Azalai.after_ok hb hc (by simpa using h) h2
theorem ZcI {b:Breed} (hb:ZA b=true):Zy b Xh=true:=by
 have:=Go.Proofs.YtiigiflofnjilaaGreat.Cm.breed_bd hb
 simp [Zy,Xh,Ya];omega
theorem Zdt {b:Breed} {m:March} {lo:Int} (hb:ZA b=true):∀ {j n:Nat} {c out:Camel},Zy b c=true->Zy b out=true->Zy b (U5 b m lo j n c out).1=true
 | 0,_,_,_,_,ho=>ho
 | j+1,n,c,out,hc,ho=>by
  simp only [U5]
  split
  . exact ZcI hb
  split
  . exact ZcI hb
  rename_i h1 h2
  have ha:=Zks (m:=m) hb hc (by omega)
  refine Zdt hb ha ?_
  split
  . exact ha
  split
  . simp only [Zy,Bool.and_eq_true] at ha ho ⊢
    exact ⟨⟨ZeH ho.1.1 ha.1.1,ZeH ho.1.2 ha.1.2⟩,ZeH ho.2 ha.2⟩
  . exact ho
theorem ZdI {s:Season} {x:Scene} {d:Span} {slabs:Int} {c:Camel} (hb:ZA s.breed=true) (hc:Zy s.breed c=true):Zy s.breed (Xy s x d slabs c).1=true:=Zdt hb hc (ZcI hb)
theorem ZcQ {b:Breed} {c:Camel} (hb:ZA b=true) (hc:Zy b c=true):Zy b (Zc9 b c)=true:=by
 have:=Go.Proofs.YtiigiflofnjilaaGreat.Cm.breed_bd hb
 simp only [Zy,Zc9,Bool.and_eq_true] at hc ⊢
 exact ⟨⟨by simp only [Ya,decide_eq_true_eq];omega,hc.1.2⟩,hc.2⟩
theorem ZqR {l:Land} {p:Span} {leg:Int} (hg:OkLP l p):(Xp l leg p).1.hi<=1000000000:=by
 unfold Xp
 split
 . simp
 split
 . simp
 split
 . rename_i x hx
   have:=Go.Azalai.day_bd (hg.leg hx) hg.pace
   simp only;omega
 . simp
theorem Zfn {b:Breed} {c:Camel} (hb:ZA b=true) (hc:Zy b c=true):0<=c.water.lo/\c.water.lo<=b.full/\1<=b.full/\b.full<=1000000:=by
 have h1:=Go.Proofs.YtiigiflofnjilaaGreat.Cm.breed_bd hb
 have h2:=Go.Proofs.YtiigiflofnjilaaGreat.Cm.camel_bd hb hc
 omega
end Go.Azalai
namespace Go.Proofs.YtiigiflofnjilaaGreat
open Go Go.Sx Go.Azalai
theorem Zti (s:Season) (h:OkS s) (leg:Int):Ct Tryz.prog 39 [.agg (Yg s.land),I leg,.agg (Zd s.pace)] (sres (Xp s.land leg s.pace)):=ZqW s.land h.small.land leg s.pace
end Go.Proofs.YtiigiflofnjilaaGreat
namespace Go.Azalai
open Go.Sx
theorem Ze9 {l:Land} {p:Span}:∀ {legs:List Int} {v a b:Int} {k k':Nat} {acc:List Stop},XX l v legs k'=none->(goS l p v a b legs k acc).2.2=0->(goS l p v a b legs k acc).1.map Stop.leg=acc.map Stop.leg ++ legs
 | [],_,_,_,_,_,_,_,_=>by simp [goS]
 | i :: r,v,a,b,k,k',acc,h,h0=>by
  simp only [XX] at h
  split at h
  . cases h
  rename_i hn
  obtain ⟨n,x,rfl,hk,hx,_,e⟩:=UJ hn
  simp only [goS,Int.toNat_natCast,hx] at h0 ⊢
  split
  . rename_i h1;rw [if_pos h1] at h0;simp at h0
  . rename_i h1;rw [if_neg h1] at h0
    rw [e] at h
    rw [Ze9 h h0];simp
theorem Zgx {l:Land} {p:Span} {s d:Int} {legs:List Int} (h:(YE l p s d legs).2.2=0):(YE l p s d legs).1.map Stop.leg=legs:=by
 unfold YE at h ⊢
 split
 . rename_i h1;rw [if_pos h1] at h;exact absurd h h1
 rename_i h1
 rw [if_neg h1] at h
 split
 . rename_i h2;rw [if_pos h2] at h;simp at h
 rename_i h2
 rw [if_neg h2] at h
 split
 . rename_i h3;rw [if_pos h3] at h;simp at h
 rename_i h3
 rw [if_neg h3] at h
 split
 . rename_i h4;rw [h4] at h;simp at h
 rename_i h4
 rw [h4] at h
 rw [Ze9 h4 h];simp
theorem Zhv {s:Season} {legs:List Int} (h:XV s legs=true):(Zz s legs).map Stop.leg=legs:=by
 simp only [XV,Bool.and_eq_true,decide_eq_true_eq] at h
 exact Zgx h.1
def UD (n:Int):List (Int × Int)->Nat->Option Nat
 | [],_=>none
 | p :: r,i=>if n * p.1 > p.2 then some i else UD n r (i+1)
def Zab (n:Int) (g:Int × Int × List (Int × Int)):Int × Int :=
 match UD n g.2.2 0 with
 | some i=>(4,i)
 | none=>(g.1,g.2.1)
def Yq (s:Season) (p:Plan) (x:Scene):Int × Int :=
 if XV s p.legs=false then (1,0) else if p.animals=0 then (0,0) else Zab p.animals (goF s x p.slabs (Zz s p.legs))
def X5 (s:Season) (p:Plan):List Scene->Nat->Int × Int × Int × Int
 | [],_=>(0,0,0,0)
 | x :: r,i=>if (Yq s p x).1≠0 then ((Yq s p x).1,i,(Yq s p x).2,0) else X5 s p r (i+1)
def Yk (s:Season) (p:Plan):Int × Int × Int × Int :=
 if Zw s=false then (0,0,0,90) else if YB s p=false then (0,0,0,91) else X5 s p s.scenes 0
theorem Zlk {s:Season} {x:Scene} {slabs:Int} (hb:ZA s.breed=true):∀ {l:List Stop} {i:Nat} {c:Camel} {acc:List (Int × Int)},Zy s.breed c=true->(∀ q ∈ acc,0<=q.1/\q.1<=1000000) ->
 (∀ q ∈ (goG s x slabs l i c acc).2.2,0<=q.1/\q.1<=1000000)/\(goG s x slabs l i c acc).2.2.length<=acc.length+l.length
 | [],_,_,acc,_,ha=>⟨ha,by simp [goG]⟩
 | st :: r,i,c,acc,hc,ha=>by
  simp only [goG]
  split
  . exact ⟨ha,by simp only;omega⟩
  have hbo:=ZdI (x:=x) (d:=(Xp s.land st.leg s.pace).1) (slabs:=slabs) hb hc
  have hw:=Zfn hb hbo
  split
  . obtain ⟨h1,h2⟩:=Zlk (s:=s) (x:=x) (slabs:=slabs) hb (l:=r) (i:=i+1) (acc:=acc) (ZcQ hb hbo) ha
    exact ⟨h1,by simp only [List.length_cons];omega⟩
  . obtain ⟨h1,h2⟩:=Zlk (s:=s) (x:=x) (slabs:=slabs) hb (l:=r) (i:=i+1) (acc:=acc ++ [(s.breed.full - (Xy s x (Xp s.land st.leg s.pace).1 slabs c).1.water.lo,ZaL s x st)]) (ZcQ hb hbo) (fun q hq=>by
     rcases List.mem_append.1 hq with hq | hq
     . exact ha q hq
     . simp only [List.mem_singleton] at hq;subst hq;simp only;omega)
    exact ⟨h1,by simp only [List.length_cons,List.length_append,List.length_nil] at h2 ⊢;omega⟩
theorem ZhD {s:Season} {x:Scene} {slabs:Int} {l:List Stop} (hb:ZA s.breed=true) (hc:Zy s.breed s.camel=true):(∀ q ∈ (goF s x slabs l).2.2,0<=q.1/\q.1<=1000000)/\(goF s x slabs l).2.2.length<=l.length:=by
 unfold goF
 split
 . simp
 . obtain ⟨h1,h2⟩:=Zlk (x:=x) (slabs:=slabs) hb (l:=l) (i:=0) (acc:=[]) hc (by simp)
   exact ⟨h1,by simpa using h2⟩
end Go.Azalai
namespace Go.Proofs.YtiigiflofnjilaaGreat
open Go Go.Sx Go.Azalai
theorem Xm {s:Season} {p:Plan} (h:YB s p=true):(∃ v,Yo s.land s.start [s.start] p.legs=some v)/\0<=p.animals/\p.animals<=s.herd/\0<=p.slabs/\p.slabs<=12:=by
 simp only [YB,inR,Bool.and_eq_true,decide_eq_true_eq,Option.isSome_iff_exists] at h
 exact ⟨h.1.1,by omega⟩
def ZcN (r:Int × Int × Int × Int):SV:=.tup [U8 r.1,I r.2.1,I r.2.2.1,I r.2.2.2]
end Go.Proofs.YtiigiflofnjilaaGreat
namespace Go.Azalai
open Go.Sx
def Vg (n:Int) (st:Stop) (p:Int × Int):Draw:=⟨st.well,st.arrives.lo,n * p.1⟩
def X6 (n:Int) (l:List Stop) (g:List (Int × Int)):List Draw:=List.zipWith (Vg n) l g
def Xt (s:Season) (x:Scene) (n slabs:Int) (l:List Stop):List Draw :=
 if l=[] then [] else if n=0 then l.dropLast.map fun st=>⟨st.well,st.arrives.lo,0⟩ else X6 n l (goF s x slabs l).2.2
def Zhs (s:Season) (x:Scene) (n slabs:Int) (l:List Stop):Int × Int:=if n=0 then (0,0) else Zab n (goF s x slabs l)
theorem ZeN {s:Season} {x:Scene} {slabs:Int}:∀ {l:List Stop} {i:Nat} {c:Camel} {acc:List (Int × Int)},∃ more,(goG s x slabs l i c acc).2.2=acc ++ more
 | [],_,_,acc=>⟨[],by simp [goG]⟩
 | st :: r,i,c,acc=>by
  simp only [goG]
  split
  . exact ⟨[],by simp⟩
  split
  . exact ZeN
  . obtain ⟨m,hm⟩:=ZeN (s:=s) (x:=x) (slabs:=slabs) (l:=r) (i:=i+1) (c:=Zc9 s.breed (Xy s x (Xp s.land st.leg s.pace).1 slabs c).1) (acc:=acc ++ [(s.breed.full - (Xy s x (Xp s.land st.leg s.pace).1 slabs c).1.water.lo,ZaL s x st)])
    exact ⟨_,by rw [hm,List.append_assoc]⟩
theorem ZaY {n:Int}:∀ {a b:List (Int × Int)} {i:Nat},UD n a i=none->UD n (a ++ b) i=UD n b (i+a.length)
 | [],_,_,_=>by simp
 | p :: a,b,i,h=>by
  simp only [UD] at h
  split at h
  . cases h
  rename_i hp
  simp only [List.cons_append,UD]
  rw [if_neg hp,ZaY h,List.length_cons];congr 1;omega
theorem Zez {n:Int} {l:List Stop} {acc:List (Int × Int)} {p:Int × Int} {j:Nat} (hj:j < l.length) (ha:acc.length=j):X6 n l (acc ++ [p])=X6 n l acc ++ [Vg n l[j] p]:=by
 simp only [X6]
 subst ha
 have h1:l=l.take acc.length ++ l.drop acc.length:=(List.take_append_drop ..).symm
 have hlen:(l.take acc.length).length=acc.length:=by simp;omega
 have e1:List.zipWith (Vg n) l (acc ++ [p])=List.zipWith (Vg n) (l.take acc.length) acc ++ List.zipWith (Vg n) (l.drop acc.length) [p]:=by
  rw [<- List.zipWith_append hlen,<- h1]
 have e2:List.zipWith (Vg n) l acc=List.zipWith (Vg n) (l.take acc.length) acc:=by
  have:=List.zipWith_append (f:=Vg n) (l₁:=l.take acc.length) (l₁':=l.drop acc.length) (l₂:=acc) (l₂':=[]) hlen
  rw [<- h1] at this;simpa using this
 rw [e1,e2,List.drop_eq_getElem_cons hj]
 simp only [List.zipWith_cons_cons,List.zipWith_nil_right]
end Go.Azalai
namespace Go.Proofs.YtiigiflofnjilaaGreat
open Go Go.Sx Go.Azalai
def ZwA (s:Season) (k:Int) (l:List Stop) (slabs:Int):Ot:=⟨false,.cl 163 [.p 0 0,.p 1 0,.p 2 0],[(0,.cells (Yl s k) 120),(1,.cells [.sl false 6 (l.map ZQ)] 90),(2,.cells [I slabs] 3)],3⟩
theorem ZeV (s:Season) (k:Int) (l:List Stop) (slabs:Int):CtM Tryz.prog 135 [] 0 [.agg (Yl s k),.sl false 6 (l.map ZQ),I slabs] (fun o=>o=ZwA s k l slabs):=by
 refine m135 (by simp [hpb]) (fun o ho=>by subst ho;simp [ZwA,Yl,KX,KXL,KXP,KXH,Za,KFL,KF,Zf,Zm,Zg,Zk,Zd,Zo,ZQ]) ?_
 dsimp only [c135,r135,go_sem,rA,rM,rS]
 refine ⟨_,rfl,?_⟩
 (refine Yb ?_ ?_ ?_ rfl<;>dsimp only [ZwA,Yl,Zf,Zm,Zg,Zk,Zd,Zo,ZQ,id,go_sem,rA,rM,rS]<;>simp [ZwA,Yl,Zf,Zm,Zg,Zk,Zd,Zo,ZQ,Za,Ze,KFR,KFL,KF,Zc,mtO,nbr])
def VB (w:Int × Int) (ds:List Draw):Ot:=if w.1=0 then ⟨false,.sl false 3 (ds.map Z2),[],0⟩ else Xv w.1 w.2
theorem ZnX (s:Season) (h:OkS s) (k:Nat) (hk:k < s.scenes.length) (l:List Stop) (hl:l.length<=1000) (n slabs:Int) (hn:0<=n/\n<=s.herd) (hsl:0<=slabs/\slabs<=12) :
 CtM Tryz.prog 92 [] 0 [.agg (Yl s k),.sl false 6 (l.map ZQ),I n,I slabs] (fun o=>o=VB (Zhs s s.scenes[k] n slabs l) (Xt s s.scenes[k] n slabs l)):=by
 have hnum:=h.num
 have hx:=h.scene _ (List.getElem_mem hk)
 have hy:s.scenes[k].yields.length=s.land.wells.length:=by simp only [Yx,Bool.and_eq_true,decide_eq_true_eq] at hx;omega
 have hb:0<=slabs * s.slab/\slabs * s.slab<=12 * 1000000:=⟨Int.mul_nonneg hsl.1 (by omega),Int.mul_le_mul hsl.2 (by omega) (by omega) (by decide)⟩
 refine m92 (by simp [hpb]) (fun o ho=>by subst ho;unfold VB;split<;>simp [Xv,KX,KXL,KXP,Za,KFL,KF,Z2]) ?_
 dsimp only [c92,r92,Yl,go_sem,rA,rM,rS]
 simp only [List.length_map]
 by_cases hl0:l=[]
 . subst hl0
   refine Zu (by simp) ?_
   dsimp only [go_sem,rA,rM,rS]
   refine call (Cm.carries_ok s.breed s.camel) ?_
   dsimp only [Cm.sres,Zd,go_sem,rA,rM,rS]
   rw [show (if ZbS s.breed s.camel=0 then Zwh s.breed s.camel else U9)=ZeR s.breed s.camel from rfl]
   repeat (refine gb ?_;dsimp only [go_sem,rA,rM,rS])
   rw [Zi (n:=slabs * s.slab) (by omega) (by omega)]
   by_cases hok:n=0\/slabs * s.slab<=(ZeR s.breed s.camel).lo
   . rw [show (n == 0 || decide (slabs * s.slab<=(ZeR s.breed s.camel).lo))=true from by simpa using hok]
     refine YP [] (Us 2 0) rfl rfl rfl ?_ ?_ ?_
     . (repeat first | dsimp only [go_sem,rA,rM,rS] | simp only [nbr])
       try simp [mtL,mtB,mtS]
     . trivial
     rintro _ rfl
     (repeat first | dsimp only [go_sem,rA,rM,rS] | simp only [nbr])
     refine ⟨_,rfl,?_⟩
     have hw:Zhs s s.scenes[k] n slabs []=(0,0):=by
      unfold Zhs
      split
      . rfl
      . rw [goF,if_pos rfl,if_neg (by omega)];rfl
     rw [hw]
     simp only [VB,if_true,Xt,List.map_nil]
     refine VT (YA (YX 0 3 111 rfl rfl) (YA (ZaG 0 4 0 rfl rfl rfl rfl) ?_)) (fun _ _ _ e=>by cases e)
     (refine Zl ?_ ?_ ?_ rfl rfl<;>dsimp only [id,go_sem,rA,rM,rS]<;>simp [Za,Ze,KFR,KFL,KF,Zc,mtO,nbr])
   . rw [show (n == 0 || decide (slabs * s.slab<=(ZeR s.breed s.camel).lo))=false from by simpa using hok]
     refine YP [] (ZaX 2 0) rfl rfl rfl ?_ ?_ ?_
     . (repeat first | dsimp only [go_sem,rA,rM,rS] | simp only [nbr])
       try simp [mtL,mtB,mtS]
     . trivial
     rintro _ rfl
     (repeat first | dsimp only [Xv,go_sem,rA,rM,rS] | simp only [nbr])
     refine ⟨_,rfl,?_⟩
     have hw:Zhs s s.scenes[k] n slabs []=(2,0):=by
      unfold Zhs
      rw [if_neg (by omega),goF,if_pos rfl,if_pos (by omega)];rfl
     rw [hw]
     simp only [VB]
     (refine Yb ?_ ?_ ?_ rfl<;>dsimp only [Xv,id,go_sem,rA,rM,rS]<;>simp [Xv,Za,Ze,KFR,KFL,KF,Zc,mtO,nbr])
 have hl1:l.length≠0:=fun e=>hl0 (List.length_eq_zero_iff.1 e)
 refine Zv (by simpa using hl0) ?_
 dsimp only [go_sem,rA,rM,rS]
 by_cases hn0:n=0
 . refine Zu (by simpa using hn0) ?_
   dsimp only [go_sem,rA,rM,rS]
   simp only [List.length_map]
   refine ⟨0,l.length - 1,⟨rfl,by rw [Zi (by omega) (by omega)];omega,by omega,by simp⟩,?_⟩
   rw [List.drop_zero,show (l.map ZQ).take (l.length - 1)=l.dropLast.map ZQ from by rw [List.dropLast_eq_take,List.map_take]]
   dsimp only [go_sem,rA,rM,rS]
   simp only [List.length_map]
   have hwF:Zhs s s.scenes[k] n slabs l=(0,0):=by simp only [Zhs,if_pos hn0]
   have hdF:Xt s s.scenes[k] n slabs l=l.dropLast.map fun st=>⟨st.well,st.arrives.lo,0⟩:=by simp only [Xt,if_neg hl0,if_pos hn0]
   have hdl:l.dropLast.length<=1000:=by simp;omega
   rw [hwF,hdF]
   generalize l.dropLast=m at hdl ⊢
   refine ZdP (YA (Uj [4,5,6,8,11,49,50,51] rfl) (VU 3 0 3 111 rfl rfl)) (fun q:Nat × Nat × List Draw=>[(51,I q.1)])
    (fun q=>[(3,.cells [.mr 4 q.2.1] 54),(4,.row q.2.1 3 (q.2.2.map Z2) 111)]) (fun q=>q.1<=m.length/\q.2.2=(m.map fun st=>(⟨st.well,st.arrives.lo,0⟩:Draw)).take q.1) (fun q=>m.length - q.1) (0,0,[]) ⟨Nat.zero_le _,by simp⟩ ?_ ?_
   . (refine Zl ?_ ?_ ?_ rfl rfl<;>dsimp only [Yl,Zf,Zm,Zg,Zk,Zd,Zo,ZQ,Z2,id,go_sem,rA,rM,rS]<;>simp [Yl,Zf,Zm,Zg,Zk,Zd,Zo,ZQ,Z2,Za,Ze,KFR,KFL,KF,Zc,mtO,nbr])
   rintro ⟨j,v,D⟩ ⟨hj,hD⟩
   simp only at hj hD
   dsimp only [go_sem,rA,rM,rS]
   by_cases hlt:j < m.length
   . refine Zu (by simpa using hlt) ?_
     dsimp only [go_sem,rA,rM,rS]
     refine Zp j hlt rfl ?_
     dsimp only [ZQ,go_sem,rA,rM,rS]
     simp only [nbr]
     dsimp only [go_sem,rA,rM,rS]
     refine ⟨(by intro c hc;simp only [List.mem_singleton] at hc;subst hc;rfl),by simp [hD];omega,?_⟩
     dsimp only [go_sem,rA,rM,rS]
     rw [Zi (n:=(j:Int)+1) (by omega) (by omega)]
     refine ⟨(j+1,v+1,D ++ [⟨m[j].well,m[j].arrives.lo,0⟩]),⟨hlt,?_⟩,by simp only;omega,?_⟩
     . simp only;rw [List.take_succ_eq_append_getElem (by simpa using hlt),<- hD,List.getElem_map]
     simp only [List.map_append,List.map_cons,List.map_nil]
     (refine Zl ?_ ?_ ?_ rfl rfl<;>dsimp only [Yl,Zf,Zm,Zg,Zk,Zd,Zo,ZQ,Z2,id,go_sem,rA,rM,rS]<;>simp [Yl,Zf,Zm,Zg,Zk,Zd,Zo,ZQ,Z2,Za,Ze,KFR,KFL,KF,Zc,mtO,nbr])
   refine Zv (by simp;omega) ?_
   dsimp only [go_sem,rA,rM,rS]
   rw [List.take_of_length_le (by simp;omega)] at hD
   rw [<- hD]
   refine ⟨_,rfl,?_⟩
   simp only [VB,if_true]
   refine VT (YA (ZaG 0 4 v rfl rfl rfl rfl) ?_) (fun _ _ _ e=>by cases e)
   (refine Zl ?_ ?_ ?_ rfl rfl<;>dsimp only [Z2,id,go_sem,rA,rM,rS]<;>simp [Z2,Za,Ze,KFR,KFL,KF,Zc,mtO,nbr])
 refine Zv (by simpa using hn0) ?_
 dsimp only [go_sem,rA,rM,rS]
 refine ZbQ [] (ZeV s k l slabs) rfl rfl rfl ?_ ?_ ?_
 . exact Zc (by simp [Yl,Zf,Zm,Zg,Zk,Zd,Zo,ZQ,Za,KFL,KF])
 . trivial
 dsimp only [ZwA,Yl,go_sem,rA,rM,rS]
 refine gh (VU 3 0 3 111 rfl rfl) ?_
 dsimp only [go_sem,rA,rM,rS]
 refine ⟨b163,fun rec=>?_⟩
 refine y163 ?_
 dsimp only [c163,r163,go_sem,rA,rM,rS]
 have hgF:goF s s.scenes[k] slabs l=goG s s.scenes[k] slabs l 0 s.camel []:=by simp only [goF,if_neg hl0]
 have hgs:∀ (j n:Nat) (hj:j < l.length) c acc,goG s s.scenes[k] slabs (l.drop j) n c acc=if (Xy s s.scenes[k] (Xp s.land l[j].leg s.pace).1 slabs c).2≠0 then ((Xy s s.scenes[k] (Xp s.land l[j].leg s.pace).1 slabs c).2,(n:Int),acc)
  else goG s s.scenes[k] slabs (l.drop (j+1)) (n+1) (Zc9 s.breed (Xy s s.scenes[k] (Xp s.land l[j].leg s.pace).1 slabs c).1)
   (if l.drop (j+1)=[] then acc else acc ++ [(s.breed.full - (Xy s s.scenes[k] (Xp s.land l[j].leg s.pace).1 slabs c).1.water.lo,ZaL s s.scenes[k] l[j])]):=fun j n hj c acc=>by
  rw [List.drop_eq_getElem_cons hj,goG]
 have hwF:Zhs s s.scenes[k] n slabs l=Zab n (goF s s.scenes[k] slabs l):=by simp only [Zhs,if_neg hn0]
 have hdF:Xt s s.scenes[k] n slabs l=X6 n l (goF s s.scenes[k] slabs l).2.2:=by simp only [Xt,if_neg hl0,if_neg hn0]
 rw [hwF,hdF]
 refine Vf [0,1,2,3,5,13,14,15] rfl (fun q:Nat × Camel × List (Int × Int) × Nat=>[(15,I q.1)])
  (fun q=>[(9,.cells (Cm.camelL q.2.1) 31),(3,.cells [.mr 7 q.2.2.2] 54),(7,.row q.2.2.2 3 ((X6 n l q.2.2.1).map Z2) 111)])
  (fun q=>q.1 < l.length/\goG s s.scenes[k] slabs (l.drop q.1) q.1 q.2.1 q.2.2.1=goF s s.scenes[k] slabs l/\Zy s.breed q.2.1=true/\UD n q.2.2.1 0=none/\q.2.2.1.length=q.1) (fun q=>l.length - q.1) (0,s.camel,[],0)
  ⟨by simp only;omega,hgF.symm,h.beast.2,rfl,rfl⟩ ?_ ?_
 . (refine Zl ?_ ?_ ?_ rfl rfl<;>dsimp only [Cm.camelL,X6,Yl,Zf,Zm,Zg,Zk,Zd,Zo,ZQ,Z2,mtL,mtB,mtS,id,go_sem,rA,rM,rS]<;>simp [Cm.camelL,X6,Yl,Zf,Zm,Zg,Zk,Zd,Zo,ZQ,Z2,mtL,mtB,mtS,Za,Ze,KFR,KFL,KF,Zc,mtO,nbr])
 rintro ⟨j,c,acc,v⟩ ⟨hlt,hi,hc,hdry,hal⟩
 simp only at hlt hi hc hdry hal
 dsimp only [Cm.camelL,go_sem,rA,rM,rS]
 simp only [List.length_map]
 refine Zu (by simpa using hlt) ?_
 dsimp only [go_sem,rA,rM,rS]
 refine Zp j hlt rfl ?_
 dsimp only [ZQ,go_sem,rA,rM,rS]
 refine call (Zti s h l[j].leg) ?_
 dsimp only [sres,Zd,go_sem,rA,rM,rS]
 have hm:=Zni s k hk j c (Xp s.land l[j].leg s.pace).1 slabs hsl (by omega) (ZqR h.lp)
 rw [hgs j j hlt] at hi
 have hbo:=ZdI (x:=s.scenes[k]) (d:=(Xp s.land l[j].leg s.pace).1) (slabs:=slabs) h.beast.1 hc
 generalize Xy s s.scenes[k] (Xp s.land l[j].leg s.pace).1 slabs c=b at hi hbo hm
 have hwb:=Zfn h.beast.1 hbo
 by_cases hw:b.2=0
 case neg =>
  simp only [ZbE,if_neg hw] at hm
  refine YP [] hm rfl rfl rfl ?_ ?_ ?_
  . exact Zc (by simp [Yl,Cm.camelL,Zf,Zm,Zg,Zk,Zd,Zo,ZQ,Za,KFL,KF])
  . trivial
  rintro _ rfl
  (repeat first | dsimp only [Xv,go_sem,rA,rM,rS] | simp only [nbr])
  rw [if_pos hw] at hi
  rw [<- hi]
  refine ⟨_,rfl,?_⟩
  rw [show Zab n (b.2,(j:Int),acc)=(b.2,(j:Int)) from by simp only [Zab,hdry]]
  simp only [VB,if_neg hw]
  (refine Yb ?_ ?_ ?_ rfl<;>dsimp only [Xv,id,go_sem,rA,rM,rS]<;>simp [Xv,Za,Ze,KFR,KFL,KF,Zc,mtO,nbr])
 simp only [ZbE,if_pos hw] at hm
 refine YP [] hm rfl rfl rfl ?_ ?_ ?_
 . exact Zc (by simp [Yl,Cm.camelL,Zf,Zm,Zg,Zk,Zd,Zo,ZQ,Za,KFL,KF])
 . trivial
 rintro _ rfl
 (repeat first | dsimp only [camelL,Cm.camelL,go_sem,rA,rM,rS] | simp only [nbr])
 rw [if_neg (by simpa using hw)] at hi
 refine ⟨trivial,trivial,?_⟩
 rw [Zi (n:=(j:Int)+1) (by omega) (by omega)]
 simp only [List.length_map]
 by_cases hlast:j+1=l.length
 . refine Zu (by simp;omega) ?_
   dsimp only [go_sem,rA,rM,rS]
   refine ⟨by trivial,?_⟩
   refine Zu rfl ?_
   dsimp only [go_sem,rA,rM,rS]
   rw [if_pos (List.drop_eq_nil_of_le (by omega)),List.drop_eq_nil_of_le (by omega),goG] at hi
   rw [<- hi]
   refine ⟨_,rfl,?_⟩
   rw [show Zab n (0,0,acc)=(0,0) from by simp only [Zab,hdry]]
   simp only [VB,if_true]
   refine VT (YA (ZaG 0 7 v rfl rfl rfl rfl) ?_) (fun _ _ _ e=>by cases e)
   (refine Zl ?_ ?_ ?_ rfl rfl<;>dsimp only [Z2,id,go_sem,rA,rM,rS]<;>simp [Z2,Za,Ze,KFR,KFL,KF,Zc,mtO,nbr])
 refine Zv (by simp;omega) ?_
 dsimp only [go_sem,rA,rM,rS]
 rw [if_neg (by intro e;rw [List.drop_eq_nil_iff] at e;omega)] at hi
 refine Zp j hlt rfl ?_
 dsimp only [ZQ,go_sem,rA,rM,rS]
 refine Zp j hlt rfl ?_
 dsimp only [ZQ,go_sem,rA,rM,rS]
 have hm2:0<=n * (s.breed.full - b.1.water.lo)/\n * (s.breed.full - b.1.water.lo)<=30 * 1000000:=⟨Int.mul_nonneg hn.1 (by omega),Int.mul_le_mul (by omega) (by omega) (by omega) (by decide)⟩
 rw [Zi (n:=s.breed.full - b.1.water.lo) (by omega) (by omega),Zi (n:=n * (s.breed.full - b.1.water.lo)) (by omega) (by omega)]
 refine Zp j hlt rfl ?_
 dsimp only [ZQ,go_sem,rA,rM,rS]
 refine call (Zq5 s h.small k hk hy l[j]) ?_
 dsimp only [go_sem,rA,rM,rS]
 by_cases hdr:n * (s.breed.full - b.1.water.lo)<=ZaL s s.scenes[k] l[j]
 case neg =>
  rw [show decide (n * (s.breed.full - b.1.water.lo)<=ZaL s s.scenes[k] l[j])=false from decide_eq_false hdr]
  refine YP [] (ZaX 4 j) rfl rfl rfl ?_ ?_ ?_
  . (repeat first | dsimp only [go_sem,rA,rM,rS] | simp only [nbr])
    try simp [mtL,mtB,mtS]
  . trivial
  rintro _ rfl
  (repeat first | dsimp only [Xv,go_sem,rA,rM,rS] | simp only [nbr])
  refine ⟨_,rfl,?_⟩
  obtain ⟨more,hmore⟩:=ZeN (s:=s) (x:=s.scenes[k]) (slabs:=slabs) (l:=l.drop (j+1)) (i:=j+1) (c:=Zc9 s.breed b.1) (acc:=acc ++ [(s.breed.full - b.1.water.lo,ZaL s s.scenes[k] l[j])])
  have hf:Zab n (goF s s.scenes[k] slabs l)=(4,(j:Int)):=by
   rw [<- hi];simp only [Zab]
   rw [hmore,List.append_assoc,ZaY hdry,hal]
   simp only [List.cons_append,List.nil_append,UD]
   rw [if_pos (by omega)];simp
  rw [hf]
  simp only [VB]
  (refine Yb ?_ ?_ ?_ rfl<;>dsimp only [Xv,id,go_sem,rA,rM,rS]<;>simp [Xv,Za,Ze,KFR,KFL,KF,Zc,mtO,nbr])
 rw [show decide (n * (s.breed.full - b.1.water.lo)<=ZaL s s.scenes[k] l[j])=true from decide_eq_true hdr]
 refine YP [] (Us 4 j) rfl rfl rfl ?_ ?_ ?_
 . (repeat first | dsimp only [go_sem,rA,rM,rS] | simp only [nbr])
   try simp [mtL,mtB,mtS]
 . trivial
 rintro _ rfl
 (repeat first | dsimp only [go_sem,rA,rM,rS] | simp only [nbr])
 refine ⟨(by intro c hc;simp only [List.mem_singleton] at hc;subst hc;rfl),by simp [X6];omega,?_⟩
 dsimp only [go_sem,rA,rM,rS]
 refine ⟨by trivial,?_⟩
 refine Zv rfl ?_
 dsimp only [go_sem,rA,rM,rS]
 rw [Zi (n:=(j:Int)+1) (by omega) (by omega)]
 refine ⟨(j+1,Zc9 s.breed b.1,acc ++ [(s.breed.full - b.1.water.lo,ZaL s s.scenes[k] l[j])],v+1),⟨by simp only;omega,hi,ZcQ h.beast.1 hbo,?_,by simp;omega⟩,by simp only;omega,?_⟩
 . simp only
   rw [ZaY hdry]
   simp only [UD]
   rw [if_neg (by omega)]
 simp only
 rw [Zez hlt hal]
 simp only [List.map_append,List.map_cons,List.map_nil]
 (refine Zl ?_ ?_ ?_ rfl rfl<;>dsimp only [Cm.camelL,Zc9,Vg,Yl,Zf,Zm,Zg,Zk,Zd,Zo,ZQ,Z2,mtL,mtB,mtS,id,go_sem,rA,rM,rS]<;>simp [Cm.camelL,Zc9,Vg,Yl,Zf,Zm,Zg,Zk,Zd,Zo,ZQ,Z2,mtL,mtB,mtS,Za,Ze,KFR,KFL,KF,Zc,mtO,nbr])
def ZyA:List Ins:=[
 m1 2 5]
def Zys:SC:=(.seq (.reg [
 m1 6 2,
 o1 7 (.raw (Go.Op.binOp Go.BinOp.neq 20 (Go.Operand.tmp 6) (Go.Operand.const Go.Value.nilIface) 20) 4)])
 (.cond (.t 7)
 (.seq (.reg [
  m1 9 2,
  o1 10 (.raw (Go.Op.typeAssert (Go.Operand.tmp 9) 20 117 Bool.true) 177),
  m1 8 10,
  o1 11 (.ext (.t 8) 0),
  o1 12 (.ext (.t 8) 1),
  o1 3 (.alloc [.int .u8 0,.int .i64 0] 117),
  ⟨none,.st (.t 3) (.t 11) 2,none,[]⟩,
  m1 4 12])
  (.seq (.seq (.reg [
  m1 13 4,
  o1 14 (.un .not (.t 13))])
  (.cond (.t 14)
  (.reg [
   m1 15 2,
   ⟨none,.raw (Go.Op.panic (Go.Operand.tmp 15)) 0,none,[]⟩])
  .skip))
  (.regd [0,1,2] [
  .hide (.t 0),
  .op (o1 16 (.ld (.t 3) 2 true))] 0 2 [
  ⟨none,.st (.t 0) (.c (.slice none 0 0)) 1,none,[]⟩,
  ⟨none,.st (.t 1) (.t 16) 2,none,[0,1]⟩])))
 .skip))
theorem qw89:RcF Tryz.prog 89 5 ZyA Zys 17:=⟨⟨Tryz.f89,_,_,_,_,Tryz.func89,rfl,rfl,by kernel_rfl,by kernel_rfl,by kernel_rfl,by kernel_rfl,by decide,rfl⟩,by kernel_rfl⟩
def cw14:SC:=(.seq (.reg [
 o1 2 (.box (.t 0) 0 34),
 o1 3 (.box (.t 1) 0 37),
 o1 4 (.mv (.c (.int .u8 0))),
 o1 5 (.mv (.c (.int .i64 0))),
 o1 6 (.mv (.c (.int .i64 0))),
 o1 7 (.mv (.c (.int .i64 0)))])
 (.seq (.seq (.reg [
 o1 12 (.ld (.t 2) 37 true),
 o1 13 (.ld (.t 3) 3 true),
 o1 14 (.call 48 [.t 12,.t 13]),
 m1 8 14])
 (.seq (.reg [
 m1 15 8,
 o1 16 (.bin .neq (.t 15) (.c (.int .i64 0)))])
 (.cond (.t 16)
 (.seq (.reg [
  m1 17 8,
  o1 4 (.mv (.c (.int .u8 0))),
  o1 5 (.mv (.c (.int .i64 0))),
  o1 6 (.mv (.c (.int .i64 0))),
  m1 7 17])
  .ret)
 .skip)))
 (.seq (.seq (.reg [
 o1 18 (.addo (.t 2) 36),
 o1 19 (.ld (.t 18) 1 false),
 o1 20 (.len (.t 19)),
 o1 21 (.mv (.c (.int .i64 0)))])
 (.block 0 (.loop (.seq (.reg [
  o1 22 (.bin .lss (.t 21) (.t 20))])
  (.seq (.cond (.t 22)
  .skip
  (.exit 0))
  (.seq (.block 1 (.seq (.reg [
   m1 23 21,
   m1 9 23])
   (.seq (.reg [
   o1 25 (.ld (.t 2) 37 true),
   m1 26 9,
   o1 27 (.build zv0 [(0,37,.t 25),(37,1,.t 26)]),
   o1 28 (.ld (.t 3) 3 true),
   o1 29 (.callm 49 [.t 27,.t 28]),
   m1 24 29,
   o1 30 (.ext (.t 24) 0),
   o1 31 (.ext (.t 24) 1),
   o1 11 (.alloc [.int .u8 0,.int .i64 0] 117),
   m1 10 30,
   ⟨none,.st (.t 11) (.t 31) 2,none,[]⟩])
   (.seq (.reg [
   o1 32 (.addo (.t 11) 0),
   o1 33 (.ld (.t 32) 1 false),
   o1 34 (.bin .neq (.t 33) (.c (.int .u8 0)))])
   (.cond (.t 34)
   (.seq (.regd [0,1,2,3,4,5,6,7,8] [
    .op (o1 35 (.addo (.t 11) 0)),
    .op ⟨some 36,.ld (.t 35) 1 false,none,[0]⟩,
    .op (m1 37 9),
    .op (o1 38 (.addo (.t 11) 1)),
    .op ⟨some 39,.ld (.t 38) 1 false,none,[3]⟩,
    .op ⟨some 4,.mv (.t 36),none,[0,1]⟩,
    .op ⟨some 5,.mv (.t 37),none,[0,1,2,5]⟩,
    .op ⟨some 6,.mv (.t 39),none,[0,1,2,3,4,5,6]⟩,
    .op ⟨some 7,.mv (.c (.int .i64 0)),none,[0,1,2,3,4,5,6,7]⟩] 0 0 [
])
 .ret)
 .skip)))))
 (.reg [
 o1 40 (.bin .add (.t 21) (.c (.int .i64 1))),
 m1 21 40])))))))
 (.seq (.reg [
 o1 4 (.mv (.c (.int .u8 0))),
 o1 5 (.mv (.c (.int .i64 0))),
 o1 6 (.mv (.c (.int .i64 0))),
 o1 7 (.mv (.c (.int .i64 0)))])
 .ret))))
def rw14:List RV:=[.tmp 4,.tmp 5,.tmp 6,.tmp 7]
theorem tw14:Qt1 Tryz.prog 14 cw14 rw14 41:=Z6 Tryz.func14 rfl (by kernel_rfl) (by kernel_rfl) (by kernel_rfl) (by kernel_rfl)
def cw22:SC:=(.seq (.reg [
 o1 3 (.box (.t 0) 0 34),
 o1 4 (.box (.t 1) 0 37),
 o1 6 (.mv (.c (.slice none 0 0))),
 o1 7 (.mv (.c (.int .i64 0)))])
 (.seq (.reg [
 o1 15 (.ld (.t 3) 37 true),
 o1 16 (.ld (.t 4) 3 true),
 o1 17 (.call 14 [.t 15,.t 16]),
 m1 14 17,
 o1 18 (.ext (.t 14) 0),
 o1 19 (.ext (.t 14) 1),
 o1 20 (.ext (.t 14) 2),
 o1 21 (.ext (.t 14) 3),
 m1 8 18,
 m1 9 19,
 m1 10 20,
 m1 11 21])
 (.seq (.block 0 (.seq (.reg [
  m1 23 11,
  o1 24 (.bin .neq (.t 23) (.c (.int .i64 0))),
  m1 22 24])
  (.cond (.t 22)
  (.seq (.reg [
   m1 25 11,
   o1 6 (.mv (.c (.slice none 0 0))),
   m1 7 25])
   .ret)
  (.seq (.reg [
   m1 27 8,
   o1 28 (.bin .neq (.t 27) (.c (.int .u8 0))),
   m1 29 28,
   ⟨some 30,.addo (.t 3) 36,some (29,false),[]⟩,
   ⟨some 31,.ld (.t 30) 1 false,some (29,false),[]⟩,
   ⟨some 32,.len (.t 31),some (29,false),[]⟩,
   ⟨some 33,.bin .sub (.t 32) (.c (.int .i64 1)),some (29,false),[]⟩,
   ⟨some 34,.mv (.t 2),some (29,false),[]⟩,
   ⟨some 35,.bsl 1 3 [.t 34],some (29,false),[]⟩,
   ⟨some 36,.call 53 [.c (.int .i64 0),.t 33,.t 35],some (29,false),[]⟩,
   ⟨some 37,.un .not (.t 36),some (29,false),[]⟩,
   o1 38 (.pick (.t 29) (.c (.bool true)) (.t 37)),
   m1 26 38])
   (.cond (.t 26)
   (.seq (.reg [
    o1 6 (.mv (.c (.slice none 0 0))),
    o1 7 (.mv (.c (.int .i64 92)))])
    .ret)
   .skip)))))
 (.seq (.reg [
 o1 40 (.ld (.t 3) 37 true),
 m1 41 2,
 o1 42 (.build zv0 [(0,37,.t 40),(37,1,.t 41)]),
 o1 43 (.ld (.t 4) 3 true),
 o1 44 (.callm 49 [.t 42,.t 43]),
 m1 39 44,
 o1 45 (.ext (.t 39) 0),
 o1 46 (.ext (.t 39) 1),
 o1 13 (.alloc [.int .u8 0,.int .i64 0] 117),
 m1 12 45,
 ⟨none,.st (.t 13) (.t 46) 2,none,[]⟩])
 (.seq (.reg [
 m1 47 12,
 m1 6 47,
 o1 7 (.mv (.c (.int .i64 0)))])
 .ret)))))
def rw22:List RV:=[.tmp 6,.tmp 7]
theorem nw22:Tryz.f22.ntmps=48:=by kernel_rfl
theorem bw22:YM Tryz.prog 22=true:=by kernel_rfl
theorem Zsf:XB Tryz.prog cw22 ((Tryz.f22.body).getD .skip)=true:=by kernel_rfl
theorem ZsX:Wo Tryz.prog rw22 Tryz.f22.results.toList=true:=by kernel_rfl
def cw66:SC:=(.seq (.reg [
 o1 3 (.box (.t 0) 0 34),
 o1 6 (.mv (.c (.int .i64 0)))])
 (.seq (.reg [
 o1 14 (.addo (.t 3) 28),
 o1 15 (.ld (.t 14) 1 false),
 m1 7 15])
 (.seq (.seq (.reg [
 o1 16 (.addo (.t 3) 36),
 o1 17 (.ld (.t 16) 1 false),
 o1 18 (.len (.t 17)),
 o1 19 (.mv (.c (.int .i64 0)))])
 (.block 0 (.loop (.seq (.reg [
  o1 20 (.bin .lss (.t 19) (.t 18))])
  (.seq (.cond (.t 20)
  .skip
  (.exit 0))
  (.seq (.block 1 (.seq (.reg [
   m1 21 19,
   m1 8 21])
   (.seq (.reg [
   o1 22 (.ld (.t 3) 37 true),
   m1 23 8,
   o1 24 (.build zv0 [(0,37,.t 22),(37,1,.t 23)]),
   o1 9 (.alloc zv0 120),
   ⟨none,.st (.t 9) (.t 24) 38,none,[]⟩])
   (.seq (.reg [
   o1 26 (.ld (.t 9) 38 true),
   m1 27 1,
   m1 28 2,
   o1 29 (.build [.slice none 0 0,.int .i64 0,.int .i64 0] [(0,1,.t 27),(1,1,.c (.int .i64 1)),(2,1,.t 28)]),
   o1 30 (.callm 49 [.t 26,.t 29]),
   m1 25 30,
   o1 31 (.ext (.t 25) 0),
   o1 32 (.ext (.t 25) 1),
   o1 11 (.alloc [.int .u8 0,.int .i64 0] 117),
   m1 10 31,
   ⟨none,.st (.t 11) (.t 32) 2,none,[]⟩])
   (.seq (.seq (.reg [
   o1 33 (.addo (.t 11) 0),
   o1 34 (.ld (.t 33) 1 false),
   o1 35 (.bin .neq (.t 34) (.c (.int .u8 0)))])
   (.cond (.t 35)
   (.seq (.reg [
    o1 6 (.mv (.c (.int .i64 0)))])
    .ret)
   .skip))
   (.seq (.reg [
   m1 36 10,
   o1 37 (.len (.t 36)),
   o1 38 (.mv (.c (.int .i64 0)))])
   (.block 2 (.loop (.seq (.reg [
    o1 39 (.bin .lss (.t 38) (.t 37))])
    (.seq (.cond (.t 39)
    .skip
    (.exit 2))
    (.seq (.block 3 (.seq (.reg [
     o1 40 (.ixs (.t 36) (.t 38) 3),
     o1 41 (.ld (.t 40) 3 true),
     o1 13 (.alloc [.int .i64 0,.int .i64 0,.int .i64 0] 111),
     ⟨none,.st (.t 13) (.t 41) 3,none,[]⟩])
     (.seq (.reg [
     o1 42 (.addo (.t 13) 2),
     o1 43 (.ld (.t 42) 1 false),
     o1 44 (.bin .gtr (.t 43) (.c (.int .i64 0)))])
     (.cond (.t 44)
     (.regd [0,1,2,3,4,5,6,7,8,9,10,11,12,13] [
      .op (m1 45 7),
      .op (o1 46 (.ld (.t 9) 38 true)),
      .op (o1 47 (.addo (.t 13) 0)),
      .op ⟨some 48,.ld (.t 47) 1 false,none,[2]⟩,
      .op (o1 49 (.addo (.t 13) 1)),
      .op ⟨some 50,.ld (.t 49) 1 false,none,[4]⟩,
      .op ⟨some 51,.build [.int .i64 0,.int .i64 0] [(0,1,.t 50)],none,[5]⟩,
      .op ⟨some 52,.build zv7 [(1,1,.t 48),(4,2,.t 51)],none,[3,6]⟩,
      .op ⟨some 53,.call 113 [.t 46,.t 52],none,[1,7]⟩,
      .op (o1 54 (.addo (.t 13) 2)),
      .op ⟨some 55,.ld (.t 54) 1 false,none,[9]⟩,
      .op ⟨some 56,.div .quo (.t 53) (.t 55),none,[8,10]⟩,
      .op ⟨some 57,.mm false [.t 45,.t 56],none,[0,11]⟩] 0 0 [
      ⟨some 7,.mv (.t 57),none,[0,1,2,3,4,5,6,7,8,9,10,11,12]⟩])
     .skip))))
    (.reg [
    o1 58 (.bin .add (.t 38) (.c (.int .i64 1))),
    m1 38 58]))))))))))))
  (.reg [
  o1 59 (.bin .add (.t 19) (.c (.int .i64 1))),
  m1 19 59])))))))
 (.seq (.reg [
 m1 60 7,
 m1 6 60])
 .ret))))
def rw66:List RV:=[.tmp 6]
theorem tw66:Qt1 Tryz.prog 66 cw66 rw66 61:=Z6 Tryz.func66 rfl (by kernel_rfl) (by kernel_rfl) (by kernel_rfl) (by kernel_rfl)
end Go.Proofs.YtiigiflofnjilaaGreat
namespace Go.Sx
open Go Go.RowKit
section
variable {P:Program} {ty T T':TypeId} {ix jx:Operand} {σ : St} {r:KT} {K:RK} {d:Option Nat} {s:SV}
theorem Zfz {pt:TypeId} (hu:P.underlying T'=some (.interface (P.methodsAt T'))) (hi:ZaF σ ix = .ifc T s) (h:putK d (.v (.bool true)) none σ r K):RAW P d (.binOp .neq T' ix (.const .nilIface) pt) ty σ r K:=by
 intro o C E a w next Q e1 e2 e3 hS hn hq
 have hiv:=Vy hS hi (fun _ _ _=>by simp)
 simp only [R] at hiv
 obtain ⟨x,hx,hR⟩:=hiv
 have hb:=run_neq_held_nil (P:=P) w T' T x hu
 have hy:(execOp a.eval o).run P w = .ok (.value (.bool true)) w:=by
  obtain ⟨dst',op',ty',pos,after,guard⟩:=o
  simp only at e2;subst e2
  have h0:a.eval (.const .nilIface) = .nilIface:=rfl
  have hg:(eqGuard .neq T' ix (.const .nilIface) (.iface T x) .nilIface).run P w = .ok () w:=by
   simp [eqGuard,Sem.run_pure]
  simp only [execOp,Sem.run_bind,hx,h0,hg,hb,Result.andThen_ok,Sem.run_pure]
 refine ZE hy (by simp) ?_
 show next (a.put o.dst _) _
 rw [e1]
 exact WJ h hS (by simp only [R]) hn
theorem Zjg {pt:TypeId} (hu:P.underlying T'=some (.interface (P.methodsAt T'))) (hi:ZaF σ ix = .v .nilIface) (h:putK d (.v (.bool false)) none σ r K):RAW P d (.binOp .neq T' ix (.const .nilIface) pt) ty σ r K:=by
 intro o C E a w next Q e1 e2 e3 hS hn hq
 have hx:=Vy hS hi (fun _ _ _=>by simp)
 simp only [R] at hx
 have hb:=run_neq_nil_nil (P:=P) w T' hu
 have hy:(execOp a.eval o).run P w = .ok (.value (.bool false)) w:=by
  obtain ⟨dst',op',ty',pos,after,guard⟩:=o
  simp only at e2;subst e2
  have h0:a.eval (.const .nilIface) = .nilIface:=rfl
  have hg:(eqGuard .neq T' ix (.const .nilIface) .nilIface .nilIface).run P w = .ok () w:=by
   simp [eqGuard,Sem.run_pure]
  simp only [execOp,Sem.run_bind,hx,h0,hg,hb,Result.andThen_ok,Sem.run_pure]
 refine ZE hy (by simp) ?_
 show next (a.put o.dst _) _
 rw [e1]
 exact WJ h hS (by simp only [R]) hn
end
end Go.Sx
namespace Go.Proofs.YtiigiflofnjilaaGreat
open Go Go.Sx Go.Azalai
theorem Zx5 {s:Season} {x:Scene} {slabs:Int}:∀ {l:List Stop} {i:Nat} {c:Camel} {acc:List (Int × Int)},(goG s x slabs l i c acc).1=0->((goG s x slabs l i c acc).1,(goG s x slabs l i c acc).2.1)=(0,0)
 | [],_,_,acc,_=>by simp [goG]
 | st :: r,i,c,acc,h=>by
  simp only [goG] at h ⊢
  split
  . rename_i hb;rw [if_pos hb] at h;exact absurd h hb
  . rename_i hb;rw [if_neg hb] at h
    exact Zx5 h
theorem goF_z {s:Season} {x:Scene} {slabs:Int} {l:List Stop} (h:(goF s x slabs l).1=0):((goF s x slabs l).1,(goF s x slabs l).2.1)=(0,0):=by
 unfold goF at h ⊢
 split
 . rename_i hb;rw [if_pos hb] at h;simp only at h ⊢;rw [h]
 . rename_i hb;rw [if_neg hb] at h;exact Zx5 h
theorem u20:Tryz.prog.underlying 20=some (.interface (Tryz.prog.methodsAt 20)):=by kernel_rfl
theorem ZdX {s:Season} {p:Plan} {x:Scene}:Yq s p x=if XV s p.legs=false then (1,0) else Zhs s x p.animals p.slabs (Zz s p.legs):=by
 unfold Yq Zhs;rfl
def XU (s:Season) (p:Plan) (x:Scene):List Draw:=if (Yq s p x).1=0 then Xt s x p.animals p.slabs (Zz s p.legs) else []
def Zri (w:Int × Int) (ds:List Draw):Ot:=⟨false,.tup [.sl false 3 (ds.map Z2),.agg [U8 w.1,I w.2]],[],0⟩
theorem ZjC (s:Season) (h:OkS s) (k:Nat) (hk:k < s.scenes.length) (p:Plan) (hp:YB s p=true) (hg:p.legs.length<=1000) :
 CtM Tryz.prog 49 [] 0 [.agg (Yl s k),.agg (ZB p)] (fun o=>o=Zri (Yq s p s.scenes[k]) (XU s p s.scenes[k])):=by
 have hnum:=h.num
 obtain ⟨_,hpl⟩:=Xm hp
 refine m49 (by simp [hpb]) (fun o ho=>by subst ho;simp [Zri,KX,KXL,KXP,Za,KFL,KF,Z2]) ?_
 dsimp only [c49,r49,Yl,ZB,go_sem,rA,rM,rS]
 refine call (Zo9 s h p.legs hg _) ?_
 dsimp only [go_sem,rA,rM,rS]
 by_cases hs:XV s p.legs=true
 case neg =>
  rw [Bool.eq_false_iff.2 hs]
  refine YP [] (ZaX 1 0) rfl rfl rfl ?_ ?_ ?_
  . (repeat first | dsimp only [go_sem,rA,rM,rS] | simp only [nbr])
    try simp [mtL,mtB,mtS]
  . trivial
  rintro _ rfl
  (repeat first | dsimp only [Xv,go_sem,rA,rM,rS] | simp only [nbr])
  refine ⟨_,_,_,_,qw89,?_⟩
  dsimp only [ZyA,Zys,go_sem,rA,rM,rS]
  refine ⟨rfl,?_⟩
  refine Zfz u20 rfl ?_
  dsimp only [go_sem,rA,rM,rS]
  refine Zu rfl ?_
  dsimp only [go_sem,rA,rM,rS]
  refine Zbk Zc8 rfl ?_
  dsimp only [go_sem,rA,rM,rS]
  refine Zv rfl ?_
  dsimp only [go_sem,rA,rM,rS]
  refine ⟨_,rfl,?_⟩
  have hF:Yq s p s.scenes[k]=(1,0):=by rw [ZdX,if_pos (Bool.eq_false_iff.2 hs)]
  rw [Zri,XU,hF]
  refine VT (YA (ZaO (s':=.tup [.sl false 3 [],.agg [U8 1,I 0]]) 0 rfl (XY (Z0 YN XZ)) (fun _ _ _ h=>by cases h)) ?_) (fun _ _ _ e=>by cases e)
  (refine Zl ?_ ?_ ?_ rfl rfl<;>dsimp only [id,go_sem,rA,rM,rS]<;>simp [Za,Ze,KFR,KFL,KF,Zc,mtO,nbr])
 rw [hs]
 refine YP [] (Us 1 0) rfl rfl rfl ?_ ?_ ?_
 . (repeat first | dsimp only [go_sem,rA,rM,rS] | simp only [nbr])
   try simp [mtL,mtB,mtS]
 . trivial
 rintro _ rfl
 (repeat first | dsimp only [go_sem,rA,rM,rS] | simp only [nbr])
 have hF:Yq s p s.scenes[k]=Zhs s s.scenes[k] p.animals p.slabs (Zz s p.legs):=by rw [ZdX,if_neg (by simp [hs])]
 have hd:=ZnX s h k hk (Zz s p.legs) (Nat.le_trans Zbe hg) p.animals p.slabs ⟨hpl.1,hpl.2.1⟩ hpl.2.2
 rw [<- hF] at hd
 have hT:XU s p s.scenes[k]=if (Yq s p s.scenes[k]).1=0 then Xt s s.scenes[k] p.animals p.slabs (Zz s p.legs) else []:=rfl
 rw [hT]
 have hz:(Yq s p s.scenes[k]).1=0->Yq s p s.scenes[k]=(0,0):=fun h0=>by
  rw [hF] at h0 ⊢
  revert h0
  unfold Zhs
  split
  . intro _;rfl
  . unfold Zab
    split
    . intro h1;simp at h1
    . intro h1;exact goF_z h1
 generalize Yq s p s.scenes[k]=w at hd hz ⊢
 generalize Xt s s.scenes[k] p.animals p.slabs (Zz s p.legs)=D at hd ⊢
 by_cases hw:w.1=0
 . simp only [VB,if_pos hw] at hd
   refine YP [] hd rfl rfl rfl ?_ ?_ ?_
   . exact Zc (by simp [Yl,Zf,Zm,Zg,Zk,Zd,Zo,ZQ,Za,KFL,KF])
   . trivial
   rintro _ rfl
   (repeat first | dsimp only [go_sem,rA,rM,rS] | simp only [nbr])
   refine ⟨_,_,_,_,qw89,?_⟩
   dsimp only [ZyA,Zys,go_sem,rA,rM,rS]
   refine ⟨rfl,?_⟩
   refine Zjg u20 rfl ?_
   dsimp only [go_sem,rA,rM,rS]
   refine Zv rfl ?_
   dsimp only [go_sem,rA,rM,rS]
   refine ⟨_,rfl,?_⟩
   rw [hz hw]
   simp only [Zri,if_true]
   (refine Yb ?_ ?_ ?_ rfl<;>dsimp only [Z2,id,go_sem,rA,rM,rS]<;>simp [Z2,Za,Ze,KFR,KFL,KF,Zc,mtO,nbr])
 simp only [VB,if_neg hw] at hd
 refine YP [] hd rfl rfl rfl ?_ ?_ ?_
 . exact Zc (by simp [Yl,Zf,Zm,Zg,Zk,Zd,Zo,ZQ,Za,KFL,KF])
 . trivial
 rintro _ rfl
 (repeat first | dsimp only [Xv,go_sem,rA,rM,rS] | simp only [nbr])
 refine ⟨_,_,_,_,qw89,?_⟩
 dsimp only [ZyA,Zys,go_sem,rA,rM,rS]
 refine ⟨rfl,?_⟩
 refine Zfz u20 rfl ?_
 dsimp only [go_sem,rA,rM,rS]
 refine Zu rfl ?_
 dsimp only [go_sem,rA,rM,rS]
 refine Zbk Zc8 rfl ?_
 dsimp only [go_sem,rA,rM,rS]
 refine Zv rfl ?_
 dsimp only [go_sem,rA,rM,rS]
 refine ⟨_,rfl,?_⟩
 rw [Zri,if_neg hw]
 refine VT (YA (ZaO (s':=.tup [.sl false 3 [],.agg [U8 w.1,I w.2]]) 0 rfl (XY (Z0 YN XZ)) (fun _ _ _ h=>by cases h)) ?_) (fun _ _ _ e=>by cases e)
 (refine Zl ?_ ?_ ?_ rfl rfl<;>dsimp only [id,go_sem,rA,rM,rS]<;>simp [Za,Ze,KFR,KFL,KF,Zc,mtO,nbr])
theorem Zlg (a b:List Int) (ha:a.length<=1000000) (hb:b.length<=1000000) (c c':Bool):Ct Tryz.prog 57 [.sl c 1 (a.map Zo),.sl c' 1 (b.map Zo)] (B (decide (a=b))):=by
 refine t57.1 (by simp [Za,Zo,KFL,KF]) (by simp [KFL,KF]) ?_
 dsimp only [c57,r57,go_sem,rA,rM,rS]
 simp only [List.length_map]
 by_cases hl:a.length=b.length
 case neg =>
  refine Zu (by simp;omega) ?_
  dsimp only [go_sem,rA,rM,rS]
  have:a≠b:=fun e=>hl (by rw [e])
  simp [this]
 refine Zv (by simp;omega) ?_
 dsimp only [go_sem,rA,rM,rS]
 refine Xf (fun j:Nat=>[(5,I j)]) (fun _=>[]) (fun j=>j<=a.length/\a.take j=b.take j) (fun j=>a.length - j) 0 ⟨Nat.zero_le _,rfl⟩ ?_ ?_
 . (refine Zl ?_ ?_ ?_ rfl rfl<;>dsimp only [Zo,id,go_sem,rA,rM,rS]<;>simp [Zo,Za,Ze,KFR,KFL,KF,Zc,mtO,nbr])
 rintro j ⟨hj,ht⟩
 dsimp only [go_sem,rA,rM,rS]
 simp only [List.length_map]
 by_cases hlt:j < a.length
 . refine Zu (by simpa using hlt) ?_
   dsimp only [go_sem,rA,rM,rS]
   have hltb:j < b.length:=by omega
   refine Zp j hlt rfl ?_
   dsimp only [go_sem,rA,rM,rS]
   refine Zp j hltb rfl ?_
   dsimp only [Zo,go_sem,rA,rM,rS]
   by_cases he:a[j]=b[j]
   . refine Zv (by rw [he];simp [ngB]) ?_
     dsimp only [go_sem,rA,rM,rS]
     rw [Zi (n:=(j:Int)+1) (by omega) (by omega)]
     refine ⟨j+1,⟨hlt,?_⟩,by omega,?_⟩
     . rw [List.take_succ_eq_append_getElem hlt,List.take_succ_eq_append_getElem hltb,ht,he]
     (refine Zl ?_ ?_ ?_ rfl rfl<;>dsimp only [Zo,id,go_sem,rA,rM,rS]<;>simp [Zo,Za,Ze,KFR,KFL,KF,Zc,mtO,nbr])
   . refine Zu ?_ ?_
     . simpa using he
     dsimp only [go_sem,rA,rM,rS]
     have:a≠b:=fun e=>he (by subst e;rfl)
     simp [this]
 refine Zv (by simp;omega) ?_
 dsimp only [go_sem,rA,rM,rS]
 have:a=b:=by
  rw [List.take_of_length_le (by omega),List.take_of_length_le (by omega)] at ht
  exact ht
 simp [this]
theorem Uk (s:Season) (hs:SmallS s) (p:Plan) (hg:p.legs.length<=1000):Ct Tryz.prog 14 [.agg (Zr s),.agg (ZB p)] (ZcN (Yk s p)):=by
 refine tw14.1 (by simp [Zr,ZB,Zk,Zf,Zm,Zg,Zd,Zo,ZQ,Za,KFL,KF]) (by simp [ZcN,KFL,KF]) ?_
 dsimp only [cw14,rw14,Zr,ZB,go_sem,rA,rM,rS]
 refine call (Zpo s hs p hg) ?_
 dsimp only [go_sem,rA,rM,rS]
 by_cases ho:Zw s=true
 case neg =>
  refine Zu (by simp [ho]) ?_
  dsimp only [go_sem,rA,rM,rS]
  simp [ZcN,Yk,ho]
 by_cases hp:YB s p=true
 case neg =>
  refine Zu (by simp [ho,hp]) ?_
  dsimp only [go_sem,rA,rM,rS]
  simp [ZcN,Yk,ho,hp]
 refine Zv (by simp [ho,hp]) ?_
 dsimp only [go_sem,rA,rM,rS]
 simp only [List.length_map]
 have h:OkS s:=⟨hs,ho⟩
 have hF:Yk s p=X5 s p s.scenes 0:=by simp only [Yk,ho,hp,Bool.true_eq_false,if_false]
 rw [hF]
 have hsc:=hs.sc
 refine Vf [2,3,20,21] rfl (fun q:Nat=>[(21,I q)]) (fun _=>[]) (fun q=>q<=s.scenes.length/\X5 s p (s.scenes.drop q) q=X5 s p s.scenes 0) (fun q=>s.scenes.length - q) 0 ⟨Nat.zero_le _,rfl⟩ ?_ ?_
 . (refine Zl ?_ ?_ ?_ rfl rfl<;>dsimp only [Zf,Zm,Zg,Zk,Zd,Zo,ZQ,id,go_sem,rA,rM,rS]<;>simp [Zf,Zm,Zg,Zk,Zd,Zo,ZQ,Za,Ze,KFR,KFL,KF,Zc,mtO,nbr])
 rintro j ⟨hj,hi⟩
 dsimp only [go_sem,rA,rM,rS]
 by_cases hlt:j < s.scenes.length
 case neg =>
  refine Zv (by simp;omega) ?_
  dsimp only [go_sem,rA,rM,rS]
  rw [List.drop_eq_nil_of_le (by omega),X5] at hi
  rw [<- hi];rfl
 refine Zu (by simpa using hlt) ?_
 dsimp only [go_sem,rA,rM,rS]
 have ht:=ZjC s h j hlt p hp hg
 rw [List.drop_eq_getElem_cons hlt,X5] at hi
 generalize Yq s p s.scenes[j]=w at ht hi
 refine YP [] ht rfl rfl rfl ?_ ?_ ?_
 . exact Zc (by simp [Yl,ZB,Zf,Zm,Zg,Zk,Zd,Zo,ZQ,Za,KFL,KF])
 . trivial
 rintro _ rfl
 (repeat first | dsimp only [Zri,go_sem,rA,rM,rS] | simp only [nbr])
 by_cases hf:w.1=0
 case neg =>
  refine Zu (by simpa using hf) ?_
  dsimp only [go_sem,rA,rM,rS]
  rw [if_pos hf] at hi
  rw [<- hi];rfl
 refine Zv (by simpa using hf) ?_
 dsimp only [go_sem,rA,rM,rS]
 rw [if_neg (by simpa using hf)] at hi
 rw [Zi (n:=(j:Int)+1) (by omega) (by omega)]
 refine ⟨j+1,⟨hlt,hi⟩,by omega,?_⟩
 (refine Zl ?_ ?_ ?_ rfl rfl<;>dsimp only [Zf,Zm,Zg,Zk,Zd,Zo,ZQ,id,go_sem,rA,rM,rS]<;>simp [Zf,Zm,Zg,Zk,Zd,Zo,ZQ,Za,Ze,KFR,KFL,KF,Zc,mtO,nbr])
theorem ZeT (p q:Plan) (hp:p.legs.length<=1000) (hq:q.legs.length<=1000):Ct Tryz.prog 19 [.agg (ZB p),.agg (ZB q)] (B (decide (p=q))):=by
 refine t19.1 (by simp [ZB,Zo,Za,KFL,KF]) (by simp [KFL,KF]) ?_
 dsimp only [c19,r19,ZB,go_sem,rA,rM,rS]
 repeat (first | (refine gb ?_;dsimp only [go_sem,rA,rM,rS]) | (refine call (Zlg p.legs q.legs (by omega) (by omega) _ _) ?_;dsimp only [go_sem,rA,rM,rS]))
 have:(p.animals == q.animals && p.slabs == q.slabs && decide (p.legs=q.legs))=decide (p=q):=by
  obtain ⟨a,b,c⟩:=p;obtain ⟨a',b',c'⟩:=q
  rw [Bool.eq_iff_iff];simp;constructor
  . rintro ⟨⟨h1,h2⟩,h3⟩;exact ⟨h3,h1,h2⟩
  . rintro ⟨h1,h2,h3⟩;exact ⟨⟨h2,h3⟩,h1⟩
 rw [this]
def c59:SC:=(.seq (.reg [
 o1 3 (.box (.t 0) 0 34),
 o1 4 (.box (.t 1) 0 37),
 o1 6 (.mv (.c (.int .i64 0)))])
 (.seq (.reg [
 o1 7 (.mv (.c (.slice none 0 0)))])
 (.seq (.seq (.reg [
 o1 10 (.addo (.t 3) 36),
 o1 11 (.ld (.t 10) 1 false),
 o1 12 (.len (.t 11)),
 o1 13 (.mv (.c (.int .i64 0)))])
 (.block 0 (.loop (.seq (.reg [
  o1 14 (.bin .lss (.t 13) (.t 12))])
  (.seq (.cond (.t 14)
  .skip
  (.exit 0))
  (.seq (.block 1 (.seq (.reg [
   o1 15 (.ixs (.t 11) (.t 13) 6),
   o1 16 (.ld (.t 15) 6 true),
   o1 9 (.alloc zv5 72),
   ⟨none,.st (.t 9) (.t 16) 6,none,[]⟩])
   (.regs [0,1,2,3,4,5,6,7,8,9,10,11,12,13,14,15,16,17,18,19,20,21,22,23,24,25,26] ⟨[
   .op (m1 17 7),
   .op (o1 18 (.addo (.t 4) 1)),
   .op ⟨some 19,.ld (.t 18) 1 false,none,[1]⟩,
   .op (o1 20 (.addo (.t 4) 2)),
   .op ⟨some 21,.ld (.t 20) 1 false,none,[3]⟩,
   .op ⟨some 22,.bin .mul (.t 19) (.t 21),none,[2,4]⟩,
   .op (o1 23 (.addo (.t 9) 5)),
   .op ⟨some 24,.ld (.t 23) 1 false,none,[6]⟩,
   .op (m1 25 2),
   .op ⟨some 26,.ixs (.t 24) (.t 25) 1,none,[7,8]⟩,
   .op ⟨some 27,.ld (.t 26) 1 false,none,[9]⟩,
   .op (o1 28 (.addo (.t 3) 31)),
   .op ⟨some 29,.ld (.t 28) 1 false,none,[11]⟩,
   .op ⟨some 30,.bin .sub (.t 27) (.t 29),none,[10,12]⟩,
   .op ⟨some 31,.bin .mul (.t 22) (.t 30),none,[5,13]⟩,
   .op (o1 32 (.addo (.t 3) 28)),
   .op ⟨some 33,.ld (.t 32) 1 false,none,[15]⟩,
   .op (o1 34 (.addo (.t 4) 1)),
   .op ⟨some 35,.ld (.t 34) 1 false,none,[17]⟩,
   .op ⟨some 36,.bin .sub (.t 33) (.t 35),none,[16,18]⟩,
   .op (o1 37 (.addo (.t 3) 32)),
   .op ⟨some 38,.ld (.t 37) 1 false,none,[20]⟩,
   .op ⟨some 39,.bin .mul (.t 36) (.t 38),none,[19,21]⟩,
   .op ⟨some 40,.bin .add (.t 31) (.t 39),none,[14,22]⟩,
   .op ⟨some 41,.bsl 1 3 [.t 40],none,[23]⟩],0,1,[
   ⟨some 42,.appm 1 8 3 (.t 17) (.t 41),none,[0,24]⟩]⟩ [⟨[
],0,1,[
 ⟨some 7,.mv (.t 42),none,[0,1,2,3,4,5,6,7,8,9,10,11,12,13,14,15,16,17,18,19,20,21,22,23,24,25]⟩]⟩])))
 (.reg [
 o1 43 (.bin .add (.t 13) (.c (.int .i64 1))),
 m1 13 43])))))))
 (.gh (.seq (.reg [
 m1 44 7,
 o1 45 (.call 71 [.t 44]),
 m1 6 45])
 .ret)))))
def r59:List RV:=[.tmp 6]
theorem t59:Qt1 Tryz.prog 59 c59 r59 46:=Z6 Tryz.func59 rfl (by kernel_rfl) (by kernel_rfl) (by kernel_rfl) (by kernel_rfl)
def c20:SC:=(.seq (.reg [
 o1 2 (.box (.t 0) 0 34),
 o1 3 (.box (.t 1) 0 37),
 o1 4 (.mv (.c (.int .i64 0))),
 o1 5 (.mv (.c (.int .i64 0)))])
 (.seq (.reg [
 o1 13 (.ld (.t 2) 37 true),
 o1 14 (.ld (.t 3) 3 true),
 o1 15 (.call 14 [.t 13,.t 14]),
 m1 12 15,
 o1 16 (.ext (.t 12) 0),
 o1 17 (.ext (.t 12) 1),
 o1 18 (.ext (.t 12) 2),
 o1 19 (.ext (.t 12) 3),
 m1 6 16,
 m1 7 17,
 m1 8 18,
 m1 9 19])
 (.seq (.block 0 (.seq (.reg [
  m1 21 9,
  o1 22 (.bin .neq (.t 21) (.c (.int .i64 0))),
  m1 20 22])
  (.cond (.t 20)
  (.seq (.reg [
   m1 23 9,
   o1 4 (.mv (.c (.int .i64 0))),
   m1 5 23])
   .ret)
  (.seq (.reg [
   m1 25 6,
   o1 26 (.bin .neq (.t 25) (.c (.int .u8 0))),
   m1 24 26])
   (.cond (.t 24)
   (.seq (.reg [
    o1 4 (.mv (.c (.int .i64 0))),
    o1 5 (.mv (.c (.int .i64 92)))])
    .ret)
   .skip)))))
 (.seq (.reg [
 o1 28 (.ld (.t 2) 37 true),
 o1 29 (.addo (.t 3) 0),
 o1 30 (.ld (.t 29) 1 false),
 o1 31 (.call 58 [.t 28,.t 30]),
 m1 27 31,
 o1 32 (.ext (.t 27) 0),
 o1 33 (.ext (.t 27) 1),
 m1 10 32,
 m1 11 33])
 (.seq (.reg [
 o1 34 (.ld (.t 2) 37 true),
 o1 35 (.ld (.t 3) 3 true),
 m1 36 10,
 o1 37 (.call 59 [.t 34,.t 35,.t 36]),
 m1 4 37,
 o1 5 (.mv (.c (.int .i64 0)))])
 .ret)))))
def r20:List RV:=[.tmp 4,.tmp 5]
theorem t20:Qt1 Tryz.prog 20 c20 r20 38:=Z6 Tryz.func20 rfl (by kernel_rfl) (by kernel_rfl) (by kernel_rfl) (by kernel_rfl)
def c24:SC:=(.seq (.reg [
 o1 4 (.mv (.c (.bool false)))])
 (.seq (.seq (.reg [
 m1 6 0,
 o1 7 (.len (.t 6)),
 m1 8 1,
 o1 9 (.len (.t 8)),
 o1 10 (.bin .neq (.t 7) (.t 9))])
 (.cond (.t 10)
 (.seq (.reg [
  o1 4 (.mv (.c (.bool false)))])
  .ret)
 .skip))
 (.seq (.seq (.reg [
 o1 5 (.mv (.c (.int .i64 0)))])
 (.block 0 (.loop (.seq (.seq (.reg [
  m1 11 5,
  m1 12 0,
  o1 13 (.len (.t 12)),
  o1 14 (.bin .lss (.t 11) (.t 13))])
  (.cond (.t 14)
  .skip
  (.exit 0)))
  (.seq (.block 1 (.seq (.regd [0,1,2,3,4,5,6,7,8] [
   .op (m1 17 0),
   .op (m1 18 5),
   .op ⟨some 19,.ixs (.t 17) (.t 18) 3,none,[0,1]⟩,
   .op ⟨some 20,.ld (.t 19) 3 true,none,[2]⟩,
   .op (m1 21 1),
   .op (m1 22 5),
   .op ⟨some 23,.ixs (.t 21) (.t 22) 3,none,[4,5]⟩,
   .op ⟨some 24,.ld (.t 23) 3 true,none,[6]⟩,
   .op ⟨some 25,.eqs true true [1,1,1] (.t 20) (.t 24),none,[3,7]⟩] 0 0 [
])
 (.cond (.t 25)
 (.seq (.reg [
  o1 4 (.mv (.c (.bool false)))])
  .ret)
 .skip)))
 (.reg [
 m1 15 5,
 o1 16 (.bin .add (.t 15) (.c (.int .i64 1))),
 m1 5 16]))))))
 (.seq (.reg [
 o1 4 (.mv (.c (.bool true)))])
 .ret))))
def r24:List RV:=[.tmp 4]
theorem t24:Qt1 Tryz.prog 24 c24 r24 26:=Z6 Tryz.func24 rfl (by kernel_rfl) (by kernel_rfl) (by kernel_rfl) (by kernel_rfl)
def c4:SC:=(.seq (.reg [
 o1 3 (.box (.t 0) 0 34),
 o1 4 (.box (.t 1) 0 37),
 o1 6 (.mv (.c (.bool false)))])
 (.seq (.seq (.reg [
 o1 15 (.ld (.t 3) 37 true),
 o1 16 (.call 12 [.t 15]),
 m1 17 16,
 ⟨some 18,.addo (.t 4) 0,some (17,false),[]⟩,
 ⟨some 19,.ld (.t 18) 1 false,some (17,false),[]⟩,
 ⟨some 20,.len (.t 19),some (17,false),[]⟩,
 ⟨some 21,.bin .gtr (.t 20) (.c (.int .i64 40)),some (17,false),[]⟩,
 o1 22 (.pick (.t 17) (.c (.bool true)) (.t 21))])
 (.cond (.t 22)
 (.seq (.reg [
  o1 6 (.mv (.c (.bool true)))])
  .ret)
 .skip))
 (.seq (.reg [
 o1 24 (.ld (.t 3) 37 true),
 o1 25 (.ld (.t 4) 3 true),
 o1 26 (.call 20 [.t 24,.t 25]),
 m1 23 26,
 o1 27 (.ext (.t 23) 0),
 o1 28 (.ext (.t 23) 1),
 m1 7 27,
 m1 8 28])
 (.seq (.reg [
 o1 30 (.ld (.t 3) 37 true),
 o1 31 (.ld (.t 4) 3 true),
 o1 32 (.call 21 [.t 30,.t 31]),
 m1 29 32,
 o1 33 (.ext (.t 29) 0),
 o1 34 (.ext (.t 29) 1),
 m1 9 33,
 m1 10 34])
 (.seq (.reg [
 o1 36 (.ld (.t 3) 37 true),
 o1 37 (.ld (.t 4) 3 true),
 m1 38 2,
 o1 39 (.call 22 [.t 36,.t 37,.t 38]),
 m1 35 39,
 o1 40 (.ext (.t 35) 0),
 o1 41 (.ext (.t 35) 1),
 m1 11 40,
 m1 12 41])
 (.seq (.reg [
 o1 43 (.ld (.t 3) 37 true),
 o1 44 (.ld (.t 4) 3 true),
 m1 45 2,
 o1 46 (.call 23 [.t 43,.t 44,.t 45]),
 m1 42 46,
 o1 47 (.ext (.t 42) 0),
 o1 48 (.ext (.t 42) 1),
 m1 13 47,
 m1 14 48])
 (.seq (.reg [
 m1 49 7,
 m1 50 9,
 o1 51 (.bin .eql (.t 49) (.t 50)),
 m1 52 51,
 ⟨some 53,.mv (.t 8),some (52,true),[]⟩,
 ⟨some 54,.mv (.t 10),some (52,true),[]⟩,
 ⟨some 55,.bin .eql (.t 53) (.t 54),some (52,true),[]⟩,
 o1 56 (.pick (.t 52) (.t 55) (.c (.bool false))),
 m1 57 56,
 ⟨some 58,.mv (.t 11),some (57,true),[]⟩,
 ⟨some 59,.mv (.t 13),some (57,true),[]⟩,
 ⟨some 60,.call 24 [.t 58,.t 59],some (57,true),[]⟩,
 o1 61 (.pick (.t 57) (.t 60) (.c (.bool false))),
 m1 62 61,
 ⟨some 63,.mv (.t 12),some (62,true),[]⟩,
 ⟨some 64,.mv (.t 14),some (62,true),[]⟩,
 ⟨some 65,.bin .eql (.t 63) (.t 64),some (62,true),[]⟩,
 o1 66 (.pick (.t 62) (.t 65) (.c (.bool false))),
 m1 6 66])
 .ret)))))))
def r4:List RV:=[.tmp 6]
theorem n4:Tryz.f4.ntmps=67:=by kernel_rfl
theorem b4:YM Tryz.prog 4=true:=by kernel_rfl
theorem t4:Qt1 Tryz.prog 4 c4 r4 67:=Z6 Tryz.func4 rfl b4 (by kernel_rfl) (by kernel_rfl) n4
end Go.Proofs.YtiigiflofnjilaaGreat
namespace Go.Azalai
open Go.Sx
def Zg9:List Int->Int
 | []=>0
 | x :: r=>r.foldl min x
theorem ZkQ {l:List Int} {a:Int} (h:l≠[]):Zg9 (l ++ [a])=min (Zg9 l) a:=by
 cases l with
 | nil=>exact absurd rfl h
 | cons x r=>simp [Zg9,List.foldl_append]
def WW (s:Season) (p:Plan) (to:Int) (x:Scene):Int:=p.animals * p.slabs * ((x.prices[to.toNat]?).getD 0 - s.cost)+(s.herd - p.animals) * s.sale
def U0 (s:Season) (p:Plan) (to:Int):Int:=Zg9 (s.scenes.map (WW s p to))
def Z3 (s:Season) (p:Plan):Int × Int :=
 if (Yk s p).2.2.2≠0 then (0,(Yk s p).2.2.2) else if (Yk s p).1≠0 then (0,92) else (U0 s p ((Yo s.land s.start [s.start] p.legs).getD 0),0)
theorem ZuI {α : Type} {L:List α} {k:Nat} (hk:k≠0) (h:1<=L.length):L.take k≠[]:=fun e=>by
 rw [List.take_eq_nil_iff] at e
 rcases e with e | e
 . exact hk e
 . rw [e] at h;simp at h
theorem Zlc {A B d M:Int} (h0:0<=A) (h1:A<=B) (hM:0<=M) (hd:-M<=d/\d<=M):-(B * M)<=A * d/\A * d<=B * M:=by
 have e1:A * d<=A * M:=Int.mul_le_mul_of_nonneg_left hd.2 h0
 have e2:A * M<=B * M:=Int.mul_le_mul_of_nonneg_right h1 hM
 have e3:A * (-M)<=A * d:=Int.mul_le_mul_of_nonneg_left hd.1 h0
 rw [Int.mul_neg] at e3
 omega
theorem ZfY {s:Season} {p:Plan}:∀ {l:List Scene} {i:Nat},(X5 s p l i).2.2.2=0
 | [],_=>rfl
 | x :: r,i=>by
  simp only [X5];split
  . rfl
  . exact ZfY
theorem ZcT {s:Season} {p:Plan}:∀ {l:List Scene} {i:Nat},(X5 s p l i).1=0->∀ x ∈ l,(Yq s p x).1=0
 | [],_,_,x,hx=>by cases hx
 | y :: r,i,h,x,hx=>by
  simp only [X5] at h
  split at h
  . rename_i hf;exact absurd h hf
  . rename_i hf
    rcases List.mem_cons.1 hx with rfl | hx
    . simpa using hf
    . exact ZcT h x hx
theorem Zbi {s:Season} {p:Plan} (h:(Yk s p).2.2.2=0):Zw s=true/\YB s p=true:=by
 unfold Yk at h
 split at h
 . simp at h
 rename_i h1
 split at h
 . simp at h
 rename_i h2
 exact ⟨by simpa using h1,by simpa using h2⟩
theorem Znp {s:Season} {p:Plan} (h:(Yk s p).2.2.2=0) (h1:(Yk s p).1=0):∀ x ∈ s.scenes,(Yq s p x).1=0:=by
 obtain ⟨ho,hp⟩:=Zbi h
 unfold Yk at h1
 rw [if_neg (by simp [ho]),if_neg (by simp [hp])] at h1
 exact ZcT h1
def Zco (s:Season) (p:Plan) (k:Int):List Draw × Int :=
 if (Yk s p).2.2.2≠0 then ([],(Yk s p).2.2.2) else if (Yk s p).1≠0\/inR 0 (s.scenes.length - 1) k=false then ([],92)
 else match s.scenes[k.toNat]? with
  | some x=>(Xt s x p.animals p.slabs (Zz s p.legs),0)
  | none=>([],0)
end Go.Azalai
namespace Go.Proofs.YtiigiflofnjilaaGreat
open Go Go.Sx Go.Azalai
theorem Zkq (L:List Int) (h1:1<=L.length) (hl:L.length<=1001) (c:Bool):Ct Tryz.prog 71 [.sl c 1 (L.map Zo)] (I (Zg9 L)):=by
 refine t71.1 (by simp [Za,Zo,KFL,KF]) (by simp [KFL,KF]) ?_
 dsimp only [c71,r71,go_sem,rA,rM,rS]
 simp only [List.length_map]
 refine Zv (by simp;omega) ?_
 dsimp only [go_sem,rA,rM,rS]
 refine Zp 0 (by omega) rfl ?_
 dsimp only [Zo,go_sem,rA,rM,rS]
 have h0:L[0]=Zg9 (L.take 1):=by
  cases L with
  | nil=>simp at h1
  | cons x r=>simp [Zg9]
 rw [h0]
 refine Xf (fun k:Nat=>[(4,I (k+1)),(3,I (Zg9 (L.take (k+1))))]) (fun _=>[]) (fun k=>k+1<=L.length) (fun k=>L.length - k) 0 h1 ?_ ?_
 . (refine Zl ?_ ?_ ?_ rfl rfl<;>dsimp only [Zo,id,go_sem,rA,rM,rS]<;>simp [Zo,Za,Ze,KFR,KFL,KF,Zc,mtO,nbr])
 intro k hk
 dsimp only [go_sem,rA,rM,rS]
 simp only [List.length_map]
 by_cases hlt:k+1 < L.length
 . refine Zu (by simp;omega) ?_
   dsimp only [go_sem,rA,rM,rS]
   refine Zp (k+1) hlt (by simp) ?_
   dsimp only [Zo,go_sem,rA,rM,rS]
   rw [Zi (n:=(k:Int)+1+1) (by omega) (by omega)]
   refine ⟨k+1,by omega,by omega,?_⟩
   have e:min (Zg9 (L.take (k+1))) L[k+1]=Zg9 (L.take (k+1+1)):=by
    rw [List.take_succ_eq_append_getElem hlt,ZkQ (ZuI (by omega) h1)]
   rw [e]
   (refine Zl ?_ ?_ ?_ rfl rfl<;>dsimp only [Zo,id,go_sem,rA,rM,rS]<;>simp [Zo,Za,Ze,KFR,KFL,KF,Zc,mtO,nbr])
 refine Zv (by simp;omega) ?_
 dsimp only [go_sem,rA,rM,rS]
 rw [List.take_of_length_le (by omega)]
theorem Zcr {s:Season} (h:OkS s) {k:Nat} (hk:k < s.scenes.length) {m:Nat} (hm:m < s.land.wells.length):∃ hp:m < (s.scenes[k]).prices.length,0<=(s.scenes[k]).prices[m]/\(s.scenes[k]).prices[m]<=1000000:=by
 have hx:=h.scene _ (List.getElem_mem hk)
 simp only [Yx,Bool.and_eq_true,decide_eq_true_eq,List.all_eq_true] at hx
 have hp:m < (s.scenes[k]).prices.length:=by omega
 have:=hx.2 _ (List.getElem_mem hp)
 simp only [inR,decide_eq_true_eq] at this
 exact ⟨hp,this⟩
theorem Zso {s:Season} (h:OkS s) {p:Plan} (hp:YB s p=true) {k:Nat} (hk:k < s.scenes.length) {m:Nat} (hm:m < s.land.wells.length) (hq:m < (s.scenes[k]).prices.length) :
 IntKind.i64.wrap (IntKind.i64.wrap (IntKind.i64.wrap (p.animals * p.slabs) * IntKind.i64.wrap ((s.scenes[k]).prices[m] - s.cost))+IntKind.i64.wrap (IntKind.i64.wrap (s.herd - p.animals) * s.sale))=WW s p m s.scenes[k] /\
 -1000000000<=WW s p m s.scenes[k]/\WW s p m s.scenes[k]<=1000000000:=by
 have hnum:=h.num
 obtain ⟨_,hpl⟩:=Xm hp
 obtain ⟨_,hpr⟩:=Zcr h hk hm
 have e1:0<=p.animals * p.slabs/\p.animals * p.slabs<=30 * 12:=⟨Int.mul_nonneg hpl.1 hpl.2.2.1,Int.mul_le_mul (by omega) hpl.2.2.2 hpl.2.2.1 (by decide)⟩
 have e2:=Zlc (A:=p.animals * p.slabs) (B:=360) (d:=(s.scenes[k]).prices[m] - s.cost) (M:=1000000) e1.1 (by omega) (by decide) (by omega)
 have e3:0<=(s.herd - p.animals) * s.sale/\(s.herd - p.animals) * s.sale<=30 * 1000000:=⟨Int.mul_nonneg (by omega) (by omega),Int.mul_le_mul (by omega) (by omega) (by omega) (by decide)⟩
 have e4:WW s p m s.scenes[k]=p.animals * p.slabs * ((s.scenes[k]).prices[m] - s.cost)+(s.herd - p.animals) * s.sale:=by
  simp only [WW,Int.toNat_natCast,List.getElem?_eq_getElem hq,Option.getD_some]
 rw [Zi (n:=p.animals * p.slabs) (by omega) (by omega),Zi (n:=(s.scenes[k]).prices[m] - s.cost) (by omega) (by omega),Zi (n:=s.herd - p.animals) (by omega) (by omega),
  Zi (n:=p.animals * p.slabs * ((s.scenes[k]).prices[m] - s.cost)) (by omega) (by omega),Zi (n:=(s.herd - p.animals) * s.sale) (by omega) (by omega),Zi (by omega) (by omega),e4]
 exact ⟨rfl,by omega,by omega⟩
theorem ZfC (s:Season) (h:OkS s) (p:Plan) (hp:YB s p=true) (m:Nat) (hm:m < s.land.wells.length):Ct Tryz.prog 59 [.agg (Zr s),.agg (ZB p),I m] (I (U0 s p m)):=by
 have hsc:=h.scs
 have hs4:=h.scs
 refine t59.1 (by simp [Zr,ZB,Zk,Zf,Zm,Zg,Zd,Zo,Za,KFL,KF]) (by simp [KFL,KF]) ?_
 dsimp only [c59,r59,Zr,ZB,go_sem,rA,rM,rS]
 simp only [List.length_map]
 obtain ⟨W,hW⟩:∃ W,W=s.scenes.map (WW s p m):=⟨_,rfl⟩
 have hWl:W.length=s.scenes.length:=by rw [hW];simp
 refine ZdP (YA (Uj [2,3,4,6,7,11,12,13] rfl) (YX 7 1 3 rfl rfl)) (fun q:Nat × Nat=>[(13,I q.1),(7,.mr 2 q.2)])
  (fun q=>[(2,.row q.2 1 ((W.take q.1).map Zo) 3)]) (fun q=>q.1<=s.scenes.length) (fun q=>s.scenes.length - q.1) (0,0) (Nat.zero_le _) ?_ ?_
 . (refine Zl ?_ ?_ ?_ rfl rfl<;>dsimp only [Zf,Zm,Zg,Zk,Zd,Zo,Ye,id,go_sem,rA,rM,rS]<;>simp [Zf,Zm,Zg,Zk,Zd,Zo,Ye,Za,Ze,KFR,KFL,KF,Zc,mtO,nbr])
 rintro ⟨j,v⟩ hj
 simp only at hj
 dsimp only [go_sem,rA,rM,rS]
 by_cases hlt:j < s.scenes.length
 . refine Zu (by simpa using hlt) ?_
   dsimp only [go_sem,rA,rM,rS]
   refine Zp j hlt rfl ?_
   dsimp only [Zk,go_sem,rA,rM,rS]
   obtain ⟨hq,_⟩:=Zcr h hlt hm
   refine Zp m hq rfl ?_
   dsimp only [Zo,go_sem,rA,rM,rS]
   obtain ⟨hww,hwb⟩:=Zso h hp hlt hm hq
   rw [hww]
   simp only [nbr]
   dsimp only [go_sem,rA,rM,rS]
   refine ⟨(by intro c hc;simp only [List.mem_singleton] at hc;subst hc;rfl),by simp;omega,?_⟩
   dsimp only [go_sem,rA,rM,rS]
   rw [Zi (n:=(j:Int)+1) (by omega) (by omega)]
   refine ⟨(j+1,v+1),hlt,by simp only;omega,?_⟩
   simp only
   have hWj:WW s p m s.scenes[j]=W[j]'(by omega):=by simp [hW]
   rw [hWj,List.take_succ_eq_append_getElem (by omega)]
   simp only [List.map_append,List.map_cons,List.map_nil]
   (refine Zl ?_ ?_ ?_ rfl rfl<;>dsimp only [Zf,Zm,Zg,Zk,Zd,Zo,Ye,id,go_sem,rA,rM,rS]<;>simp [Zf,Zm,Zg,Zk,Zd,Zo,Ye,Za,Ze,KFR,KFL,KF,Zc,mtO,nbr])
 refine Zv (by simp;omega) ?_
 dsimp only [go_sem,rA,rM,rS]
 rw [List.take_of_length_le (by omega)]
 refine gh (ZaG 7 2 v rfl rfl rfl rfl) ?_
 dsimp only [go_sem,rA,rM,rS]
 refine call (Zkq W (by omega) (by omega) _) ?_
 dsimp only [go_sem,rA,rM,rS]
 rw [hW];rfl
def ZcU (l:Land) (p:Span) (s to day till:Int):SV:=.tup [Xz (ZbW l p s to day till) 1 ((Uq l p s to day till).map Yr),I (ZbW l p s to day till)]
theorem Zl4 (l:Land) (p:Span) (s to day till:Int):KF (ZcU l p s to day till):=by
 unfold ZcU Xz;split<;>simp [KFL,KF,Za,Yr,ZX,Z5]
theorem Zoz (l:Land) (hs:WZ l) (s to day till:Int) (p:Span):Ct Tryz.prog 65 [.agg (Yg l),I s,I to,I day,I till,.agg (Zd p)] (ZcU l p s to day till):=by
 have hw:=hs.1
 have hleg:=hs.2.1
 refine t65.1 (by simp [Yg,Zf,Zm,Zg,Zd,Za,KFL,KF]) (Zl4 _ _ _ _ _ _) ?_
 dsimp only [c65,r65,Yg,Zd,go_sem,rA,rM,rS]
 by_cases ha:Zac l p=0
 case neg =>
  refine call (Zae l hs p ha) ?_
  dsimp only [go_sem,rA,rM,rS]
  refine Zu (by simpa using ha) ?_
  dsimp only [go_sem,rA,rM,rS]
  simp [ZcU,ZbW,ha,Xz]
 have hok:=ZjZ ha
 refine call (ZcA l hs p ha) ?_
 dsimp only [ZJ,go_sem,rA,rM,rS]
 refine Zv (by decide) ?_
 dsimp only [go_sem,rA,rM,rS]
 simp only [List.length_map]
 have h1:=UP hok.land
 rw [Zi (n:=(l.wells.length:Int) - 1) (by omega) (by omega)]
 refine call (Zdr 0 (l.wells.length - 1) s to true) ?_
 dsimp only [go_sem,rA,rM,rS]
 repeat (first | (refine gb ?_;dsimp only [go_sem,rA,rM,rS]) | (refine call (Zdr 0 100000 day till true) ?_;dsimp only [go_sem,rA,rM,rS]))
 by_cases hr:(inR 0 (l.wells.length - 1) s && inR 0 (l.wells.length - 1) to && inR 0 100000 day && inR 0 100000 till)=true
 case neg =>
  have hb:∀ a b c d:Bool,¬ (a && b && c && d)=true->(!(a && b) || !(c && d))=true:=by decide
  refine Zu (hb _ _ _ _ hr) ?_
  dsimp only [go_sem,rA,rM,rS]
  simp [ZcU,ZbW,ha,Xz,hr]
 have hb:∀ a b c d:Bool,(a && b && c && d)=true->(!(a && b) || !(c && d))=false:=by decide
 refine Zv (hb _ _ _ _ hr) ?_
 dsimp only [go_sem,rA,rM,rS]
 have he:ZbW l p s to day till=if (Uq l p s to day till).length > 200 then 9 else 0:=by simp only [ZbW,Uq,ha,hr];simp
 simp only [Bool.and_eq_true,inR,decide_eq_true_eq] at hr
 obtain ⟨⟨⟨hr1,hr3⟩,hd⟩,hu⟩:=hr
 refine ZaI rfl rfl rfl ?_
 dsimp only [go_sem,rA,rM,rS]
 refine gh (VU 5 0 1 35 rfl rfl) ?_
 dsimp only [go_sem,rA,rM,rS]
 have hlk:=ZvQ l p hs hok till to (l.wells.length+1) [] s day [] [] 0 0 [] (.v (.slice none 0 0)) ZlK.start (by simp) (by omega) (by omega) (by simp;omega) (by simp) MW.nil (fun u=>by simp [Xu]) (.inr ⟨rfl,rfl⟩)
 have hW:(XC l p to till (l.wells.length+1) [] s day).map (([]:List Nat) ++ ·)=Uq l p s to day till:=by simp [Uq]
 rw [hW] at hlk
 refine YP [2,1,5,7,4,8,9,6] hlk rfl rfl ?_ ?_ ?_ ?_
 . rfl
 . dsimp only [rho,go_sem,rA,rM,rS]
   simp [Za,Ze,KFR,KFL,KF,Zc,mtO,nbr]
 . dsimp only [rho,YH,ZJ,go_sem,rA,rM,rS]
   simp [Za,Ze,KFR,KFL,KF,Zc,mtO,nbr,Zx,ZJ,Zf,Zm,Zg,Yr,ZX,Z5]
 rintro o ⟨ver',clk',hM',rfl⟩
 dsimp only [YH,ZJ,go_sem,rA,rM,rS]
 try simp only [List.nil_append]
 by_cases hl:(Uq l p s to day till).length<=200
 . refine Zv (by simp only [hl,decide_true];rfl) ?_
   dsimp only [go_sem,rA,rM,rS]
   simp only [nbr]
   dsimp only [go_sem,rA,rM,rS]
   rw [ZcU,he,if_neg (by omega),Ve (by omega)]
   simp [Xz,vwN]
 . refine Zu (by simp only [hl,decide_false];rfl) ?_
   dsimp only [go_sem,rA,rM,rS]
   rw [ZcU,he,if_pos (by omega)]
   simp [Xz]
end Go.Proofs.YtiigiflofnjilaaGreat
namespace Go.Azalai
open Go.Sx Go.Proofs.YtiigiflofnjilaaGreat
structure Bst where
 legs:List Nat
 an:Int
 sl:Int
 w:Int
deriving DecidableEq
def Yv (a:List Nat):List Int:=a.map fun n:Nat=>(n:Int)
def Bst.plan (q:Bst):Plan:=⟨Yv q.legs,q.an,q.sl⟩
def ZW (q p:Bst):Bool :=
 if q.w≠p.w then decide (q.w > p.w) else if q.an≠p.an then decide (q.an < p.an) else if q.sl≠p.sl then decide (q.sl < p.sl)
 else if q.legs.length≠p.legs.length then decide (q.legs.length < p.legs.length) else WA q.legs p.legs
def ZkW (p q:Bst):Bst:=if ZW q p then q else p
def YU (s:Season) (to:Int) (a:List Nat) (k n:Int):Bst:=⟨a,n,k,U0 s ⟨Yv a,n,k⟩ to⟩
def ZgD (s:Season) (x:Scene):List Draw->Int->Int
 | [],n=>n
 | d :: r,n=>ZgD s x r (if d.water > 0 then min n ((ZaL s x ⟨0,d.well,⟨0,0⟩,⟨d.day,0⟩⟩).tdiv d.water) else n)
def Ziz (s:Season) (a:List Int) (k:Int):List Scene->Int->Int
 | [],n=>n
 | x :: r,n=>if (Yq s ⟨a,1,k⟩ x).1≠0 then 0 else Ziz s a k r (ZgD s x (XU s ⟨a,1,k⟩ x) n)
def Zbc (s:Season) (a:List Int) (k:Int):Int:=Ziz s a k s.scenes s.herd
def Zds (s:Season) (to:Int) (a:List Nat) (k:Int):Nat->Bst->Bst
 | 0,b=>b
 | n+1,b=>Zds s to a k n (ZkW b (YU s to a k (n+1:Nat)))
def ZhK (s:Season) (to:Int) (a:List Nat) (b:Bst) (k:Nat):Bst:=Zds s to a k (Zbc s (Yv a) k).toNat b
def Zwi (s:Season) (to:Int) (b:Bst) (a:List Nat):Bst:=(List.range 13).foldl (ZhK s to a) b
def US (s:Season):List Nat->Bst->Option Bst
 | [],b=>some b
 | g :: r,b=>if ZbW s.land s.pace s.start g s.day s.till≠0 then none else US s r ((Uq s.land s.pace s.start g s.day s.till).foldl (Zwi s g) b)
def Zg3 (s:Season):Option Bst:=US s (List.range s.land.wells.length) ⟨[],0,0,s.herd * s.sale⟩
def Zec (s:Season):Plan × Int × Int :=
 if Zw s=false then (⟨[],0,0⟩,0,90) else match Zg3 s with
  | none=>(⟨[],0,0⟩,0,9)
  | some b=>(b.plan,b.w,0)
def ZaR (s:Season) (x:Scene) (k:Int):List Span->Nat->Int->Int
 | [],_,e=>e
 | r :: l,i,e=>ZaR s x k l (i+1) (if r.hi<=s.till then max e (k * ((x.prices[i]?).getD 0 - s.cost)) else e)
noncomputable def Um (s:Season):Int:=Zg9 (s.scenes.map fun x=>s.herd * ZaR s x (min 12 (s.breed.strong.lo.tdiv s.slab)) (YL s.land s.pace s.start s.day) 0 s.sale)
noncomputable def Ub (s:Season):Int × Int:=if Zw s=false then (0,90) else (Um s,0)
theorem Zkj {l:List Int} {a:Int} (h:a ∈ l):Zg9 l<=a:=by
 cases l with
 | nil=>cases h
 | cons x r =>
  show r.foldl min x<=a
  have key:∀ (r:List Int) (x a:Int),(a=x\/a ∈ r)->r.foldl min x<=a:=by
   intro r
   induction r with
   | nil =>
    intro x a h
    rcases h with rfl | h
    . exact Int.le_refl _
    . cases h
   | cons y r ih =>
    intro x a h
    rw [List.foldl_cons]
    rcases h with rfl | h
    . exact Int.le_trans (ih (min a y) (min a y) (.inl rfl)) (Int.min_le_left _ _)
    . rcases List.mem_cons.1 h with rfl | h
      . exact Int.le_trans (ih (min x a) (min x a) (.inl rfl)) (Int.min_le_right _ _)
      . exact ih _ _ (.inr h)
  exact key r x a (List.mem_cons.1 h)
theorem ZfT {l:List Int} (h:l≠[]):Zg9 l ∈ l:=by
 cases l with
 | nil=>exact absurd rfl h
 | cons x r =>
  show r.foldl min x ∈ x :: r
  have key:∀ (r:List Int) (x:Int),r.foldl min x ∈ x :: r:=by
   intro r
   induction r with
   | nil=>intro x;simp
   | cons y r ih =>
    intro x
    rw [List.foldl_cons]
    have:=ih (min x y)
    rcases List.mem_cons.1 this with e | e
    . rw [e]
      by_cases hxy:x<=y
      . rw [Int.min_eq_left hxy];simp
      . rw [Int.min_eq_right (by omega)];simp
    . exact List.mem_cons_of_mem _ (List.mem_cons_of_mem _ e)
  exact key r x
theorem Zba {s:Season} {p:Plan}:∀ {l:List Scene} {i:Nat},(∀ x ∈ l,(Yq s p x).1=0)->(X5 s p l i).1=0
 | [],_,_=>rfl
 | x :: r,i,h=>by
  simp only [X5]
  rw [if_neg (by simp [h x (List.mem_cons_self ..)])]
  exact Zba fun y hy=>h y (List.mem_cons_of_mem _ hy)
theorem Ut {s:Season} {p:Plan} (h:Zw s=true) (hp:YB s p=true):(Yk s p).2.2.2=0/\((Yk s p).1=0↔∀ x ∈ s.scenes,(Yq s p x).1=0):=by
 have e:Yk s p=X5 s p s.scenes 0:=by unfold Yk;rw [if_neg (by simp [h]),if_neg (by simp [hp])]
 rw [e]
 exact ⟨ZfY,ZcT,Zba⟩
def Zc7 (s:Season) (p:Plan) (l:List Scene):Bool × Bool :=
 (l.all fun x=>decide ((Yq s p x).1=0),l.any fun x=>decide ((Yq s p x).1=0) && (WW s p ((Yo s.land s.start [s.start] p.legs).getD 0) x == (Z3 s p).1))
theorem ZhJ {s:Season} {p:Plan} (h:Zw s=true) (hp:YB s p=true) (he:(Z3 s p).2≠0):(Z3 s p).2=92/\(Zc7 s p s.scenes).1=false:=by
 obtain ⟨h0,h1⟩:=Ut h hp
 unfold Z3 at he ⊢
 rw [if_neg (by simp [h0])] at he ⊢
 split at he
 . rename_i hz
   rw [if_pos hz]
   refine ⟨rfl,?_⟩
   apply Classical.byContradiction
   intro hc
   simp only [Zc7,Bool.not_eq_false,List.all_eq_true,decide_eq_true_eq] at hc
   exact hz (h1.2 hc)
 . simp at he
theorem Uw {s:Season} {p:Plan} (h:Zw s=true) (hp:YB s p=true) (he:(Z3 s p).2=0) :
 (∀ x ∈ s.scenes,(Yq s p x).1=0)/\(Z3 s p).1=U0 s p ((Yo s.land s.start [s.start] p.legs).getD 0):=by
 obtain ⟨h0,h1⟩:=Ut h hp
 unfold Z3 at he ⊢
 rw [if_neg (by simp [h0])] at he ⊢
 split at he
 . simp at he
 . rename_i hz
   rw [if_neg hz]
   exact ⟨h1.1 (by simpa using hz),rfl⟩
theorem Zgm {s:Season} {p:Plan} (h:Zw s=true) (hp:YB s p=true) (he:(Z3 s p).2=0) :
 Zc7 s p s.scenes=(true,true)/\(∀ x ∈ s.scenes,(Z3 s p).1<=WW s p ((Yo s.land s.start [s.start] p.legs).getD 0) x)/\(p.animals=0->(Z3 s p).1=s.herd * s.sale):=by
 obtain ⟨h1,h2⟩:=Uw h hp he
 have hne:s.scenes≠[]:=by
  simp only [Zw,inR,Bool.and_eq_true,decide_eq_true_eq] at h
  intro e
  have:=h.1.2
  rw [e] at this;simp at this
 have hm:U0 s p ((Yo s.land s.start [s.start] p.legs).getD 0) ∈ s.scenes.map (WW s p ((Yo s.land s.start [s.start] p.legs).getD 0)):=ZfT (by simpa using hne)
 obtain ⟨y,hy,hey⟩:=List.mem_map.1 hm
 refine ⟨?_,fun x hx=>?_,fun h0=>?_⟩
 . simp only [Zc7,Prod.mk.injEq,List.all_eq_true,decide_eq_true_eq,List.any_eq_true,Bool.and_eq_true,beq_iff_eq]
   exact ⟨h1,y,hy,h1 y hy,by rw [h2];exact hey⟩
 . rw [h2];exact Zkj (List.mem_map.2 ⟨x,hx,rfl⟩)
 . rw [h2,<- hey]
   simp only [WW,h0,Int.zero_mul,Int.zero_add,Int.sub_zero]
theorem ZcH {s:Season} {x:Scene}:∀ {D:List Draw} {n m:Int},(m<=ZgD s x D n↔m<=n/\∀ d ∈ D,d.water > 0->m<=(ZaL s x ⟨0,d.well,⟨0,0⟩,⟨d.day,0⟩⟩).tdiv d.water)
 | [],n,m=>by simp [ZgD]
 | d :: r,n,m=>by
  rw [ZgD,ZcH]
  simp only [List.mem_cons,forall_eq_or_imp]
  split
  . rename_i h
    constructor
    . rintro ⟨h1,h2⟩;exact ⟨by omega,fun _=>by omega,h2⟩
    . rintro ⟨h1,h2,h3⟩;exact ⟨by have:=h2 h;omega,h3⟩
  . rename_i h
    constructor
    . rintro ⟨h1,h2⟩;exact ⟨h1,fun q=>absurd q h,h2⟩
    . rintro ⟨h1,_,h3⟩;exact ⟨h1,h3⟩
theorem Zi1 {s:Season} {x:Scene} (h:∀ st:Stop,0<=ZaL s x st):∀ {D:List Draw} {n:Int},0<=n->0<=ZgD s x D n
 | [],n,hn=>hn
 | d :: r,n,hn=>by
  rw [ZgD]
  refine Zi1 h ?_
  split
  . have:=Int.tdiv_nonneg (h ⟨0,d.well,⟨0,0⟩,⟨d.day,0⟩⟩) (show (0:Int)<=d.water by omega)
    omega
  . exact hn
theorem Zcb {n:Int}:∀ {g:List (Int × Int)} {i:Nat},UD n g i=none↔∀ q ∈ g,n * q.1<=q.2
 | [],_=>by simp [UD]
 | p :: r,i=>by
  simp only [UD,List.mem_cons,forall_eq_or_imp]
  split
  . rename_i h
    constructor
    . intro q;cases q
    . rintro ⟨q,_⟩;omega
  . rename_i h
    rw [Zcb]
    exact ⟨fun q=>⟨by omega,q⟩,fun q=>q.2⟩
theorem ZvT {n:Int} {g:Int × Int × List (Int × Int)}:(Zab n g).1=0↔g.1=0/\∀ q ∈ g.2.2,n * q.1<=q.2:=by
 unfold Zab
 rw [<- Zcb (i:=0)]
 split
 . rename_i i h;rw [h];simp
 . rename_i h;rw [h];simp
theorem ZbA {s:Season} {a:List Int} {n k:Int} {x:Scene} (hn:n≠0):(Yq s ⟨a,n,k⟩ x).1=0↔XV s a=true/\(goF s x k (Zz s a)).1=0/\∀ q ∈ (goF s x k (Zz s a)).2.2,n * q.1<=q.2:=by
 unfold Yq
 cases h:XV s a with
 | false=>simp
 | true =>
  simp only [Bool.true_eq_false,if_false]
  rw [if_neg hn,ZvT]
  simp
def Zr8 (s:Season) (x:Scene) (l:List Stop) (acc:List (Int × Int)):Prop:=∀ (i:Nat) (st:Stop) (q:Int × Int),l[i]? = some st->acc[i]? = some q->q.2=ZaL s x st
theorem Zir {s:Season} {x:Scene} {slabs:Int} {L:List Stop}:∀ {l:List Stop} {i:Nat} {c:Camel} {acc:List (Int × Int)},Zr8 s x L acc->L.drop acc.length=l->Zr8 s x L (goG s x slabs l i c acc).2.2
 | [],_,_,_,h,_=>h
 | st :: r,i,c,acc,h,hl=>by
  simp only [goG]
  split
  . exact h
  have hj:acc.length < L.length:=by
   apply Classical.byContradiction
   intro q;rw [List.drop_eq_nil_of_le (by omega)] at hl;cases hl
  have hst:L[acc.length]? = some st:=by
   have:=List.getElem?_drop (xs:=L) (i:=acc.length) (j:=0)
   rw [hl] at this;simpa using this.symm
  split
  . rename_i hr
    subst hr
    simp only [goG];exact h
  refine Zir ?_ ?_
  . intro j t q hjt hq
    by_cases hlt:j < acc.length
    . rw [List.getElem?_append_left hlt] at hq;exact h j t q hjt hq
    . by_cases he:j=acc.length
      . subst he
        rw [hst] at hjt;cases hjt
        simp only [List.getElem?_append_right (Nat.le_refl _),Nat.sub_self,List.getElem?_cons_zero,Option.some.injEq] at hq
        subst hq;rfl
      . rw [List.getElem?_eq_none (by simp;omega)] at hq;cases hq
  . rw [List.length_append,List.length_cons,List.length_nil,<- List.drop_drop,hl];rfl
theorem Zvp {s:Season} {x:Scene} {slabs:Int} {l:List Stop}:Zr8 s x l (goF s x slabs l).2.2:=by
 unfold goF
 split
 . intro j t q _ hq;simp at hq
 . exact Zir (fun j t q _ hq=>by simp at hq) rfl
theorem Zfh {s:Season} {x:Scene} {st:Stop}:ZaL s x ⟨0,st.well,⟨0,0⟩,⟨st.arrives.lo,0⟩⟩=ZaL s x st:=rfl
theorem ZeQ {m a w:Int} (ha:0<=a) (hw:0 < w):m<=a.tdiv w↔m * w<=a:=by
 rw [Int.tdiv_eq_ediv_of_nonneg ha];exact Int.le_ediv_iff_mul_le hw
theorem ZvJ {s:Season} {x:Scene} {a:List Int} {k n m:Int} (hm:1<=m) (hb:ZA s.breed=true) (hc:Zy s.breed s.camel=true) (hh:∀ st:Stop,0<=ZaL s x st) (h1:(Yq s ⟨a,1,k⟩ x).1=0) :
 m<=ZgD s x (XU s ⟨a,1,k⟩ x) n↔m<=n/\(Yq s ⟨a,m,k⟩ x).1=0:=by
 obtain ⟨hs,hg,hq⟩:=(ZbA (by decide)).1 h1
 rw [ZcH,ZbA (by omega)]
 have hbd:=ZhD (x:=x) (slabs:=k) (l:=Zz s a) hb hc
 have hha:=Zvp (s:=s) (x:=x) (slabs:=k) (l:=Zz s a)
 unfold XU
 rw [if_pos h1]
 show (m<=n/\∀ d ∈ Xt s x 1 k (Zz s a),_)↔_
 unfold Xt
 by_cases hl:Zz s a=[]
 . rw [if_pos hl]
   have hz:(goF s x k (Zz s a)).2.2=[]:=by
    have:=hbd.2;rw [hl] at this ⊢;exact List.eq_nil_of_length_eq_zero (by simpa using this)
   rw [hz]
   simp [hs,hg]
 rw [if_neg hl,if_neg (by decide)]
 refine and_congr_right fun _=>⟨fun h=>⟨hs,hg,fun q hq'=>?_⟩,fun h d hd hw=>?_⟩
 . obtain ⟨i,hi,rfl⟩:=List.getElem_of_mem hq'
   have hi':i < (Zz s a).length:=by omega
   have e:=hha i _ _ (List.getElem?_eq_getElem hi') (List.getElem?_eq_getElem hi)
   have hnn:=hbd.1 _ hq'
   by_cases hp:0 < ((goF s x k (Zz s a)).2.2[i]).1
   . have hd:Vg 1 (Zz s a)[i] (goF s x k (Zz s a)).2.2[i] ∈ X6 1 (Zz s a) (goF s x k (Zz s a)).2.2:=by
      unfold X6
      have:(List.zipWith (Vg 1) (Zz s a) (goF s x k (Zz s a)).2.2)[i]? = some (Vg 1 (Zz s a)[i] (goF s x k (Zz s a)).2.2[i]):=by
       rw [List.getElem?_zipWith,List.getElem?_eq_getElem hi',List.getElem?_eq_getElem hi]
      exact List.mem_of_getElem? this
     have:=h _ hd (by simp only [Vg];omega)
     simp only [Vg] at this
     rw [Zfh,<- e,Int.one_mul,ZeQ (by rw [e];exact hh _) hp] at this
     exact this
   . have:((goF s x k (Zz s a)).2.2[i]).1=0:=by omega
     rw [this,Int.mul_zero,e];exact hh _
 . unfold X6 at hd
   obtain ⟨i,hi,rfl⟩:=List.getElem_of_mem hd
   simp only [List.length_zipWith] at hi
   have hi':i < (Zz s a).length:=by omega
   have hi2:i < (goF s x k (Zz s a)).2.2.length:=by omega
   rw [List.getElem_zipWith] at hw ⊢
   simp only [Vg,Int.one_mul] at hw ⊢
   have e:=hha i _ _ (List.getElem?_eq_getElem hi') (List.getElem?_eq_getElem hi2)
   rw [Zfh,ZeQ (hh _) hw,<- e]
   exact h.2.2 _ (List.getElem_mem hi2)
theorem Zfb {s:Season} {a:List Int} {k m:Int} (hm:1<=m) (hb:ZA s.breed=true) (hc:Zy s.breed s.camel=true):∀ {l:List Scene} {n:Int},(∀ x ∈ l,∀ st:Stop,0<=ZaL s x st) ->
 (m<=Ziz s a k l n↔m<=n/\∀ x ∈ l,(Yq s ⟨a,m,k⟩ x).1=0)
 | [],n,_=>by simp [Ziz]
 | x :: r,n,hh=>by
  have hx:=hh x (List.mem_cons_self ..)
  rw [Ziz]
  simp only [List.mem_cons,forall_eq_or_imp]
  by_cases h1:(Yq s ⟨a,1,k⟩ x).1=0
  . rw [if_neg (by simpa using h1),Zfb hm hb hc (fun y hy=>hh y (List.mem_cons_of_mem _ hy)),ZvJ hm hb hc hx h1]
    exact and_assoc
  . rw [if_pos h1]
    constructor
    . intro q;omega
    . rintro ⟨_,q,_⟩
      refine absurd ?_ h1
      obtain ⟨q1,q2,q3⟩:=(ZbA (by omega)).1 q
      refine (ZbA (by decide)).2 ⟨q1,q2,fun q hq=>?_⟩
      have h2:=q3 q hq
      have h3:=(ZhD (x:=x) (slabs:=k) (l:=Zz s a) hb hc).1 q hq
      have h4:1 * q.1<=m * q.1:=Int.mul_le_mul_of_nonneg_right hm h3.1
      omega
theorem ZiF {s:Season} {a:List Int} {k:Int}:∀ {l:List Scene} {n:Int},0<=n->(∀ x ∈ l,∀ st:Stop,0<=ZaL s x st)->0<=Ziz s a k l n/\Ziz s a k l n<=n
 | [],n,hn,_=>⟨hn,Int.le_refl _⟩
 | x :: r,n,hn,hh=>by
  rw [Ziz]
  split
  . omega
  . have h1:=Zi1 (hh x (List.mem_cons_self ..)) (D:=XU s ⟨a,1,k⟩ x) hn
    have h2:ZgD s x (XU s ⟨a,1,k⟩ x) n<=n:=(ZcH.1 (Int.le_refl _)).1
    have:=ZiF (s:=s) (a:=a) (k:=k) h1 (fun y hy=>hh y (List.mem_cons_of_mem _ hy))
    omega
theorem Zb9 (b:Bst):ZW b b=false:=by simp [ZW,WT]
theorem ZdY {a b c:Bst} (h:ZW a b=true) (h':ZW b c=true):ZW a c=true:=by
 obtain ⟨al,aa,ak,aw⟩:=a;obtain ⟨bl,ba,bk,bw⟩:=b;obtain ⟨cl,ca,ck,cw⟩:=c
 simp only [ZW] at h h' ⊢
 by_cases e1:aw=bw
 . subst e1
   rw [if_neg (by simp)] at h
   by_cases e2:aw=cw
   . subst e2
     rw [if_neg (by simp)] at h' ⊢
     by_cases e3:aa=ba
     . subst e3
       rw [if_neg (by simp)] at h
       by_cases e4:aa=ca
       . subst e4
         rw [if_neg (by simp)] at h' ⊢
         by_cases e5:ak=bk
         . subst e5
           rw [if_neg (by simp)] at h
           by_cases e6:ak=ck
           . subst e6
             rw [if_neg (by simp)] at h' ⊢
             by_cases e7:al.length=bl.length
             . rw [if_neg (by simp [e7])] at h
               by_cases e8:al.length=cl.length
               . rw [if_neg (by omega)] at h' ⊢
                 exact Ws h h'
               . rw [if_pos (by omega)] at h' ⊢
                 rw [decide_eq_true_eq] at h' ⊢;omega
             . rw [if_pos (by omega),decide_eq_true_eq] at h
               by_cases e8:bl.length=cl.length
               . rw [if_pos (by omega),decide_eq_true_eq];omega
               . rw [if_pos (by omega),decide_eq_true_eq] at h'
                 rw [if_pos (by omega),decide_eq_true_eq];omega
           . rw [if_pos e6] at h' ⊢;exact h'
         . rw [if_pos e5,decide_eq_true_eq] at h
           by_cases e6:bk=ck
           . subst e6;rw [if_pos e5,decide_eq_true_eq];exact h
           . rw [if_pos e6,decide_eq_true_eq] at h'
             rw [if_pos (by omega),decide_eq_true_eq];omega
       . rw [if_pos e4] at h' ⊢;exact h'
     . rw [if_pos e3,decide_eq_true_eq] at h
       by_cases e4:ba=ca
       . subst e4;rw [if_pos e3,decide_eq_true_eq];exact h
       . rw [if_pos e4,decide_eq_true_eq] at h'
         rw [if_pos (by omega),decide_eq_true_eq];omega
   . rw [if_pos e2] at h' ⊢;exact h'
 . rw [if_pos e1,decide_eq_true_eq] at h
   by_cases e2:bw=cw
   . subst e2;rw [if_pos e1,decide_eq_true_eq];exact h
   . rw [if_pos e2,decide_eq_true_eq] at h'
     rw [if_pos (by omega),decide_eq_true_eq];omega
structure Top (b0:Bst) (C:Bst->Prop) (b:Bst):Prop where
 is:b=b0\/C b
 init:ZW b0 b=false
 all:∀ q,C q->ZW q b=false
theorem Top.zero {b0:Bst}:Top b0 (fun _=>False) b0:=⟨.inl rfl,Zb9 _,fun _ h=>h.elim⟩
theorem Top.congr {b0:Bst} {C C':Bst->Prop} {b:Bst} (h:Top b0 C b) (hc:∀ q,C' q↔C q):Top b0 C' b:=⟨h.is.imp id (hc b).2,h.init,fun q hq=>h.all q ((hc q).1 hq)⟩
theorem Top.take {b0:Bst} {C:Bst->Prop} {b:Bst} (h:Top b0 C b) (q:Bst):Top b0 (fun r=>C r\/r=q) (ZkW b q):=by
 unfold ZkW
 have up:∀ r,ZW r b=false->ZW q b=true->ZW r q=false:=fun r h1 h2=>by
  cases h3:ZW r q with
  | false=>rfl
  | true=>have:=ZdY h3 h2;rw [h1] at this;cases this
 cases hq:ZW q b with
 | false =>
  simp only [Bool.false_eq_true,if_false]
  exact ⟨h.is.imp id .inl,h.init,fun r hr=>hr.elim (h.all r) (fun e=>e ▸ hq)⟩
 | true =>
  simp only [if_true]
  exact ⟨.inr (.inr rfl),up _ h.init hq,fun r hr=>hr.elim (fun q=>up r (h.all r q) hq) (fun e=>e ▸ Zb9 _)⟩
theorem Top.fold {α : Type} {b0:Bst} {f:Bst->α->Bst} {P:α->Bst->Prop} (hf:∀ {C:Bst->Prop} {b:Bst} (x:α),Top b0 C b->Top b0 (fun r=>C r\/P x r) (f b x)) :
 ∀ {l:List α} {C:Bst->Prop} {b:Bst},Top b0 C b->Top b0 (fun r=>C r\/∃ x ∈ l,P x r) (l.foldl f b)
 | [],C,b,h=>h.congr fun q=>by simp
 | x :: r,C,b,h=>(Top.fold hf (l:=r) (hf x h)).congr fun q=>by
  simp only [List.mem_cons,exists_eq_or_imp,or_assoc]
def Zta (s:Season) (to:Int) (a:List Nat) (k:Int) (n:Nat) (r:Bst):Prop:=∃ m:Nat,1<=m/\m<=n/\r=YU s to a k m
theorem Zfe {s:Season} {to:Int} {a:List Nat} {k:Int} {b0:Bst}:∀ {n:Nat} {C:Bst->Prop} {b:Bst},Top b0 C b->Top b0 (fun r=>C r\/Zta s to a k n r) (Zds s to a k n b)
 | 0,C,b,h=>h.congr fun q=>by
  constructor
  . rintro (q | ⟨m,h1,h2,_⟩)
    . exact q
    . omega
  . exact .inl
 | n+1,C,b,h=>(Zfe (n:=n) (h.take (YU s to a k (n+1:Nat)))).congr fun q=>by
  constructor
  . rintro (q | ⟨m,h1,h2,e⟩)
    . exact .inl (.inl q)
    . by_cases hm:m=n+1
      . subst hm;exact .inl (.inr e)
      . exact .inr ⟨m,h1,by omega,e⟩
  . rintro ((q | e) | ⟨m,h1,h2,e⟩)
    . exact .inl q
    . exact .inr ⟨n+1,by omega,Nat.le_refl _,e⟩
    . exact .inr ⟨m,h1,by omega,e⟩
def WayC (s:Season) (to:Int) (a:List Nat) (r:Bst):Prop:=∃ k ∈ List.range 13,Zta s to a k (Zbc s (Yv a) k).toNat r
theorem Ztg {s:Season} {to:Int} {b0:Bst} {C:Bst->Prop} {b:Bst} (a:List Nat) (h:Top b0 C b):Top b0 (fun r=>C r\/WayC s to a r) (Zwi s to b a) :=
 Top.fold (f:=ZhK s to a) (P:=fun k r=>Zta s to a k (Zbc s (Yv a) k).toNat r) (fun k h=>Zfe h) h
def ZwM (s:Season) (g:Nat) (r:Bst):Prop:=∃ a ∈ Uq s.land s.pace s.start g s.day s.till,WayC s g a r
theorem ZdW {s:Season} {b0:Bst}:∀ {l:List Nat} {C:Bst->Prop} {b c:Bst},Top b0 C b->US s l b=some c->Top b0 (fun r=>C r\/∃ g ∈ l,ZwM s g r) c/\∀ g ∈ l,ZbW s.land s.pace s.start g s.day s.till=0
 | [],C,b,c,h,e=>by
  simp only [US,Option.some.injEq] at e;subst e
  exact ⟨h.congr fun q=>by simp,by simp⟩
 | g :: r,C,b,c,h,e=>by
  simp only [US] at e
  split at e
  . cases e
  rename_i hz
  obtain ⟨h1,h2⟩:=ZdW (Top.fold (f:=Zwi s g) (P:=fun a r=>WayC s g a r) (fun a h=>Ztg a h) h) e
  refine ⟨h1.congr fun q=>?_,fun g' hg'=>?_⟩
  . simp only [List.mem_cons,exists_eq_or_imp,or_assoc];rfl
  . rcases List.mem_cons.1 hg' with rfl | hg'
    . simpa using hz
    . exact h2 g' hg'
structure Ready (l:Land) (p:Span):Prop where
 small:WZ l
 ok:OkLP l p
theorem Zq8 {n day:Int} {o s:Gate->Int} {t:Int} (ht:t<=100000):∀ {l:List Gate} {a:Int},Zdh n day o s a l<=t↔a<=t\/∃ g ∈ l,max day (o g)+n - 1<=s g/\max day (o g)<=t
 | [],a=>by simp [Zdh]
 | g :: l,a=>by
  simp only [Zdh]
  rw [Zq8 ht (l:=l)]
  simp only [List.mem_cons,exists_eq_or_imp]
  by_cases h:max day (o g)+n - 1<=s g
  . rw [if_pos h]
    constructor
    . rintro (q | q)
      . by_cases ha:a<=t
        . exact .inl ha
        . exact .inr (.inl ⟨h,by omega⟩)
      . exact .inr (.inr q)
    . rintro (q | q | q)
      . exact .inl (by omega)
      . exact .inl (by have:=q.2;omega)
      . exact .inr q
  . rw [if_neg h]
    constructor
    . rintro (q | q)
      . exact .inl q
      . exact .inr (.inr q)
    . rintro (q | q | q)
      . exact .inl q
      . exact absurd q.1 h
      . exact .inr q
def oK (k:Bool) (g:Gate):Int:=bif k then g.opens.hi else g.opens.lo
def sK (k:Bool) (g:Gate):Int:=bif k then g.shuts.lo else g.shuts.hi
theorem ZhS {k:Bool} {x:Leg} {p:Span} {t u:Int} (h:GoodLeg x) (hp:Z1 p=true) (hu:u<=100000) :
 leK k x p t<=u↔∃ g ∈ x.gates,max t (oK k g)+nK k x p - 1<=sK k g/\max t (oK k g)<=u:=by
 rw [(ZaT (k:=k) (t:=t) h hp).1,Zq8 hu]
 constructor
 . rintro (q | q)
   . omega
   . exact q
 . exact fun q=>.inr q
theorem Zrj {k:Bool} {x:Leg} {p:Span} {t:Int} (h:GoodLeg x) (hp:Z1 p=true) (ht:t<=100001):t<=leK k x p t/\leK k x p t<=100001:=by
 have hn:=ZjM (k:=k) h hp
 obtain ⟨_,a2,a3⟩:=ZaT (k:=k) (t:=t) h hp
 have:=ZeA (day:=t) (o:=fun g=>bif k then g.opens.hi else g.opens.lo) hn.1 a3
 refine ⟨?_,by omega⟩
 apply Classical.byContradiction
 intro q
 obtain ⟨g,hg,h1,h2⟩:=(ZhS (k:=k) (t:=t) (u:=leK k x p t) h hp (by omega)).1 (Int.le_refl _)
 omega
theorem Zeh {a b:Int} (ha:1<=a) (hb:1<=b):a<=(a+b - 1).tdiv b * b/\((a+b - 1).tdiv b - 1) * b < a:=by
 rw [Int.tdiv_eq_ediv_of_nonneg (by omega)]
 have h1:=Int.emod_add_mul_ediv (a+b - 1) b
 have h2:=Int.emod_nonneg (a+b - 1) (show b≠0 by omega)
 have h3:=Int.emod_lt_of_pos (a+b - 1) (show 0 < b by omega)
 rw [Int.sub_mul,Int.mul_comm ((a+b - 1) / b) b]
 omega
theorem ZkS {x:Leg} {p:Span} (h:GoodLeg x) (hp:Z1 p=true):nK false x p<=nK true x p:=by
 simp only [Z1,Ya,decide_eq_true_eq] at hp
 obtain ⟨h1,h2,h3,_,_⟩:=h
 simp only [nK,cond_true,cond_false,Zb5]
 have u:=Zeh (a:=x.long.lo) (b:=p.hi) h1 (by omega)
 have v:=Zeh (a:=x.long.hi) (b:=p.lo) (by omega) (by omega)
 have w:0<=(x.long.hi+p.lo - 1).tdiv p.lo:=Int.tdiv_nonneg (by omega) (by omega)
 generalize (x.long.lo+p.hi - 1).tdiv p.hi=A at *
 generalize (x.long.hi+p.lo - 1).tdiv p.lo=B at *
 have q:=Int.mul_le_mul_of_nonneg_left hp.2.1 w
 apply Classical.byContradiction
 intro hc
 have q2:B * p.hi<=(A - 1) * p.hi:=Int.mul_le_mul_of_nonneg_right (by omega) (by omega)
 omega
theorem Zok {x:Leg} {p:Span} {t:Int} (h:GoodLeg x) (hp:Z1 p=true) (ht:t<=100001):leK false x p t<=leK true x p t:=by
 have b0:=Zrj (k:=false) h hp ht
 have b1:=Zrj (k:=true) h hp ht
 have hn:=ZkS h hp
 apply Classical.byContradiction
 intro q
 obtain ⟨g,hg,h1,h2⟩:=(ZhS (k:=true) (t:=t) (u:=leK true x p t) h hp (by omega)).1 (Int.le_refl _)
 have hm:=Xe h.g2 (Int.le_refl _) g hg
 simp only [oK,sK,cond_true] at h1 h2
 exact q ((ZhS (k:=false) h hp (by omega)).2 ⟨g,hg,by simp only [oK,sK,cond_false];omega,by simp only [oK,cond_false];omega⟩)
end Go.Azalai
namespace Go.Proofs.YtiigiflofnjilaaGreat
open Go Go.Sx Go.Azalai
end Go.Proofs.YtiigiflofnjilaaGreat
namespace Go.Azalai
theorem Zjo {x:Leg} {p:Span} {t t':Int} (h:GoodLeg x) (hp:Z1 p=true) (ht:t<=t') (ht':t'<=100001):ZO false x p t<=ZO true x p t':=by
 have h1:=Za8 (k:=false) h hp ht
 have h2:=Zok (t:=t') h hp ht'
 have h3:=ZkS h hp
 simp only [ZO] at *;omega
def Trk (l:Land) (p:Span):Int->Int->Int->List Int->List Stop->Prop
 | _,_,_,[],[]=>True
 | v,a,b,i :: r,s :: ss=>∃ (k:Nat) (x:Leg),i=k/\l.legs[k]? = some x/\0<=Zj x v/\ZO true x p b<=100000 /\
  s=⟨k,Zj x v,⟨leK false x p a,leK true x p b⟩,⟨ZO false x p a,ZO true x p b⟩⟩/\Trk l p (Zj x v) (ZO false x p a) (ZO true x p b) r ss
 | _,_,_,_,_=>False
theorem Trk.len {l:Land} {p:Span}:∀ {legs:List Int} {ss:List Stop} {v a b:Int},Trk l p v a b legs ss->ss.length=legs.length
 | [],[],_,_,_,_=>rfl
 | i :: r,s :: ss,_,_,_,h=>by obtain ⟨_,_,_,_,_,_,_,h⟩:=h;simp [h.len]
 | [],_ :: _,_,_,_,h=>h.elim
 | _ :: _,[],_,_,_,h=>h.elim
theorem Trk.at {l:Land} {p:Span} (h:OkLP l p):∀ {legs:List Int} {ss:List Stop} {v a b:Int},Trk l p v a b legs ss->a<=b->b<=100000->∀ (i:Nat) (s:Stop),ss[i]? = some s ->
 ∃ c:List Nat,c.length=i+1/\legs.take (i+1)=c.map (fun n:Nat=>(n:Int))/\goW true l p v b c=some (s.well,s.arrives.hi)/\goW false l p v a c=some (s.well,s.arrives.lo)
 | [],[],_,_,_,_,_,_,i,s,hs=>by simp at hs
 | j :: r,s0 :: ss,v,a,b,q,hab,hb,i,s,hs=>by
  obtain ⟨k,x,rfl,hx,ho,hr,rfl,q⟩:=q
  have hm:=Zjo (h.leg hx) h.pace hab (by omega)
  cases i with
  | zero =>
   simp only [List.getElem?_cons_zero,Option.some.injEq] at hs
   subst hs
   refine ⟨[k],rfl,by simp,?_,?_⟩
   . simp only [goW,hx];rw [if_neg (by omega),if_neg (by omega)]
   . simp only [goW,hx];rw [if_neg (by omega),if_neg (by omega)]
  | succ i =>
   simp only [List.getElem?_cons_succ] at hs
   obtain ⟨c,h1,h2,h3,h4⟩:=Trk.at h q hm hr i s hs
   refine ⟨k :: c,by simp [h1],by simp [h2],?_,?_⟩
   . simp only [goW,hx];rw [if_neg (by omega),if_neg (by omega)];exact h3
   . simp only [goW,hx];rw [if_neg (by omega),if_neg (by omega)];exact h4
 | [],_ :: _,_,_,_,q,_,_,_,_,_=>q.elim
 | _ :: _,[],_,_,_,q,_,_,_,_,_=>q.elim
theorem Zlv {l:Land} {p:Span}:∀ {legs:List Int} {v a b:Int} {k:Nat} {acc ss:List Stop} {at':Int},XX l v legs k=none->goS l p v a b legs k acc=(ss,at',0)->∃ tt,ss=acc ++ tt/\at'=0/\Trk l p v a b legs tt
 | [],v,a,b,k,acc,ss,at',_,h=>by
  simp only [goS,Prod.mk.injEq] at h
  exact ⟨[],by simp [h.1],h.2.1.symm,trivial⟩
 | i :: r,v,a,b,k,acc,ss,at',hb,h=>by
  simp only [XX] at hb
  by_cases he:W0 l i v < 0
  . rw [if_pos he] at hb;cases hb
  rw [if_neg he] at hb
  obtain ⟨n,x,rfl,hn,hx,_,e⟩:=UJ he
  simp only [goS,Int.toNat_natCast,hx] at h
  by_cases hr:ZO true x p b > 100000
  . rw [if_pos hr] at h;simp at h
  rw [if_neg hr] at h
  rw [e] at hb he
  obtain ⟨tt,e1,e2,e3⟩:=Zlv hb h
  exact ⟨_ :: tt,by rw [e1,List.append_assoc];rfl,e2,n,x,rfl,hx,by omega,by omega,rfl,e3⟩
theorem Zcu {l:Land} {p:Span} {s day:Int} {legs:List Int} {ss:List Stop} {at':Int} (h:YE l p s day legs=(ss,at',0)):at'=0/\Trk l p s day day legs ss:=by
 unfold YE at h
 split at h
 . rename_i q;simp at h;exact absurd h.2.2 q
 split at h
 . simp at h
 split at h
 . simp at h
 split at h
 . simp at h
 . rename_i q
   obtain ⟨tt,rfl,e2,e3⟩:=Zlv q h
   exact ⟨e2,by simpa using e3⟩
theorem Zh7 {l:Land} {p:Span}:∀ {c:List Nat} {v a b w u:Int} {k:Nat} {acc:List Stop},goW true l p v b c=some (w,u) ->
 XX l v (c.map fun n:Nat=>(n:Int)) k=none/\∃ ss,goS l p v a b (c.map fun n:Nat=>(n:Int)) k acc=(ss,0,0)
 | [],v,a,b,w,u,k,acc,_=>⟨rfl,acc,rfl⟩
 | i :: c,v,a,b,w,u,k,acc,h=>by
  simp only [goW] at h
  cases hx:l.legs[i]? with
  | none=>rw [hx] at h;cases h
  | some x =>
   rw [hx] at h
   simp only at h
   by_cases ho:Zj x v < 0
   . rw [if_pos ho] at h;cases h
   rw [if_neg ho] at h
   by_cases hr:ZO true x p b > 100000
   . rw [if_pos hr] at h;cases h
   rw [if_neg hr] at h
   have hi:i < l.legs.length:=(List.getElem?_eq_some_iff.1 hx).1
   have he:W0 l (i:Int) v=Zj x v:=by rw [ZaE hi,(List.getElem?_eq_some_iff.1 hx).2]
   obtain ⟨h1,_⟩:=Zh7 (a:=ZO false x p a) (k:=k+1) (acc:=[]) h
   refine ⟨?_,?_⟩
   . simp only [List.map_cons,XX,he];rw [if_neg ho];exact h1
   . obtain ⟨_,ss,h2⟩:=Zh7 (a:=ZO false x p a) (k:=k+1) (acc:=acc ++ [⟨i,Zj x v,⟨leK false x p a,leK true x p b⟩,⟨ZO false x p a,ZO true x p b⟩⟩]) h
     refine ⟨ss,?_⟩
     simp only [List.map_cons,goS,Int.toNat_natCast,hx]
     rw [if_neg hr];exact h2
theorem ZtN {l:Land} {p:Span} (h:OkLP l p) {s day:Int} (hd:0<=day) (hd':day<=100000) (h0:0<=s) (h1:s < l.wells.length) {c:List Nat} {w u:Int} (hc:c.length<=24) (hw:goW true l p s day c=some (w,u)) :
 ∃ ss,YE l p s day (c.map fun n:Nat=>(n:Int))=(ss,0,0):=by
 obtain ⟨e1,ss,e2⟩:=Zh7 (a:=day) (k:=0) (acc:=[]) hw
 refine ⟨ss,?_⟩
 unfold YE
 rw [if_neg (by simp [Zac,h.land,h.pace]),if_neg (by simp [inR];omega),if_neg (by simp;omega),e1]
 exact e2
theorem Gr.ends {l:Land} {p:Span} {s day to best:Int} {n0:Nat} (hg:OkLP l p) (hd:0<=day) (hd':day<=100000) (h0:0<=s) (h1:s < l.wells.length) (hb:best=YI true l p s day to) (hb':best<=100000) :
 ∀ {n:Nat} {v t:Int} {out:List Nat},Gr l p s day to best n0 n v t out->∃ v' t' out',Gr l p s day to best n0 0 v' t' out'
 | 0,v,t,out,h=>⟨v,t,out,h⟩
 | n+1,v,t,out,h=>by
  obtain ⟨i,_,hf⟩:=h.ex hg hd hd' h0 h1 hb hb'
  obtain ⟨m,⟨x,g1,g2,g3,g4⟩,hm⟩:=Go.Sx.least_ex (fun i=>Fit l p to best n v t i) ⟨i,hf⟩
  exact Gr.ends hg hd hd' h0 h1 hb hb' (h.step hg hd hd' h0 h1 hb g1 g2 g3 g4 fun j hj hq=>by have:=hm j hq;omega)
open Go.Sx
def Ua (l:Land) (p:Span) (to till:Int):List Int->Int->Int->List Nat->Prop
 | _,v,t,[]=>v=to/\t<=till
 | been,v,t,i :: r=>∃ x,l.legs[i]? = some x/\0<=Zj x v/\ZO true x p t<=100000/\Zj x v ∉ v :: been/\Ua l p to till (v :: been) (Zj x v) (ZO true x p t) r
theorem Ua.le {l:Land} {p:Span} (h:OkLP l p) {to till:Int}:∀ {a:List Nat} {been:List Int} {v t:Int},Ua l p to till been v t a->t<=100001->t<=till
 | [],_,_,_,q,_=>q.2
 | i :: r,been,v,t,q,ht=>by
  obtain ⟨x,hx,ho,hr,hn,q⟩:=q
  have:=Zbp (k:=true) (h.leg hx) h.pace ht
  have:=Ua.le h q (by omega)
  omega
theorem Ua.nin {l:Land} {p:Span} {to till:Int}:∀ {a:List Nat} {been:List Int} {v t:Int},Ua l p to till been v t a->v ∉ been->to ∉ been
 | [],_,_,_,q,hv=>by rw [<- q.1];exact hv
 | i :: r,been,v,t,q,hv=>by
  obtain ⟨x,hx,ho,hr,hn,q⟩:=q
  have:=Ua.nin q hn
  exact fun h=>this (List.mem_cons_of_mem _ h)
theorem Zh2 {l:Land} {p:Span} (h:OkLP l p) {to till:Int} (htill:till<=100000):∀ {f:Nat} {been:List Int} {v t:Int} {a:List Nat},ZlK l f been->v ∉ been->(0<=v/\v < l.wells.length)->t<=100001 ->
 (a ∈ XC l p to till f been v t↔Ua l p to till been v t a):=by
 intro f
 induction f with
 | zero =>
  intro been v t a hR hv hvi
  obtain ⟨g,q,_⟩:=hR.pos hv hvi
  omega
 | succ f ih =>
  intro been v t a hR hv hvi ht
  obtain ⟨g,hg,hR'⟩:=hR.pos hv hvi
  have hgf:g=f:=by omega
  subst hgf
  rw [YC]
  by_cases h1:t > till
  . rw [if_pos h1]
    constructor
    . intro q;cases q
    . intro q;have:=q.le h ht;omega
  rw [if_neg h1]
  by_cases h2:v=to
  . rw [if_pos h2,List.mem_singleton]
    constructor
    . rintro rfl;exact ⟨h2,by omega⟩
    . intro q
      cases a with
      | nil=>rfl
      | cons i r =>
       obtain ⟨x,hx,ho,hr,hn,q⟩:=q
       have:=q.nin hn
       exact absurd (by simp [h2]) this
  rw [if_neg h2]
  simp only [Z8,List.mem_flatMap,List.mem_range]
  constructor
  . rintro ⟨i,hi,q⟩
    simp only [Y5] at q
    cases hx:l.legs[i]? with
    | none=>rw [hx] at q;cases q
    | some x =>
     rw [hx] at q
     simp only at q
     by_cases hc:Zj x v < 0\/Zj x v ∈ v :: been
     . rw [if_pos hc] at q;cases q
     rw [if_neg hc] at q
     obtain ⟨r,hr,rfl⟩:=List.mem_map.1 q
     have ho:¬ Zj x v < 0:=fun z=>hc (.inl z)
     have hn:Zj x v ∉ v :: been:=fun z=>hc (.inr z)
     have ha:=Xw (k:=true) (h.leg hx) h.pace ht
     have hr':=(ih hR' hn (ZV h hx ho).1 (by omega)).1 hr
     refine ⟨x,hx,by omega,?_,hn,hr'⟩
     have:=hr'.le h (by omega)
     omega
  . intro q
    cases a with
    | nil=>exact absurd q.1 h2
    | cons i r =>
     obtain ⟨x,hx,ho,hr,hn,q⟩:=q
     refine ⟨i,(List.getElem?_eq_some_iff.1 hx).1,?_⟩
     rw [Wv hx (by omega) hn]
     exact List.mem_map.2 ⟨r,(ih hR' hn (ZV h hx (by omega)).1 (by omega)).2 q,rfl⟩
theorem Zly {l:Land} {p:Span}:∀ {legs:List Int} {ss:List Stop} {v a b:Int},Trk l p v a b legs ss->∃ c:List Nat,legs=c.map fun n:Nat=>(n:Int)
 | [],_,_,_,_,_=>⟨[],rfl⟩
 | i :: r,s :: ss,v,a,b,h=>by
  obtain ⟨k,x,hk,hx,ho,hr,_,h⟩:=h
  obtain ⟨c,rfl⟩:=Zly h
  exact ⟨k :: c,by simp [hk]⟩
 | _ :: _,[],_,_,_,h=>h.elim
theorem Ua.len {l:Land} {p:Span} (h:OkLP l p) {to till:Int}:∀ {a:List Nat} {f:Nat} {been:List Int} {v t:Int},Ua l p to till been v t a->ZlK l f been->v ∉ been->(0<=v/\v < l.wells.length)->a.length+1<=f
 | [],f,been,v,t,q,hR,hv,hi=>by obtain ⟨g,hg,_⟩:=hR.pos hv hi;simp;omega
 | i :: r,f,been,v,t,q,hR,hv,hi=>by
  obtain ⟨g,hg,hR'⟩:=hR.pos hv hi
  obtain ⟨x,hx,ho,hr,hn,q⟩:=q
  have:=Ua.len h q hR' hn (ZV h hx (by omega)).1
  simp;omega
end Go.Azalai
