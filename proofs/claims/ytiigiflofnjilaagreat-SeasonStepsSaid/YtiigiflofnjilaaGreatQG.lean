/- Walks and plain laws that lead to the given statement, part 7 of 9. -/
import Derived.Test.YtiigiflofnjilaaGreatQF
import Derived.Test.YtiigiflofnjilaaGreatProg
import Derived.WideLaws
set_option maxRecDepth 100000
set_option maxHeartbeats 8000000
set_option linter.all false
open Nat renaming reduceAdd->rA,reduceMul->rM,reduceSub->rS,beq_refl->nbr
namespace Go.Proofs.YtiigiflofnjilaaGreat
open Go Go.Sx Go.Azalai
theorem Zaq {α : Type} (p:α->Bool) {l:List α} {k:Nat} (h:k < l.length):(l.drop k).all p=(p l[k] && (l.drop (k+1)).all p):=by
 rw [List.drop_eq_getElem_cons h,List.all_cons]
theorem ibne (a b:Nat):((a:Int) != (b:Int)) = !decide (a=b):=by
 rw [Bool.eq_iff_iff];simp [bne];omega
theorem okX1 (n:Nat) (x:Scene):(!Z9 0 60 x.heat || !Z9 0 1000000 x.grass || (x.yields.length:Int) != (n:Int) || !x.yields.all (Z9 0 10000000) || (x.prices.length:Int) != (n:Int) || !x.prices.all (inR 0 1000000)) = !Yg n x:=by
 simp only [ibne,Yg]
 generalize Z9 0 60 x.heat=a;generalize Z9 0 1000000 x.grass=b;generalize decide (x.yields.length=n)=c;generalize decide (x.prices.length=n)=d
 generalize x.yields.all (Z9 0 10000000)=e;generalize x.prices.all (inR 0 1000000)=f
 revert a b c d e f;decide
theorem okX2 (n:Nat) (x:Scene) (h:(!Z9 0 60 x.heat || !Z9 0 1000000 x.grass || (x.yields.length:Int) != (n:Int) || (x.prices.length:Int) != (n:Int))=true):Yg n x=false:=by
 simp only [ibne] at h;simp only [Yg]
 revert h
 generalize Z9 0 60 x.heat=a;generalize Z9 0 1000000 x.grass=b;generalize decide (x.yields.length=n)=c;generalize decide (x.prices.length=n)=d
 generalize x.yields.all (Z9 0 10000000)=e;generalize x.prices.all (inR 0 1000000)=f
 revert a b c d e f;decide
theorem okX3 (n:Nat) (x:Scene) (h:(!Z9 0 60 x.heat || !Z9 0 1000000 x.grass || (x.yields.length:Int) != (n:Int) || (x.prices.length:Int) != (n:Int))=false) :
 Yg n x=(x.yields.all (Z9 0 10000000) && x.prices.all (inR 0 1000000))/\x.yields.length=n/\x.prices.length=n:=by
 simp only [ibne,Bool.or_eq_false_iff,Bool.not_eq_false',decide_eq_true_eq] at h
 obtain ⟨⟨⟨h1,h2⟩,h3⟩,h4⟩:=h
 refine ⟨?_,h3,h4⟩
 simp only [Yg,h1,h2,h3,h4,decide_true,Bool.true_and]
theorem ZkR (s:Season) (hs:SmallS s):∃ xs:List (List SV),KFR xs/\Ct Tryz.prog 52 [.agg (ZY s.land),I s.start,I s.day,.agg (Zd s.pace)] (.tup [.sl false 2 xs,I (XZ s.land s.pace s.start s.day)]):=by
 have h:=ZdL s.land hs.land s.start s.day s.pace
 unfold XB at h;split at h
 . exact ⟨_,by simp [Za,Zd,KFL,KF],h⟩
 . exact ⟨[],trivial,h.res (res0:=.tup [.sl false 2 [],I (XZ s.land s.pace s.start s.day)]) (by simp [Za,KFR,KFL,KF]) (X1 (ZO YA XV))⟩
theorem ZiF {s:Season}:XZ s.land s.pace s.start s.day=0↔ZM s.land=true/\Z1 s.pace=true/\inR 0 (s.land.wells.length - 1) s.start=true/\inR 0 100000 s.day=true:=by
 unfold XZ Zae
 cases ZM s.land<;>cases Z1 s.pace<;>cases inR 0 (s.land.wells.length - 1) s.start<;>cases inR 0 100000 s.day<;>simp
theorem Zfh (s:Season):ZA s=((decide (XZ s.land s.pace s.start s.day=0) && decide (Zaa s.breed s.camel=0) && Zac s && inR 1 4 s.scenes.length) && s.scenes.all (Yg s.land.wells.length)):=by
 have hd:Zac s=true->inR 0 100000 s.day=true:=fun h=>by
  simp only [Zac,inR,Bool.and_eq_true,decide_eq_true_eq] at h ⊢;omega
 have hr:decide (XZ s.land s.pace s.start s.day=0)=(ZM s.land && Z1 s.pace && inR 0 (s.land.wells.length - 1) s.start && inR 0 100000 s.day):=by
  rw [Bool.eq_iff_iff,decide_eq_true_eq,ZiF];simp only [Bool.and_eq_true,and_assoc]
 rw [hr]
 simp only [ZA]
 cases hn:Zac s
 . simp
 . rw [hd hn]
   cases ZM s.land<;>cases Z1 s.pace<;>cases inR 0 (s.land.wells.length - 1) s.start<;>simp
theorem ZaK (s:Season) (hs:SmallS s):Ct Tryz.prog 16 [.agg (Zr s)] (I (if ZA s=true then 0 else 90)):=by
 have hw:=hs.land.1
 have hsc:=hs.sc
 refine t16.1 (by simp [Zr,Zj,Ze,Zm,Zg,Zd,Zo,Za,KFL,KF]) (by simp [KFL,KF]) ?_
 dsimp only [c16,r16,Zr,go_sem,rA,rM,rS]
 obtain ⟨x,hx0,hc⟩:=ZkR s hs
 refine call hc ?_
 dsimp only [go_sem,rA,rM,rS]
 repeat (first | (refine gb ?_;dsimp only [go_sem,rA,rM,rS]) | (refine call (ZfC _ _ _ _) ?_;dsimp only [go_sem,rA,rM,rS]) | (refine call (Zq0 _ _ _ _ _) ?_;dsimp only [go_sem,rA,rM,rS]) | (refine call (Cm.checkCamel_ok s.breed s.camel) ?_;dsimp only [go_sem,rA,rM,rS]))
 simp only [List.length_map]
 by_cases hA:(decide (XZ s.land s.pace s.start s.day=0) && decide (Zaa s.breed s.camel=0) && Zac s && inR 1 4 s.scenes.length)=true
 case neg =>
  refine Zu ?_ ?_
  . simp only [Zac] at hA;grind
  dsimp only [go_sem,rA,rM,rS]
  rw [Zfh,Bool.eq_false_iff.2 hA,Bool.false_and];rfl
 refine Zv ?_ ?_
 . simp only [Zac] at hA;grind
 dsimp only [go_sem,rA,rM,rS]
 rw [Zfh,hA,Bool.true_and]
 simp only [List.length_map]
 refine Ws [1,3,85,86,87] rfl (fun k:Nat=>[(87,I k)]) (fun _=>[]) (fun k=>k<=s.scenes.length/\(s.scenes.drop k).all (Yg s.land.wells.length)=s.scenes.all (Yg s.land.wells.length)) (fun k=>s.scenes.length - k) 0 ⟨Nat.zero_le _,rfl⟩ ?_ ?_
 . (refine Zl ?_ ?_ ?_ rfl rfl<;>dsimp only [Zg,Ze,Zm,Zj,Zd,Zo,hx0,id,go_sem,rA,rM,rS]<;>simp [Zg,Ze,Zm,Zj,Zd,Zo,hx0,Za,Zf,KFR,KFL,KF,Zc,mtO,nbr])
 intro k ⟨hk,hi⟩
 dsimp only [go_sem,rA,rM,rS]
 by_cases hlt:k < s.scenes.length
 . refine Zu (by simpa using hlt) ?_
   dsimp only [go_sem,rA,rM,rS]
   have hx:=hs.each _ (List.getElem_mem hlt)
   refine Zp k hlt rfl ?_
   dsimp only [Zj,go_sem,rA,rM,rS]
   repeat (first | (refine gb ?_;dsimp only [go_sem,rA,rM,rS]) | (refine call (ZdG _ _ s.scenes[k].heat _) ?_;dsimp only [go_sem,rA,rM,rS]) | (refine call (ZdG _ _ s.scenes[k].grass _) ?_;dsimp only [go_sem,rA,rM,rS]) | (refine call (U7 _ _ s.scenes[k].yields (by omega) _) ?_;dsimp only [go_sem,rA,rM,rS]) | (refine call (Zbx _ _ s.scenes[k].prices (by omega) _) ?_;dsimp only [go_sem,rA,rM,rS]))
   simp only [List.length_map]
   rw [Zaq _ hlt] at hi
   rw [okX1]
   refine br ?_ ?_
   . intro hb
     dsimp only [go_sem,rA,rM,rS]
     rw [<- hi,(by simpa using hb:Yg s.land.wells.length s.scenes[k]=false)];rfl
   intro hb
   dsimp only [go_sem,rA,rM,rS]
   rw [Zi (n:=(k:Int)+1) (by omega) (by omega)]
   rw [(by simpa using hb:Yg s.land.wells.length s.scenes[k]=true),Bool.true_and] at hi
   refine ⟨k+1,⟨hlt,hi⟩,by omega,?_⟩
   (refine Zl ?_ ?_ ?_ rfl rfl<;>dsimp only [Zg,Ze,Zm,Zj,Zd,Zo,hx0,id,go_sem,rA,rM,rS]<;>simp [Zg,Ze,Zm,Zj,Zd,Zo,hx0,Za,Zf,KFR,KFL,KF,Zc,mtO,nbr])
 refine Zv (by simp;omega) ?_
 dsimp only [go_sem,rA,rM,rS]
 rw [<- hi,List.drop_eq_nil_of_le (by omega)]
 rfl
theorem Zjn (s:Season) (hs:SmallS s):Ct Tryz.prog 50 [.agg (Zr s)] (B (ZA s)):=by
 refine t50.1 (by simp [Zr,Zj,Ze,Zm,Zg,Zd,Zo,Za,KFL,KF]) (by simp [KFL,KF]) ?_
 dsimp only [c50,r50,Zr,go_sem,rA,rM,rS]
 refine call (ZkT s.land hs.land) ?_
 dsimp only [go_sem,rA,rM,rS]
 repeat (first | (refine gb ?_;dsimp only [go_sem,rA,rM,rS]) | (refine call (Zmd s.pace) ?_;dsimp only [go_sem,rA,rM,rS]) | (refine call (Cm.checkCamelR_ok s.breed s.camel) ?_;dsimp only [go_sem,rA,rM,rS]))
 have hw:=hs.land.1
 have hsc:=hs.sc
 refine br ?_ ?_
 . intro h
   dsimp only [go_sem,rA,rM,rS]
   (simp only [ZA,Option.some.injEq,SV.v.injEq,Value.bool.injEq]<;>grind)
 intro h
 dsimp only [go_sem,rA,rM,rS]
 repeat (first | (refine gb ?_;dsimp only [go_sem,rA,rM,rS]) | (refine call (XI _ _ _) ?_;dsimp only [go_sem,rA,rM,rS]))
 refine br ?_ ?_
 . intro h2
   dsimp only [go_sem,rA,rM,rS]
   (simp only [ZA,Zac,Option.some.injEq,SV.v.injEq,Value.bool.injEq]<;>grind)
 intro h2
 dsimp only [go_sem,rA,rM,rS]
 simp only [List.length_map]
 rw [Zi (n:=(s.land.wells.length:Int) - 1) (by omega) (by omega)]
 repeat (first | (refine gb ?_;dsimp only [go_sem,rA,rM,rS]) | (refine call (XI _ _ _) ?_;dsimp only [go_sem,rA,rM,rS]))
 simp only [List.length_map]
 refine br ?_ ?_
 . intro h3
   dsimp only [go_sem,rA,rM,rS]
   (simp only [ZA,Zac,Option.some.injEq,SV.v.injEq,Value.bool.injEq]<;>grind)
 intro h3
 dsimp only [go_sem,rA,rM,rS]
 have hO:ZA s=s.scenes.all (Yg s.land.wells.length):=by simp only [ZA,Zac];grind
 rw [hO]
 refine Ws [1,3] rfl (fun k:Nat=>[(3,I k)]) (fun _=>[]) (fun k=>k<=s.scenes.length/\(s.scenes.drop k).all (Yg s.land.wells.length)=s.scenes.all (Yg s.land.wells.length)) (fun k=>s.scenes.length - k) 0 ⟨Nat.zero_le _,rfl⟩ ?_ ?_
 . (refine Zl ?_ ?_ ?_ rfl rfl<;>dsimp only [Zg,Ze,Zm,Zj,Zd,Zo,id,go_sem,rA,rM,rS]<;>simp [Zg,Ze,Zm,Zj,Zd,Zo,Za,Zf,KFR,KFL,KF,Zc,mtO,nbr])
 intro k ⟨hk,hi⟩
 dsimp only [go_sem,rA,rM,rS]
 simp only [List.length_map]
 by_cases hlt:k < s.scenes.length
 . refine Zu (by simpa using hlt) ?_
   dsimp only [go_sem,rA,rM,rS]
   have hx:=hs.each _ (List.getElem_mem hlt)
   refine Zp k hlt rfl ?_
   dsimp only [Zj,go_sem,rA,rM,rS]
   rw [Zaq _ hlt] at hi
   repeat (first | (refine gb ?_;dsimp only [go_sem,rA,rM,rS]) | (refine call (VW s.scenes[k].heat _ _) ?_;dsimp only [go_sem,rA,rM,rS]) | (refine call (VW s.scenes[k].grass _ _) ?_;dsimp only [go_sem,rA,rM,rS]))
   simp only [List.length_map]
   refine br ?_ ?_
   . intro hb
     dsimp only [go_sem,rA,rM,rS]
     rw [<- hi,okX2 _ _ hb];rfl
   intro hb
   dsimp only [go_sem,rA,rM,rS]
   obtain ⟨hy,hx1,hx2⟩:=okX3 _ _ hb
   rw [hy] at hi
   refine Ws [1,3,4,5] rfl (fun j:Nat=>[(5,I j)]) (fun _=>[]) (fun j=>j<=s.scenes[k].yields.length/\((s.scenes[k].yields.drop j).all (Z9 0 10000000) && (s.scenes[k].prices.drop j).all (inR 0 1000000))=(s.scenes[k].yields.all (Z9 0 10000000) && s.scenes[k].prices.all (inR 0 1000000))) (fun j=>s.scenes[k].yields.length - j) 0 ⟨Nat.zero_le _,rfl⟩ ?_ ?_
   . (refine Zl ?_ ?_ ?_ rfl rfl<;>dsimp only [Zg,Ze,Zm,Zj,Zd,Zo,id,go_sem,rA,rM,rS]<;>simp [Zg,Ze,Zm,Zj,Zd,Zo,Za,Zf,KFR,KFL,KF,Zc,mtO,nbr])
   intro j ⟨hj,hij⟩
   dsimp only [go_sem,rA,rM,rS]
   simp only [List.length_map]
   by_cases hlj:j < s.scenes[k].yields.length
   . refine Zu (by simpa using hlj) ?_
     dsimp only [go_sem,rA,rM,rS]
     refine Zp j hlj rfl ?_
     dsimp only [Zd,go_sem,rA,rM,rS]
     refine call (VW s.scenes[k].yields[j] _ _) ?_
     dsimp only [go_sem,rA,rM,rS]
     have hlp:j < s.scenes[k].prices.length:=by omega
     rw [Zaq _ hlj,Zaq _ hlp] at hij
     repeat (first | (refine gb ?_;dsimp only [go_sem,rA,rM,rS]) | (refine Zp j hlp rfl ?_;dsimp only [Zo,go_sem,rA,rM,rS]) | (refine ZiA j hlp rfl ?_;dsimp only [Zo,go_sem,rA,rM,rS]) | (refine call (XI _ _ _) ?_;dsimp only [go_sem,rA,rM,rS]))
     refine br ?_ ?_
     . intro hc
       dsimp only [go_sem,rA,rM,rS]
       rw [<- hi,<- hij]
       cases h1:Z9 0 10000000 s.scenes[k].yields[j]<;>cases h2:inR 0 1000000 s.scenes[k].prices[j]<;>simp [h1,h2] at hc ⊢
     intro hc
     dsimp only [go_sem,rA,rM,rS]
     rw [Zi (n:=(j:Int)+1) (by omega) (by omega)]
     simp only [Bool.or_eq_false_iff,Bool.not_eq_false'] at hc
     rw [hc.1,hc.2,Bool.true_and,Bool.true_and] at hij
     refine ⟨j+1,⟨hlj,hij⟩,by omega,?_⟩
     (refine Zl ?_ ?_ ?_ rfl rfl<;>dsimp only [Zg,Ze,Zm,Zj,Zd,Zo,id,go_sem,rA,rM,rS]<;>simp [Zg,Ze,Zm,Zj,Zd,Zo,Za,Zf,KFR,KFL,KF,Zc,mtO,nbr])
   refine Zv (by simp;omega) ?_
   dsimp only [go_sem,rA,rM,rS]
   rw [List.drop_eq_nil_of_le (by omega),List.drop_eq_nil_of_le (by omega)] at hij
   rw [<- hij] at hi
   rw [Zi (n:=(k:Int)+1) (by omega) (by omega)]
   refine ⟨k+1,⟨hlt,by simpa using hi⟩,by omega,?_⟩
   (refine Zl ?_ ?_ ?_ rfl rfl<;>dsimp only [Zg,Ze,Zm,Zj,Zd,Zo,id,go_sem,rA,rM,rS]<;>simp [Zg,Ze,Zm,Zj,Zd,Zo,Za,Zf,KFR,KFL,KF,Zc,mtO,nbr])
 refine Zv (by simp;omega) ?_
 dsimp only [go_sem,rA,rM,rS]
 rw [<- hi,List.drop_eq_nil_of_le (by omega)]
 rfl
end Go.Proofs.YtiigiflofnjilaaGreat
namespace Go.Azalai
open Go.Sx
def XC (l:Land) (p:Span) (to till:Int):Nat->List Int->Int->Int->List (List Nat)
 | 0,_,_,_=>[]
 | f+1,been,v,t =>
  if t > till then []
  else if v=to then [[]]
  else (List.range l.legs.length).flatMap fun i=>match l.legs[i]? with
   | none=>[]
   | some x=>if Zk x v < 0\/Zk x v ∈ v :: been then [] else (XC l p to till f (v :: been) (Zk x v) (ZR true x p t)).map (i :: ·)
def YZ (l:Land) (p:Span) (to till:Int) (f:Nat) (been:List Int) (v t:Int) (i:Nat):List (List Nat) :=
 match l.legs[i]? with
 | none=>[]
 | some x=>if Zk x v < 0\/Zk x v ∈ v :: been then [] else (XC l p to till f (v :: been) (Zk x v) (ZR true x p t)).map (i :: ·)
def Z7 (l:Land) (p:Span) (to till:Int) (f:Nat) (been:List Int) (v t:Int) (j:Nat):List (List Nat):=(List.range j).flatMap (YZ l p to till f been v t)
theorem Zdh {l:Land} {p:Span} {to till:Int} {f:Nat} {been:List Int} {v t:Int}:Z7 l p to till f been v t 0=[]:=rfl
theorem Z2 {l:Land} {p:Span} {to till:Int} {f:Nat} {been:List Int} {v t:Int} {j:Nat}:Z7 l p to till f been v t (j+1)=Z7 l p to till f been v t j ++ YZ l p to till f been v t j:=by
 simp [Z7,List.range_succ]
theorem Yx {l:Land} {p:Span} {to till:Int} {f:Nat} {been:List Int} {v t:Int}:XC l p to till (f+1) been v t=if t > till then [] else if v=to then [[]] else Z7 l p to till f been v t l.legs.length:=rfl
theorem Zci {l:Land} {p:Span} {to till:Int} {f:Nat} {been:List Int} {v t:Int} (h:t > till):XC l p to till f been v t=[]:=by
 cases f with
 | zero=>rfl
 | succ f=>rw [Yx,if_pos h]
def cap (L:List (List Nat)):List (List Nat):=L.take 201
theorem Zda {A B:List (List Nat)} (h:A.length > 200):cap (A ++ B)=cap A:=by
 unfold cap;rw [List.take_append_of_le_length (by omega)]
theorem Vj {A:List (List Nat)} (h:A.length<=201):cap A=A:=List.take_of_length_le h
def Zlv (l:Land) (f:Nat) (been:List Int):Prop:=been.Nodup/\(∀ v ∈ been,0<=v/\v < l.wells.length)/\f+been.length=l.wells.length+1
theorem ZdK {n:Nat}:∀ {been:List Int},been.Nodup->(∀ v ∈ been,0<=v/\v < n)->been.length<=n:=by
 intro been hn hb
 have h1:(been.map Int.toNat).Nodup:=by
  rw [List.Nodup,List.pairwise_map]
  refine List.Pairwise.imp_of_mem (fun {a b} ha hb' hab=>?_) hn
  have:=hb a ha;have:=hb b hb';omega
 have h2:∀ x ∈ been.map Int.toNat,x ∈ List.range n:=fun x hx=>by
  obtain ⟨v,hv,rfl⟩:=List.mem_map.1 hx
  have:=hb v hv
  simp only [List.mem_range];omega
 have:=List.Nodup.length_le_of_subset h1 h2
 simpa using this
theorem Zlv.pos {l:Land} {f:Nat} {been:List Int} {v:Int} (h:Zlv l f been) (hv:v ∉ been) (hi:0<=v/\v < l.wells.length):∃ g,f=g+1/\Zlv l g (v :: been):=by
 obtain ⟨h1,h2,h3⟩:=h
 have hn:(v :: been).Nodup:=List.nodup_cons.2 ⟨hv,h1⟩
 have hb:∀ u ∈ v :: been,0<=u/\u < l.wells.length:=fun u hu=>by
  rcases List.mem_cons.1 hu with rfl | hu
  . exact hi
  . exact h2 u hu
 have:=ZdK hn hb
 simp only [List.length_cons] at this
 exact ⟨f - 1,by omega,hn,hb,by simp only [List.length_cons];omega⟩
theorem Zlv.start {l:Land}:Zlv l (l.wells.length+1) []:=⟨List.nodup_nil,fun v h=>(by cases h),by simp⟩
def ZcC (l:Land) (p:Span) (s to day till:Int):Int :=
 if Zae l p≠0 then Zae l p
 else if (inR 0 (l.wells.length - 1) s && inR 0 (l.wells.length - 1) to && inR 0 100000 day && inR 0 100000 till)=false then 2
 else if (XC l p to till (l.wells.length+1) [] s day).length > 200 then 9 else 0
def US (l:Land) (p:Span) (s to day till:Int):List (List Nat):=XC l p to till (l.wells.length+1) [] s day
end Go.Azalai
namespace Go.Proofs.YtiigiflofnjilaaGreat
open Go Go.Sx Go.Azalai
def Ye (n:Nat):List SV:=[I (n:Int)]
def ZZ (a:List Nat):SV:=.sl false 1 (a.map Ye)
theorem Zrl (a:Int):Ct Tryz.prog 171 [I a] (B false):=by
 refine t171.1 (by simp [KFR,KFL,KF]) (by simp [KFL,KF]) ?_
 dsimp only [c171,r171,go_sem,rA,rM,rS]
 simp
def Zlr (a b:Int):Int:=if a < b then -1 else if a > b then 1 else 0
theorem ZtD (a b:Int):Ct Tryz.prog 157 [I a,I b] (I (Zlr a b)):=by
 refine t157.1 (by simp [KFR,KFL,KF]) (by simp [KFL,KF]) ?_
 dsimp only [c157,r157,go_sem,rA,rM,rS]
 refine call (Zrl a) ?_
 dsimp only [go_sem,rA,rM,rS]
 refine call (Zrl b) ?_
 dsimp only [go_sem,rA,rM,rS]
 refine Zv rfl ?_
 dsimp only [go_sem,rA,rM,rS]
 refine Zv rfl ?_
 dsimp only [go_sem,rA,rM,rS]
 by_cases h:a < b
 . refine Zu (by simpa using h) ?_
   dsimp only [go_sem,rA,rM,rS]
   simp [Zlr,h]
 refine Zv (by simpa using h) ?_
 dsimp only [go_sem,rA,rM,rS]
 by_cases h':a > b
 . refine Zu (by simpa using h') ?_
   dsimp only [go_sem,rA,rM,rS]
   simp only [Zlr,if_neg h,if_pos h']
 refine Zv (by simpa using h') ?_
 dsimp only [go_sem,rA,rM,rS]
 simp only [Zlr,if_neg h,if_neg h']
def U2:List Nat->List Nat->Int
 | [],[]=>0
 | [],_ :: _=>-1
 | _ :: _,[]=>1
 | x :: a,y :: b=>if x < y then -1 else if x > y then 1 else U2 a b
theorem Zfm:∀ {a b:List Nat},decide (U2 a b < 0)=W0 a b
 | [],[]=>rfl
 | [],_ :: _=>rfl
 | _ :: _,[]=>rfl
 | x :: a,y :: b=>by
  have ih:=Zfm (a:=a) (b:=b)
  have e:U2 (x :: a) (y :: b)=if x < y then -1 else if x > y then 1 else U2 a b:=rfl
  generalize U2 (x :: a) (y :: b)=c at e
  subst e
  simp only [W0]
  by_cases h:x < y
  . simp [h]
  . by_cases h':x > y
    . have:(x == y)=false:=by simp;omega
      rw [this];simp [h,h']
    . have:(x == y)=true:=by simp;omega
      rw [this];simp [h,h',<- ih]
theorem ZgO (a b:List Nat) (ha:a.length<=1000000) (hb:b.length<=1000000):Ct Tryz.prog 114 [ZZ a,ZZ b] (I (U2 a b)):=by
 refine t114.1 (by simp [Za,ZZ,Ye,KFL,KF]) (by simp [KFL,KF]) ?_
 dsimp only [c114,r114,ZZ,go_sem,rA,rM,rS]
 simp only [List.length_map]
 refine Xf (fun j:Nat=>[(11,I j)]) (fun _=>[]) (fun j=>j<=a.length/\U2 (a.drop j) (b.drop j)=U2 a b/\j<=b.length) (fun j=>a.length - j) 0 ⟨Nat.zero_le _,rfl,Nat.zero_le _⟩ ?_ ?_
 . (refine Zl ?_ ?_ ?_ rfl rfl<;>dsimp only [Ye,id,go_sem,rA,rM,rS]<;>simp [Ye,Za,Zf,KFR,KFL,KF,Zc,mtO,nbr])
 rintro j ⟨hj,hi,hjb⟩
 dsimp only [go_sem,rA,rM,rS]
 by_cases hlt:j < a.length
 . refine Zu (by simpa using hlt) ?_
   dsimp only [go_sem,rA,rM,rS]
   refine Zp j hlt rfl ?_
   dsimp only [Ye,go_sem,rA,rM,rS]
   simp only [List.length_map]
   rw [List.drop_eq_getElem_cons hlt] at hi
   by_cases hb:j < b.length
   . refine Zv (by simpa using hb) ?_
     dsimp only [go_sem,rA,rM,rS]
     refine Zp j hb rfl ?_
     dsimp only [Ye,go_sem,rA,rM,rS]
     refine call (ZtD _ _) ?_
     dsimp only [go_sem,rA,rM,rS]
     rw [List.drop_eq_getElem_cons hb] at hi
     simp only [U2] at hi
     by_cases h:a[j] < b[j]
     . rw [if_pos h] at hi
       have e:Zlr (a[j]:Int) (b[j]:Int) = -1:=by simp only [Zlr];rw [if_pos (by omega)]
       rw [e]
       refine Zu rfl ?_
       dsimp only [go_sem,rA,rM,rS]
       rw [<- hi]
     rw [if_neg h] at hi
     by_cases h':a[j] > b[j]
     . rw [if_pos h'] at hi
       have e:Zlr (a[j]:Int) (b[j]:Int)=1:=by simp only [Zlr];rw [if_neg (by omega),if_pos (by omega)]
       rw [e]
       refine Zu rfl ?_
       dsimp only [go_sem,rA,rM,rS]
       rw [<- hi]
     rw [if_neg h'] at hi
     have e:Zlr (a[j]:Int) (b[j]:Int)=0:=by simp only [Zlr];rw [if_neg (by omega),if_neg (by omega)]
     rw [e]
     refine Zv rfl ?_
     dsimp only [go_sem,rA,rM,rS]
     rw [Zi (n:=(j:Int)+1) (by omega) (by omega)]
     refine ⟨j+1,⟨hlt,hi,hb⟩,by omega,?_⟩
     (refine Zl ?_ ?_ ?_ rfl rfl<;>dsimp only [Ye,id,go_sem,rA,rM,rS]<;>simp [Ye,Za,Zf,KFR,KFL,KF,Zc,mtO,nbr])
   . refine Zu (by simp;omega) ?_
     dsimp only [go_sem,rA,rM,rS]
     rw [List.drop_of_length_le (l:=b) (i:=j) (by omega)] at hi
     simp only [U2] at hi
     rw [<- hi]
 refine Zv (by simp;omega) ?_
 dsimp only [go_sem,rA,rM,rS]
 simp only [List.length_map]
 rw [List.drop_of_length_le (by omega)] at hi
 have hje:j=a.length:=by omega
 subst hje
 by_cases hb:a.length < b.length
 . refine Zu (by simpa using hb) ?_
   dsimp only [go_sem,rA,rM,rS]
   rw [List.drop_eq_getElem_cons hb] at hi
   simp only [U2] at hi
   rw [<- hi]
 . refine Zv (by simpa using hb) ?_
   dsimp only [go_sem,rA,rM,rS]
   rw [List.drop_of_length_le (by omega)] at hi
   simp only [U2] at hi
   rw [<- hi]
theorem u78 {args:List SV} {res:SV} (ka:KFL args) (kr:KF res) (h:sx Tryz.prog Y0 0 c110 (st0 args 8) (ZlT r110 res)) (hA:Nat.ble args.length 8=true:=by rfl):Ct Tryz.prog 110 args res:=Wf Tryz.func110 rfl b110 Zuy Ztb n110 (Nat.le_of_ble_eq_true hA) ka kr h
theorem ZaN (a:List Nat) (ha:a.length<=1000000):Ct Tryz.prog 110 [ZZ a] (ZZ a):=by
 refine u78 (by simp [Za,ZZ,Ye,KFL,KF]) (by simp [Za,ZZ,Ye,KFL,KF]) ?_
 dsimp only [c110,r110,ZZ,go_sem,rA,rM,rS]
 intro b hb
 dsimp only [go_sem,rA,rM,rS]
 refine br ?_ ?_
 . intro h
   have:=hb h
   dsimp only [go_sem,rA,rM,rS]
   rw [List.map_eq_nil_iff.1 this]
   exact ⟨_,rfl,YA⟩
 . intro h
   dsimp only [go_sem,rA,rM,rS]
   refine ZwT (by simp;omega) ?_
   dsimp only [go_sem,rA,rM,rS]
   exact ⟨_,rfl,Y6.rfl⟩
theorem Ztf (a:List Nat) (ha:a.length<=1000000):Ct Tryz.prog 154 [ZZ a] (.sl true 1 (a.map Ye)):=by
 refine t154.1 (by simp [Za,ZZ,Ye,KFL,KF]) (by simp [Za,ZZ,Ye,KFL,KF]) ?_
 dsimp only [c154,r154,ZZ,go_sem,rA,rM,rS]
 refine ⟨ZN.2 fun _=>⟨rfl,rfl⟩,?_⟩
 dsimp only [go_sem,rA,rM,rS]
theorem Zc1 (a:List Nat) (i:Nat) (ha:a.length<=1000000):Ct Tryz.prog 112 [ZZ a,I i] (ZZ (a ++ [i])):=by
 refine t112.1 (by simp [Za,ZZ,Ye,KFL,KF]) (by simp [KFL,KF,ZZ,Za,Ye,Zf,KFR]) ?_
 dsimp only [c112,r112,go_sem,rA,rM,rS]
 refine call (ZaN a ha) ?_
 dsimp only [go_sem,rA,rM,rS]
 refine call (Ztf a ha) ?_
 dsimp only [go_sem,rA,rM,rS]
 refine ZwT (by simp;omega) ?_
 dsimp only [ZZ,go_sem,rA,rM,rS]
 simp [Ye]
theorem Zw {K V:Type} {key:K->Value} {val:V->SV}:mpS key val ([]:List (Nat × K × V))=[]:=rfl
def c109:FB:=(.seq (.gh (.reg [
 o1 8 (.box (.t 0) 0 201),
 o1 9 (.box (.t 1) 0 35),
 o1 10 (.alloc [.bool false] 4)]))
 (.seq (.seq (.reg [
 o1 13 (.addo (.t 8) 1),
 o1 14 (.ld (.t 13) 1 false),
 o1 15 (.ld (.t 2) 1 false),
 o1 16 (.bin .gtr (.t 14) (.t 15))])
 (.cond (.t 16)
 (.seq (.reg [
  ⟨none,.st (.t 10) (.c (.bool true)) 1,none,[]⟩])
  .ret)
 .skip))
 (.seq (.seq (.reg [
 o1 17 (.addo (.t 8) 0),
 o1 18 (.ld (.t 17) 1 false),
 o1 19 (.ld (.t 3) 1 false),
 o1 20 (.bin .eql (.t 18) (.t 19))])
 (.cond (.t 20)
 (.seq (.regd [0,1,2,3,4,5] [
  .op (o1 21 (.ld (.t 4) 1 false)),
  .op (o1 22 (.ld (.t 9) 1 false)),
  .op ⟨some 23,.call 110 [.t 22],none,[1]⟩,
  .op ⟨some 24,.bsl 1 35 [.t 23],none,[2]⟩] 0 2 [
  ⟨some 25,.appm 1 24 35 (.t 21) (.t 24),none,[0,2,3]⟩,
  ⟨none,.st (.t 4) (.t 25) 1,none,[0,1,2,3,4]⟩])
  (.seq (.reg [
  o1 26 (.ld (.t 4) 1 false),
  o1 27 (.len (.t 26)),
  o1 28 (.bin .leq (.t 27) (.c (.int .i64 200))),
  ⟨none,.st (.t 10) (.t 28) 1,none,[]⟩])
  .ret))
 .skip))
 (.seq (.reg [
 o1 29 (.ld (.t 5) 1 false),
 o1 30 (.addo (.t 8) 0),
 o1 31 (.ld (.t 30) 1 false),
 ⟨none,.raw (Go.Op.mapUpdate 189 (Go.Operand.tmp 29) (Go.Operand.tmp 31) (Go.Operand.const (Go.Value.bool Bool.true))) 0,none,[]⟩])
 (.dfr [
 o1 32 (.ld (.t 5) 1 false),
 o1 33 (.addo (.t 8) 0),
 o1 34 (.ld (.t 33) 1 false)] (.t 32) (.t 34) 189
 (.tail (.seq (.seq (.reg [
 o1 35 (.ld (.t 6) 4 true),
 o1 36 (.addo (.t 8) 0),
 o1 37 (.ld (.t 36) 1 false),
 o1 38 (.callm 111 [.t 35,.t 37])])
 (.block 0 (.gh (.rfun (.t 38) [39,40] (.seq (.reg [
  m1 11 39])
  (.reg [
  m1 12 40]))
  (.block 1 (.seq (.regs [0,1,2,3,4,5,6,7,8,9,10,11,12,13,14,15,16,17,18,19,20,21,22] ⟨[
   .op (o1 41 (.ld (.t 5) 1 false)),
   .op (m1 42 12)],0,0,[
   ⟨some 43,.raw (Go.Op.lookup 189 (Go.Operand.tmp 41) (Go.Operand.tmp 42) Bool.false) 4,none,[0,1]⟩]⟩ [⟨[
   .op ⟨some 44,.un .not (.t 43),none,[2]⟩,
   .op ⟨some 45,.mv (.t 44),none,[3]⟩,
   .op ⟨some 46,.ld (.t 7) 1 false,some (45,true),[4]⟩,
   .op ⟨some 47,.mv (.t 12),some (45,true),[4]⟩,
   .op ⟨some 48,.ld (.t 6) 4 true,some (45,true),[4]⟩,
   .op ⟨some 49,.mv (.t 11),some (45,true),[4]⟩,
   .op ⟨some 50,.addo (.t 8) 1,some (45,true),[4]⟩,
   .op ⟨some 51,.ld (.t 50) 1 false,some (45,true),[4,9]⟩,
   .op ⟨some 52,.addo (.t 8) 1,some (45,true),[4]⟩,
   .op ⟨some 53,.ld (.t 52) 1 false,some (45,true),[4,11]⟩,
   .op ⟨some 54,.build [.int .i64 0,.int .i64 0] [(0,1,.t 51),(1,1,.t 53)],some (45,true),[4,10,12]⟩,
   .op ⟨some 55,.call 79 [.t 48,.t 49,.t 54],some (45,true),[4,7,8,13]⟩,
   .op ⟨some 56,.idx (.t 55) (.c (.int .i64 1)) 2 1 false,some (45,true),[4,14]⟩,
   .op ⟨some 57,.build [.int .i64 0,.int .i64 0] [(0,1,.t 47),(1,1,.t 56)],some (45,true),[4,6,15]⟩,
   .op ⟨some 58,.ld (.t 9) 1 false,some (45,true),[4]⟩,
   .op ⟨some 59,.mv (.t 11),some (45,true),[4]⟩,
   .op ⟨some 60,.call 112 [.t 58,.t 59],some (45,true),[4,14,17,18]⟩],0,0,[
   ⟨some 61,.calvm (.t 46) [.t 57,.t 60],some (45,true),[4,5,16,19]⟩,
   ⟨some 62,.un .not (.t 61),some (45,true),[4,20]⟩,
   ⟨some 63,.pick (.t 45) (.t 62) (.c (.bool false)),none,[4,21]⟩]⟩])
   (.cond (.t 63)
   (.seq (.reg [
    ⟨none,.st (.t 10) (.c (.bool false)) 1,none,[]⟩])
    .ret)
   .skip)))))))
 (.seq (.reg [
 ⟨none,.st (.t 10) (.c (.bool true)) 1,none,[]⟩])
 .ret))))))))
def r109:List RV:=[.cell 10 1 false]
theorem n109:Tryz.f109.ntmps=64:=by kernel_rfl
theorem b109:YF Tryz.prog 109=true:=by kernel_rfl
theorem ZvD:Zaf Tryz.prog c109 ((Tryz.f109.body).getD .skip)=true:=by kernel_rfl
theorem Zu4:We Tryz.prog r109 Tryz.f109.results.toList=true:=by kernel_rfl
theorem m109 {n0:Nat} {hp0:List (Nat × HB)} {args:List SV} {ZX:Ot->Prop} (hh:hpb n0 hp0) (hx:∀ o,ZX o->KX o.res/\KXP o.hp) (h:fx Tryz.prog n0 c109 ⟨enum 0 args,hp0,n0,64,[]⟩ (retM r109 fun o=>∃ o',ZX o'/\Zec n0 o o')) (hA:Nat.ble args.length 64=true:=by rfl):CtM Tryz.prog 109 hp0 n0 args ZX:=Zb7 Tryz.func109 rfl b109 ZvD Zu4 n109 (Nat.le_of_ble_eq_true hA) hh hx h
def c65:SC:=(.seq (.reg [
 o1 6 (.box (.t 0) 0 25),
 o1 8 (.box (.t 2) 0 3),
 o1 10 (.box (.t 4) 0 3),
 o1 11 (.box (.t 5) 0 27),
 o1 12 (.mv (.c (.slice none 0 0))),
 o1 13 (.mv (.c (.int .i64 0)))])
 (.seq (.reg [
 o1 20 (.ld (.t 6) 2 true),
 o1 21 (.ld (.t 11) 2 true),
 o1 22 (.call 75 [.t 20,.t 21]),
 m1 19 22,
 o1 23 (.ext (.t 19) 0),
 o1 24 (.ext (.t 19) 1),
 o1 14 (.alloc [.slice none 0 0,.slice none 0 0,.int .i64 0,.int .i64 0] 160),
 ⟨none,.st (.t 14) (.t 23) 4,none,[]⟩,
 m1 15 24])
 (.seq (.block 0 (.seq (.reg [
  m1 26 15,
  o1 27 (.bin .neq (.t 26) (.c (.int .i64 0))),
  m1 25 27])
  (.cond (.t 25)
  (.seq (.reg [
   m1 28 15,
   o1 12 (.mv (.c (.slice none 0 0))),
   m1 13 28])
   .ret)
  (.seq (.reg [
   o1 30 (.addo (.t 6) 0),
   o1 31 (.ld (.t 30) 1 false),
   o1 32 (.len (.t 31)),
   o1 33 (.bin .sub (.t 32) (.c (.int .i64 1))),
   m1 34 1,
   o1 35 (.ld (.t 8) 1 false),
   o1 36 (.bsl 1 3 [.t 34,.t 35]),
   o1 37 (.call 76 [.c (.int .i64 0),.t 33,.t 36]),
   o1 38 (.un .not (.t 37)),
   m1 39 38,
   ⟨some 40,.mv (.t 3),some (39,false),[]⟩,
   ⟨some 41,.ld (.t 10) 1 false,some (39,false),[]⟩,
   ⟨some 42,.bsl 1 3 [.t 40,.t 41],some (39,false),[]⟩,
   ⟨some 43,.call 76 [.c (.int .i64 0),.c (.int .i64 100000),.t 42],some (39,false),[]⟩,
   ⟨some 44,.un .not (.t 43),some (39,false),[]⟩,
   o1 45 (.pick (.t 39) (.c (.bool true)) (.t 44)),
   m1 29 45])
   (.cond (.t 29)
   (.seq (.reg [
    o1 12 (.mv (.c (.slice none 0 0))),
    o1 13 (.mv (.c (.int .i64 2)))])
    .ret)
   .skip)))))
 (.seq (.reg [
 o1 16 (.alloc [.slice none 0 0] 144)])
 (.seq (.reg [
 o1 46 (.raw (Go.Op.makeMap 189 Option.none) 189),
 o1 17 (.alloc [.map none] 189),
 ⟨none,.st (.t 17) (.t 46) 1,none,[]⟩])
 (.seq (.reg [
 o1 18 (.alloc [.nilFunc] 199)])
 (.seq (.reg [
 o1 47 (.mkf 109 [.t 10,.t 8,.t 16,.t 17,.t 14,.t 18]),
 ⟨none,.st (.t 18) (.t 47) 1,none,[]⟩])
 (.seq (.seq (.gh (.reg [
 o1 48 (.ld (.t 18) 1 false),
 m1 49 1,
 m1 50 3,
 o1 51 (.build [.int .i64 0,.int .i64 0] [(0,1,.t 49),(1,1,.t 50)]),
 o1 52 (.calvm (.t 48) [.t 51,.c (.slice none 0 0)]),
 o1 53 (.un .not (.t 52))]))
 (.cond (.t 53)
 (.seq (.reg [
  o1 12 (.mv (.c (.slice none 0 0))),
  o1 13 (.mv (.c (.int .i64 9)))])
  .ret)
 .skip))
 (.seq (.reg [
 o1 54 (.ld (.t 16) 1 false),
 m1 12 54,
 o1 13 (.mv (.c (.int .i64 0)))])
 .ret)))))))))
def r65:List RV:=[.tmp 12,.tmp 13]
theorem t65:Qt1 Tryz.prog 65 c65 r65 55:=Z4 Tryz.func65 rfl (by kernel_rfl) (by kernel_rfl) (by kernel_rfl) (by kernel_rfl)
end Go.Proofs.YtiigiflofnjilaaGreat
namespace Go.Azalai
open Go.Sx
theorem Xc {l:Land} {p:Span} {to till:Int} {f:Nat} {been:List Int} {v t:Int} {j:Nat}:∀ (k:Nat),∃ R,Z7 l p to till f been v t (j+k)=Z7 l p to till f been v t j ++ R
 | 0=>⟨[],by simp⟩
 | k+1=>by
  obtain ⟨R,h⟩:=Xc k
  exact ⟨R ++ YZ l p to till f been v t (j+k),by rw [<- Nat.add_assoc,Z2,h,List.append_assoc]⟩
theorem Wv {l:Land} {p:Span} {to till:Int} {f:Nat} {been:List Int} {v t:Int} {j:Nat} {x:Leg} (hx:l.legs[j]? = some x) (h:Zk x v < 0\/Zk x v ∈ v :: been):YZ l p to till f been v t j=[]:=by
 simp only [YZ,hx];rw [if_pos h]
theorem Wz {l:Land} {p:Span} {to till:Int} {f:Nat} {been:List Int} {v t:Int} {j:Nat} {x:Leg} (hx:l.legs[j]? = some x) (h0:¬ Zk x v < 0) (h:Zk x v ∉ v :: been) :
 YZ l p to till f been v t j=(XC l p to till f (v :: been) (Zk x v) (ZR true x p t)).map (j :: ·):=by
 simp only [YZ,hx];rw [if_neg (fun q=>q.elim h0 h)]
end Go.Azalai
namespace Go.Proofs.YtiigiflofnjilaaGreat
open Go Go.Sx Go.Azalai
def Yq (w:List Nat):List SV:=[ZZ w]
def YE (l:Land) (p:Span) (till to:Int) (all:List (List Nat)) (ver:Nat) (L:List (Nat × Int × Bool)) (clk:Nat):List (Nat × HB) :=
 [(0,.cells [I till] 3),(1,.cells [I to] 3),(2,.cells [.mr 6 ver] 144),(3,.cells [.mp 7] 189),(4,.cells (ZK l p) 160),(5,.cells [.cl 109 [.p 0 0,.p 1 0,.p 2 0,.p 3 0,.p 4 0,.p 5 0]] 199),(6,.row ver 1 (all.map Yq) 35),(7,.map (mpS kI B L) clk)]
def lookP (l:Land) (p:Span) (till to:Int) (all:List (List Nat)) (L:List (Nat × Int × Bool)) (W:List (List Nat)):Ot->Prop:=fun o =>
 ∃ ver clk,MW L clk/\o=⟨false,B (decide ((all ++ W).length<=200)),YE l p till to (cap (all ++ W)) ver L clk,8⟩
def Zeb (been:List Int) (L:List (Nat × Int × Bool)):Prop:=∀ u:Int,Xy u L=if u ∈ been then some true else none
theorem Zfg {L:List (Nat × Int × Bool)} {c:Nat} {v:Int} {b:Bool} (h:Xy v L=none):Ug v (V1 c v b L)=L:=by
 rw [Zas h]
 have key:∀ (L:List (Nat × Int × Bool)),Xy v L=none->Ug v (L ++ [(c,v,b)])=L:=by
  intro L
  induction L with
  | nil=>intro _;simp [Ug]
  | cons e L ih =>
   intro h
   have hne:e.2.1≠v:=Xp.1 h e (by simp)
   have hL:Xy v L=none:=Xp.2 fun x hx=>Xp.1 h x (by simp [hx])
   have:=ih hL
   obtain ⟨e1,e2,e3⟩:=e
   simp only at hne
   simp only [List.cons_append,Ug]
   rw [this]
   simp [hne,Ne.symm hne]
 exact key L h
theorem ZuD (l:Land) (p:Span) (hs:Wo l) (hok:OkLP l p) (till to:Int):∀ (f:Nat) (been:List Int) (v t:Int) (way:List Nat) (all:List (List Nat)) (ver clk:Nat) (L:List (Nat × Int × Bool)) (s1:SV),Zlv l f been->v ∉ been->(0<=v/\v < l.wells.length)->(0<=t/\t<=100001) ->
 way.length+f<=1000->all.length<=200->MW L clk->Zeb been L->(s1=ZZ way\/s1 = .v (.slice none 0 0)/\way=[]) ->
 CtM Tryz.prog 109 (YE l p till to all ver L clk) 8 [.agg [I v,I t],s1,.p 0 0,.p 1 0,.p 2 0,.p 3 0,.p 4 0,.p 5 0] (lookP l p till to all L ((XC l p to till f been v t).map (way ++ ·))):=by
 intro f
 induction f with
 | zero =>
  intro been v t way all ver clk L s1 hR hv hvi
  obtain ⟨g,h,_⟩:=hR.pos hv hvi
  omega
 | succ f ih =>
 intro been v t way all ver clk L s1 hR hv hvi ht hlen hall hM hbL hs1
 obtain ⟨g,hg,hR'⟩:=hR.pos hv hvi
 have hgf:g=f:=by omega
 subst hgf
 have hleg:=hs.2.1
 refine m109 (by simp [hpb,YE]) (fun o ho=>?_) ?_
 . obtain ⟨ver',clk',_,rfl⟩:=ho
   simp [YE,KX,KXL,KXP,KXH,Za,KFL,KF,ZK,Ze,Zm,Zg,Yq,ZZ,Ye,Zs,Zn]
 dsimp only [c109,r109,YE,go_sem,rA,rM,rS]
 rcases hs1 with rfl | ⟨rfl,hw0⟩
 . refine gh YR ?_
   dsimp only [ZZ,go_sem,rA,rM,rS]
   refine br ?_ ?_
   . intro hlate
     have hlate:t > till:=of_decide_eq_true hlate
     dsimp only [go_sem,rA,rM,rS]
     refine ⟨_,⟨ver,clk,hM,rfl⟩,?_⟩
     rw [Zci hlate,List.map_nil,List.append_nil,Vj (by omega),decide_eq_true hall]
     (refine Yb ?_ ?_ ?_ rfl<;>dsimp only [ZK,Ze,Zm,Zg,Yq,ZZ,Ye,Zw,Zs,Zn,Za,YE,id,go_sem,rA,rM,rS]<;>simp [ZK,Ze,Zm,Zg,Yq,ZZ,Ye,Zw,Zs,Zn,Za,YE,Za,Zf,KFR,KFL,KF,Zc,mtO,nbr])
   intro hlate
   have hlate:¬ t > till:=of_decide_eq_false hlate
   dsimp only [go_sem,rA,rM,rS]
   refine br ?_ ?_
   . intro hto
     have hto:v=to:=by simpa using hto
     dsimp only [go_sem,rA,rM,rS]
     refine call (ZaN way (by omega)) ?_
     dsimp only [ZZ,go_sem,rA,rM,rS]
     simp only [nbr]
     dsimp only [go_sem,rA,rM,rS]
     refine ⟨(by intro c hc;simp only [List.mem_singleton] at hc;subst hc;rfl),by simp;omega,?_⟩
     dsimp only [go_sem,rA,rM,rS]
     simp only [nbr]
     dsimp only [go_sem,rA,rM,rS]
     have e:all.map Yq ++ [[SV.sl false 1 (way.map Ye)]]=(all ++ [way]).map Yq:=by simp [Yq,ZZ]
     rw [e]
     refine ⟨_,⟨ver+1,clk,hM,rfl⟩,?_⟩
     rw [Yx,if_neg hlate,if_pos hto]
     simp only [List.map_cons,List.map_nil,List.append_nil,List.length_map]
     rw [Vj (by simp;omega)]
     have hd:decide (((all ++ [way]).length:Int)<=200)=decide ((all ++ [way]).length<=200):=by simp;omega
     rw [hd]
     (refine Yb ?_ ?_ ?_ rfl<;>dsimp only [ZK,Ze,Zm,Zg,Yq,ZZ,Ye,Zw,Zs,Zn,Za,YE,id,go_sem,rA,rM,rS]<;>simp [ZK,Ze,Zm,Zg,Yq,ZZ,Ye,Zw,Zs,Zn,Za,YE,Za,Zf,KFR,KFL,KF,Zc,mtO,nbr])
   intro hto
   have hto:¬ v=to:=by simpa using hto
   dsimp only [go_sem,rA,rM,rS]
   refine ZbD (ins:=false) (key:=kI) (val:=B) (L:=L) (k:=v) (v:=true) rfl rfl ZcS Zc8 rfl rfl (by simp) ?_
   dsimp only [go_sem,rA,rM,rS]
   refine ⟨rfl,?_⟩
   have hvL:Xy v L=none:=by rw [hbL,if_neg hv]
   have hM1:=hM.set (k:=v) true
   have hL1:Zeb (v :: been) (V1 clk v true L):=fun u=>by
    rw [V5]
    by_cases hu:u=v
    . simp [hu]
    . rw [if_neg hu,hbL]
      simp [hu]
   have hdel:=Zfg (L:=L) (c:=clk) (b:=true) hvL
   generalize V1 clk v true L=L1 at hM1 hL1 hdel ⊢
   generalize ZbR clk v L=clk1 at hM1 ⊢
   refine UZ [] (Zax l p v) rfl rfl rfl ?_ ?_ ?_
   . exact Zc (by simp [ZK,Ze,Zm,Zg,Za,KFL,KF])
   . trivial
   dsimp only [ZaO,ZK,go_sem,rA,rM,rS]
   refine gh YR ?_
   dsimp only [go_sem,rA,rM,rS]
   refine ⟨Zyh,fun rec=>?_⟩
   refine Zx9 ?_
   dsimp only [Zv2,Zv0,go_sem,rA,rM,rS]
   refine Xf (fun q:Nat × List (List Nat) × Nat × Nat=>[(10,I q.1)]) (fun q=>[(2,.cells [.mr 6 q.2.2.1] 144),(6,.row q.2.2.1 1 (q.2.1.map Yq) 35),(7,.map (mpS kI B L1) q.2.2.2)])
    (fun q=>q.1<=l.legs.length/\MW L1 q.2.2.2/\q.2.1=all ++ (Z7 l p to till g been v t q.1).map (way ++ ·)/\q.2.1.length<=200) (fun q=>l.legs.length - q.1) (0,all,ver,clk1) ⟨Nat.zero_le _,hM1,by simp [Zdh],hall⟩ ?_ ?_
   . (refine Zl ?_ ?_ ?_ rfl rfl<;>dsimp only [ZK,Ze,Zm,Zg,Yq,ZZ,Ye,Zw,Zs,Zn,Za,id,go_sem,rA,rM,rS]<;>simp [ZK,Ze,Zm,Zg,Yq,ZZ,Ye,Zw,Zs,Zn,Za,Za,Zf,KFR,KFL,KF,Zc,mtO,nbr])
   rintro ⟨j,allj,ver,clk⟩ ⟨hj,hMj,hallj,hlenj⟩
   simp only at hj hMj hallj hlenj
   dsimp only [go_sem,rA,rM,rS]
   simp only [List.length_map]
   by_cases hlt:j < l.legs.length
   . refine Zu (by simpa using hlt) ?_
     dsimp only [go_sem,rA,rM,rS]
     refine Zp j hlt rfl ?_
     dsimp only [Zm,go_sem,rA,rM,rS]
     have hgl:GoodLeg l.legs[j]:=XG hok.land _ (List.getElem_mem _)
     have hends:=hok.ends (List.getElem_mem hlt)
     have hxj:l.legs[j]? = some l.legs[j]:=List.getElem?_eq_getElem hlt
     have hin:inR 0 100001 t=true:=by simp only [inR,decide_eq_true_eq];omega
     have hab:=Xi (k:=true) (t:=t) hgl hok.pace (by omega)
     by_cases hca:v=l.legs[j].a
     . refine Zu (by simpa using hca) ?_
       have hoth:Zk l.legs[j] v=l.legs[j].b:=by rw [Zk,if_pos hca.symm]
       dsimp only [go_sem,rA,rM,rS]
       refine ⟨rfl,rfl,?_⟩
       refine ZaM (key:=kI) (sv:=sI) (val:=B) (L:=L1) (k:=l.legs[j].b) (z:=.bool false) (zs:=B false) rfl rfl ZcS Zc8 rfl (by kernel_rfl) (fun w E n ok=>by simp only [R]) ?_ ?_
       . intro b hget
         have hb:b=true/\Zk l.legs[j] v ∈ v :: been:=by
          have h:=hL1 l.legs[j].b
          rw [hget] at h
          rw [hoth]
          split at h
          . rename_i hm;exact ⟨Option.some.inj h,hm⟩
          . cases h
         obtain ⟨rfl,hmem⟩:=hb
         dsimp only [Bool.not_true,go_sem,rA,rM,rS]
         repeat (refine Ve (by decide) ?_;dsimp only [go_sem,rA,rM,rS])
         refine Zv (by decide) ?_
         dsimp only [go_sem,rA,rM,rS]
         refine ⟨rfl,?_⟩
         refine Zv (by decide) ?_
         dsimp only [go_sem,rA,rM,rS]
         rw [Zi (n:=(j:Int)+1) (by omega) (by omega)]
         refine ⟨(j+1,allj,ver,clk),⟨hlt,hMj,by rw [Z2,Wv hxj (.inr hmem),List.append_nil];exact hallj,hlenj⟩,by simp only;omega,?_⟩
         (refine Zl ?_ ?_ ?_ rfl rfl<;>dsimp only [ZK,Ze,Zm,Zg,Yq,ZZ,Ye,Zw,Zs,Zn,Za,id,go_sem,rA,rM,rS]<;>simp [ZK,Ze,Zm,Zg,Yq,ZZ,Ye,Zw,Zs,Zn,Za,Za,Zf,KFR,KFL,KF,Zc,mtO,nbr])
       intro hget
       have hnb:Zk l.legs[j] v ∉ v :: been:=fun hm=>by
        have h:=hL1 l.legs[j].b
        rw [hoth] at hm
        rw [hget,if_pos hm] at h;cases h
       have hn0:¬ Zk l.legs[j] v < 0:=by rw [hoth];omega
       dsimp only [Bool.not_false,go_sem,rA,rM,rS]
       iterate 10 (refine Yp rfl ?_;dsimp only [go_sem,rA,rM,rS])
       refine call (XR l p j hlt t t hgl hok.pace hin hin) ?_
       dsimp only [go_sem,rA,rM,rS]
       refine Yp rfl ?_
       dsimp only [go_sem,rA,rM,rS]
       refine ixa 1 rfl (by decide) ?_
       dsimp only [go_sem,rA,rM,rS]
       iterate 4 (refine Yp rfl ?_;dsimp only [go_sem,rA,rM,rS])
       refine call (Zc1 way j (by omega)) ?_
       dsimp only [ZZ,go_sem,rA,rM,rS]
       refine Yp rfl ?_
       dsimp only [go_sem,rA,rM,rS]
       have hot:=ZU hok hxj hn0
       have hih:=ih (v :: been) (Zk l.legs[j] v) (ZR true l.legs[j] p t) (way ++ [j]) allj ver clk L1 (ZZ (way ++ [j])) hR' hnb hot.1 (by omega) (by simp;omega) hlenj hMj hL1 (.inl rfl)
       have hWj:(XC l p to till g (v :: been) (Zk l.legs[j] v) (ZR true l.legs[j] p t)).map (way ++ [j] ++ ·)=(YZ l p to till g been v t j).map (way ++ ·):=by
        rw [Wz hxj hn0 hnb,List.map_map]
        simp [Function.comp_def]
       rw [hWj,hoth] at hih
       refine YM [0,1,2,3,4,5,6,7] hih rfl rfl ?_ ?_ ?_ ?_
       . rfl
       . dsimp only [rho,ZZ,go_sem,rA,rM,rS]
         simp [Za,Zf,KFR,KFL,KF,Zc,mtO,nbr,ZK,Ze,Zm,Zg,Yq,ZZ,Ye,Zs,Zn]
       . dsimp only [rho,YE,ZK,go_sem,rA,rM,rS]
         simp [Za,Zf,KFR,KFL,KF,Zc,mtO,nbr,ZK,Ze,Zm,Zg,Yq,ZZ,Ye,Zs,Zn]
       rintro o ⟨ver',clk',hM',rfl⟩
       dsimp only [YE,ZK,go_sem,rA,rM,rS]
       refine Yp rfl ?_
       dsimp only [Bool.not_false,go_sem,rA,rM,rS]
       have hnext:all ++ (Z7 l p to till g been v t (j+1)).map (way ++ ·)=allj ++ (YZ l p to till g been v t j).map (way ++ ·):=by
        rw [Z2,List.map_append,<- List.append_assoc,<- hallj]
       generalize hWW:(YZ l p to till g been v t j).map (way ++ ·)=Wj at hnext ⊢
       by_cases hsm:(allj ++ Wj).length<=200
       . refine Zv (by simp only [hsm,decide_true];rfl) ?_
         dsimp only [go_sem,rA,rM,rS]
         refine ⟨rfl,?_⟩
         refine Zv (by decide) ?_
         dsimp only [go_sem,rA,rM,rS]
         rw [Zi (n:=(j:Int)+1) (by omega) (by omega),Vj (by omega)]
         rw [<- hnext] at hsm ⊢
         refine ⟨(j+1,_,ver',clk'),⟨hlt,hM',rfl,hsm⟩,by simp only;omega,?_⟩
         generalize all ++ (Z7 l p to till g been v t (j+1)).map (way ++ ·)=alln
         (refine Zl ?_ ?_ ?_ rfl rfl<;>dsimp only [ZK,Ze,Zm,Zg,Yq,ZZ,Ye,Zw,Zs,Zn,Za,id,go_sem,rA,rM,rS]<;>simp [ZK,Ze,Zm,Zg,Yq,ZZ,Ye,Zw,Zs,Zn,Za,Za,Zf,KFR,KFL,KF,Zc,mtO,nbr])
       . refine Zu (by simp only [hsm,decide_false];rfl) ?_
         dsimp only [go_sem,rA,rM,rS]
         refine ⟨rfl,?_⟩
         refine Zu rfl ?_
         dsimp only [go_sem,rA,rM,rS]
         have hWs:XC l p to till (g+1) been v t=Z7 l p to till g been v t l.legs.length:=by rw [Yx,if_neg hlate,if_neg hto]
         obtain ⟨R,hRs⟩:=Xc (l:=l) (p:=p) (to:=to) (till:=till) (f:=g) (been:=been) (v:=v) (t:=t) (j:=j+1) (l.legs.length - (j+1))
         rw [show j+1+(l.legs.length - (j+1))=l.legs.length by omega] at hRs
         have hall2:all ++ (XC l p to till (g+1) been v t).map (way ++ ·)=allj ++ Wj ++ R.map (way ++ ·):=by
          rw [hWs,hRs,List.map_append,<- List.append_assoc,hnext]
         have hlong:¬ (allj ++ Wj ++ R.map (way ++ ·)).length<=200:=by rw [List.length_append];omega
         refine ⟨_,Zv4 (key:=kI) (val:=B) (sv:=sI) (L:=L1) (k:=v) ZcS Zc8,?_⟩
         rw [hdel]
         have hMf:MW L clk':=by have:=hM'.del (k:=v);rw [hdel] at this;exact this
         refine ⟨_,⟨ver',clk',hMf,rfl⟩,?_⟩
         have hc2:cap (allj ++ Wj ++ R.map (way ++ ·))=cap (allj ++ Wj):=Zda (by omega)
         rw [hall2,hc2,decide_eq_false hlong]
         generalize cap (allj ++ Wj)=alln
         (refine Yb ?_ ?_ ?_ rfl<;>dsimp only [ZK,Ze,Zm,Zg,Yq,ZZ,Ye,Zw,Zs,Zn,Za,YE,id,go_sem,rA,rM,rS]<;>simp [ZK,Ze,Zm,Zg,Yq,ZZ,Ye,Zw,Zs,Zn,Za,YE,Za,Zf,KFR,KFL,KF,Zc,mtO,nbr])
     refine Zv (by simpa using hca) ?_
     dsimp only [go_sem,rA,rM,rS]
     by_cases hcb:v=l.legs[j].b
     . refine Zu (by simpa using hcb) ?_
       have hoth:Zk l.legs[j] v=l.legs[j].a:=by rw [Zk,if_neg (fun h=>hca h.symm),if_pos hcb.symm]
       dsimp only [go_sem,rA,rM,rS]
       refine ⟨rfl,rfl,?_⟩
       refine ZaM (key:=kI) (sv:=sI) (val:=B) (L:=L1) (k:=l.legs[j].a) (z:=.bool false) (zs:=B false) rfl rfl ZcS Zc8 rfl (by kernel_rfl) (fun w E n ok=>by simp only [R]) ?_ ?_
       . intro b hget
         have hb:b=true/\Zk l.legs[j] v ∈ v :: been:=by
          have h:=hL1 l.legs[j].a
          rw [hget] at h
          rw [hoth]
          split at h
          . rename_i hm;exact ⟨Option.some.inj h,hm⟩
          . cases h
         obtain ⟨rfl,hmem⟩:=hb
         dsimp only [Bool.not_true,go_sem,rA,rM,rS]
         repeat (refine Ve (by decide) ?_;dsimp only [go_sem,rA,rM,rS])
         refine Zv (by decide) ?_
         dsimp only [go_sem,rA,rM,rS]
         refine ⟨rfl,?_⟩
         refine Zv (by decide) ?_
         dsimp only [go_sem,rA,rM,rS]
         rw [Zi (n:=(j:Int)+1) (by omega) (by omega)]
         refine ⟨(j+1,allj,ver,clk),⟨hlt,hMj,by rw [Z2,Wv hxj (.inr hmem),List.append_nil];exact hallj,hlenj⟩,by simp only;omega,?_⟩
         (refine Zl ?_ ?_ ?_ rfl rfl<;>dsimp only [ZK,Ze,Zm,Zg,Yq,ZZ,Ye,Zw,Zs,Zn,Za,id,go_sem,rA,rM,rS]<;>simp [ZK,Ze,Zm,Zg,Yq,ZZ,Ye,Zw,Zs,Zn,Za,Za,Zf,KFR,KFL,KF,Zc,mtO,nbr])
       intro hget
       have hnb:Zk l.legs[j] v ∉ v :: been:=fun hm=>by
        have h:=hL1 l.legs[j].a
        rw [hoth] at hm
        rw [hget,if_pos hm] at h;cases h
       have hn0:¬ Zk l.legs[j] v < 0:=by rw [hoth];omega
       dsimp only [Bool.not_false,go_sem,rA,rM,rS]
       iterate 10 (refine Yp rfl ?_;dsimp only [go_sem,rA,rM,rS])
       refine call (XR l p j hlt t t hgl hok.pace hin hin) ?_
       dsimp only [go_sem,rA,rM,rS]
       refine Yp rfl ?_
       dsimp only [go_sem,rA,rM,rS]
       refine ixa 1 rfl (by decide) ?_
       dsimp only [go_sem,rA,rM,rS]
       iterate 4 (refine Yp rfl ?_;dsimp only [go_sem,rA,rM,rS])
       refine call (Zc1 way j (by omega)) ?_
       dsimp only [ZZ,go_sem,rA,rM,rS]
       refine Yp rfl ?_
       dsimp only [go_sem,rA,rM,rS]
       have hot:=ZU hok hxj hn0
       have hih:=ih (v :: been) (Zk l.legs[j] v) (ZR true l.legs[j] p t) (way ++ [j]) allj ver clk L1 (ZZ (way ++ [j])) hR' hnb hot.1 (by omega) (by simp;omega) hlenj hMj hL1 (.inl rfl)
       have hWj:(XC l p to till g (v :: been) (Zk l.legs[j] v) (ZR true l.legs[j] p t)).map (way ++ [j] ++ ·)=(YZ l p to till g been v t j).map (way ++ ·):=by
        rw [Wz hxj hn0 hnb,List.map_map]
        simp [Function.comp_def]
       rw [hWj,hoth] at hih
       refine YM [0,1,2,3,4,5,6,7] hih rfl rfl ?_ ?_ ?_ ?_
       . rfl
       . dsimp only [rho,ZZ,go_sem,rA,rM,rS]
         simp [Za,Zf,KFR,KFL,KF,Zc,mtO,nbr,ZK,Ze,Zm,Zg,Yq,ZZ,Ye,Zs,Zn]
       . dsimp only [rho,YE,ZK,go_sem,rA,rM,rS]
         simp [Za,Zf,KFR,KFL,KF,Zc,mtO,nbr,ZK,Ze,Zm,Zg,Yq,ZZ,Ye,Zs,Zn]
       rintro o ⟨ver',clk',hM',rfl⟩
       dsimp only [YE,ZK,go_sem,rA,rM,rS]
       refine Yp rfl ?_
       dsimp only [Bool.not_false,go_sem,rA,rM,rS]
       have hnext:all ++ (Z7 l p to till g been v t (j+1)).map (way ++ ·)=allj ++ (YZ l p to till g been v t j).map (way ++ ·):=by
        rw [Z2,List.map_append,<- List.append_assoc,<- hallj]
       generalize hWW:(YZ l p to till g been v t j).map (way ++ ·)=Wj at hnext ⊢
       by_cases hsm:(allj ++ Wj).length<=200
       . refine Zv (by simp only [hsm,decide_true];rfl) ?_
         dsimp only [go_sem,rA,rM,rS]
         refine ⟨rfl,?_⟩
         refine Zv (by decide) ?_
         dsimp only [go_sem,rA,rM,rS]
         rw [Zi (n:=(j:Int)+1) (by omega) (by omega),Vj (by omega)]
         rw [<- hnext] at hsm ⊢
         refine ⟨(j+1,_,ver',clk'),⟨hlt,hM',rfl,hsm⟩,by simp only;omega,?_⟩
         generalize all ++ (Z7 l p to till g been v t (j+1)).map (way ++ ·)=alln
         (refine Zl ?_ ?_ ?_ rfl rfl<;>dsimp only [ZK,Ze,Zm,Zg,Yq,ZZ,Ye,Zw,Zs,Zn,Za,id,go_sem,rA,rM,rS]<;>simp [ZK,Ze,Zm,Zg,Yq,ZZ,Ye,Zw,Zs,Zn,Za,Za,Zf,KFR,KFL,KF,Zc,mtO,nbr])
       . refine Zu (by simp only [hsm,decide_false];rfl) ?_
         dsimp only [go_sem,rA,rM,rS]
         refine ⟨rfl,?_⟩
         refine Zu rfl ?_
         dsimp only [go_sem,rA,rM,rS]
         have hWs:XC l p to till (g+1) been v t=Z7 l p to till g been v t l.legs.length:=by rw [Yx,if_neg hlate,if_neg hto]
         obtain ⟨R,hRs⟩:=Xc (l:=l) (p:=p) (to:=to) (till:=till) (f:=g) (been:=been) (v:=v) (t:=t) (j:=j+1) (l.legs.length - (j+1))
         rw [show j+1+(l.legs.length - (j+1))=l.legs.length by omega] at hRs
         have hall2:all ++ (XC l p to till (g+1) been v t).map (way ++ ·)=allj ++ Wj ++ R.map (way ++ ·):=by
          rw [hWs,hRs,List.map_append,<- List.append_assoc,hnext]
         have hlong:¬ (allj ++ Wj ++ R.map (way ++ ·)).length<=200:=by rw [List.length_append];omega
         refine ⟨_,Zv4 (key:=kI) (val:=B) (sv:=sI) (L:=L1) (k:=v) ZcS Zc8,?_⟩
         rw [hdel]
         have hMf:MW L clk':=by have:=hM'.del (k:=v);rw [hdel] at this;exact this
         refine ⟨_,⟨ver',clk',hMf,rfl⟩,?_⟩
         have hc2:cap (allj ++ Wj ++ R.map (way ++ ·))=cap (allj ++ Wj):=Zda (by omega)
         rw [hall2,hc2,decide_eq_false hlong]
         generalize cap (allj ++ Wj)=alln
         (refine Yb ?_ ?_ ?_ rfl<;>dsimp only [ZK,Ze,Zm,Zg,Yq,ZZ,Ye,Zw,Zs,Zn,Za,YE,id,go_sem,rA,rM,rS]<;>simp [ZK,Ze,Zm,Zg,Yq,ZZ,Ye,Zw,Zs,Zn,Za,YE,Za,Zf,KFR,KFL,KF,Zc,mtO,nbr])
     refine Zv (by simpa using hcb) ?_
     dsimp only [go_sem,rA,rM,rS]
     rw [Zi (n:=(j:Int)+1) (by omega) (by omega)]
     have hoth:Zk l.legs[j] v = -1:=by rw [Zk,if_neg (fun h=>hca h.symm),if_neg (fun h=>hcb h.symm)]
     refine ⟨(j+1,allj,ver,clk),⟨hlt,hMj,by rw [Z2,Wv hxj (.inl (by omega)),List.append_nil];exact hallj,hlenj⟩,by simp only;omega,?_⟩
     (refine Zl ?_ ?_ ?_ rfl rfl<;>dsimp only [ZK,Ze,Zm,Zg,Yq,ZZ,Ye,Zw,Zs,Zn,Za,id,go_sem,rA,rM,rS]<;>simp [ZK,Ze,Zm,Zg,Yq,ZZ,Ye,Zw,Zs,Zn,Za,Za,Zf,KFR,KFL,KF,Zc,mtO,nbr])
   refine Zv (by simp;omega) ?_
   dsimp only [go_sem,rA,rM,rS]
   have hje:j=l.legs.length:=by omega
   subst hje
   have hWs:XC l p to till (g+1) been v t=Z7 l p to till g been v t l.legs.length:=by rw [Yx,if_neg hlate,if_neg hto]
   refine ⟨_,Zv4 (key:=kI) (val:=B) (sv:=sI) (L:=L1) (k:=v) ZcS Zc8,?_⟩
   rw [hdel]
   have hMf:MW L clk:=by have:=hMj.del (k:=v);rw [hdel] at this;exact this
   refine ⟨_,⟨ver,clk,hMf,rfl⟩,?_⟩
   rw [hWs,<- hallj,Vj (by omega),decide_eq_true hlenj]
   (refine Yb ?_ ?_ ?_ rfl<;>dsimp only [ZK,Ze,Zm,Zg,Yq,ZZ,Ye,Zw,Zs,Zn,Za,YE,id,go_sem,rA,rM,rS]<;>simp [ZK,Ze,Zm,Zg,Yq,ZZ,Ye,Zw,Zs,Zn,Za,YE,Za,Zf,KFR,KFL,KF,Zc,mtO,nbr])
 . refine gh (ZbI (s':=.sl false 1 (way.map Ye)) 1 rfl (by subst hw0;exact YA) (fun _ _ _ h=>by cases h)) ?_
   dsimp only [ZZ,go_sem,rA,rM,rS]
   refine br ?_ ?_
   . intro hlate
     have hlate:t > till:=of_decide_eq_true hlate
     dsimp only [go_sem,rA,rM,rS]
     refine ⟨_,⟨ver,clk,hM,rfl⟩,?_⟩
     rw [Zci hlate,List.map_nil,List.append_nil,Vj (by omega),decide_eq_true hall]
     (refine Yb ?_ ?_ ?_ rfl<;>dsimp only [ZK,Ze,Zm,Zg,Yq,ZZ,Ye,Zw,Zs,Zn,Za,YE,id,go_sem,rA,rM,rS]<;>simp [ZK,Ze,Zm,Zg,Yq,ZZ,Ye,Zw,Zs,Zn,Za,YE,Za,Zf,KFR,KFL,KF,Zc,mtO,nbr])
   intro hlate
   have hlate:¬ t > till:=of_decide_eq_false hlate
   dsimp only [go_sem,rA,rM,rS]
   refine br ?_ ?_
   . intro hto
     have hto:v=to:=by simpa using hto
     dsimp only [go_sem,rA,rM,rS]
     refine call (ZaN way (by omega)) ?_
     dsimp only [ZZ,go_sem,rA,rM,rS]
     simp only [nbr]
     dsimp only [go_sem,rA,rM,rS]
     refine ⟨(by intro c hc;simp only [List.mem_singleton] at hc;subst hc;rfl),by simp;omega,?_⟩
     dsimp only [go_sem,rA,rM,rS]
     simp only [nbr]
     dsimp only [go_sem,rA,rM,rS]
     have e:all.map Yq ++ [[SV.sl false 1 (way.map Ye)]]=(all ++ [way]).map Yq:=by simp [Yq,ZZ]
     rw [e]
     refine ⟨_,⟨ver+1,clk,hM,rfl⟩,?_⟩
     rw [Yx,if_neg hlate,if_pos hto]
     simp only [List.map_cons,List.map_nil,List.append_nil,List.length_map]
     rw [Vj (by simp;omega)]
     have hd:decide (((all ++ [way]).length:Int)<=200)=decide ((all ++ [way]).length<=200):=by simp;omega
     rw [hd]
     (refine Yb ?_ ?_ ?_ rfl<;>dsimp only [ZK,Ze,Zm,Zg,Yq,ZZ,Ye,Zw,Zs,Zn,Za,YE,id,go_sem,rA,rM,rS]<;>simp [ZK,Ze,Zm,Zg,Yq,ZZ,Ye,Zw,Zs,Zn,Za,YE,Za,Zf,KFR,KFL,KF,Zc,mtO,nbr])
   intro hto
   have hto:¬ v=to:=by simpa using hto
   dsimp only [go_sem,rA,rM,rS]
   refine ZbD (ins:=false) (key:=kI) (val:=B) (L:=L) (k:=v) (v:=true) rfl rfl ZcS Zc8 rfl rfl (by simp) ?_
   dsimp only [go_sem,rA,rM,rS]
   refine ⟨rfl,?_⟩
   have hvL:Xy v L=none:=by rw [hbL,if_neg hv]
   have hM1:=hM.set (k:=v) true
   have hL1:Zeb (v :: been) (V1 clk v true L):=fun u=>by
    rw [V5]
    by_cases hu:u=v
    . simp [hu]
    . rw [if_neg hu,hbL]
      simp [hu]
   have hdel:=Zfg (L:=L) (c:=clk) (b:=true) hvL
   generalize V1 clk v true L=L1 at hM1 hL1 hdel ⊢
   generalize ZbR clk v L=clk1 at hM1 ⊢
   refine UZ [] (Zax l p v) rfl rfl rfl ?_ ?_ ?_
   . exact Zc (by simp [ZK,Ze,Zm,Zg,Za,KFL,KF])
   . trivial
   dsimp only [ZaO,ZK,go_sem,rA,rM,rS]
   refine gh YR ?_
   dsimp only [go_sem,rA,rM,rS]
   refine ⟨Zyh,fun rec=>?_⟩
   refine Zx9 ?_
   dsimp only [Zv2,Zv0,go_sem,rA,rM,rS]
   refine Xf (fun q:Nat × List (List Nat) × Nat × Nat=>[(10,I q.1)]) (fun q=>[(2,.cells [.mr 6 q.2.2.1] 144),(6,.row q.2.2.1 1 (q.2.1.map Yq) 35),(7,.map (mpS kI B L1) q.2.2.2)])
    (fun q=>q.1<=l.legs.length/\MW L1 q.2.2.2/\q.2.1=all ++ (Z7 l p to till g been v t q.1).map (way ++ ·)/\q.2.1.length<=200) (fun q=>l.legs.length - q.1) (0,all,ver,clk1) ⟨Nat.zero_le _,hM1,by simp [Zdh],hall⟩ ?_ ?_
   . (refine Zl ?_ ?_ ?_ rfl rfl<;>dsimp only [ZK,Ze,Zm,Zg,Yq,ZZ,Ye,Zw,Zs,Zn,Za,id,go_sem,rA,rM,rS]<;>simp [ZK,Ze,Zm,Zg,Yq,ZZ,Ye,Zw,Zs,Zn,Za,Za,Zf,KFR,KFL,KF,Zc,mtO,nbr])
   rintro ⟨j,allj,ver,clk⟩ ⟨hj,hMj,hallj,hlenj⟩
   simp only at hj hMj hallj hlenj
   dsimp only [go_sem,rA,rM,rS]
   simp only [List.length_map]
   by_cases hlt:j < l.legs.length
   . refine Zu (by simpa using hlt) ?_
     dsimp only [go_sem,rA,rM,rS]
     refine Zp j hlt rfl ?_
     dsimp only [Zm,go_sem,rA,rM,rS]
     have hgl:GoodLeg l.legs[j]:=XG hok.land _ (List.getElem_mem _)
     have hends:=hok.ends (List.getElem_mem hlt)
     have hxj:l.legs[j]? = some l.legs[j]:=List.getElem?_eq_getElem hlt
     have hin:inR 0 100001 t=true:=by simp only [inR,decide_eq_true_eq];omega
     have hab:=Xi (k:=true) (t:=t) hgl hok.pace (by omega)
     by_cases hca:v=l.legs[j].a
     . refine Zu (by simpa using hca) ?_
       have hoth:Zk l.legs[j] v=l.legs[j].b:=by rw [Zk,if_pos hca.symm]
       dsimp only [go_sem,rA,rM,rS]
       refine ⟨rfl,rfl,?_⟩
       refine ZaM (key:=kI) (sv:=sI) (val:=B) (L:=L1) (k:=l.legs[j].b) (z:=.bool false) (zs:=B false) rfl rfl ZcS Zc8 rfl (by kernel_rfl) (fun w E n ok=>by simp only [R]) ?_ ?_
       . intro b hget
         have hb:b=true/\Zk l.legs[j] v ∈ v :: been:=by
          have h:=hL1 l.legs[j].b
          rw [hget] at h
          rw [hoth]
          split at h
          . rename_i hm;exact ⟨Option.some.inj h,hm⟩
          . cases h
         obtain ⟨rfl,hmem⟩:=hb
         dsimp only [Bool.not_true,go_sem,rA,rM,rS]
         repeat (refine Ve (by decide) ?_;dsimp only [go_sem,rA,rM,rS])
         refine Zv (by decide) ?_
         dsimp only [go_sem,rA,rM,rS]
         refine ⟨rfl,?_⟩
         refine Zv (by decide) ?_
         dsimp only [go_sem,rA,rM,rS]
         rw [Zi (n:=(j:Int)+1) (by omega) (by omega)]
         refine ⟨(j+1,allj,ver,clk),⟨hlt,hMj,by rw [Z2,Wv hxj (.inr hmem),List.append_nil];exact hallj,hlenj⟩,by simp only;omega,?_⟩
         (refine Zl ?_ ?_ ?_ rfl rfl<;>dsimp only [ZK,Ze,Zm,Zg,Yq,ZZ,Ye,Zw,Zs,Zn,Za,id,go_sem,rA,rM,rS]<;>simp [ZK,Ze,Zm,Zg,Yq,ZZ,Ye,Zw,Zs,Zn,Za,Za,Zf,KFR,KFL,KF,Zc,mtO,nbr])
       intro hget
       have hnb:Zk l.legs[j] v ∉ v :: been:=fun hm=>by
        have h:=hL1 l.legs[j].b
        rw [hoth] at hm
        rw [hget,if_pos hm] at h;cases h
       have hn0:¬ Zk l.legs[j] v < 0:=by rw [hoth];omega
       dsimp only [Bool.not_false,go_sem,rA,rM,rS]
       iterate 10 (refine Yp rfl ?_;dsimp only [go_sem,rA,rM,rS])
       refine call (XR l p j hlt t t hgl hok.pace hin hin) ?_
       dsimp only [go_sem,rA,rM,rS]
       refine Yp rfl ?_
       dsimp only [go_sem,rA,rM,rS]
       refine ixa 1 rfl (by decide) ?_
       dsimp only [go_sem,rA,rM,rS]
       iterate 4 (refine Yp rfl ?_;dsimp only [go_sem,rA,rM,rS])
       refine call (Zc1 way j (by omega)) ?_
       dsimp only [ZZ,go_sem,rA,rM,rS]
       refine Yp rfl ?_
       dsimp only [go_sem,rA,rM,rS]
       have hot:=ZU hok hxj hn0
       have hih:=ih (v :: been) (Zk l.legs[j] v) (ZR true l.legs[j] p t) (way ++ [j]) allj ver clk L1 (ZZ (way ++ [j])) hR' hnb hot.1 (by omega) (by simp;omega) hlenj hMj hL1 (.inl rfl)
       have hWj:(XC l p to till g (v :: been) (Zk l.legs[j] v) (ZR true l.legs[j] p t)).map (way ++ [j] ++ ·)=(YZ l p to till g been v t j).map (way ++ ·):=by
        rw [Wz hxj hn0 hnb,List.map_map]
        simp [Function.comp_def]
       rw [hWj,hoth] at hih
       refine YM [0,1,2,3,4,5,6,7] hih rfl rfl ?_ ?_ ?_ ?_
       . rfl
       . dsimp only [rho,ZZ,go_sem,rA,rM,rS]
         simp [Za,Zf,KFR,KFL,KF,Zc,mtO,nbr,ZK,Ze,Zm,Zg,Yq,ZZ,Ye,Zs,Zn]
       . dsimp only [rho,YE,ZK,go_sem,rA,rM,rS]
         simp [Za,Zf,KFR,KFL,KF,Zc,mtO,nbr,ZK,Ze,Zm,Zg,Yq,ZZ,Ye,Zs,Zn]
       rintro o ⟨ver',clk',hM',rfl⟩
       dsimp only [YE,ZK,go_sem,rA,rM,rS]
       refine Yp rfl ?_
       dsimp only [Bool.not_false,go_sem,rA,rM,rS]
       have hnext:all ++ (Z7 l p to till g been v t (j+1)).map (way ++ ·)=allj ++ (YZ l p to till g been v t j).map (way ++ ·):=by
        rw [Z2,List.map_append,<- List.append_assoc,<- hallj]
       generalize hWW:(YZ l p to till g been v t j).map (way ++ ·)=Wj at hnext ⊢
       by_cases hsm:(allj ++ Wj).length<=200
       . refine Zv (by simp only [hsm,decide_true];rfl) ?_
         dsimp only [go_sem,rA,rM,rS]
         refine ⟨rfl,?_⟩
         refine Zv (by decide) ?_
         dsimp only [go_sem,rA,rM,rS]
         rw [Zi (n:=(j:Int)+1) (by omega) (by omega),Vj (by omega)]
         rw [<- hnext] at hsm ⊢
         refine ⟨(j+1,_,ver',clk'),⟨hlt,hM',rfl,hsm⟩,by simp only;omega,?_⟩
         generalize all ++ (Z7 l p to till g been v t (j+1)).map (way ++ ·)=alln
         (refine Zl ?_ ?_ ?_ rfl rfl<;>dsimp only [ZK,Ze,Zm,Zg,Yq,ZZ,Ye,Zw,Zs,Zn,Za,id,go_sem,rA,rM,rS]<;>simp [ZK,Ze,Zm,Zg,Yq,ZZ,Ye,Zw,Zs,Zn,Za,Za,Zf,KFR,KFL,KF,Zc,mtO,nbr])
       . refine Zu (by simp only [hsm,decide_false];rfl) ?_
         dsimp only [go_sem,rA,rM,rS]
         refine ⟨rfl,?_⟩
         refine Zu rfl ?_
         dsimp only [go_sem,rA,rM,rS]
         have hWs:XC l p to till (g+1) been v t=Z7 l p to till g been v t l.legs.length:=by rw [Yx,if_neg hlate,if_neg hto]
         obtain ⟨R,hRs⟩:=Xc (l:=l) (p:=p) (to:=to) (till:=till) (f:=g) (been:=been) (v:=v) (t:=t) (j:=j+1) (l.legs.length - (j+1))
         rw [show j+1+(l.legs.length - (j+1))=l.legs.length by omega] at hRs
         have hall2:all ++ (XC l p to till (g+1) been v t).map (way ++ ·)=allj ++ Wj ++ R.map (way ++ ·):=by
          rw [hWs,hRs,List.map_append,<- List.append_assoc,hnext]
         have hlong:¬ (allj ++ Wj ++ R.map (way ++ ·)).length<=200:=by rw [List.length_append];omega
         refine ⟨_,Zv4 (key:=kI) (val:=B) (sv:=sI) (L:=L1) (k:=v) ZcS Zc8,?_⟩
         rw [hdel]
         have hMf:MW L clk':=by have:=hM'.del (k:=v);rw [hdel] at this;exact this
         refine ⟨_,⟨ver',clk',hMf,rfl⟩,?_⟩
         have hc2:cap (allj ++ Wj ++ R.map (way ++ ·))=cap (allj ++ Wj):=Zda (by omega)
         rw [hall2,hc2,decide_eq_false hlong]
         generalize cap (allj ++ Wj)=alln
         (refine Yb ?_ ?_ ?_ rfl<;>dsimp only [ZK,Ze,Zm,Zg,Yq,ZZ,Ye,Zw,Zs,Zn,Za,YE,id,go_sem,rA,rM,rS]<;>simp [ZK,Ze,Zm,Zg,Yq,ZZ,Ye,Zw,Zs,Zn,Za,YE,Za,Zf,KFR,KFL,KF,Zc,mtO,nbr])
     refine Zv (by simpa using hca) ?_
     dsimp only [go_sem,rA,rM,rS]
     by_cases hcb:v=l.legs[j].b
     . refine Zu (by simpa using hcb) ?_
       have hoth:Zk l.legs[j] v=l.legs[j].a:=by rw [Zk,if_neg (fun h=>hca h.symm),if_pos hcb.symm]
       dsimp only [go_sem,rA,rM,rS]
       refine ⟨rfl,rfl,?_⟩
       refine ZaM (key:=kI) (sv:=sI) (val:=B) (L:=L1) (k:=l.legs[j].a) (z:=.bool false) (zs:=B false) rfl rfl ZcS Zc8 rfl (by kernel_rfl) (fun w E n ok=>by simp only [R]) ?_ ?_
       . intro b hget
         have hb:b=true/\Zk l.legs[j] v ∈ v :: been:=by
          have h:=hL1 l.legs[j].a
          rw [hget] at h
          rw [hoth]
          split at h
          . rename_i hm;exact ⟨Option.some.inj h,hm⟩
          . cases h
         obtain ⟨rfl,hmem⟩:=hb
         dsimp only [Bool.not_true,go_sem,rA,rM,rS]
         repeat (refine Ve (by decide) ?_;dsimp only [go_sem,rA,rM,rS])
         refine Zv (by decide) ?_
         dsimp only [go_sem,rA,rM,rS]
         refine ⟨rfl,?_⟩
         refine Zv (by decide) ?_
         dsimp only [go_sem,rA,rM,rS]
         rw [Zi (n:=(j:Int)+1) (by omega) (by omega)]
         refine ⟨(j+1,allj,ver,clk),⟨hlt,hMj,by rw [Z2,Wv hxj (.inr hmem),List.append_nil];exact hallj,hlenj⟩,by simp only;omega,?_⟩
         (refine Zl ?_ ?_ ?_ rfl rfl<;>dsimp only [ZK,Ze,Zm,Zg,Yq,ZZ,Ye,Zw,Zs,Zn,Za,id,go_sem,rA,rM,rS]<;>simp [ZK,Ze,Zm,Zg,Yq,ZZ,Ye,Zw,Zs,Zn,Za,Za,Zf,KFR,KFL,KF,Zc,mtO,nbr])
       intro hget
       have hnb:Zk l.legs[j] v ∉ v :: been:=fun hm=>by
        have h:=hL1 l.legs[j].a
        rw [hoth] at hm
        rw [hget,if_pos hm] at h;cases h
       have hn0:¬ Zk l.legs[j] v < 0:=by rw [hoth];omega
       dsimp only [Bool.not_false,go_sem,rA,rM,rS]
       iterate 10 (refine Yp rfl ?_;dsimp only [go_sem,rA,rM,rS])
       refine call (XR l p j hlt t t hgl hok.pace hin hin) ?_
       dsimp only [go_sem,rA,rM,rS]
       refine Yp rfl ?_
       dsimp only [go_sem,rA,rM,rS]
       refine ixa 1 rfl (by decide) ?_
       dsimp only [go_sem,rA,rM,rS]
       iterate 4 (refine Yp rfl ?_;dsimp only [go_sem,rA,rM,rS])
       refine call (Zc1 way j (by omega)) ?_
       dsimp only [ZZ,go_sem,rA,rM,rS]
       refine Yp rfl ?_
       dsimp only [go_sem,rA,rM,rS]
       have hot:=ZU hok hxj hn0
       have hih:=ih (v :: been) (Zk l.legs[j] v) (ZR true l.legs[j] p t) (way ++ [j]) allj ver clk L1 (ZZ (way ++ [j])) hR' hnb hot.1 (by omega) (by simp;omega) hlenj hMj hL1 (.inl rfl)
       have hWj:(XC l p to till g (v :: been) (Zk l.legs[j] v) (ZR true l.legs[j] p t)).map (way ++ [j] ++ ·)=(YZ l p to till g been v t j).map (way ++ ·):=by
        rw [Wz hxj hn0 hnb,List.map_map]
        simp [Function.comp_def]
       rw [hWj,hoth] at hih
       refine YM [0,1,2,3,4,5,6,7] hih rfl rfl ?_ ?_ ?_ ?_
       . rfl
       . dsimp only [rho,ZZ,go_sem,rA,rM,rS]
         simp [Za,Zf,KFR,KFL,KF,Zc,mtO,nbr,ZK,Ze,Zm,Zg,Yq,ZZ,Ye,Zs,Zn]
       . dsimp only [rho,YE,ZK,go_sem,rA,rM,rS]
         simp [Za,Zf,KFR,KFL,KF,Zc,mtO,nbr,ZK,Ze,Zm,Zg,Yq,ZZ,Ye,Zs,Zn]
       rintro o ⟨ver',clk',hM',rfl⟩
       dsimp only [YE,ZK,go_sem,rA,rM,rS]
       refine Yp rfl ?_
       dsimp only [Bool.not_false,go_sem,rA,rM,rS]
       have hnext:all ++ (Z7 l p to till g been v t (j+1)).map (way ++ ·)=allj ++ (YZ l p to till g been v t j).map (way ++ ·):=by
        rw [Z2,List.map_append,<- List.append_assoc,<- hallj]
       generalize hWW:(YZ l p to till g been v t j).map (way ++ ·)=Wj at hnext ⊢
       by_cases hsm:(allj ++ Wj).length<=200
       . refine Zv (by simp only [hsm,decide_true];rfl) ?_
         dsimp only [go_sem,rA,rM,rS]
         refine ⟨rfl,?_⟩
         refine Zv (by decide) ?_
         dsimp only [go_sem,rA,rM,rS]
         rw [Zi (n:=(j:Int)+1) (by omega) (by omega),Vj (by omega)]
         rw [<- hnext] at hsm ⊢
         refine ⟨(j+1,_,ver',clk'),⟨hlt,hM',rfl,hsm⟩,by simp only;omega,?_⟩
         generalize all ++ (Z7 l p to till g been v t (j+1)).map (way ++ ·)=alln
         (refine Zl ?_ ?_ ?_ rfl rfl<;>dsimp only [ZK,Ze,Zm,Zg,Yq,ZZ,Ye,Zw,Zs,Zn,Za,id,go_sem,rA,rM,rS]<;>simp [ZK,Ze,Zm,Zg,Yq,ZZ,Ye,Zw,Zs,Zn,Za,Za,Zf,KFR,KFL,KF,Zc,mtO,nbr])
       . refine Zu (by simp only [hsm,decide_false];rfl) ?_
         dsimp only [go_sem,rA,rM,rS]
         refine ⟨rfl,?_⟩
         refine Zu rfl ?_
         dsimp only [go_sem,rA,rM,rS]
         have hWs:XC l p to till (g+1) been v t=Z7 l p to till g been v t l.legs.length:=by rw [Yx,if_neg hlate,if_neg hto]
         obtain ⟨R,hRs⟩:=Xc (l:=l) (p:=p) (to:=to) (till:=till) (f:=g) (been:=been) (v:=v) (t:=t) (j:=j+1) (l.legs.length - (j+1))
         rw [show j+1+(l.legs.length - (j+1))=l.legs.length by omega] at hRs
         have hall2:all ++ (XC l p to till (g+1) been v t).map (way ++ ·)=allj ++ Wj ++ R.map (way ++ ·):=by
          rw [hWs,hRs,List.map_append,<- List.append_assoc,hnext]
         have hlong:¬ (allj ++ Wj ++ R.map (way ++ ·)).length<=200:=by rw [List.length_append];omega
         refine ⟨_,Zv4 (key:=kI) (val:=B) (sv:=sI) (L:=L1) (k:=v) ZcS Zc8,?_⟩
         rw [hdel]
         have hMf:MW L clk':=by have:=hM'.del (k:=v);rw [hdel] at this;exact this
         refine ⟨_,⟨ver',clk',hMf,rfl⟩,?_⟩
         have hc2:cap (allj ++ Wj ++ R.map (way ++ ·))=cap (allj ++ Wj):=Zda (by omega)
         rw [hall2,hc2,decide_eq_false hlong]
         generalize cap (allj ++ Wj)=alln
         (refine Yb ?_ ?_ ?_ rfl<;>dsimp only [ZK,Ze,Zm,Zg,Yq,ZZ,Ye,Zw,Zs,Zn,Za,YE,id,go_sem,rA,rM,rS]<;>simp [ZK,Ze,Zm,Zg,Yq,ZZ,Ye,Zw,Zs,Zn,Za,YE,Za,Zf,KFR,KFL,KF,Zc,mtO,nbr])
     refine Zv (by simpa using hcb) ?_
     dsimp only [go_sem,rA,rM,rS]
     rw [Zi (n:=(j:Int)+1) (by omega) (by omega)]
     have hoth:Zk l.legs[j] v = -1:=by rw [Zk,if_neg (fun h=>hca h.symm),if_neg (fun h=>hcb h.symm)]
     refine ⟨(j+1,allj,ver,clk),⟨hlt,hMj,by rw [Z2,Wv hxj (.inl (by omega)),List.append_nil];exact hallj,hlenj⟩,by simp only;omega,?_⟩
     (refine Zl ?_ ?_ ?_ rfl rfl<;>dsimp only [ZK,Ze,Zm,Zg,Yq,ZZ,Ye,Zw,Zs,Zn,Za,id,go_sem,rA,rM,rS]<;>simp [ZK,Ze,Zm,Zg,Yq,ZZ,Ye,Zw,Zs,Zn,Za,Za,Zf,KFR,KFL,KF,Zc,mtO,nbr])
   refine Zv (by simp;omega) ?_
   dsimp only [go_sem,rA,rM,rS]
   have hje:j=l.legs.length:=by omega
   subst hje
   have hWs:XC l p to till (g+1) been v t=Z7 l p to till g been v t l.legs.length:=by rw [Yx,if_neg hlate,if_neg hto]
   refine ⟨_,Zv4 (key:=kI) (val:=B) (sv:=sI) (L:=L1) (k:=v) ZcS Zc8,?_⟩
   rw [hdel]
   have hMf:MW L clk:=by have:=hMj.del (k:=v);rw [hdel] at this;exact this
   refine ⟨_,⟨ver,clk,hMf,rfl⟩,?_⟩
   rw [hWs,<- hallj,Vj (by omega),decide_eq_true hlenj]
   (refine Yb ?_ ?_ ?_ rfl<;>dsimp only [ZK,Ze,Zm,Zg,Yq,ZZ,Ye,Zw,Zs,Zn,Za,YE,id,go_sem,rA,rM,rS]<;>simp [ZK,Ze,Zm,Zg,Yq,ZZ,Ye,Zw,Zs,Zn,Za,YE,Za,Zf,KFR,KFL,KF,Zc,mtO,nbr])
end Go.Proofs.YtiigiflofnjilaaGreat
namespace Go.Azalai
open Go.Sx
def YI (l:Land):Int->List Int->List Int->Option Int
 | v,_,[]=>some v
 | v,been,i :: r=>if WY l i v < 0 then none else if WY l i v ∈ been then none else YI l (WY l i v) (WY l i v :: been) r
end Go.Azalai
namespace Go.Proofs.YtiigiflofnjilaaGreat
open Go Go.Sx Go.Azalai
theorem Zeb.set {been:List Int} {L:List (Nat × Int × Bool)} {c:Nat} {v:Int} (h:Zeb been L):Zeb (v :: been) (V1 c v true L):=fun u=>by
 rw [V5]
 by_cases hu:u=v
 . simp [hu]
 . rw [if_neg hu,h u];simp [hu]
theorem ZxO:Y1 Tryz.prog 4=some (.bool false):=by kernel_rfl
theorem bz_RS:∀ w E n ok,R w E n ok (B false) (.bool false):=fun w E n ok=>by simp only [R]
theorem Zdr (s:Season) (hs:SmallS s) (hl:ZM s.land=true) (hp:Z1 s.pace=true) (h0:0<=s.start/\s.start < s.land.wells.length) (legs:List Int) (hg:legs.length<=1000) (c:Bool) :
 Ct Tryz.prog 58 [.agg (Zr s),.sl c 1 (legs.map Zo)] (.tup [I ((YI s.land s.start [s.start] legs).getD 0),B (YI s.land s.start [s.start] legs).isSome]):=by
 have hw:=hs.land.1
 have hlg:=hs.land.2.1
 have hlp:OkLP s.land s.pace:=⟨hl,hp⟩
 refine t58.1 (by simp [Zr,Zj,Ze,Zm,Zg,Zd,Zo,Za,KFL,KF]) (by simp [KFL,KF]) ?_
 dsimp only [c58,r58,Zr,go_sem,rA,rM,rS]
 refine ZbK rfl rfl rfl ?_
 dsimp only [go_sem,rA,rM,rS]
 refine ZbD (ins:=true) (key:=kI) (val:=B) (L:=[]) (k:=s.start) (v:=true) rfl rfl ZcS Zc8 rfl rfl (by simp) ?_
 dsimp only [go_sem,rA,rM,rS]
 have hb0:Zeb [s.start] (V1 0 s.start true []):=fun u=>by rw [V5];simp [Xy]
 refine Ws [1,2,6,16,17,18,4,5] rfl (fun q:Nat × Int × List Int × List (Nat × Int × Bool) × Nat=>[(18,I q.1),(4,I q.2.1)]) (fun q=>[(1,.map (mpS kI B q.2.2.2.1) q.2.2.2.2)])
  (fun q=>q.1<=legs.length/\YI s.land q.2.1 q.2.2.1 (legs.drop q.1)=YI s.land s.start [s.start] legs/\Zeb q.2.2.1 q.2.2.2.1/\MW q.2.2.2.1 q.2.2.2.2/\0<=q.2.1/\q.2.1 < s.land.wells.length)
  (fun q=>legs.length - q.1) (0,s.start,[s.start],V1 0 s.start true [],ZbR 0 s.start ([]:List (Nat × Int × Bool))) ⟨Nat.zero_le _,rfl,hb0,MW.nil.set true,h0⟩ ?_ ?_
 . (refine Zl ?_ ?_ ?_ rfl rfl<;>dsimp only [Zg,Ze,Zm,Zj,Zd,Zo,Zs,Zn,id,go_sem,rA,rM,rS]<;>simp [Zg,Ze,Zm,Zj,Zd,Zo,Zs,Zn,Za,Zf,KFR,KFL,KF,Zc,mtO,nbr])
 rintro ⟨k,v,been,L,c⟩ ⟨hk,hi,hb,hM,hv⟩
 simp only at hk hi hb hM hv
 dsimp only [go_sem,rA,rM,rS]
 simp only [List.length_map]
 by_cases hlt:k < legs.length
 case neg =>
  refine Zv (by simp;omega) ?_
  dsimp only [go_sem,rA,rM,rS]
  rw [<- hi,List.drop_eq_nil_of_le (by omega)]
  rfl
 refine Zu (by simpa using hlt) ?_
 dsimp only [go_sem,rA,rM,rS]
 refine Zp k hlt rfl ?_
 dsimp only [Zo,go_sem,rA,rM,rS]
 simp only [List.length_map]
 rw [Zi (n:=(s.land.legs.length:Int) - 1) (by omega) (by omega)]
 refine call (ZfC _ _ _ _) ?_
 dsimp only [go_sem,rA,rM,rS]
 rw [List.drop_eq_getElem_cons hlt,YI] at hi
 by_cases hr:inR 0 (s.land.legs.length - 1) legs[k]=true
 case neg =>
  refine Zu (by simpa using hr) ?_
  dsimp only [go_sem,rA,rM,rS]
  simp only [inR,decide_eq_true_eq] at hr
  rw [if_pos (by rw [Zeo (by omega)];decide)] at hi
  rw [<- hi];rfl
 refine Zv (by simpa using hr) ?_
 dsimp only [go_sem,rA,rM,rS]
 simp only [inR,decide_eq_true_eq] at hr
 obtain ⟨n,hn⟩:=Int.eq_ofNat_of_zero_le hr.1
 rw [hn] at hr hi ⊢
 have hnl:n < s.land.legs.length:=by omega
 refine Zp n hnl rfl ?_
 dsimp only [Zm,go_sem,rA,rM,rS]
 have hends:=hlp.ends (List.getElem_mem hnl)
 rw [Zbe hnl] at hi
 repeat (refine gb ?_;dsimp only [go_sem,rA,rM,rS])
 by_cases hof:v=s.land.legs[n].a\/v=s.land.legs[n].b
 case neg =>
  refine Zu (by simp [bne];omega) ?_
  dsimp only [go_sem,rA,rM,rS]
  rw [if_pos (by unfold Zk;rw [if_neg (by omega),if_neg (by omega)];decide)] at hi
  rw [<- hi];rfl
 refine Zv (by simp [bne];omega) ?_
 dsimp only [go_sem,rA,rM,rS]
 have ho:Zk s.land.legs[n] v=s.land.legs[n].a+s.land.legs[n].b - v:=by
  unfold Zk;rcases hof with h | h
  . rw [if_pos h.symm];omega
  . rw [if_neg (by omega),if_pos h.symm];omega
 rw [Zi (n:=s.land.legs[n].a+s.land.legs[n].b) (by omega) (by omega),Zi (n:=s.land.legs[n].a+s.land.legs[n].b - v) (by omega) (by omega)]
 have hoi:0<=s.land.legs[n].a+s.land.legs[n].b - v/\s.land.legs[n].a+s.land.legs[n].b - v < s.land.wells.length:=by omega
 rw [ho,if_neg (by omega)] at hi
 generalize s.land.legs[n].a+s.land.legs[n].b - v=u at hi hoi
 have hbu:=hb u
 refine ZaM (key:=kI) (val:=B) (sv:=sI) (L:=L) (k:=u) (zs:=B false) rfl rfl ZcS Zc8 rfl ZxO bz_RS (fun b hg=>?_) (fun hg=>?_)
 . rw [hbu] at hg
   by_cases hm:u ∈ been
   case neg=>rw [if_neg hm] at hg;cases hg
   rw [if_pos hm] at hg hi
   cases hg
   dsimp only [go_sem,rA,rM,rS]
   refine Zu rfl ?_
   dsimp only [go_sem,rA,rM,rS]
   rw [<- hi];rfl
 . rw [hbu] at hg
   by_cases hm:u ∈ been
   . rw [if_pos hm] at hg;cases hg
   rw [if_neg hm] at hi
   dsimp only [go_sem,rA,rM,rS]
   refine Zv rfl ?_
   dsimp only [go_sem,rA,rM,rS]
   refine ZbD (ins:=false) (key:=kI) (val:=B) (L:=L) (k:=u) (v:=true) rfl rfl ZcS Zc8 rfl rfl (by simp) ?_
   dsimp only [go_sem,rA,rM,rS]
   rw [Zi (n:=(k:Int)+1) (by omega) (by omega)]
   refine ⟨(k+1,u,u :: been,V1 c u true L,ZbR c u L),⟨hlt,hi,hb.set,hM.set true,hoi⟩,by simp only;omega,?_⟩
   (refine Zl ?_ ?_ ?_ rfl rfl<;>dsimp only [Zg,Ze,Zm,Zj,Zd,Zo,Zs,Zn,id,go_sem,rA,rM,rS]<;>simp [Zg,Ze,Zm,Zj,Zd,Zo,Zs,Zn,Za,Zf,KFR,KFL,KF,Zc,mtO,nbr])
def ZbX (n:Nat) (been:List Int):List Bool:=(List.range n).map fun u:Nat=>decide ((u:Int) ∈ been)
theorem Yw {n:Nat} {been:List Int}:(ZbX n been).length=n:=by simp [ZbX]
theorem Wy {n u:Nat} {been:List Int} (h:u < (ZbX n been).length):(ZbX n been)[u]=decide ((u:Int) ∈ been):=by simp [ZbX]
theorem ZaC {n u:Nat} {been:List Int} (h:u < n):(ZbX n been).set u true=ZbX n ((u:Int) :: been):=by
 apply List.ext_getElem (by simp [Yw])
 intro i h1 h2
 rw [List.getElem_set,Wy]
 by_cases hi:u=i
 . subst hi;rw [if_pos rfl,Wy];simp
 . rw [if_neg hi,Wy]
   have:¬ (i:Int)=(u:Int):=by omega
   simp [this]
theorem ZjL {n:Nat}:ZbX n []=List.replicate n false:=by
 apply List.ext_getElem (by simp [Yw])
 intro i h1 h2
 rw [Wy];simp
theorem Zsq (s:Season) (hs:SmallS s) (hl:ZM s.land=true) (hp:Z1 s.pace=true) (h0:0<=s.start/\s.start < s.land.wells.length) (legs:List Int) (hg:legs.length<=1000) (c:Bool) :
 Ct Tryz.prog 87 [.agg (Zr s),.sl c 1 (legs.map Zo)] (I ((YI s.land s.start [s.start] legs).getD (-1))):=by
 have hw:=hs.land.1
 have hlg:=hs.land.2.1
 have hlp:OkLP s.land s.pace:=⟨hl,hp⟩
 refine t87.1 (by simp [Zr,Zj,Ze,Zm,Zg,Zd,Zo,Za,KFL,KF]) (by simp [KFL,KF]) ?_
 dsimp only [c87,r87,Zr,go_sem,rA,rM,rS]
 simp only [List.length_map]
 refine ⟨s.land.wells.length,rfl,by omega,?_⟩
 dsimp only [go_sem,rA,rM,rS]
 obtain ⟨n0,hn0⟩:=Int.eq_ofNat_of_zero_le h0.1
 have hb0:List.replicate s.land.wells.length [B false]=(ZbX s.land.wells.length []).map fun b=>[B b]:=by rw [ZjL];simp
 rw [hb0]
 rw [hn0] at h0 ⊢
 refine Zb1 n0 rfl (by simp [Yw];omega) ?_
 dsimp only [go_sem,rA,rM,rS]
 refine Zqj true (by simp [Yw];omega) (by simp) (by simp [splice]) ?_
 rw [ZaC (by omega)]
 dsimp only [go_sem,rA,rM,rS]
 refine Ws [1,2,4,5,6,7] rfl (fun q:Nat × Int × List Int=>[(7,I q.1),(6,I q.2.1)]) (fun q=>[(1,.row 0 1 ((ZbX s.land.wells.length q.2.2).map fun b=>[B b]) 4)])
  (fun q=>q.1<=legs.length/\YI s.land q.2.1 q.2.2 (legs.drop q.1)=YI s.land n0 [(n0:Int)] legs/\0<=q.2.1/\q.2.1 < s.land.wells.length)
  (fun q=>legs.length - q.1) (0,n0,[(n0:Int)]) ⟨Nat.zero_le _,rfl,h0⟩ ?_ ?_
 . (refine Zl ?_ ?_ ?_ rfl rfl<;>dsimp only [Zg,Ze,Zm,Zj,Zd,Zo,id,go_sem,rA,rM,rS]<;>simp [Zg,Ze,Zm,Zj,Zd,Zo,Za,Zf,KFR,KFL,KF,Zc,mtO,nbr])
 rintro ⟨k,v,been⟩ ⟨hk,hi,hv⟩
 simp only at hk hi hv
 dsimp only [go_sem,rA,rM,rS]
 simp only [List.length_map]
 by_cases hlt:k < legs.length
 case neg =>
  refine Zv (by simp;omega) ?_
  dsimp only [go_sem,rA,rM,rS]
  rw [<- hi,List.drop_eq_nil_of_le (by omega)]
  rfl
 refine Zu (by simpa using hlt) ?_
 dsimp only [go_sem,rA,rM,rS]
 refine Zp k hlt rfl ?_
 dsimp only [Zo,go_sem,rA,rM,rS]
 simp only [List.length_map]
 rw [Zi (n:=(s.land.legs.length:Int) - 1) (by omega) (by omega)]
 refine call (XI _ _ _) ?_
 dsimp only [go_sem,rA,rM,rS]
 rw [List.drop_eq_getElem_cons hlt,YI] at hi
 by_cases hr:inR 0 (s.land.legs.length - 1) legs[k]=true
 case neg =>
  refine Zu (by simpa using hr) ?_
  dsimp only [go_sem,rA,rM,rS]
  simp only [inR,decide_eq_true_eq] at hr
  rw [if_pos (by rw [Zeo (by omega)];decide)] at hi
  rw [<- hi];rfl
 refine Zv (by simpa using hr) ?_
 dsimp only [go_sem,rA,rM,rS]
 refine Zp k hlt rfl ?_
 dsimp only [Zo,go_sem,rA,rM,rS]
 simp only [inR,decide_eq_true_eq] at hr
 obtain ⟨n,hn⟩:=Int.eq_ofNat_of_zero_le hr.1
 rw [hn] at hr hi ⊢
 have hnl:n < s.land.legs.length:=by omega
 refine Zp n hnl rfl ?_
 dsimp only [Zm,go_sem,rA,rM,rS]
 have hends:=hlp.ends (List.getElem_mem hnl)
 rw [Zbe hnl] at hi
 by_cases hva:v=s.land.legs[n].a
 . refine Zu (by simpa using hva) ?_
   dsimp only [go_sem,rA,rM,rS]
   rw [show Zk s.land.legs[n] v=s.land.legs[n].b from by unfold Zk;rw [if_pos hva.symm],if_neg (by omega)] at hi
   have hoi:0<=s.land.legs[n].b/\s.land.legs[n].b < s.land.wells.length:=by omega
   obtain ⟨u,hu⟩:=Int.eq_ofNat_of_zero_le hoi.1
   rw [hu] at hi hoi ⊢
   refine Zb1 u rfl (by simp [Yw];omega) ?_
   dsimp only [go_sem,rA,rM,rS]
   refine ZfM (by simp [Yw];omega) ?_
   rw [Wy]
   dsimp only [go_sem,rA,rM,rS]
   by_cases hm:(u:Int) ∈ been
   . refine Zu (by simpa using hm) ?_
     dsimp only [go_sem,rA,rM,rS]
     rw [if_pos hm] at hi
     rw [<- hi];rfl
   refine Zv (by simpa using hm) ?_
   dsimp only [go_sem,rA,rM,rS]
   rw [if_neg hm] at hi
   refine Zb1 u rfl (by simp [Yw];omega) ?_
   dsimp only [go_sem,rA,rM,rS]
   refine Zqj true (by simp [Yw];omega) (by simp) (by simp [splice]) ?_
   rw [ZaC (by omega)]
   dsimp only [go_sem,rA,rM,rS]
   rw [Zi (n:=(k:Int)+1) (by omega) (by omega)]
   refine ⟨(k+1,u,(u:Int) :: been),⟨hlt,hi,hoi⟩,by simp only;omega,?_⟩
   (refine Zl ?_ ?_ ?_ rfl rfl<;>dsimp only [Zg,Ze,Zm,Zj,Zd,Zo,id,go_sem,rA,rM,rS]<;>simp [Zg,Ze,Zm,Zj,Zd,Zo,Za,Zf,KFR,KFL,KF,Zc,mtO,nbr])
 refine Zv (by simpa using hva) ?_
 dsimp only [go_sem,rA,rM,rS]
 by_cases hvb:v=s.land.legs[n].b
 case neg =>
  refine Zv (by simpa using hvb) ?_
  dsimp only [go_sem,rA,rM,rS]
  rw [if_pos (by unfold Zk;rw [if_neg (by omega),if_neg (by omega)];decide)] at hi
  rw [<- hi];rfl
 refine Zu (by simpa using hvb) ?_
 dsimp only [go_sem,rA,rM,rS]
 rw [show Zk s.land.legs[n] v=s.land.legs[n].a from by unfold Zk;rw [if_neg (by omega),if_pos hvb.symm],if_neg (by omega)] at hi
 have hoi:0<=s.land.legs[n].a/\s.land.legs[n].a < s.land.wells.length:=by omega
 obtain ⟨u,hu⟩:=Int.eq_ofNat_of_zero_le hoi.1
 rw [hu] at hi hoi ⊢
 refine Zb1 u rfl (by simp [Yw];omega) ?_
 dsimp only [go_sem,rA,rM,rS]
 refine ZfM (by simp [Yw];omega) ?_
 rw [Wy]
 dsimp only [go_sem,rA,rM,rS]
 by_cases hm:(u:Int) ∈ been
 . refine Zu (by simpa using hm) ?_
   dsimp only [go_sem,rA,rM,rS]
   rw [if_pos hm] at hi
   rw [<- hi];rfl
 refine Zv (by simpa using hm) ?_
 dsimp only [go_sem,rA,rM,rS]
 rw [if_neg hm] at hi
 refine Zb1 u rfl (by simp [Yw];omega) ?_
 dsimp only [go_sem,rA,rM,rS]
 refine Zqj true (by simp [Yw];omega) (by simp) (by simp [splice]) ?_
 rw [ZaC (by omega)]
 dsimp only [go_sem,rA,rM,rS]
 rw [Zi (n:=(k:Int)+1) (by omega) (by omega)]
 refine ⟨(k+1,u,(u:Int) :: been),⟨hlt,hi,hoi⟩,by simp only;omega,?_⟩
 (refine Zl ?_ ?_ ?_ rfl rfl<;>dsimp only [Zg,Ze,Zm,Zj,Zd,Zo,id,go_sem,rA,rM,rS]<;>simp [Zg,Ze,Zm,Zj,Zd,Zo,Za,Zf,KFR,KFL,KF,Zc,mtO,nbr])
end Go.Proofs.YtiigiflofnjilaaGreat
namespace Go.Azalai
open Go.Sx
def Xu (s:Season) (p:Plan):Bool:=(YI s.land s.start [s.start] p.legs).isSome && inR 0 s.herd p.animals && inR 0 12 p.slabs
def Zz (s:Season) (legs:List Int):List Stop:=(YG s.land s.pace s.start s.day legs).1
def ZaQ (l:List Stop):Stop:=l.getLast?.getD ⟨0,0,⟨0,0⟩,⟨0,0⟩⟩
def WZ (s:Season) (legs:List Int):Bool:=decide ((YG s.land s.pace s.start s.day legs).2.2=0) && (decide ((Zz s legs).length=0) || decide ((ZaQ (Zz s legs)).arrives.hi<=s.till))
theorem ZcX {l:Land} {p:Span} (hg:OkLP l p):∀ {legs:List Int} {v:Int} {been:List Int} {u:Int},0<=v/\v < l.wells.length->YI l v been legs=some u->0<=u/\u < l.wells.length
 | [],v,_,u,hv,h=>by simp only [YI,Option.some.injEq] at h;subst h;exact hv
 | i :: r,v,been,u,hv,h=>by
  simp only [YI] at h
  split at h
  . cases h
  rename_i he
  split at h
  . cases h
  obtain ⟨k,x,_,_,hx,_,e⟩:=UD he
  rw [e] at he h
  exact ZcX hg (ZU hg hx he).1 h
theorem Uc {l:List Stop} (h:l.length≠0):l[l.length - 1]? = some (ZaQ l):=by
 unfold ZaQ
 rw [List.getLast?_eq_getElem?]
 rw [List.getElem?_eq_getElem (by omega)];rfl
theorem Zkv {l:Land} {p:Span}:∀ {legs:List Int} {v a b:Int} {k:Nat} {acc:List Stop},(goS l p v a b legs k acc).2.2≠0->(goS l p v a b legs k acc).1=[]
 | [],_,_,_,_,_,h=>by simp [goS] at h
 | i :: r,v,a,b,k,acc,h=>by
  simp only [goS] at h ⊢
  split
  . rfl
  . rename_i x hx
    rw [hx] at h;simp only at h
    split
    . rfl
    . rename_i hn;rw [if_neg hn] at h;exact Zkv h
theorem ZiT {l:Land} {p:Span}:∀ {legs:List Int} {v a b:Int} {k:Nat} {acc:List Stop},(goS l p v a b legs k acc).1.length<=acc.length+legs.length
 | [],_,_,_,_,_=>by simp [goS]
 | i :: r,v,a,b,k,acc=>by
  simp only [goS]
  split
  . simp
  . split
    . simp
    . refine Nat.le_trans ZiT ?_;simp;omega
theorem Uo {l:Land} {p:Span} {s d:Int} {legs:List Int}:(YG l p s d legs).1.length<=legs.length:=by
 unfold YG
 split
 . simp
 split
 . simp
 split
 . simp
 split
 . simp
 refine Nat.le_trans ZiT (by simp)
theorem Zk6 {l:Land} {p:Span} {s d:Int} {legs:List Int} (h:(YG l p s d legs).2.2≠0):(YG l p s d legs).1=[]:=by
 unfold YG at h ⊢
 split
 . rfl
 rename_i h1
 rw [if_neg h1] at h
 split
 . rfl
 rename_i h2
 rw [if_neg h2] at h
 split
 . rfl
 rename_i h3
 rw [if_neg h3] at h
 split
 . rfl
 rename_i h4
 rw [h4] at h
 exact Zkv h
end Go.Azalai
namespace Go.Proofs.YtiigiflofnjilaaGreat
open Go Go.Sx Go.Azalai
structure OkS (s:Season):Prop where
 small:SmallS s
 ok:ZA s=true
theorem OkS.land {s:Season} (h:OkS s):ZM s.land=true:=by have:=h.ok;simp only [ZA,Bool.and_eq_true] at this;exact this.1.1.1.1.1.1
theorem OkS.pace {s:Season} (h:OkS s):Z1 s.pace=true:=by have:=h.ok;simp only [ZA,Bool.and_eq_true] at this;exact this.1.1.1.1.1.2
theorem OkS.lp {s:Season} (h:OkS s):OkLP s.land s.pace:=⟨h.land,h.pace⟩
theorem OkS.beast {s:Season} (h:OkS s):ZC s.breed=true/\Zx s.breed s.camel=true:=by
 have:=h.ok;simp only [ZA,Bool.and_eq_true,decide_eq_true_eq] at this;exact Cm.errC_0.1 this.1.1.1.1.2
theorem OkS.num {s:Season} (h:OkS s):1<=s.herd/\s.herd<=30/\1<=s.hours/\s.hours<=24/\1<=s.slab/\s.slab<=1000000/\0<=s.cost/\s.cost<=1000000/\0<=s.sale/\s.sale<=1000000/\0<=s.day/\s.day<=s.till/\s.till<=100000:=by
 have:=h.ok;simp only [ZA,Zac,inR,Bool.and_eq_true,decide_eq_true_eq] at this;omega
theorem OkS.start {s:Season} (h:OkS s):0<=s.start/\s.start < s.land.wells.length:=by
 have:=h.ok;simp only [ZA,inR,Bool.and_eq_true,decide_eq_true_eq] at this;omega
theorem OkS.scs {s:Season} (h:OkS s):1<=s.scenes.length/\s.scenes.length<=4:=by
 have:=h.ok;simp only [ZA,inR,Bool.and_eq_true,decide_eq_true_eq] at this;omega
theorem OkS.scene {s:Season} (h:OkS s):∀ x ∈ s.scenes,Yg s.land.wells.length x=true:=by
 have:=h.ok;simp only [ZA,Bool.and_eq_true,List.all_eq_true] at this;exact this.2
theorem ZvG (s:Season) (h:OkS s) (p:Plan) (hg:p.legs.length<=1000):Ct Tryz.prog 44 [.agg (Zr s),.agg (ZB p)] (B (Xu s p)):=by
 refine t44.1 (by simp [Zr,ZB,Zj,Ze,Zm,Zg,Zd,Zo,Za,KFL,KF]) (by simp [KFL,KF]) ?_
 dsimp only [c44,r44,Zr,ZB,go_sem,rA,rM,rS]
 refine call (Zsq s h.small h.land h.pace h.start p.legs hg _) ?_
 dsimp only [go_sem,rA,rM,rS]
 repeat (first | (refine gb ?_;dsimp only [go_sem,rA,rM,rS]) | (refine call (XI _ _ _) ?_;dsimp only [go_sem,rA,rM,rS]))
 have:decide ((YI s.land s.start [s.start] p.legs).getD (-1) ≥ 0)=(YI s.land s.start [s.start] p.legs).isSome:=by
  cases hq:YI s.land s.start [s.start] p.legs with
  | none=>rfl
  | some u=>have:=(ZcX h.lp h.start hq).1;simpa using this
 rw [this];rfl
theorem Znj (s:Season) (hs:SmallS s) (p:Plan) (hg:p.legs.length<=1000):Ct Tryz.prog 48 [.agg (Zr s),.agg (ZB p)] (I (if ZA s=false then 90 else if Xu s p=false then 91 else 0)):=by
 refine t48.1 (by simp [Zr,ZB,Zj,Ze,Zm,Zg,Zd,Zo,Za,KFL,KF]) (by simp [KFL,KF]) ?_
 dsimp only [c48,r48,Zr,ZB,go_sem,rA,rM,rS]
 refine call (ZaK s hs) ?_
 dsimp only [go_sem,rA,rM,rS]
 by_cases ho:ZA s=true
 case neg =>
  refine Zu (by simp [ho]) ?_
  dsimp only [go_sem,rA,rM,rS]
  simp [ho]
 refine Zv (by simp [ho]) ?_
 dsimp only [go_sem,rA,rM,rS]
 have h:OkS s:=⟨hs,ho⟩
 refine call (Zdr s h.small h.land h.pace h.start p.legs hg _) ?_
 dsimp only [go_sem,rA,rM,rS]
 repeat (first | (refine gb ?_;dsimp only [go_sem,rA,rM,rS]) | (refine call (ZfC _ _ _ _) ?_;dsimp only [go_sem,rA,rM,rS]))
 refine br ?_ ?_
 . intro hb
   dsimp only [go_sem,rA,rM,rS]
   have:Xu s p=false:=by simp only [Xu];revert hb;generalize Option.isSome _=a;generalize inR 0 s.herd p.animals=b;generalize inR 0 12 p.slabs=c;revert a b c;decide
   rw [ho,this];rfl
 intro hb
 dsimp only [go_sem,rA,rM,rS]
 have:Xu s p=true:=by simp only [Xu];revert hb;generalize Option.isSome _=a;generalize inR 0 s.herd p.animals=b;generalize inR 0 12 p.slabs=c;revert a b c;decide
 rw [ho,this];rfl
theorem Zxm (s:Season) (h:OkS s) (legs:List Int) (hg:legs.length<=1000) (c:Bool) {f:Nat}
 (hc:Ct Tryz.prog f [.agg (ZY s.land),I s.start,I s.day,.agg (Zd s.pace),.sl c 1 (legs.map Zo)] (Za1 (YG s.land s.pace s.start s.day legs))) :
 Ct Tryz.prog f [.agg (ZY s.land),I s.start,I s.day,.agg (Zd s.pace),.sl c 1 (legs.map Zo)] (.tup [.sl false 6 ((Zz s legs).map Zy),I (YG s.land s.pace s.start s.day legs).2.1,I (YG s.land s.pace s.start s.day legs).2.2]):=by
 unfold Za1 XB at hc
 split at hc
 . exact hc
 . rename_i he
   refine hc.res (by simp [Za,Zy,KFL,KF]) ?_
   rw [Zz,Zk6 he]
   exact X1 (ZO YA XV)
theorem ZpO (s:Season) (h:OkS s) (legs:List Int) (hg:legs.length<=1000) (c:Bool):Ct Tryz.prog 90 [.agg (Zr s),.sl c 1 (legs.map Zo)] (.tup [.sl false 6 ((Zz s legs).map Zy),B (WZ s legs)]):=by
 refine t90.1 (by simp [Zr,Zj,Ze,Zm,Zg,Zd,Zo,Za,KFL,KF]) (by simp [Za,Zy,KFL,KF]) ?_
 dsimp only [c90,r90,Zr,go_sem,rA,rM,rS]
 refine call (Zxm s h legs hg c (Zfz s.land h.small.land s.start s.day s.pace legs hg c)) ?_
 dsimp only [go_sem,rA,rM,rS]
 repeat (refine gb ?_;dsimp only [go_sem,rA,rM,rS])
 have hlen:(Zz s legs).length<=1000:=Nat.le_trans Uo hg
 simp only [List.length_map]
 refine ZiA ((Zz s legs).length - 1) (Zy (ZaQ (Zz s legs))) rfl (fun hb=>?_) ?_
 . have hz:(Zz s legs).length≠0:=by simpa using hb
   rw [Zi (by omega) (by omega)]
   exact ⟨by omega,by rw [List.getElem?_map,Uc hz];rfl⟩
 dsimp only [Zy,go_sem,rA,rM,rS]
 repeat (refine gb ?_;dsimp only [go_sem,rA,rM,rS])
 have:((YG s.land s.pace s.start s.day legs).2.2 == 0 && (((Zz s legs).length:Int) == 0 || decide ((ZaQ (Zz s legs)).arrives.hi<=s.till)))=WZ s legs:=by
  have h1:(((Zz s legs).length:Int) == 0)=decide ((Zz s legs).length=0):=by rw [Bool.eq_iff_iff];simp
  simp only [WZ,h1];rfl
 rw [this]
end Go.Proofs.YtiigiflofnjilaaGreat
namespace Go.Sx
open Go Go.RowKit
section
variable {K V:Type} [DecidableEq K] {k k':K} {v v0:V} {c:Nat} {L:List (Nat × K × V)}
end
section
variable {P:Program} {K' V:Type} [DecidableEq K'] {key:K'->Value} {sv:K'->SV} {val:V->SV} {L:List (Nat × K' × V)} {km c:Nat} {kt et t ty:TypeId} {mx ix vx sx:Operand} {σ : St} {r:KT} {K:RK} {d:Option Nat} {k:K'}
end
section
variable {P:Program} {ty T T':TypeId} {ix jx:Operand} {σ : St} {r:KT} {K:RK} {d:Option Nat} {s:SV}
def Zdy (P:Program) (T:TypeId):Bool :=
 match P.underlying T with
 | some (.interface _)=>false
 | some _=>true
 | none=>false
theorem Zja (hT:Zdy P T=true) (hi:Za0 σ ix=s) (hg:∀ j b u,s≠.gd j b u) (h:putK d (.ifc T s) none σ r K):RAW P d (.makeInterface T ix) ty σ r K:=by
 intro o C E a w next Q e1 e2 e3 hS hn hq
 have hiv:=VD hS hi hg
 have hx:(execOp a.eval o).run P w = .ok (.value (.iface T (a.eval ix))) w:=by
  obtain ⟨dst',op',ty',pos,after,guard⟩:=o
  simp only at e2;subst e2
  unfold Zdy at hT
  cases hu:P.underlying T with
  | none=>rw [hu] at hT;cases hT
  | some u =>
   rw [hu] at hT
   cases u<;>first | exact absurd hT Bool.false_ne_true | simp [execOp,Sem.run_bind,Instr.makeInterface,run_underlying hu,Result.andThen_ok,Sem.run_pure]
 refine ZD hx (by simp) ?_
 show next (a.put o.dst _) _
 rw [e1]
 refine WT h hS ?_ hn
 simp only [R];exact ⟨_,rfl,hiv⟩
theorem ZjH (hi:Za0 σ ix = .ifc T s) (h:K (.pan (.ifc T s)) σ):RAW P d (.panic ix) ty σ r K:=by
 intro o C E a w next Q e1 e2 e3 hS hn hq
 have hiv:=VD hS hi (fun _ _ _=>by simp)
 simp only [R] at hiv
 obtain ⟨x,hx,hR⟩:=hiv
 have hy:(execOp a.eval o).run P w = .halt (.panic (.iface T x)) w:=by
  obtain ⟨dst',op',ty',pos,after,guard⟩:=o
  simp only at e2;subst e2
  simp [execOp,Sem.run_bind,hx,Instr.panic,goPanic,Result.andThen]
 exact Zin hy (by rw [e2];simp) (hq _ _ _ _ _ h hS (by simp only [R];exact ⟨x,rfl,hR⟩))
theorem ZbC (hT:Zdy P T=true) (hi:Za0 σ ix = .ifc T s) (h:putK d (.tup [s,.v (.bool true)]) none σ r K):RAW P d (.typeAssert ix T' T true) ty σ r K:=by
 intro o C E a w next Q e1 e2 e3 hS hn hq
 have hiv:=VD hS hi (fun _ _ _=>by simp)
 simp only [R] at hiv
 obtain ⟨x,hx,hR⟩:=hiv
 have hy:(execOp a.eval o).run P w = .ok (.value (.tuple #[x,.bool true])) w:=by
  obtain ⟨dst',op',ty',pos,after,guard⟩:=o
  simp only at e2;subst e2
  unfold Zdy at hT
  cases hu:P.underlying T with
  | none=>rw [hu] at hT;cases hT
  | some u =>
   rw [hu] at hT
   cases u<;>first | exact absurd hT Bool.false_ne_true | simp [execOp,Sem.run_bind,hx,Instr.typeAssert,run_underlying hu,Result.andThen_ok,Sem.run_pure]
 refine ZD hy (by simp) ?_
 show next (a.put o.dst _) _
 rw [e1]
 refine WT h hS ?_ hn
 simp only [R,RL];exact ⟨_,rfl,_,_,rfl,hR,_,_,rfl,rfl,rfl⟩
end
section
variable {K V:Type} [DecidableEq K] {P:Program} {key:K->Value} {sv:K->SV} {val:V->SV} {L:List (Nat × K × V)} {km c:Nat} {kt et t:TypeId} {σ : St} {k:K} {i j:Nat} {ok:Bool} {zs:SV} {z:Value} {v:V}
end
end Go.Sx
namespace Go.Azalai
open Go.Sx
def VJ (s:Season) (x:Scene) (slabs:Int):March:=⟨s.hours,slabs * s.slab,x.heat,x.grass,⟨0,0⟩⟩
def ZcP (b:Breed) (c:Camel):Span:=if Zaa b c=0 then Zr2 b c else Ub
def ZfU (a b:Span):Span:=⟨min a.lo b.lo,max a.hi b.hi⟩
def Zbp (a b:Camel):Camel:=⟨ZfU a.water b.water,ZfU a.fat b.fat,ZfU a.sore b.sore,a.milks⟩
def VK (b:Breed) (m:March) (lo:Int):Nat->Nat->Camel->Camel->Camel × Int
 | 0,_,_,out=>(out,0)
 | j+1,n,c,out =>
  if m.load > (ZcP b c).lo then (Y5,2)
  else if (Xv b c m).2.2≠0\/(Xv b c m).2.1≠0 then (Y5,3)
  else VK b m lo j (n+1) (Xv b c m).1 (if (n:Int)+1=lo then (Xv b c m).1 else if (n:Int)+1 > lo then Zbp out (Xv b c m).1 else out)
def Y3 (s:Season) (x:Scene) (d:Span) (slabs:Int) (c:Camel):Camel × Int:=VK s.breed (VJ s x slabs) d.lo d.hi.toNat 0 c Y5
end Go.Azalai
namespace Go.Proofs.YtiigiflofnjilaaGreat
open Go Go.Sx Go.Azalai
abbrev camelL:=Cm.camelL
abbrev U8 (n:Int):SV:=.v (.int .u8 n)
def Yl (s:Season) (k:Int):List SV :=
 [.sl false 9 (s.land.wells.map Ze),.sl false 5 (s.land.legs.map Zm),I s.pace.lo,I s.pace.hi,
  I s.breed.full,I s.breed.fed,I s.breed.rest.lo,I s.breed.rest.hi,I s.breed.heat.lo,I s.breed.heat.hi,I s.breed.toil.lo,I s.breed.toil.hi,I s.breed.burn.lo,I s.breed.burn.hi,I s.breed.rub.lo,I s.breed.rub.hi,I s.breed.milk.lo,I s.breed.milk.hi,I s.breed.heal,I s.breed.strong.lo,I s.breed.strong.hi,
  I s.camel.water.lo,I s.camel.water.hi,I s.camel.fat.lo,I s.camel.fat.hi,I s.camel.sore.lo,I s.camel.sore.hi,B s.camel.milks,
  I s.herd,I s.hours,I s.slab,I s.cost,I s.sale,I s.start,I s.day,I s.till,.sl false 6 (s.scenes.map Zj),I k]
theorem Ze1 (a b:Span) (c:Bool):Ct Tryz.prog 172 [.agg (Zd a),.sl c 2 [[I b.lo,I b.hi]]] (.agg (Zd (ZfU a b))):=by
 refine t172.1 ⟨by simp [KF,KFL,Zd],by simp [KF,KFR,KFL],trivial⟩ (by simp [Zd,KFL,KF]) ?_
 dsimp only [c172,r172,Zd,go_sem,rA,rM,rS]
 refine Xh 2 ?_
 dsimp only [Zb,go_sem,rA,rM,rS]
 refine Zu (by decide) ?_
 dsimp only [go_sem,rA,rM,rS]
 refine ixs 0 [I b.lo,I b.hi] rfl rfl ?_
 dsimp only [go_sem,rA,rM,rS]
 refine Zv (by decide) ?_
 dsimp only [go_sem,rA,rM,rS]
 rfl
theorem Zc3:Zdy Tryz.prog 117=true:=by kernel_rfl
def Xz (why at_:Int):Ot:=⟨true,.ifc 117 (.agg [U8 why,I at_]),[],0⟩
theorem V6 (w k:Int):CtM Tryz.prog 91 [] 0 [B true,U8 w,I k] (fun o=>o=⟨false,.tup [],[],0⟩):=by
 refine m91 (by simp [hpb]) (fun o ho=>by subst ho;simp [KX,KXL,KXP]) ?_
 dsimp only [c91,r91,go_sem,rA,rM,rS]
 refine Zv rfl ?_
 dsimp only [go_sem,rA,rM,rS]
 refine ⟨_,rfl,?_⟩
 (refine Yb ?_ ?_ ?_ rfl<;>dsimp only [id,go_sem,rA,rM,rS]<;>simp [Za,Zf,KFR,KFL,KF,Zc,mtO,nbr])
theorem ZaB (w k:Int):CtM Tryz.prog 91 [] 0 [B false,U8 w,I k] (fun o=>o=Xz w k):=by
 refine m91 (by simp [hpb]) (fun o ho=>by subst ho;simp [Xz,KX,KXL,KXP]) ?_
 dsimp only [c91,r91,go_sem,rA,rM,rS]
 refine Zu rfl ?_
 dsimp only [go_sem,rA,rM,rS]
 refine Zja (s:=.agg [U8 w,I k]) Zc3 rfl (fun _ _ _ e=>by cases e) ?_
 dsimp only [go_sem,rA,rM,rS]
 refine ZjH rfl ?_
 dsimp only [go_sem,rA,rM,rS]
 refine ⟨_,rfl,?_⟩
 (refine Yb ?_ ?_ ?_ rfl<;>dsimp only [Xz,id,go_sem,rA,rM,rS]<;>simp [Xz,Za,Zf,KFR,KFL,KF,Zc,mtO,nbr])
theorem ZjD (s:Season) (k:Nat) (hk:k < s.scenes.length):Ct Tryz.prog 156 [.agg (Yl s k)] (.agg (Zj s.scenes[k])):=by
 refine t156.1 (by simp [Yl,Zj,Ze,Zm,Zg,Zd,Zo,Za,KFL,KF]) (by simp [Zj,Zd,Zo,Za,KFL,KF]) ?_
 dsimp only [c156,r156,Yl,go_sem,rA,rM,rS]
 refine Zp k hk rfl ?_
 dsimp only [Zj,go_sem,rA,rM,rS]
def Zbl (at_:Int) (r:Camel × Int):Ot:=if r.2=0 then ⟨false,.agg (camelL r.1),[],0⟩ else Xz r.2 at_
theorem ZqF (s:Season) (k:Nat) (hk:k < s.scenes.length) (at_:Int) (c:Camel) (d:Span) (slabs:Int) (hn:0<=slabs/\slabs<=12) (hs:0<=s.slab/\s.slab<=1000000) (hd:d.hi<=1000000000) :
 CtM Tryz.prog 164 [] 0 [.agg (Yl s k),I at_,.agg (camelL c),.agg (Zd d),I slabs] (fun o=>o=Zbl at_ (Y3 s s.scenes[k] d slabs c)):=by
 have hb:0<=slabs * s.slab/\slabs * s.slab<=12 * 1000000:=⟨Int.mul_nonneg hn.1 hs.1,Int.mul_le_mul hn.2 hs.2 hs.1 (by decide)⟩
 refine m164 (by simp [hpb]) (fun o ho=>by subst ho;unfold Zbl;split<;>simp [Xz,Cm.camelL,KX,KXL,KXP]) ?_
 dsimp only [c164,r164,Zd,Cm.camelL,Yl,go_sem,rA,rM,rS]
 refine call (ZjD s k hk) ?_
 dsimp only [Zj,go_sem,rA,rM,rS]
 refine call (ZjD s k hk) ?_
 dsimp only [Zj,go_sem,rA,rM,rS]
 rw [Zi (n:=slabs * s.slab) (by omega) (by omega)]
 refine Ws [1,5,7,8,10,11,12,13,35,36] rfl (fun q:Nat × Camel × Camel=>[(36,I q.1)]) (fun q=>[(1,.cells (Cm.camelL q.2.1) 31),(5,.cells (Cm.camelL q.2.2) 31)])
  (fun q=>q.1<=d.hi.toNat/\VK s.breed (VJ s s.scenes[k] slabs) d.lo (d.hi.toNat - q.1) q.1 q.2.1 q.2.2=Y3 s s.scenes[k] d slabs c) (fun q=>d.hi.toNat - q.1) (0,c,Y5) ⟨Nat.zero_le _,rfl⟩ ?_ ?_
 . (refine Zl ?_ ?_ ?_ rfl rfl<;>dsimp only [Cm.camelL,Y5,Ub,Zg,Ze,Zm,Zj,Zd,Zo,mtL,mtB,mtS,id,go_sem,rA,rM,rS]<;>simp [Cm.camelL,Y5,Ub,Zg,Ze,Zm,Zj,Zd,Zo,mtL,mtB,mtS,Za,Zf,KFR,KFL,KF,Zc,mtO,nbr])
 rintro ⟨n,c,out⟩ ⟨hk',hi⟩
 simp only at hk' hi
 dsimp only [Cm.camelL,go_sem,rA,rM,rS]
 by_cases hlt:n < d.hi.toNat
 case neg =>
  refine Zv (by simp;omega) ?_
  dsimp only [go_sem,rA,rM,rS]
  rw [show d.hi.toNat - n=0 from by omega,VK] at hi
  rw [<- hi]
  refine ⟨_,rfl,?_⟩
  simp only [Zbl,if_true]
  (refine Yb ?_ ?_ ?_ rfl<;>dsimp only [Cm.camelL,mtL,mtB,mtS,id,go_sem,rA,rM,rS]<;>simp [Cm.camelL,mtL,mtB,mtS,Za,Zf,KFR,KFL,KF,Zc,mtO,nbr])
 refine Zu (by simp;omega) ?_
 dsimp only [go_sem,rA,rM,rS]
 refine call (Cm.carries_ok s.breed c) ?_
 dsimp only [Cm.sres,Zd,go_sem,rA,rM,rS]
 rw [show (if Zaa s.breed c=0 then Zr2 s.breed c else Ub)=ZcP s.breed c from rfl]
 have hj:d.hi.toNat - n=(d.hi.toNat - (n+1))+1:=by omega
 rw [hj,VK] at hi
 by_cases hw:(VJ s s.scenes[k] slabs).load > (ZcP s.breed c).lo
 . rw [show decide (slabs * s.slab<=(ZcP s.breed c).lo)=false from decide_eq_false (by have:slabs * s.slab > (ZcP s.breed c).lo:=hw;omega)]
   refine YM [] (ZaB 2 at_) rfl rfl rfl ?_ ?_ ?_
   . (repeat first | dsimp only [go_sem,rA,rM,rS] | simp only [nbr])
     try simp [mtL,mtB,mtS]
   . trivial
   rintro _ rfl
   (repeat first | dsimp only [Xz,go_sem,rA,rM,rS] | simp only [nbr])
   rw [<- hi,if_pos hw]
   refine ⟨_,rfl,?_⟩
   simp only [Zbl]
   (refine Yb ?_ ?_ ?_ rfl<;>dsimp only [Xz,id,go_sem,rA,rM,rS]<;>simp [Xz,Za,Zf,KFR,KFL,KF,Zc,mtO,nbr])
 rw [show decide (slabs * s.slab<=(ZcP s.breed c).lo)=true from decide_eq_true (by have:¬ slabs * s.slab > (ZcP s.breed c).lo:=hw;omega)]
 refine YM [] (V6 2 at_) rfl rfl rfl ?_ ?_ ?_
 . (repeat first | dsimp only [go_sem,rA,rM,rS] | simp only [nbr])
   try simp [mtL,mtB,mtS]
 . trivial
 rintro _ rfl
 (repeat first | dsimp only [go_sem,rA,rM,rS] | simp only [nbr])
 rw [if_neg hw] at hi
 refine call (Cm.after1_ok s.breed c (VJ s s.scenes[k] slabs)) ?_
 generalize Xv s.breed c (VJ s s.scenes[k] slabs)=r at hi ⊢
 dsimp only [Cm.camelL,Cm.U8,go_sem,rA,rM,rS]
 repeat (refine gb ?_;dsimp only [go_sem,rA,rM,rS])
 by_cases hf:r.2.2≠0\/r.2.1≠0
 . rw [show (r.2.2 == 0 && r.2.1 == 0)=false from by simp;omega]
   refine YM [] (ZaB 3 at_) rfl rfl rfl ?_ ?_ ?_
   . (repeat first | dsimp only [go_sem,rA,rM,rS] | simp only [nbr])
     try simp [mtL,mtB,mtS]
   . trivial
   rintro _ rfl
   (repeat first | dsimp only [Xz,go_sem,rA,rM,rS] | simp only [nbr])
   rw [<- hi,if_pos hf]
   refine ⟨_,rfl,?_⟩
   simp only [Zbl]
   (refine Yb ?_ ?_ ?_ rfl<;>dsimp only [Xz,id,go_sem,rA,rM,rS]<;>simp [Xz,Za,Zf,KFR,KFL,KF,Zc,mtO,nbr])
 rw [show (r.2.2 == 0 && r.2.1 == 0)=true from by simp;omega]
 refine YM [] (V6 3 at_) rfl rfl rfl ?_ ?_ ?_
 . (repeat first | dsimp only [go_sem,rA,rM,rS] | simp only [nbr])
   try simp [mtL,mtB,mtS]
 . trivial
 rintro _ rfl
 (repeat first | dsimp only [go_sem,rA,rM,rS] | simp only [nbr])
 rw [if_neg hf] at hi
 rw [Zi (n:=(n:Int)+1) (by omega) (by omega)]
 by_cases hl:(n:Int)+1=d.lo
 . refine Zu (by simpa using hl) ?_
   dsimp only [go_sem,rA,rM,rS]
   rw [if_pos hl] at hi
   try rw [Zi (n:=(n:Int)+1) (by omega) (by omega)]
   refine ⟨(n+1,r.1,r.1),⟨hlt,hi⟩,by simp only;omega,?_⟩
   (refine Zl ?_ ?_ ?_ rfl rfl<;>dsimp only [Cm.camelL,Y5,Ub,Zg,Ze,Zm,Zj,Zd,Zo,mtL,mtB,mtS,id,go_sem,rA,rM,rS]<;>simp [Cm.camelL,Y5,Ub,Zg,Ze,Zm,Zj,Zd,Zo,mtL,mtB,mtS,Za,Zf,KFR,KFL,KF,Zc,mtO,nbr])
 refine Zv (by simpa using hl) ?_
 dsimp only [go_sem,rA,rM,rS]
 rw [if_neg hl] at hi
 try rw [Zi (n:=(n:Int)+1) (by omega) (by omega)]
 by_cases hm:(n:Int)+1 > d.lo
 . refine Zu (by simpa using hm) ?_
   dsimp only [go_sem,rA,rM,rS]
   rw [if_pos hm] at hi
   refine call (Ze1 out.water r.1.water _) ?_
   dsimp only [go_sem,rA,rM,rS]
   refine call (Ze1 out.fat r.1.fat _) ?_
   dsimp only [go_sem,rA,rM,rS]
   refine call (Ze1 out.sore r.1.sore _) ?_
   dsimp only [Zd,go_sem,rA,rM,rS]
   try rw [Zi (n:=(n:Int)+1) (by omega) (by omega)]
   refine ⟨(n+1,r.1,Zbp out r.1),⟨hlt,hi⟩,by simp only;omega,?_⟩
   (refine Zl ?_ ?_ ?_ rfl rfl<;>dsimp only [Cm.camelL,Zbp,Y5,Ub,Zg,Ze,Zm,Zj,Zd,Zo,mtL,mtB,mtS,id,go_sem,rA,rM,rS]<;>simp [Cm.camelL,Zbp,Y5,Ub,Zg,Ze,Zm,Zj,Zd,Zo,mtL,mtB,mtS,Za,Zf,KFR,KFL,KF,Zc,mtO,nbr])
 refine Zv (by simp;omega) ?_
 dsimp only [go_sem,rA,rM,rS]
 rw [if_neg hm] at hi
 try rw [Zi (n:=(n:Int)+1) (by omega) (by omega)]
 refine ⟨(n+1,r.1,out),⟨hlt,hi⟩,by simp only;omega,?_⟩
 (refine Zl ?_ ?_ ?_ rfl rfl<;>dsimp only [Cm.camelL,Y5,Ub,Zg,Ze,Zm,Zj,Zd,Zo,mtL,mtB,mtS,id,go_sem,rA,rM,rS]<;>simp [Cm.camelL,Y5,Ub,Zg,Ze,Zm,Zj,Zd,Zo,mtL,mtB,mtS,Za,Zf,KFR,KFL,KF,Zc,mtO,nbr])
def Zvq:SC:=(.seq (.reg [
 o1 2 (.mv (.c (.slice none 0 0)))])
 (.seq (.seq (.reg [
 m1 3 0,
 o1 4 (.isn (.t 3))])
 (.cond (.t 4)
 (.seq (.reg [
  o1 2 (.mv (.c (.slice none 0 0)))])
  .ret)
 .skip))
 (.seq (.reg [
 o1 5 (.bsl 9 88 []),
 m1 6 0,
 o1 7 (.cln 9 72 88 (.t 5) (.t 6)),
 m1 2 7])
 .ret)))
def Ztt:List RV:=[.tmp 2]
theorem nw155:Tryz.f155.ntmps=8:=by kernel_rfl
theorem bw155:YF Tryz.prog 155=true:=by kernel_rfl
theorem ZpZ:XA Tryz.prog Zvq ((Tryz.f155.body).getD .skip)=true:=by kernel_rfl
theorem Zly:We Tryz.prog Ztt Tryz.f155.results.toList=true:=by kernel_rfl
theorem mw155 {n0:Nat} {hp0:List (Nat × HB)} {args:List SV} {ZX:Ot->Prop} (hh:hpb n0 hp0) (hx:∀ o,ZX o->KX o.res/\KXP o.hp) (h:sx Tryz.prog Y0 n0 Zvq ⟨enum 0 args,hp0,n0,8,[]⟩ (retM Ztt fun o=>∃ o',ZX o'/\Zec n0 o o')) (hA:Nat.ble args.length 8=true:=by rfl):CtM Tryz.prog 155 hp0 n0 args ZX:=Xt Tryz.func155 rfl bw155 ZpZ Zly nw155 (Nat.le_of_ble_eq_true hA) hh hx h
def ZxU:SC:=(.seq (.reg [
 o1 2 (.box (.t 0) 0 120),
 o1 3 (.box (.t 1) 0 94),
 o1 4 (.mv (.c (.int .i64 0)))])
 (.seq (.reg [
 o1 10 (.addo (.t 2) 0),
 o1 11 (.addo (.t 10) 0),
 o1 12 (.ld (.t 11) 2 true),
 o1 5 (.alloc [.slice none 0 0,.slice none 0 0] 25),
 ⟨none,.st (.t 5) (.t 12) 2,none,[]⟩])
 (.seq (.reg [
 o1 13 (.addo (.t 5) 0),
 o1 14 (.ld (.t 13) 1 false),
 o1 15 (.callm 155 [.t 14]),
 o1 16 (.addo (.t 5) 0),
 ⟨none,.st (.t 16) (.t 15) 1,none,[]⟩])
 (.seq (.seq (.reg [
 o1 17 (.addo (.t 5) 0),
 o1 18 (.ld (.t 17) 1 false),
 o1 19 (.len (.t 18)),
 o1 20 (.mv (.c (.int .i64 0)))])
 (.block 0 (.loop (.seq (.reg [
  o1 21 (.bin .lss (.t 20) (.t 19))])
  (.seq (.cond (.t 21)
  .skip
  (.exit 0))
  (.seq (.block 1 (.seq (.reg [
   m1 22 20,
   m1 6 22])
   (.regd [0,1,2,3,4,5,6,7,8,9,10,11] [
   .op (o1 23 (.addo (.t 5) 0)),
   .op ⟨some 24,.ld (.t 23) 1 false,none,[0]⟩,
   .op (m1 25 6),
   .op (o1 26 (.ld (.t 2) 38 true)),
   .op ⟨some 27,.call 156 [.t 26],none,[3]⟩,
   .op ⟨some 28,.fld (.t 27) 4 1 false,none,[4]⟩,
   .op (m1 29 6),
   .op ⟨some 30,.ixs (.t 28) (.t 29) 2,none,[5,6]⟩,
   .op ⟨some 31,.ld (.t 30) 2 true,none,[7]⟩,
   .op ⟨some 32,.ixs (.t 24) (.t 25) 9,none,[0,1,2,3,4,5,6,7,8]⟩,
   .op ⟨some 33,.addo (.t 32) 3,none,[0,1,2,3,4,5,6,7,8,9]⟩] 0 1 [
   ⟨none,.st (.t 33) (.t 31) 2,none,[0,1,2,3,4,5,6,7,8,10]⟩])))
  (.reg [
  o1 34 (.bin .add (.t 20) (.c (.int .i64 1))),
  m1 20 34])))))))
 (.seq (.reg [
 o1 36 (.ld (.t 5) 2 true),
 o1 37 (.addo (.t 3) 1),
 o1 38 (.ld (.t 37) 1 false),
 o1 39 (.addo (.t 3) 4),
 o1 40 (.addo (.t 39) 0),
 o1 41 (.ld (.t 40) 1 false),
 o1 42 (.call 42 [.t 36,.t 38,.c (.slice none 0 0),.t 41]),
 m1 35 42,
 o1 43 (.ext (.t 35) 0),
 o1 44 (.ext (.t 35) 1),
 o1 45 (.ext (.t 35) 2),
 o1 7 (.alloc [.int .i64 0,.int .i64 0] 27),
 ⟨none,.st (.t 7) (.t 43) 2,none,[]⟩,
 m1 8 44,
 m1 9 45])
 (.seq (.reg [
 o1 46 (.addo (.t 7) 0),
 o1 47 (.ld (.t 46) 1 false),
 m1 4 47])
 .ret))))))
def ZxF:List RV:=[.tmp 4]
theorem tw113:Qt1 Tryz.prog 113 ZxU ZxF 48:=Z4 Tryz.func113 rfl (by kernel_rfl) (by kernel_rfl) (by kernel_rfl) (by kernel_rfl)
def cw38:SC:=(.seq (.reg [
 o1 2 (.box (.t 0) 0 34),
 o1 4 (.alloc [.slice none 0 0,.slice none 0 0] 25)])
 (.seq (.reg [
 o1 7 (.addo (.t 2) 0),
 o1 8 (.ld (.t 7) 2 true),
 o1 9 (.callm 47 [.t 8]),
 o1 5 (.alloc [.slice none 0 0,.slice none 0 0] 25),
 ⟨none,.st (.t 5) (.t 9) 2,none,[]⟩])
 (.seq (.seq (.reg [
 o1 6 (.mv (.c (.int .i64 0)))])
 (.block 0 (.loop (.seq (.seq (.reg [
  m1 10 6,
  o1 11 (.addo (.t 5) 0),
  o1 12 (.ld (.t 11) 1 false),
  o1 13 (.len (.t 12)),
  o1 14 (.bin .lss (.t 10) (.t 13))])
  (.cond (.t 14)
  .skip
  (.exit 0)))
  (.seq (.block 1 (.regd [0,1,2,3,4,5,6,7,8,9,10,11,12,13,14] [
   .op (o1 17 (.addo (.t 5) 0)),
   .op ⟨some 18,.ld (.t 17) 1 false,none,[0]⟩,
   .op (m1 19 6),
   .op (o1 20 (.addo (.t 2) 36)),
   .op ⟨some 21,.ld (.t 20) 1 false,none,[3]⟩,
   .op (m1 22 1),
   .op ⟨some 23,.ixs (.t 21) (.t 22) 6,none,[4,5]⟩,
   .op ⟨some 24,.addo (.t 23) 4,none,[6]⟩,
   .op ⟨some 25,.ld (.t 24) 1 false,none,[7]⟩,
   .op (m1 26 6),
   .op ⟨some 27,.ixs (.t 25) (.t 26) 2,none,[8,9]⟩,
   .op ⟨some 28,.ld (.t 27) 2 true,none,[10]⟩,
   .op ⟨some 29,.ixs (.t 18) (.t 19) 9,none,[0,1,2,3,4,5,6,7,8,9,10,11]⟩,
   .op ⟨some 30,.addo (.t 29) 3,none,[0,1,2,3,4,5,6,7,8,9,10,11,12]⟩] 0 1 [
   ⟨none,.st (.t 30) (.t 28) 2,none,[0,1,2,3,4,5,6,7,8,9,10,11,13]⟩]))
  (.reg [
  m1 15 6,
  o1 16 (.bin .add (.t 15) (.c (.int .i64 1))),
  m1 6 16]))))))
 (.seq (.reg [
 o1 31 (.ld (.t 5) 2 true),
 ⟨none,.st (.t 4) (.t 31) 2,none,[]⟩])
 .ret))))
def rw38:List RV:=[.cell 4 2 true]
theorem tw38:Qt1 Tryz.prog 38 cw38 rw38 32:=Z4 Tryz.func38 rfl (by kernel_rfl) (by kernel_rfl) (by kernel_rfl) (by kernel_rfl)
def cw47:SC:=(.seq (.reg [
 o1 1 (.box (.t 0) 0 25),
 o1 2 (.alloc [.slice none 0 0,.slice none 0 0] 25)])
 (.seq (.reg [
 o1 4 (.bsl 9 88 []),
 o1 5 (.addo (.t 1) 0),
 o1 6 (.ld (.t 5) 1 false),
 o1 7 (.cln 9 72 88 (.t 4) (.t 6)),
 o1 8 (.addo (.t 1) 0),
 ⟨none,.st (.t 8) (.t 7) 1,none,[]⟩])
 (.seq (.reg [
 o1 9 (.bsl 5 83 []),
 o1 10 (.addo (.t 1) 1),
 o1 11 (.ld (.t 10) 1 false),
 o1 12 (.cln 5 56 83 (.t 9) (.t 11)),
 o1 13 (.addo (.t 1) 1),
 ⟨none,.st (.t 13) (.t 12) 1,none,[]⟩])
 (.seq (.seq (.reg [
 o1 3 (.mv (.c (.int .i64 0)))])
 (.block 0 (.loop (.seq (.seq (.reg [
  m1 14 3,
  o1 15 (.addo (.t 1) 1),
  o1 16 (.ld (.t 15) 1 false),
  o1 17 (.len (.t 16)),
  o1 18 (.bin .lss (.t 14) (.t 17))])
  (.cond (.t 18)
  .skip
  (.exit 0)))
  (.seq (.block 1 (.regd [0,1,2,3,4,5,6,7,8,9,10,11,12,13] [
   .op (o1 21 (.addo (.t 1) 1)),
   .op ⟨some 22,.ld (.t 21) 1 false,none,[0]⟩,
   .op (m1 23 3),
   .op (o1 24 (.bsl 4 85 [])),
   .op (o1 25 (.addo (.t 1) 1)),
   .op ⟨some 26,.ld (.t 25) 1 false,none,[4]⟩,
   .op (m1 27 3),
   .op ⟨some 28,.ixs (.t 26) (.t 27) 5,none,[5,6]⟩,
   .op ⟨some 29,.addo (.t 28) 4,none,[7]⟩,
   .op ⟨some 30,.ld (.t 29) 1 false,none,[8]⟩,
   .op ⟨some 31,.app 4 32 85 (.t 24) (.t 30),none,[3,9]⟩,
   .op ⟨some 32,.ixs (.t 22) (.t 23) 5,none,[0,1,2,3,4,5,6,7,8,9,10]⟩,
   .op ⟨some 33,.addo (.t 32) 4,none,[0,1,2,3,4,5,6,7,8,9,10,11]⟩] 0 1 [
   ⟨none,.st (.t 33) (.t 31) 1,none,[0,1,2,3,4,5,6,7,8,9,10,12]⟩]))
  (.reg [
  m1 19 3,
  o1 20 (.bin .add (.t 19) (.c (.int .i64 1))),
  m1 3 20]))))))
 (.seq (.reg [
 o1 34 (.ld (.t 1) 2 true),
 ⟨none,.st (.t 2) (.t 34) 2,none,[]⟩])
 .ret)))))
def rw47:List RV:=[.cell 2 2 true]
theorem nw47:Tryz.f47.ntmps=35:=by kernel_rfl
theorem bw47:YF Tryz.prog 47=true:=by kernel_rfl
theorem Zt0:XA Tryz.prog cw47 ((Tryz.f47.body).getD .skip)=true:=by kernel_rfl
theorem ZsQ:We Tryz.prog rw47 Tryz.f47.results.toList=true:=by kernel_rfl
theorem mw47 {n0:Nat} {hp0:List (Nat × HB)} {args:List SV} {ZX:Ot->Prop} (hh:hpb n0 hp0) (hx:∀ o,ZX o->KX o.res/\KXP o.hp) (h:sx Tryz.prog Y0 n0 cw47 ⟨enum 0 args,hp0,n0,35,[]⟩ (retM rw47 fun o=>∃ o',ZX o'/\Zec n0 o o')) (hA:Nat.ble args.length 35=true:=by rfl):CtM Tryz.prog 47 hp0 n0 args ZX:=Xt Tryz.func47 rfl bw47 Zt0 ZsQ nw47 (Nat.le_of_ble_eq_true hA) hh hx h
end Go.Proofs.YtiigiflofnjilaaGreat
namespace Go.Azalai
open Go.Sx
def Zdf (ws:List Well) (ys:List Span):List Well:=List.zipWith (fun w y=>{ w with yld:=y }) ws ys
def YV (s:Season) (x:Scene):Land:=⟨Zdf s.land.wells x.yields,s.land.legs⟩
def Wn (ws Z:List Well) (k:Nat):List Well:=Z.take k ++ ws.drop k
theorem Vu {ws:List Well} {ys:List Span} (h:ys.length=ws.length):(Zdf ws ys).length=ws.length:=by simp [Zdf,h]
theorem W7 {ws Z:List Well} {k:Nat} (h:Z.length=ws.length) (hk:k<=ws.length):(Wn ws Z k).length=ws.length:=by simp [Wn];omega
theorem Uh {ws Z:List Well} {k:Nat} (h:Z.length=ws.length) (hk:k < ws.length) (hk':k < (Wn ws Z k).length):(Wn ws Z k)[k]=ws[k]:=by
 simp only [Wn]
 rw [List.getElem_append_right (by simp;omega)]
 simp [Nat.min_eq_left (Nat.le_of_lt (h ▸ hk:k < Z.length))]
theorem ZdD {ws Z:List Well} {k:Nat} (h:Z.length=ws.length) (hk:k < ws.length) (hz:k < Z.length):(Wn ws Z k).set k Z[k]=Wn ws Z (k+1):=by
 simp only [Wn]
 rw [List.set_append_right _ _ (by simp;omega)]
 have h1:(Z.take k).length=k:=by simp;omega
 rw [h1,Nat.sub_self,List.drop_eq_getElem_cons hk,List.set_cons_zero,List.take_succ_eq_append_getElem hz,List.append_assoc]
 rfl
theorem ZcJ {ws:List Well} {ys:List Span} {k:Nat} (h1:k < ws.length) (h2:k < ys.length) (h:k < (Zdf ws ys).length):(Zdf ws ys)[k]={ ws[k] with yld:=ys[k] }:=by simp [Zdf]
def ZaP (s:Season) (x:Scene) (st:Stop):Int:=(Xd (YV s x) st.well [] st.arrives.lo).1.lo
end Go.Azalai
namespace Go.Proofs.YtiigiflofnjilaaGreat
open Go Go.Sx Go.Azalai
theorem U9 {s:Season} {x:Scene} (h:Wo s.land) (hx:x.yields.length=s.land.wells.length):Wo (YV s x):=by
 refine ⟨?_,h.2.1,h.2.2⟩
 simp only [YV];rw [Vu hx];exact h.1
theorem Zki (l:List Well) (hL:l.length<=1000) (k:Bool):CtM Tryz.prog 155 [] 0 [.sl k 9 (l.map Ze)] (fun o=>o=⟨false,.mr 0 0,[(0,.row 0 9 (l.map Ze) 88)],1⟩):=by
 refine mw155 (by simp [hpb]) (fun o ho=>by subst ho;simp [KX,KXL,KXP,KXH,Za,KFL,KF,Ze]) ?_
 dsimp only [Zvq,Ztt,go_sem,rA,rM,rS]
 intro b hb
 dsimp only [go_sem,rA,rM,rS]
 cases b with
 | true =>
  have hl:l=[]:=by simpa using hb rfl
  subst hl
  refine Zu rfl ?_
  dsimp only [go_sem,rA,rM,rS]
  refine ⟨_,rfl,?_⟩
  refine VS (Yo (YC 0 9 88 rfl rfl) ?_) (fun _ _ _ e=>by cases e)
  (refine Zl ?_ ?_ ?_ rfl rfl<;>dsimp only [Ze,id,go_sem,rA,rM,rS]<;>simp [Ze,Za,Zf,KFR,KFL,KF,Zc,mtO,nbr])
 | false =>
  refine Zv rfl ?_
  dsimp only [go_sem,rA,rM,rS]
  refine ⟨by simp;omega,?_⟩
  dsimp only [go_sem,rA,rM,rS]
  refine ⟨_,rfl,?_⟩
  (refine Yb ?_ ?_ ?_ rfl<;>dsimp only [Ze,id,go_sem,rA,rM,rS]<;>simp [Ze,Za,Zf,KFR,KFL,KF,Zc,mtO,nbr])
theorem Zoa (l:Land) (hs:Wo l):CtM Tryz.prog 47 [] 0 [.agg (ZY l)] (fun o=>o=⟨false,.agg [.mr 0 0,.mr 1 0],[(0,.row 0 9 (l.wells.map Ze) 88),(1,.row 0 5 (l.legs.map Zm) 83)],2⟩):=by
 refine mw47 (by simp [hpb]) (fun o ho=>by subst ho;simp [KX,KXL,KXP,KXH,Za,KFL,KF,ZY,Ze,Zm,Zg]) ?_
 dsimp only [cw47,rw47,ZY,go_sem,rA,rM,rS]
 refine ⟨by simp;have:=hs.1;omega,?_⟩
 dsimp only [go_sem,rA,rM,rS]
 refine ⟨by simp;have:=hs.2.1;omega,?_⟩
 dsimp only [go_sem,rA,rM,rS]
 refine Xf (fun k:Nat=>[(3,I k)]) (fun _=>[]) (fun k=>k<=l.legs.length) (fun k=>l.legs.length - k) 0 (Nat.zero_le _) ?_ ?_
 . (refine Zl ?_ ?_ ?_ rfl rfl<;>dsimp only [Zg,Ze,Zm,id,go_sem,rA,rM,rS]<;>simp [Zg,Ze,Zm,Za,Zf,KFR,KFL,KF,Zc,mtO,nbr])
 intro k hk
 dsimp only [go_sem,rA,rM,rS]
 simp only [List.length_map]
 by_cases hlt:k < l.legs.length
 . refine Zu (by simpa using hlt) ?_
   dsimp only [go_sem,rA,rM,rS]
   refine Zb1 k rfl (by simpa using hlt) ?_
   dsimp only [go_sem,rA,rM,rS]
   refine ZfM hlt ?_
   dsimp only [Zm,go_sem,rA,rM,rS]
   refine ZwT (by simp;have:=hs.2.2 _ (List.getElem_mem hlt);omega) ?_
   dsimp only [go_sem,rA,rM,rS]
   refine Zb1 k rfl (by simpa using hlt) ?_
   dsimp only [go_sem,rA,rM,rS]
   refine Zqj l.legs[k] hlt (by simp [Zm]) (by simp [Zm,splice]) ?_
   rw [List.set_getElem_self]
   dsimp only [go_sem,rA,rM,rS]
   rw [Zi (n:=(k:Int)+1) (by omega) (by have:=hs.2.1;omega)]
   refine ⟨k+1,hlt,by omega,?_⟩
   (refine Zl ?_ ?_ ?_ rfl rfl<;>dsimp only [Zg,Ze,Zm,id,go_sem,rA,rM,rS]<;>simp [Zg,Ze,Zm,Za,Zf,KFR,KFL,KF,Zc,mtO,nbr])
 refine Zv (by simp;omega) ?_
 dsimp only [go_sem,rA,rM,rS]
 refine ⟨_,rfl,?_⟩
 refine entO (fun i=>i+2) ?_ ?_ ?_ (fun i hi j hj h=>by omega) rfl (fun i hi=>absurd hi (Nat.not_lt_zero i))<;>dsimp only [go_sem,rA,rM,rS]<;>simp [Za,Zf,KFR,KFL,KF,Zc,mtO,nbr,Ze,Zm,Zg]
theorem Zq6 (s:Season) (hs:SmallS s) (k:Nat) (hk:k < s.scenes.length) (hy:s.scenes[k].yields.length=s.land.wells.length) (st:Stop):Ct Tryz.prog 113 [.agg (Yl s k),.agg (Zy st)] (I (ZaP s s.scenes[k] st)):=by
 have hw:=hs.land.1
 refine tw113.1 (by simp [Yl,Zy,Zj,Ze,Zm,Zg,Zd,Zo,Za,KFL,KF]) (by simp [KFL,KF]) ?_
 dsimp only [ZxU,ZxF,Yl,Zy,go_sem,rA,rM,rS]
 refine UZ [] (Zki s.land.wells hw false) rfl rfl rfl ?_ ?_ ?_
 . exact Zc (by simp [Za,Ze,KFL,KF])
 . trivial
 dsimp only [go_sem,rA,rM,rS]
 simp only [List.length_map]
 have hz:=Vu hy
 refine Ws [2,3,4,5,19,20] rfl (fun q:Nat=>[(20,I q)]) (fun q=>[(3,.row 0 9 ((Wn s.land.wells (Zdf s.land.wells s.scenes[k].yields) q).map Ze) 88)])
  (fun q=>q<=s.land.wells.length) (fun q=>s.land.wells.length - q) 0 (Nat.zero_le _) ?_ ?_
 . (refine Zl ?_ ?_ ?_ rfl rfl<;>dsimp only [Ze,Zm,Zg,Zj,Zd,Zo,Wn,id,go_sem,rA,rM,rS]<;>simp [Ze,Zm,Zg,Zj,Zd,Zo,Wn,Za,Zf,KFR,KFL,KF,Zc,mtO,nbr])
 intro q hq
 dsimp only [go_sem,rA,rM,rS]
 by_cases hlt:q < s.land.wells.length
 . refine Zu (by simpa using hlt) ?_
   dsimp only [go_sem,rA,rM,rS]
   refine call (ZjD s k hk) ?_
   dsimp only [Zj,go_sem,rA,rM,rS]
   refine Zp q (by omega) rfl ?_
   dsimp only [Zd,go_sem,rA,rM,rS]
   refine Zb1 q rfl (by simp [W7 hz hq];omega) ?_
   dsimp only [go_sem,rA,rM,rS]
   have hq2:q < (Wn s.land.wells (Zdf s.land.wells s.scenes[k].yields) q).length:=by rw [W7 hz hq];exact hlt
   have hq3:q < (Zdf s.land.wells s.scenes[k].yields).length:=by omega
   refine Zqj ((Zdf s.land.wells s.scenes[k].yields)[q]) hq2 (by rw [Uh hz hlt];simp [Ze]) (by rw [Uh hz hlt,ZcJ hlt (by omega)];simp [Ze,splice]) ?_
   rw [ZdD hz hlt hq3]
   dsimp only [go_sem,rA,rM,rS]
   rw [Zi (n:=(q:Int)+1) (by omega) (by omega)]
   refine ⟨q+1,by omega,by omega,?_⟩
   (refine Zl ?_ ?_ ?_ rfl rfl<;>dsimp only [Ze,Zm,Zg,Zj,Zd,Zo,id,go_sem,rA,rM,rS]<;>simp [Ze,Zm,Zg,Zj,Zd,Zo,Za,Zf,KFR,KFL,KF,Zc,mtO,nbr])
 refine Zv (by simp;omega) ?_
 dsimp only [go_sem,rA,rM,rS]
 have hq':Wn s.land.wells (Zdf s.land.wells s.scenes[k].yields) q=Zdf s.land.wells s.scenes[k].yields:=by
  simp only [Wn];rw [List.take_of_length_le (by omega),List.drop_eq_nil_of_le (by omega),List.append_nil]
 rw [hq']
 have hwa:=(Zfi (YV s s.scenes[k]) (U9 hs.land hy) st.well st.arrives.lo [] (by simp)).args (args0:=[.agg (ZY (YV s s.scenes[k])),I st.well,.v (.slice none 0 0),I st.arrives.lo]) (by simp [ZY,Ze,Zm,Zg,Za,KFL,KF]) (ZO (fun _ _ _ _ _ h=>h) (ZO (fun _ _ _ _ _ h=>h) (ZO YA XV)))
 refine Zdm (by simp [FLT,Zv7,ZiE,Zd]) (res:=ZiE (Xd (YV s s.scenes[k]) st.well [] st.arrives.lo)) ?_ ?_
 . dsimp only [go_sem,rA,rM,rS]
   exact hwa
 dsimp only [ZiE,Zd,go_sem,rA,rM,rS]
 rfl
theorem Zjk (s:Season) (hs:SmallS s) (k:Nat) (hk:k < s.scenes.length) (hy:s.scenes[k].yields.length=s.land.wells.length):Ct Tryz.prog 38 [.agg (Zr s),I k] (.agg (ZY (YV s s.scenes[k]))):=by
 have hw:=hs.land.1
 refine tw38.1 (by simp [Zr,Zj,Ze,Zm,Zg,Zd,Zo,Za,KFL,KF]) (by simp [ZY,Ze,Zm,Zg,Za,KFL,KF]) ?_
 dsimp only [cw38,rw38,Zr,go_sem,rA,rM,rS]
 refine UZ [] (Zoa s.land hs.land) rfl rfl rfl ?_ ?_ ?_
 . exact Zc (by simp [ZY,Ze,Zm,Zg,Za,KFL,KF])
 . trivial
 dsimp only [go_sem,rA,rM,rS]
 have hz:=Vu hy
 refine Ws [2,4,5,6,1] rfl (fun q:Nat=>[(6,I q)]) (fun q=>[(2,.row 0 9 ((Wn s.land.wells (Zdf s.land.wells s.scenes[k].yields) q).map Ze) 88)])
  (fun q=>q<=s.land.wells.length) (fun q=>s.land.wells.length - q) 0 (Nat.zero_le _) ?_ ?_
 . (refine Zl ?_ ?_ ?_ rfl rfl<;>dsimp only [Ze,Zm,Zg,Zj,Zd,Zo,Wn,id,go_sem,rA,rM,rS]<;>simp [Ze,Zm,Zg,Zj,Zd,Zo,Wn,Za,Zf,KFR,KFL,KF,Zc,mtO,nbr])
 intro q hq
 dsimp only [go_sem,rA,rM,rS]
 simp only [List.length_map,W7 hz hq]
 by_cases hlt:q < s.land.wells.length
 . refine Zu (by simpa using hlt) ?_
   dsimp only [go_sem,rA,rM,rS]
   refine Zp k hk rfl ?_
   dsimp only [Zj,go_sem,rA,rM,rS]
   refine Zp q (by omega) rfl ?_
   dsimp only [Zd,go_sem,rA,rM,rS]
   refine Zb1 q rfl (by simp [W7 hz hq];omega) ?_
   dsimp only [go_sem,rA,rM,rS]
   have hq2:q < (Wn s.land.wells (Zdf s.land.wells s.scenes[k].yields) q).length:=by rw [W7 hz hq];exact hlt
   have hq3:q < (Zdf s.land.wells s.scenes[k].yields).length:=by omega
   refine Zqj ((Zdf s.land.wells s.scenes[k].yields)[q]) hq2 (by rw [Uh hz hlt];simp [Ze]) (by rw [Uh hz hlt,ZcJ hlt (by omega)];simp [Ze,splice]) ?_
   rw [ZdD hz hlt hq3]
   dsimp only [go_sem,rA,rM,rS]
   rw [Zi (n:=(q:Int)+1) (by omega) (by omega)]
   refine ⟨q+1,by omega,by omega,?_⟩
   (refine Zl ?_ ?_ ?_ rfl rfl<;>dsimp only [Ze,Zm,Zg,Zj,Zd,Zo,id,go_sem,rA,rM,rS]<;>simp [Ze,Zm,Zg,Zj,Zd,Zo,Za,Zf,KFR,KFL,KF,Zc,mtO,nbr])
 refine Zv (by simp;omega) ?_
 dsimp only [go_sem,rA,rM,rS]
 have hq':Wn s.land.wells (Zdf s.land.wells s.scenes[k].yields) q=Zdf s.land.wells s.scenes[k].yields:=by
  simp only [Wn];rw [List.take_of_length_le (by omega),List.drop_eq_nil_of_le (by omega),List.append_nil]
 rw [hq']
 rfl
end Go.Proofs.YtiigiflofnjilaaGreat
namespace Go.Sx
open Go Go.RowKit
theorem Vo {l l':List SV} (h:∀ (w:World) (E:Env) (n ok:Nat->Prop) (ys:List Value),RL w E n ok l ys->RL w E n ok l' ys):Y6 (.agg l) (.agg l'):=fun w E n ok y hy=>by
 simp only [R] at hy ⊢
 obtain ⟨cs,h1,h2⟩:=hy
 exact ⟨cs,h1,h _ _ _ _ _ h2⟩
end Go.Sx
namespace Go.Azalai
open Go.Sx
def Ul (b:Breed) (c:Camel):Camel:={ c with water:=⟨b.full,b.full⟩ }
def goG (s:Season) (x:Scene) (slabs:Int):List Stop->Nat->Camel->List (Int × Int)->Int × Int × List (Int × Int)
 | [],_,_,acc=>(0,0,acc)
 | st :: r,i,c,acc =>
  if (Y3 s x (YL s.land st.leg s.pace).1 slabs c).2≠0 then ((Y3 s x (YL s.land st.leg s.pace).1 slabs c).2,i,acc)
  else goG s x slabs r (i+1) (Ul s.breed (Y3 s x (YL s.land st.leg s.pace).1 slabs c).1)
   (if r=[] then acc else acc ++ [(s.breed.full - (Y3 s x (YL s.land st.leg s.pace).1 slabs c).1.water.lo,ZaP s x st)])
def goF (s:Season) (x:Scene) (slabs:Int) (l:List Stop):Int × Int × List (Int × Int) :=
 if l=[] then (if slabs * s.slab > (ZcP s.breed s.camel).lo then 2 else 0,0,[]) else goG s x slabs l 0 s.camel []
theorem Zev {lo hi:Int} {a b:Span} (ha:Z9 lo hi a=true) (hb:Z9 lo hi b=true):Z9 lo hi (ZfU a b)=true:=by
 simp only [Z9,decide_eq_true_eq] at ha hb
 show decide (lo<=min a.lo b.lo/\min a.lo b.lo<=max a.hi b.hi/\max a.hi b.hi<=hi)=true
 rw [decide_eq_true_eq];omega
theorem ZdU {b:Breed} {c:Camel} {m:March} (hb:ZC b=true) (hc:Zx b c=true) (he:(Xv b c m).2.2=0):Zx b (Xv b c m).1=true:=by
 unfold Xv at he ⊢
 rw [if_neg (by rw [Go.Proofs.YtiigiflofnjilaaGreat.Cm.errC_0.2 ⟨hb,hc⟩];simp)] at he ⊢
 split
 . rename_i h;rw [if_pos h] at he;simp at he
 . rename_i h
   rw [if_neg h] at he
   split
   . rename_i h2;rw [if_pos h2] at he;simp at he
   . rename_i h2
     exact Go.Azalai.after_ok hb hc (by simpa using h) h2
theorem ZcB {b:Breed} (hb:ZC b=true):Zx b Y5=true:=by
 have:=Go.Proofs.YtiigiflofnjilaaGreat.Cm.breed_bd hb
 simp [Zx,Y5,Z9];omega
theorem ZdE {b:Breed} {m:March} {lo:Int} (hb:ZC b=true):∀ {j n:Nat} {c out:Camel},Zx b c=true->Zx b out=true->Zx b (VK b m lo j n c out).1=true
 | 0,_,_,_,_,ho=>ho
 | j+1,n,c,out,hc,ho=>by
  simp only [VK]
  split
  . exact ZcB hb
  split
  . exact ZcB hb
  rename_i h1 h2
  have ha:=ZdU (m:=m) hb hc (by omega)
  refine ZdE hb ha ?_
  split
  . exact ha
  split
  . simp only [Zx,Bool.and_eq_true] at ha ho ⊢
    exact ⟨⟨Zev ho.1.1 ha.1.1,Zev ho.1.2 ha.1.2⟩,Zev ho.2 ha.2⟩
  . exact ho
theorem Zbk {s:Season} {x:Scene} {d:Span} {slabs:Int} {c:Camel} (hb:ZC s.breed=true) (hc:Zx s.breed c=true):Zx s.breed (Y3 s x d slabs c).1=true:=ZdE hb hc (ZcB hb)
theorem Zav {b:Breed} {c:Camel} (hb:ZC b=true) (hc:Zx b c=true):Zx b (Ul b c)=true:=by
 have:=Go.Proofs.YtiigiflofnjilaaGreat.Cm.breed_bd hb
 simp only [Zx,Ul,Bool.and_eq_true] at hc ⊢
 exact ⟨⟨by simp only [Z9,decide_eq_true_eq];omega,hc.1.2⟩,hc.2⟩
theorem ZnR {l:Land} {p:Span} {leg:Int} (hg:OkLP l p):(YL l leg p).1.hi<=1000000000:=by
 unfold YL
 split
 . simp
 split
 . simp
 split
 . rename_i x hx
   have:=Go.Azalai.day_bd (hg.leg hx) hg.pace
   simp only;omega
 . simp
theorem Zc2 {b:Breed} {c:Camel} (hb:ZC b=true) (hc:Zx b c=true):0<=c.water.lo/\c.water.lo<=b.full/\1<=b.full/\b.full<=1000000:=by
 have h1:=Go.Proofs.YtiigiflofnjilaaGreat.Cm.breed_bd hb
 have h2:=Go.Proofs.YtiigiflofnjilaaGreat.Cm.camel_bd hb hc
 omega
end Go.Azalai
namespace Go.Proofs.YtiigiflofnjilaaGreat
open Go Go.Sx Go.Azalai
theorem ZiD (s:Season) (h:OkS s) (leg:Int):Ct Tryz.prog 39 [.agg (ZY s.land),I leg,.agg (Zd s.pace)] (sres (YL s.land leg s.pace)):=Zpr s.land h.small.land leg s.pace
end Go.Proofs.YtiigiflofnjilaaGreat
namespace Go.Azalai
open Go.Sx
theorem Zfs {l:Land} {p:Span}:∀ {legs:List Int} {v a b:Int} {k k':Nat} {acc:List Stop},XW l v legs k'=none->(goS l p v a b legs k acc).2.2=0->(goS l p v a b legs k acc).1.map Stop.leg=acc.map Stop.leg ++ legs
 | [],_,_,_,_,_,_,_,_=>by simp [goS]
 | i :: r,v,a,b,k,k',acc,h,h0=>by
  simp only [XW] at h
  split at h
  . cases h
  rename_i hn
  obtain ⟨n,x,rfl,hk,hx,_,e⟩:=UD hn
  simp only [goS,Int.toNat_natCast,hx] at h0 ⊢
  split
  . rename_i h1;rw [if_pos h1] at h0;simp at h0
  . rename_i h1;rw [if_neg h1] at h0
    rw [e] at h
    rw [Zfs h h0];simp
theorem ZfS {l:Land} {p:Span} {s d:Int} {legs:List Int} (h:(YG l p s d legs).2.2=0):(YG l p s d legs).1.map Stop.leg=legs:=by
 unfold YG at h ⊢
 split
 . rename_i h1;rw [if_pos h1] at h;exact absurd h h1
 rename_i h1
 rw [if_neg h1] at h
 split
 . rename_i h2;rw [if_pos h2] at h;simp at h
 rename_i h2
 rw [if_neg h2] at h
 split
 . rename_i h3;rw [if_pos h3] at h;simp at h
 rename_i h3
 rw [if_neg h3] at h
 split
 . rename_i h4;rw [h4] at h;simp at h
 rename_i h4
 rw [h4] at h
 rw [Zfs h4 h];simp
theorem Zgr {s:Season} {legs:List Int} (h:WZ s legs=true):(Zz s legs).map Stop.leg=legs:=by
 simp only [WZ,Bool.and_eq_true,decide_eq_true_eq] at h
 exact ZfS h.1
def UA (n:Int):List (Int × Int)->Nat->Option Nat
 | [],_=>none
 | p :: r,i=>if n * p.1 > p.2 then some i else UA n r (i+1)
def XX (n:Int) (g:Int × Int × List (Int × Int)):Int × Int :=
 match UA n g.2.2 0 with
 | some i=>(4,i)
 | none=>(g.1,g.2.1)
def Xk (s:Season) (p:Plan) (x:Scene):Int × Int :=
 if WZ s p.legs=false then (1,0) else if p.animals=0 then (0,0) else XX p.animals (goF s x p.slabs (Zz s p.legs))
def YN (s:Season) (p:Plan):List Scene->Nat->Int × Int × Int × Int
 | [],_=>(0,0,0,0)
 | x :: r,i=>if (Xk s p x).1≠0 then ((Xk s p x).1,i,(Xk s p x).2,0) else YN s p r (i+1)
def Z5 (s:Season) (p:Plan):Int × Int × Int × Int :=
 if ZA s=false then (0,0,0,90) else if Xu s p=false then (0,0,0,91) else YN s p s.scenes 0
theorem Zik {s:Season} {x:Scene} {slabs:Int} (hb:ZC s.breed=true):∀ {l:List Stop} {i:Nat} {c:Camel} {acc:List (Int × Int)},Zx s.breed c=true->(∀ q ∈ acc,0<=q.1/\q.1<=1000000) ->
 (∀ q ∈ (goG s x slabs l i c acc).2.2,0<=q.1/\q.1<=1000000)/\(goG s x slabs l i c acc).2.2.length<=acc.length+l.length
 | [],_,_,acc,_,ha=>⟨ha,by simp [goG]⟩
 | st :: r,i,c,acc,hc,ha=>by
  simp only [goG]
  split
  . exact ⟨ha,by simp only;omega⟩
  have hbo:=Zbk (x:=x) (d:=(YL s.land st.leg s.pace).1) (slabs:=slabs) hb hc
  have hw:=Zc2 hb hbo
  split
  . obtain ⟨h1,h2⟩:=Zik (s:=s) (x:=x) (slabs:=slabs) hb (l:=r) (i:=i+1) (acc:=acc) (Zav hb hbo) ha
    exact ⟨h1,by simp only [List.length_cons];omega⟩
  . obtain ⟨h1,h2⟩:=Zik (s:=s) (x:=x) (slabs:=slabs) hb (l:=r) (i:=i+1) (acc:=acc ++ [(s.breed.full - (Y3 s x (YL s.land st.leg s.pace).1 slabs c).1.water.lo,ZaP s x st)]) (Zav hb hbo) (fun q hq=>by
     rcases List.mem_append.1 hq with hq | hq
     . exact ha q hq
     . simp only [List.mem_singleton] at hq;subst hq;simp only;omega)
    exact ⟨h1,by simp only [List.length_cons,List.length_append,List.length_nil] at h2 ⊢;omega⟩
theorem ZwP {s:Season} {x:Scene} {slabs:Int} {l:List Stop} (hb:ZC s.breed=true) (hc:Zx s.breed s.camel=true):(∀ q ∈ (goF s x slabs l).2.2,0<=q.1/\q.1<=1000000)/\(goF s x slabs l).2.2.length<=l.length:=by
 unfold goF
 split
 . simp
 . obtain ⟨h1,h2⟩:=Zik (x:=x) (slabs:=slabs) hb (l:=l) (i:=0) (acc:=[]) hc (by simp)
   exact ⟨h1,by simpa using h2⟩
end Go.Azalai
namespace Go.Proofs.YtiigiflofnjilaaGreat
open Go Go.Sx Go.Azalai
theorem W6 {s:Season} {p:Plan} (h:Xu s p=true):(∃ v,YI s.land s.start [s.start] p.legs=some v)/\0<=p.animals/\p.animals<=s.herd/\0<=p.slabs/\p.slabs<=12:=by
 simp only [Xu,inR,Bool.and_eq_true,decide_eq_true_eq,Option.isSome_iff_exists] at h
 exact ⟨h.1.1,by omega⟩
def ZbW (r:Int × Int × Int × Int):SV:=.tup [U8 r.1,I r.2.1,I r.2.2.1,I r.2.2.2]
end Go.Proofs.YtiigiflofnjilaaGreat
namespace Go.Azalai
open Go.Sx
def ZbP (n:Int) (st:Stop) (p:Int × Int):Draw:=⟨st.well,st.arrives.lo,n * p.1⟩
def W5 (n:Int) (l:List Stop) (g:List (Int × Int)):List Draw:=List.zipWith (ZbP n) l g
def XN (s:Season) (x:Scene) (n slabs:Int) (l:List Stop):List Draw :=
 if l=[] then [] else if n=0 then l.dropLast.map fun st=>⟨st.well,st.arrives.lo,0⟩ else W5 n l (goF s x slabs l).2.2
def Zg0 (s:Season) (x:Scene) (n slabs:Int) (l:List Stop):Int × Int:=if n=0 then (0,0) else XX n (goF s x slabs l)
theorem ZcK {s:Season} {x:Scene} {slabs:Int}:∀ {l:List Stop} {i:Nat} {c:Camel} {acc:List (Int × Int)},∃ more,(goG s x slabs l i c acc).2.2=acc ++ more
 | [],_,_,acc=>⟨[],by simp [goG]⟩
 | st :: r,i,c,acc=>by
  simp only [goG]
  split
  . exact ⟨[],by simp⟩
  split
  . exact ZcK
  . obtain ⟨m,hm⟩:=ZcK (s:=s) (x:=x) (slabs:=slabs) (l:=r) (i:=i+1) (c:=Ul s.breed (Y3 s x (YL s.land st.leg s.pace).1 slabs c).1) (acc:=acc ++ [(s.breed.full - (Y3 s x (YL s.land st.leg s.pace).1 slabs c).1.water.lo,ZaP s x st)])
    exact ⟨_,by rw [hm,List.append_assoc]⟩
theorem Vm {n:Int}:∀ {a b:List (Int × Int)} {i:Nat},UA n a i=none->UA n (a ++ b) i=UA n b (i+a.length)
 | [],_,_,_=>by simp
 | p :: a,b,i,h=>by
  simp only [UA] at h
  split at h
  . cases h
  rename_i hp
  simp only [List.cons_append,UA]
  rw [if_neg hp,Vm h,List.length_cons];congr 1;omega
theorem Zen {n:Int} {l:List Stop} {acc:List (Int × Int)} {p:Int × Int} {j:Nat} (hj:j < l.length) (ha:acc.length=j):W5 n l (acc ++ [p])=W5 n l acc ++ [ZbP n l[j] p]:=by
 simp only [W5]
 subst ha
 have h1:l=l.take acc.length ++ l.drop acc.length:=(List.take_append_drop ..).symm
 have hlen:(l.take acc.length).length=acc.length:=by simp;omega
 have e1:List.zipWith (ZbP n) l (acc ++ [p])=List.zipWith (ZbP n) (l.take acc.length) acc ++ List.zipWith (ZbP n) (l.drop acc.length) [p]:=by
  rw [<- List.zipWith_append hlen,<- h1]
 have e2:List.zipWith (ZbP n) l acc=List.zipWith (ZbP n) (l.take acc.length) acc:=by
  have:=List.zipWith_append (f:=ZbP n) (l₁:=l.take acc.length) (l₁':=l.drop acc.length) (l₂:=acc) (l₂':=[]) hlen
  rw [<- h1] at this;simpa using this
 rw [e1,e2,List.drop_eq_getElem_cons hj]
 simp only [List.zipWith_cons_cons,List.zipWith_nil_right]
end Go.Azalai
namespace Go.Proofs.YtiigiflofnjilaaGreat
open Go Go.Sx Go.Azalai
def Zxa (s:Season) (k:Int) (l:List Stop) (slabs:Int):Ot:=⟨false,.cl 163 [.p 0 0,.p 1 0,.p 2 0],[(0,.cells (Yl s k) 120),(1,.cells [.sl false 6 (l.map Zy)] 90),(2,.cells [I slabs] 3)],3⟩
theorem ZeL (s:Season) (k:Int) (l:List Stop) (slabs:Int):CtM Tryz.prog 135 [] 0 [.agg (Yl s k),.sl false 6 (l.map Zy),I slabs] (fun o=>o=Zxa s k l slabs):=by
 refine m135 (by simp [hpb]) (fun o ho=>by subst ho;simp [Zxa,Yl,KX,KXL,KXP,KXH,Za,KFL,KF,Ze,Zm,Zg,Zj,Zd,Zo,Zy]) ?_
 dsimp only [c135,r135,go_sem,rA,rM,rS]
 refine ⟨_,rfl,?_⟩
 (refine Yb ?_ ?_ ?_ rfl<;>dsimp only [Zxa,Yl,Ze,Zm,Zg,Zj,Zd,Zo,Zy,id,go_sem,rA,rM,rS]<;>simp [Zxa,Yl,Ze,Zm,Zg,Zj,Zd,Zo,Zy,Za,Zf,KFR,KFL,KF,Zc,mtO,nbr])
def VH (w:Int × Int) (ds:List Draw):Ot:=if w.1=0 then ⟨false,.sl false 3 (ds.map Z0),[],0⟩ else Xz w.1 w.2
theorem ZqK (s:Season) (h:OkS s) (k:Nat) (hk:k < s.scenes.length) (l:List Stop) (hl:l.length<=1000) (n slabs:Int) (hn:0<=n/\n<=s.herd) (hsl:0<=slabs/\slabs<=12) :
 CtM Tryz.prog 92 [] 0 [.agg (Yl s k),.sl false 6 (l.map Zy),I n,I slabs] (fun o=>o=VH (Zg0 s s.scenes[k] n slabs l) (XN s s.scenes[k] n slabs l)):=by
 have hnum:=h.num
 have hx:=h.scene _ (List.getElem_mem hk)
 have hy:s.scenes[k].yields.length=s.land.wells.length:=by simp only [Yg,Bool.and_eq_true,decide_eq_true_eq] at hx;omega
 have hb:0<=slabs * s.slab/\slabs * s.slab<=12 * 1000000:=⟨Int.mul_nonneg hsl.1 (by omega),Int.mul_le_mul hsl.2 (by omega) (by omega) (by decide)⟩
 refine m92 (by simp [hpb]) (fun o ho=>by subst ho;unfold VH;split<;>simp [Xz,KX,KXL,KXP,Za,KFL,KF,Z0]) ?_
 dsimp only [c92,r92,Yl,go_sem,rA,rM,rS]
 simp only [List.length_map]
 by_cases hl0:l=[]
 . subst hl0
   refine Zu (by simp) ?_
   dsimp only [go_sem,rA,rM,rS]
   refine call (Cm.carries_ok s.breed s.camel) ?_
   dsimp only [Cm.sres,Zd,go_sem,rA,rM,rS]
   rw [show (if Zaa s.breed s.camel=0 then Zr2 s.breed s.camel else Ub)=ZcP s.breed s.camel from rfl]
   repeat (refine gb ?_;dsimp only [go_sem,rA,rM,rS])
   rw [Zi (n:=slabs * s.slab) (by omega) (by omega)]
   by_cases hok:n=0\/slabs * s.slab<=(ZcP s.breed s.camel).lo
   . rw [show (n == 0 || decide (slabs * s.slab<=(ZcP s.breed s.camel).lo))=true from by simpa using hok]
     refine YM [] (V6 2 0) rfl rfl rfl ?_ ?_ ?_
     . (repeat first | dsimp only [go_sem,rA,rM,rS] | simp only [nbr])
       try simp [mtL,mtB,mtS]
     . trivial
     rintro _ rfl
     (repeat first | dsimp only [go_sem,rA,rM,rS] | simp only [nbr])
     refine ⟨_,rfl,?_⟩
     have hw:Zg0 s s.scenes[k] n slabs []=(0,0):=by
      unfold Zg0
      split
      . rfl
      . rw [goF,if_pos rfl,if_neg (by omega)];rfl
     rw [hw]
     simp only [VH,if_true,XN,List.map_nil]
     refine VS (Yo (YC 0 3 111 rfl rfl) (Yo (UQ 0 4 0 rfl rfl rfl rfl) ?_)) (fun _ _ _ e=>by cases e)
     (refine Zl ?_ ?_ ?_ rfl rfl<;>dsimp only [id,go_sem,rA,rM,rS]<;>simp [Za,Zf,KFR,KFL,KF,Zc,mtO,nbr])
   . rw [show (n == 0 || decide (slabs * s.slab<=(ZcP s.breed s.camel).lo))=false from by simpa using hok]
     refine YM [] (ZaB 2 0) rfl rfl rfl ?_ ?_ ?_
     . (repeat first | dsimp only [go_sem,rA,rM,rS] | simp only [nbr])
       try simp [mtL,mtB,mtS]
     . trivial
     rintro _ rfl
     (repeat first | dsimp only [Xz,go_sem,rA,rM,rS] | simp only [nbr])
     refine ⟨_,rfl,?_⟩
     have hw:Zg0 s s.scenes[k] n slabs []=(2,0):=by
      unfold Zg0
      rw [if_neg (by omega),goF,if_pos rfl,if_pos (by omega)];rfl
     rw [hw]
     simp only [VH]
     (refine Yb ?_ ?_ ?_ rfl<;>dsimp only [Xz,id,go_sem,rA,rM,rS]<;>simp [Xz,Za,Zf,KFR,KFL,KF,Zc,mtO,nbr])
 have hl1:l.length≠0:=fun e=>hl0 (List.length_eq_zero_iff.1 e)
 refine Zv (by simpa using hl0) ?_
 dsimp only [go_sem,rA,rM,rS]
 by_cases hn0:n=0
 . refine Zu (by simpa using hn0) ?_
   dsimp only [go_sem,rA,rM,rS]
   simp only [List.length_map]
   refine ⟨0,l.length - 1,⟨rfl,by rw [Zi (by omega) (by omega)];omega,by omega,by simp⟩,?_⟩
   rw [List.drop_zero,show (l.map Zy).take (l.length - 1)=l.dropLast.map Zy from by rw [List.dropLast_eq_take,List.map_take]]
   dsimp only [go_sem,rA,rM,rS]
   simp only [List.length_map]
   have hwF:Zg0 s s.scenes[k] n slabs l=(0,0):=by simp only [Zg0,if_pos hn0]
   have hdF:XN s s.scenes[k] n slabs l=l.dropLast.map fun st=>⟨st.well,st.arrives.lo,0⟩:=by simp only [XN,if_neg hl0,if_pos hn0]
   have hdl:l.dropLast.length<=1000:=by simp;omega
   rw [hwF,hdF]
   generalize l.dropLast=m at hdl ⊢
   refine Zc7 (Yo (Vv [4,5,6,8,11,49,50,51] rfl) (V4 3 0 3 111 rfl rfl)) (fun q:Nat × Nat × List Draw=>[(51,I q.1)])
    (fun q=>[(3,.cells [.mr 4 q.2.1] 54),(4,.row q.2.1 3 (q.2.2.map Z0) 111)]) (fun q=>q.1<=m.length/\q.2.2=(m.map fun st=>(⟨st.well,st.arrives.lo,0⟩:Draw)).take q.1) (fun q=>m.length - q.1) (0,0,[]) ⟨Nat.zero_le _,by simp⟩ ?_ ?_
   . (refine Zl ?_ ?_ ?_ rfl rfl<;>dsimp only [Yl,Ze,Zm,Zg,Zj,Zd,Zo,Zy,Z0,id,go_sem,rA,rM,rS]<;>simp [Yl,Ze,Zm,Zg,Zj,Zd,Zo,Zy,Z0,Za,Zf,KFR,KFL,KF,Zc,mtO,nbr])
   rintro ⟨j,v,D⟩ ⟨hj,hD⟩
   simp only at hj hD
   dsimp only [go_sem,rA,rM,rS]
   by_cases hlt:j < m.length
   . refine Zu (by simpa using hlt) ?_
     dsimp only [go_sem,rA,rM,rS]
     refine Zp j hlt rfl ?_
     dsimp only [Zy,go_sem,rA,rM,rS]
     simp only [nbr]
     dsimp only [go_sem,rA,rM,rS]
     refine ⟨(by intro c hc;simp only [List.mem_singleton] at hc;subst hc;rfl),by simp [hD];omega,?_⟩
     dsimp only [go_sem,rA,rM,rS]
     rw [Zi (n:=(j:Int)+1) (by omega) (by omega)]
     refine ⟨(j+1,v+1,D ++ [⟨m[j].well,m[j].arrives.lo,0⟩]),⟨hlt,?_⟩,by simp only;omega,?_⟩
     . simp only;rw [List.take_succ_eq_append_getElem (by simpa using hlt),<- hD,List.getElem_map]
     simp only [List.map_append,List.map_cons,List.map_nil]
     (refine Zl ?_ ?_ ?_ rfl rfl<;>dsimp only [Yl,Ze,Zm,Zg,Zj,Zd,Zo,Zy,Z0,id,go_sem,rA,rM,rS]<;>simp [Yl,Ze,Zm,Zg,Zj,Zd,Zo,Zy,Z0,Za,Zf,KFR,KFL,KF,Zc,mtO,nbr])
   refine Zv (by simp;omega) ?_
   dsimp only [go_sem,rA,rM,rS]
   rw [List.take_of_length_le (by simp;omega)] at hD
   rw [<- hD]
   refine ⟨_,rfl,?_⟩
   simp only [VH,if_true]
   refine VS (Yo (UQ 0 4 v rfl rfl rfl rfl) ?_) (fun _ _ _ e=>by cases e)
   (refine Zl ?_ ?_ ?_ rfl rfl<;>dsimp only [Z0,id,go_sem,rA,rM,rS]<;>simp [Z0,Za,Zf,KFR,KFL,KF,Zc,mtO,nbr])
 refine Zv (by simpa using hn0) ?_
 dsimp only [go_sem,rA,rM,rS]
 refine UZ [] (ZeL s k l slabs) rfl rfl rfl ?_ ?_ ?_
 . exact Zc (by simp [Yl,Ze,Zm,Zg,Zj,Zd,Zo,Zy,Za,KFL,KF])
 . trivial
 dsimp only [Zxa,Yl,go_sem,rA,rM,rS]
 refine gh (V4 3 0 3 111 rfl rfl) ?_
 dsimp only [go_sem,rA,rM,rS]
 refine ⟨b163,fun rec=>?_⟩
 refine y163 ?_
 dsimp only [c163,r163,go_sem,rA,rM,rS]
 have hgF:goF s s.scenes[k] slabs l=goG s s.scenes[k] slabs l 0 s.camel []:=by simp only [goF,if_neg hl0]
 have hgs:∀ (j n:Nat) (hj:j < l.length) c acc,goG s s.scenes[k] slabs (l.drop j) n c acc=if (Y3 s s.scenes[k] (YL s.land l[j].leg s.pace).1 slabs c).2≠0 then ((Y3 s s.scenes[k] (YL s.land l[j].leg s.pace).1 slabs c).2,(n:Int),acc)
  else goG s s.scenes[k] slabs (l.drop (j+1)) (n+1) (Ul s.breed (Y3 s s.scenes[k] (YL s.land l[j].leg s.pace).1 slabs c).1)
   (if l.drop (j+1)=[] then acc else acc ++ [(s.breed.full - (Y3 s s.scenes[k] (YL s.land l[j].leg s.pace).1 slabs c).1.water.lo,ZaP s s.scenes[k] l[j])]):=fun j n hj c acc=>by
  rw [List.drop_eq_getElem_cons hj,goG]
 have hwF:Zg0 s s.scenes[k] n slabs l=XX n (goF s s.scenes[k] slabs l):=by simp only [Zg0,if_neg hn0]
 have hdF:XN s s.scenes[k] n slabs l=W5 n l (goF s s.scenes[k] slabs l).2.2:=by simp only [XN,if_neg hl0,if_neg hn0]
 rw [hwF,hdF]
 refine Ws [0,1,2,3,5,13,14,15] rfl (fun q:Nat × Camel × List (Int × Int) × Nat=>[(15,I q.1)])
  (fun q=>[(9,.cells (Cm.camelL q.2.1) 31),(3,.cells [.mr 7 q.2.2.2] 54),(7,.row q.2.2.2 3 ((W5 n l q.2.2.1).map Z0) 111)])
  (fun q=>q.1 < l.length/\goG s s.scenes[k] slabs (l.drop q.1) q.1 q.2.1 q.2.2.1=goF s s.scenes[k] slabs l/\Zx s.breed q.2.1=true/\UA n q.2.2.1 0=none/\q.2.2.1.length=q.1) (fun q=>l.length - q.1) (0,s.camel,[],0)
  ⟨by simp only;omega,hgF.symm,h.beast.2,rfl,rfl⟩ ?_ ?_
 . (refine Zl ?_ ?_ ?_ rfl rfl<;>dsimp only [Cm.camelL,W5,Yl,Ze,Zm,Zg,Zj,Zd,Zo,Zy,Z0,mtL,mtB,mtS,id,go_sem,rA,rM,rS]<;>simp [Cm.camelL,W5,Yl,Ze,Zm,Zg,Zj,Zd,Zo,Zy,Z0,mtL,mtB,mtS,Za,Zf,KFR,KFL,KF,Zc,mtO,nbr])
 rintro ⟨j,c,acc,v⟩ ⟨hlt,hi,hc,hdry,hal⟩
 simp only at hlt hi hc hdry hal
 dsimp only [Cm.camelL,go_sem,rA,rM,rS]
 simp only [List.length_map]
 refine Zu (by simpa using hlt) ?_
 dsimp only [go_sem,rA,rM,rS]
 refine Zp j hlt rfl ?_
 dsimp only [Zy,go_sem,rA,rM,rS]
 refine call (ZiD s h l[j].leg) ?_
 dsimp only [sres,Zd,go_sem,rA,rM,rS]
 have hm:=ZqF s k hk j c (YL s.land l[j].leg s.pace).1 slabs hsl (by omega) (ZnR h.lp)
 rw [hgs j j hlt] at hi
 have hbo:=Zbk (x:=s.scenes[k]) (d:=(YL s.land l[j].leg s.pace).1) (slabs:=slabs) h.beast.1 hc
 generalize Y3 s s.scenes[k] (YL s.land l[j].leg s.pace).1 slabs c=b at hi hbo hm
 have hwb:=Zc2 h.beast.1 hbo
 by_cases hw:b.2=0
 case neg =>
  simp only [Zbl,if_neg hw] at hm
  refine YM [] hm rfl rfl rfl ?_ ?_ ?_
  . exact Zc (by simp [Yl,Cm.camelL,Ze,Zm,Zg,Zj,Zd,Zo,Zy,Za,KFL,KF])
  . trivial
  rintro _ rfl
  (repeat first | dsimp only [Xz,go_sem,rA,rM,rS] | simp only [nbr])
  rw [if_pos hw] at hi
  rw [<- hi]
  refine ⟨_,rfl,?_⟩
  rw [show XX n (b.2,(j:Int),acc)=(b.2,(j:Int)) from by simp only [XX,hdry]]
  simp only [VH,if_neg hw]
  (refine Yb ?_ ?_ ?_ rfl<;>dsimp only [Xz,id,go_sem,rA,rM,rS]<;>simp [Xz,Za,Zf,KFR,KFL,KF,Zc,mtO,nbr])
 simp only [Zbl,if_pos hw] at hm
 refine YM [] hm rfl rfl rfl ?_ ?_ ?_
 . exact Zc (by simp [Yl,Cm.camelL,Ze,Zm,Zg,Zj,Zd,Zo,Zy,Za,KFL,KF])
 . trivial
 rintro _ rfl
 (repeat first | dsimp only [camelL,Cm.camelL,go_sem,rA,rM,rS] | simp only [nbr])
 rw [if_neg (by simpa using hw)] at hi
 refine ⟨trivial,trivial,?_⟩
 rw [Zi (n:=(j:Int)+1) (by omega) (by omega)]
 simp only [List.length_map]
 by_cases hlast:j+1=l.length
 . refine Zu (by simp;omega) ?_
   dsimp only [go_sem,rA,rM,rS]
   refine ⟨by trivial,?_⟩
   refine Zu rfl ?_
   dsimp only [go_sem,rA,rM,rS]
   rw [if_pos (List.drop_eq_nil_of_le (by omega)),List.drop_eq_nil_of_le (by omega),goG] at hi
   rw [<- hi]
   refine ⟨_,rfl,?_⟩
   rw [show XX n (0,0,acc)=(0,0) from by simp only [XX,hdry]]
   simp only [VH,if_true]
   refine VS (Yo (UQ 0 7 v rfl rfl rfl rfl) ?_) (fun _ _ _ e=>by cases e)
   (refine Zl ?_ ?_ ?_ rfl rfl<;>dsimp only [Z0,id,go_sem,rA,rM,rS]<;>simp [Z0,Za,Zf,KFR,KFL,KF,Zc,mtO,nbr])
 refine Zv (by simp;omega) ?_
 dsimp only [go_sem,rA,rM,rS]
 rw [if_neg (by intro e;rw [List.drop_eq_nil_iff] at e;omega)] at hi
 refine Zp j hlt rfl ?_
 dsimp only [Zy,go_sem,rA,rM,rS]
 refine Zp j hlt rfl ?_
 dsimp only [Zy,go_sem,rA,rM,rS]
 have hm2:0<=n * (s.breed.full - b.1.water.lo)/\n * (s.breed.full - b.1.water.lo)<=30 * 1000000:=⟨Int.mul_nonneg hn.1 (by omega),Int.mul_le_mul (by omega) (by omega) (by omega) (by decide)⟩
 rw [Zi (n:=s.breed.full - b.1.water.lo) (by omega) (by omega),Zi (n:=n * (s.breed.full - b.1.water.lo)) (by omega) (by omega)]
 refine Zp j hlt rfl ?_
 dsimp only [Zy,go_sem,rA,rM,rS]
 refine call (Zq6 s h.small k hk hy l[j]) ?_
 dsimp only [go_sem,rA,rM,rS]
 by_cases hdr:n * (s.breed.full - b.1.water.lo)<=ZaP s s.scenes[k] l[j]
 case neg =>
  rw [show decide (n * (s.breed.full - b.1.water.lo)<=ZaP s s.scenes[k] l[j])=false from decide_eq_false hdr]
  refine YM [] (ZaB 4 j) rfl rfl rfl ?_ ?_ ?_
  . (repeat first | dsimp only [go_sem,rA,rM,rS] | simp only [nbr])
    try simp [mtL,mtB,mtS]
  . trivial
  rintro _ rfl
  (repeat first | dsimp only [Xz,go_sem,rA,rM,rS] | simp only [nbr])
  refine ⟨_,rfl,?_⟩
  obtain ⟨more,hmore⟩:=ZcK (s:=s) (x:=s.scenes[k]) (slabs:=slabs) (l:=l.drop (j+1)) (i:=j+1) (c:=Ul s.breed b.1) (acc:=acc ++ [(s.breed.full - b.1.water.lo,ZaP s s.scenes[k] l[j])])
  have hf:XX n (goF s s.scenes[k] slabs l)=(4,(j:Int)):=by
   rw [<- hi];simp only [XX]
   rw [hmore,List.append_assoc,Vm hdry,hal]
   simp only [List.cons_append,List.nil_append,UA]
   rw [if_pos (by omega)];simp
  rw [hf]
  simp only [VH]
  (refine Yb ?_ ?_ ?_ rfl<;>dsimp only [Xz,id,go_sem,rA,rM,rS]<;>simp [Xz,Za,Zf,KFR,KFL,KF,Zc,mtO,nbr])
 rw [show decide (n * (s.breed.full - b.1.water.lo)<=ZaP s s.scenes[k] l[j])=true from decide_eq_true hdr]
 refine YM [] (V6 4 j) rfl rfl rfl ?_ ?_ ?_
 . (repeat first | dsimp only [go_sem,rA,rM,rS] | simp only [nbr])
   try simp [mtL,mtB,mtS]
 . trivial
 rintro _ rfl
 (repeat first | dsimp only [go_sem,rA,rM,rS] | simp only [nbr])
 refine ⟨(by intro c hc;simp only [List.mem_singleton] at hc;subst hc;rfl),by simp [W5];omega,?_⟩
 dsimp only [go_sem,rA,rM,rS]
 refine ⟨by trivial,?_⟩
 refine Zv rfl ?_
 dsimp only [go_sem,rA,rM,rS]
 rw [Zi (n:=(j:Int)+1) (by omega) (by omega)]
 refine ⟨(j+1,Ul s.breed b.1,acc ++ [(s.breed.full - b.1.water.lo,ZaP s s.scenes[k] l[j])],v+1),⟨by simp only;omega,hi,Zav h.beast.1 hbo,?_,by simp;omega⟩,by simp only;omega,?_⟩
 . simp only
   rw [Vm hdry]
   simp only [UA]
   rw [if_neg (by omega)]
 simp only
 rw [Zen hlt hal]
 simp only [List.map_append,List.map_cons,List.map_nil]
 (refine Zl ?_ ?_ ?_ rfl rfl<;>dsimp only [Cm.camelL,Ul,ZbP,Yl,Ze,Zm,Zg,Zj,Zd,Zo,Zy,Z0,mtL,mtB,mtS,id,go_sem,rA,rM,rS]<;>simp [Cm.camelL,Ul,ZbP,Yl,Ze,Zm,Zg,Zj,Zd,Zo,Zy,Z0,mtL,mtB,mtS,Za,Zf,KFR,KFL,KF,Zc,mtO,nbr])
def Zyc:List Ins:=[
 m1 2 5]
def Zye:SC:=(.seq (.reg [
 m1 6 2,
 o1 7 (.raw (Go.Op.binOp Go.BinOp.neq 20 (Go.Operand.tmp 6) (Go.Operand.const Go.Value.nilIface) 20) 4)])
 (.cond (.t 7)
 (.seq (.reg [
  m1 9 2,
  o1 10 (.raw (Go.Op.typeAssert (Go.Operand.tmp 9) 20 117 Bool.true) 177),
  m1 8 10,
  o1 11 (.ext (.t 8) 0),
  o1 12 (.ext (.t 8) 1),
  o1 3 (.alloc [.int .u8 0,.int .i64 0] 117),
  ⟨none,.st (.t 3) (.t 11) 2,none,[]⟩,
  m1 4 12])
  (.seq (.seq (.reg [
  m1 13 4,
  o1 14 (.un .not (.t 13))])
  (.cond (.t 14)
  (.reg [
   m1 15 2,
   ⟨none,.raw (Go.Op.panic (Go.Operand.tmp 15)) 0,none,[]⟩])
  .skip))
  (.regd [0,1,2] [
  .hide (.t 0),
  .op (o1 16 (.ld (.t 3) 2 true))] 0 2 [
  ⟨none,.st (.t 0) (.c (.slice none 0 0)) 1,none,[]⟩,
  ⟨none,.st (.t 1) (.t 16) 2,none,[0,1]⟩])))
 .skip))
theorem qw89:RcF Tryz.prog 89 5 Zyc Zye 17:=⟨⟨Tryz.f89,_,_,_,_,Tryz.func89,rfl,rfl,by kernel_rfl,by kernel_rfl,by kernel_rfl,by kernel_rfl,by decide,rfl⟩,by kernel_rfl⟩
def cw14:SC:=(.seq (.reg [
 o1 2 (.box (.t 0) 0 34),
 o1 3 (.box (.t 1) 0 37),
 o1 4 (.mv (.c (.int .u8 0))),
 o1 5 (.mv (.c (.int .i64 0))),
 o1 6 (.mv (.c (.int .i64 0))),
 o1 7 (.mv (.c (.int .i64 0)))])
 (.seq (.seq (.reg [
 o1 12 (.ld (.t 2) 37 true),
 o1 13 (.ld (.t 3) 3 true),
 o1 14 (.call 48 [.t 12,.t 13]),
 m1 8 14])
 (.seq (.reg [
 m1 15 8,
 o1 16 (.bin .neq (.t 15) (.c (.int .i64 0)))])
 (.cond (.t 16)
 (.seq (.reg [
  m1 17 8,
  o1 4 (.mv (.c (.int .u8 0))),
  o1 5 (.mv (.c (.int .i64 0))),
  o1 6 (.mv (.c (.int .i64 0))),
  m1 7 17])
  .ret)
 .skip)))
 (.seq (.seq (.reg [
 o1 18 (.addo (.t 2) 36),
 o1 19 (.ld (.t 18) 1 false),
 o1 20 (.len (.t 19)),
 o1 21 (.mv (.c (.int .i64 0)))])
 (.block 0 (.loop (.seq (.reg [
  o1 22 (.bin .lss (.t 21) (.t 20))])
  (.seq (.cond (.t 22)
  .skip
  (.exit 0))
  (.seq (.block 1 (.seq (.reg [
   m1 23 21,
   m1 9 23])
   (.seq (.reg [
   o1 25 (.ld (.t 2) 37 true),
   m1 26 9,
   o1 27 (.build zv0 [(0,37,.t 25),(37,1,.t 26)]),
   o1 28 (.ld (.t 3) 3 true),
   o1 29 (.callm 49 [.t 27,.t 28]),
   m1 24 29,
   o1 30 (.ext (.t 24) 0),
   o1 31 (.ext (.t 24) 1),
   o1 11 (.alloc [.int .u8 0,.int .i64 0] 117),
   m1 10 30,
   ⟨none,.st (.t 11) (.t 31) 2,none,[]⟩])
   (.seq (.reg [
   o1 32 (.addo (.t 11) 0),
   o1 33 (.ld (.t 32) 1 false),
   o1 34 (.bin .neq (.t 33) (.c (.int .u8 0)))])
   (.cond (.t 34)
   (.seq (.regd [0,1,2,3,4,5,6,7,8] [
    .op (o1 35 (.addo (.t 11) 0)),
    .op ⟨some 36,.ld (.t 35) 1 false,none,[0]⟩,
    .op (m1 37 9),
    .op (o1 38 (.addo (.t 11) 1)),
    .op ⟨some 39,.ld (.t 38) 1 false,none,[3]⟩,
    .op ⟨some 4,.mv (.t 36),none,[0,1]⟩,
    .op ⟨some 5,.mv (.t 37),none,[0,1,2,5]⟩,
    .op ⟨some 6,.mv (.t 39),none,[0,1,2,3,4,5,6]⟩,
    .op ⟨some 7,.mv (.c (.int .i64 0)),none,[0,1,2,3,4,5,6,7]⟩] 0 0 [
])
 .ret)
 .skip)))))
 (.reg [
 o1 40 (.bin .add (.t 21) (.c (.int .i64 1))),
 m1 21 40])))))))
 (.seq (.reg [
 o1 4 (.mv (.c (.int .u8 0))),
 o1 5 (.mv (.c (.int .i64 0))),
 o1 6 (.mv (.c (.int .i64 0))),
 o1 7 (.mv (.c (.int .i64 0)))])
 .ret))))
def rw14:List RV:=[.tmp 4,.tmp 5,.tmp 6,.tmp 7]
theorem tw14:Qt1 Tryz.prog 14 cw14 rw14 41:=Z4 Tryz.func14 rfl (by kernel_rfl) (by kernel_rfl) (by kernel_rfl) (by kernel_rfl)
def cw22:SC:=(.seq (.reg [
 o1 3 (.box (.t 0) 0 34),
 o1 4 (.box (.t 1) 0 37),
 o1 6 (.mv (.c (.slice none 0 0))),
 o1 7 (.mv (.c (.int .i64 0)))])
 (.seq (.reg [
 o1 15 (.ld (.t 3) 37 true),
 o1 16 (.ld (.t 4) 3 true),
 o1 17 (.call 14 [.t 15,.t 16]),
 m1 14 17,
 o1 18 (.ext (.t 14) 0),
 o1 19 (.ext (.t 14) 1),
 o1 20 (.ext (.t 14) 2),
 o1 21 (.ext (.t 14) 3),
 m1 8 18,
 m1 9 19,
 m1 10 20,
 m1 11 21])
 (.seq (.block 0 (.seq (.reg [
  m1 23 11,
  o1 24 (.bin .neq (.t 23) (.c (.int .i64 0))),
  m1 22 24])
  (.cond (.t 22)
  (.seq (.reg [
   m1 25 11,
   o1 6 (.mv (.c (.slice none 0 0))),
   m1 7 25])
   .ret)
  (.seq (.reg [
   m1 27 8,
   o1 28 (.bin .neq (.t 27) (.c (.int .u8 0))),
   m1 29 28,
   ⟨some 30,.addo (.t 3) 36,some (29,false),[]⟩,
   ⟨some 31,.ld (.t 30) 1 false,some (29,false),[]⟩,
   ⟨some 32,.len (.t 31),some (29,false),[]⟩,
   ⟨some 33,.bin .sub (.t 32) (.c (.int .i64 1)),some (29,false),[]⟩,
   ⟨some 34,.mv (.t 2),some (29,false),[]⟩,
   ⟨some 35,.bsl 1 3 [.t 34],some (29,false),[]⟩,
   ⟨some 36,.call 53 [.c (.int .i64 0),.t 33,.t 35],some (29,false),[]⟩,
   ⟨some 37,.un .not (.t 36),some (29,false),[]⟩,
   o1 38 (.pick (.t 29) (.c (.bool true)) (.t 37)),
   m1 26 38])
   (.cond (.t 26)
   (.seq (.reg [
    o1 6 (.mv (.c (.slice none 0 0))),
    o1 7 (.mv (.c (.int .i64 92)))])
    .ret)
   .skip)))))
 (.seq (.reg [
 o1 40 (.ld (.t 3) 37 true),
 m1 41 2,
 o1 42 (.build zv0 [(0,37,.t 40),(37,1,.t 41)]),
 o1 43 (.ld (.t 4) 3 true),
 o1 44 (.callm 49 [.t 42,.t 43]),
 m1 39 44,
 o1 45 (.ext (.t 39) 0),
 o1 46 (.ext (.t 39) 1),
 o1 13 (.alloc [.int .u8 0,.int .i64 0] 117),
 m1 12 45,
 ⟨none,.st (.t 13) (.t 46) 2,none,[]⟩])
 (.seq (.reg [
 m1 47 12,
 m1 6 47,
 o1 7 (.mv (.c (.int .i64 0)))])
 .ret)))))
def rw22:List RV:=[.tmp 6,.tmp 7]
theorem nw22:Tryz.f22.ntmps=48:=by kernel_rfl
theorem bw22:YF Tryz.prog 22=true:=by kernel_rfl
theorem Ztd:XA Tryz.prog cw22 ((Tryz.f22.body).getD .skip)=true:=by kernel_rfl
theorem Zst:We Tryz.prog rw22 Tryz.f22.results.toList=true:=by kernel_rfl
def cw66:SC:=(.seq (.reg [
 o1 3 (.box (.t 0) 0 34),
 o1 6 (.mv (.c (.int .i64 0)))])
 (.seq (.reg [
 o1 14 (.addo (.t 3) 28),
 o1 15 (.ld (.t 14) 1 false),
 m1 7 15])
 (.seq (.seq (.reg [
 o1 16 (.addo (.t 3) 36),
 o1 17 (.ld (.t 16) 1 false),
 o1 18 (.len (.t 17)),
 o1 19 (.mv (.c (.int .i64 0)))])
 (.block 0 (.loop (.seq (.reg [
  o1 20 (.bin .lss (.t 19) (.t 18))])
  (.seq (.cond (.t 20)
  .skip
  (.exit 0))
  (.seq (.block 1 (.seq (.reg [
   m1 21 19,
   m1 8 21])
   (.seq (.reg [
   o1 22 (.ld (.t 3) 37 true),
   m1 23 8,
   o1 24 (.build zv0 [(0,37,.t 22),(37,1,.t 23)]),
   o1 9 (.alloc zv0 120),
   ⟨none,.st (.t 9) (.t 24) 38,none,[]⟩])
   (.seq (.reg [
   o1 26 (.ld (.t 9) 38 true),
   m1 27 1,
   m1 28 2,
   o1 29 (.build [.slice none 0 0,.int .i64 0,.int .i64 0] [(0,1,.t 27),(1,1,.c (.int .i64 1)),(2,1,.t 28)]),
   o1 30 (.callm 49 [.t 26,.t 29]),
   m1 25 30,
   o1 31 (.ext (.t 25) 0),
   o1 32 (.ext (.t 25) 1),
   o1 11 (.alloc [.int .u8 0,.int .i64 0] 117),
   m1 10 31,
   ⟨none,.st (.t 11) (.t 32) 2,none,[]⟩])
   (.seq (.seq (.reg [
   o1 33 (.addo (.t 11) 0),
   o1 34 (.ld (.t 33) 1 false),
   o1 35 (.bin .neq (.t 34) (.c (.int .u8 0)))])
   (.cond (.t 35)
   (.seq (.reg [
    o1 6 (.mv (.c (.int .i64 0)))])
    .ret)
   .skip))
   (.seq (.reg [
   m1 36 10,
   o1 37 (.len (.t 36)),
   o1 38 (.mv (.c (.int .i64 0)))])
   (.block 2 (.loop (.seq (.reg [
    o1 39 (.bin .lss (.t 38) (.t 37))])
    (.seq (.cond (.t 39)
    .skip
    (.exit 2))
    (.seq (.block 3 (.seq (.reg [
     o1 40 (.ixs (.t 36) (.t 38) 3),
     o1 41 (.ld (.t 40) 3 true),
     o1 13 (.alloc [.int .i64 0,.int .i64 0,.int .i64 0] 111),
     ⟨none,.st (.t 13) (.t 41) 3,none,[]⟩])
     (.seq (.reg [
     o1 42 (.addo (.t 13) 2),
     o1 43 (.ld (.t 42) 1 false),
     o1 44 (.bin .gtr (.t 43) (.c (.int .i64 0)))])
     (.cond (.t 44)
     (.regd [0,1,2,3,4,5,6,7,8,9,10,11,12,13] [
      .op (m1 45 7),
      .op (o1 46 (.ld (.t 9) 38 true)),
      .op (o1 47 (.addo (.t 13) 0)),
      .op ⟨some 48,.ld (.t 47) 1 false,none,[2]⟩,
      .op (o1 49 (.addo (.t 13) 1)),
      .op ⟨some 50,.ld (.t 49) 1 false,none,[4]⟩,
      .op ⟨some 51,.build [.int .i64 0,.int .i64 0] [(0,1,.t 50)],none,[5]⟩,
      .op ⟨some 52,.build zv7 [(1,1,.t 48),(4,2,.t 51)],none,[3,6]⟩,
      .op ⟨some 53,.call 113 [.t 46,.t 52],none,[1,7]⟩,
      .op (o1 54 (.addo (.t 13) 2)),
      .op ⟨some 55,.ld (.t 54) 1 false,none,[9]⟩,
      .op ⟨some 56,.div .quo (.t 53) (.t 55),none,[8,10]⟩,
      .op ⟨some 57,.mm false [.t 45,.t 56],none,[0,11]⟩] 0 0 [
      ⟨some 7,.mv (.t 57),none,[0,1,2,3,4,5,6,7,8,9,10,11,12]⟩])
     .skip))))
    (.reg [
    o1 58 (.bin .add (.t 38) (.c (.int .i64 1))),
    m1 38 58]))))))))))))
  (.reg [
  o1 59 (.bin .add (.t 19) (.c (.int .i64 1))),
  m1 19 59])))))))
 (.seq (.reg [
 m1 60 7,
 m1 6 60])
 .ret))))
def rw66:List RV:=[.tmp 6]
theorem tw66:Qt1 Tryz.prog 66 cw66 rw66 61:=Z4 Tryz.func66 rfl (by kernel_rfl) (by kernel_rfl) (by kernel_rfl) (by kernel_rfl)
end Go.Proofs.YtiigiflofnjilaaGreat
namespace Go.Sx
open Go Go.RowKit
section
variable {P:Program} {ty T T':TypeId} {ix jx:Operand} {σ : St} {r:KT} {K:RK} {d:Option Nat} {s:SV}
theorem ZfL {pt:TypeId} (hu:P.underlying T'=some (.interface (P.methodsAt T'))) (hi:Za0 σ ix = .ifc T s) (h:putK d (.v (.bool true)) none σ r K):RAW P d (.binOp .neq T' ix (.const .nilIface) pt) ty σ r K:=by
 intro o C E a w next Q e1 e2 e3 hS hn hq
 have hiv:=VD hS hi (fun _ _ _=>by simp)
 simp only [R] at hiv
 obtain ⟨x,hx,hR⟩:=hiv
 have hb:=run_neq_held_nil (P:=P) w T' T x hu
 have hy:(execOp a.eval o).run P w = .ok (.value (.bool true)) w:=by
  obtain ⟨dst',op',ty',pos,after,guard⟩:=o
  simp only at e2;subst e2
  have h0:a.eval (.const .nilIface) = .nilIface:=rfl
  have hg:(eqGuard .neq T' ix (.const .nilIface) (.iface T x) .nilIface).run P w = .ok () w:=by
   simp [eqGuard,Sem.run_pure]
  simp only [execOp,Sem.run_bind,hx,h0,hg,hb,Result.andThen_ok,Sem.run_pure]
 refine ZD hy (by simp) ?_
 show next (a.put o.dst _) _
 rw [e1]
 exact WT h hS (by simp only [R]) hn
theorem Zh0 {pt:TypeId} (hu:P.underlying T'=some (.interface (P.methodsAt T'))) (hi:Za0 σ ix = .v .nilIface) (h:putK d (.v (.bool false)) none σ r K):RAW P d (.binOp .neq T' ix (.const .nilIface) pt) ty σ r K:=by
 intro o C E a w next Q e1 e2 e3 hS hn hq
 have hx:=VD hS hi (fun _ _ _=>by simp)
 simp only [R] at hx
 have hb:=run_neq_nil_nil (P:=P) w T' hu
 have hy:(execOp a.eval o).run P w = .ok (.value (.bool false)) w:=by
  obtain ⟨dst',op',ty',pos,after,guard⟩:=o
  simp only at e2;subst e2
  have h0:a.eval (.const .nilIface) = .nilIface:=rfl
  have hg:(eqGuard .neq T' ix (.const .nilIface) .nilIface .nilIface).run P w = .ok () w:=by
   simp [eqGuard,Sem.run_pure]
  simp only [execOp,Sem.run_bind,hx,h0,hg,hb,Result.andThen_ok,Sem.run_pure]
 refine ZD hy (by simp) ?_
 show next (a.put o.dst _) _
 rw [e1]
 exact WT h hS (by simp only [R]) hn
end
end Go.Sx
namespace Go.Proofs.YtiigiflofnjilaaGreat
open Go Go.Sx Go.Azalai
theorem Zxz {s:Season} {x:Scene} {slabs:Int}:∀ {l:List Stop} {i:Nat} {c:Camel} {acc:List (Int × Int)},(goG s x slabs l i c acc).1=0->((goG s x slabs l i c acc).1,(goG s x slabs l i c acc).2.1)=(0,0)
 | [],_,_,acc,_=>by simp [goG]
 | st :: r,i,c,acc,h=>by
  simp only [goG] at h ⊢
  split
  . rename_i hb;rw [if_pos hb] at h;exact absurd h hb
  . rename_i hb;rw [if_neg hb] at h
    exact Zxz h
theorem goF_z {s:Season} {x:Scene} {slabs:Int} {l:List Stop} (h:(goF s x slabs l).1=0):((goF s x slabs l).1,(goF s x slabs l).2.1)=(0,0):=by
 unfold goF at h ⊢
 split
 . rename_i hb;rw [if_pos hb] at h;simp only at h ⊢;rw [h]
 . rename_i hb;rw [if_neg hb] at h;exact Zxz h
theorem u20:Tryz.prog.underlying 20=some (.interface (Tryz.prog.methodsAt 20)):=by kernel_rfl
theorem Zdj {s:Season} {p:Plan} {x:Scene}:Xk s p x=if WZ s p.legs=false then (1,0) else Zg0 s x p.animals p.slabs (Zz s p.legs):=by
 unfold Xk Zg0;rfl
def Wu (s:Season) (p:Plan) (x:Scene):List Draw:=if (Xk s p x).1=0 then XN s x p.animals p.slabs (Zz s p.legs) else []
def Zrg (w:Int × Int) (ds:List Draw):Ot:=⟨false,.tup [.sl false 3 (ds.map Z0),.agg [U8 w.1,I w.2]],[],0⟩
theorem ZhU (s:Season) (h:OkS s) (k:Nat) (hk:k < s.scenes.length) (p:Plan) (hp:Xu s p=true) (hg:p.legs.length<=1000) :
 CtM Tryz.prog 49 [] 0 [.agg (Yl s k),.agg (ZB p)] (fun o=>o=Zrg (Xk s p s.scenes[k]) (Wu s p s.scenes[k])):=by
 have hnum:=h.num
 obtain ⟨_,hpl⟩:=W6 hp
 refine m49 (by simp [hpb]) (fun o ho=>by subst ho;simp [Zrg,KX,KXL,KXP,Za,KFL,KF,Z0]) ?_
 dsimp only [c49,r49,Yl,ZB,go_sem,rA,rM,rS]
 refine call (ZpO s h p.legs hg _) ?_
 dsimp only [go_sem,rA,rM,rS]
 by_cases hs:WZ s p.legs=true
 case neg =>
  rw [Bool.eq_false_iff.2 hs]
  refine YM [] (ZaB 1 0) rfl rfl rfl ?_ ?_ ?_
  . (repeat first | dsimp only [go_sem,rA,rM,rS] | simp only [nbr])
    try simp [mtL,mtB,mtS]
  . trivial
  rintro _ rfl
  (repeat first | dsimp only [Xz,go_sem,rA,rM,rS] | simp only [nbr])
  refine ⟨_,_,_,_,qw89,?_⟩
  dsimp only [Zyc,Zye,go_sem,rA,rM,rS]
  refine ⟨rfl,?_⟩
  refine ZfL u20 rfl ?_
  dsimp only [go_sem,rA,rM,rS]
  refine Zu rfl ?_
  dsimp only [go_sem,rA,rM,rS]
  refine ZbC Zc3 rfl ?_
  dsimp only [go_sem,rA,rM,rS]
  refine Zv rfl ?_
  dsimp only [go_sem,rA,rM,rS]
  refine ⟨_,rfl,?_⟩
  have hF:Xk s p s.scenes[k]=(1,0):=by rw [Zdj,if_pos (Bool.eq_false_iff.2 hs)]
  rw [Zrg,Wu,hF]
  refine VS (Yo (ZbI (s':=.tup [.sl false 3 [],.agg [U8 1,I 0]]) 0 rfl (X1 (ZO YA XV)) (fun _ _ _ h=>by cases h)) ?_) (fun _ _ _ e=>by cases e)
  (refine Zl ?_ ?_ ?_ rfl rfl<;>dsimp only [id,go_sem,rA,rM,rS]<;>simp [Za,Zf,KFR,KFL,KF,Zc,mtO,nbr])
 rw [hs]
 refine YM [] (V6 1 0) rfl rfl rfl ?_ ?_ ?_
 . (repeat first | dsimp only [go_sem,rA,rM,rS] | simp only [nbr])
   try simp [mtL,mtB,mtS]
 . trivial
 rintro _ rfl
 (repeat first | dsimp only [go_sem,rA,rM,rS] | simp only [nbr])
 have hF:Xk s p s.scenes[k]=Zg0 s s.scenes[k] p.animals p.slabs (Zz s p.legs):=by rw [Zdj,if_neg (by simp [hs])]
 have hd:=ZqK s h k hk (Zz s p.legs) (Nat.le_trans Uo hg) p.animals p.slabs ⟨hpl.1,hpl.2.1⟩ hpl.2.2
 rw [<- hF] at hd
 have hT:Wu s p s.scenes[k]=if (Xk s p s.scenes[k]).1=0 then XN s s.scenes[k] p.animals p.slabs (Zz s p.legs) else []:=rfl
 rw [hT]
 have hz:(Xk s p s.scenes[k]).1=0->Xk s p s.scenes[k]=(0,0):=fun h0=>by
  rw [hF] at h0 ⊢
  revert h0
  unfold Zg0
  split
  . intro _;rfl
  . unfold XX
    split
    . intro h1;simp at h1
    . intro h1;exact goF_z h1
 generalize Xk s p s.scenes[k]=w at hd hz ⊢
 generalize XN s s.scenes[k] p.animals p.slabs (Zz s p.legs)=D at hd ⊢
 by_cases hw:w.1=0
 . simp only [VH,if_pos hw] at hd
   refine YM [] hd rfl rfl rfl ?_ ?_ ?_
   . exact Zc (by simp [Yl,Ze,Zm,Zg,Zj,Zd,Zo,Zy,Za,KFL,KF])
   . trivial
   rintro _ rfl
   (repeat first | dsimp only [go_sem,rA,rM,rS] | simp only [nbr])
   refine ⟨_,_,_,_,qw89,?_⟩
   dsimp only [Zyc,Zye,go_sem,rA,rM,rS]
   refine ⟨rfl,?_⟩
   refine Zh0 u20 rfl ?_
   dsimp only [go_sem,rA,rM,rS]
   refine Zv rfl ?_
   dsimp only [go_sem,rA,rM,rS]
   refine ⟨_,rfl,?_⟩
   rw [hz hw]
   simp only [Zrg,if_true]
   (refine Yb ?_ ?_ ?_ rfl<;>dsimp only [Z0,id,go_sem,rA,rM,rS]<;>simp [Z0,Za,Zf,KFR,KFL,KF,Zc,mtO,nbr])
 simp only [VH,if_neg hw] at hd
 refine YM [] hd rfl rfl rfl ?_ ?_ ?_
 . exact Zc (by simp [Yl,Ze,Zm,Zg,Zj,Zd,Zo,Zy,Za,KFL,KF])
 . trivial
 rintro _ rfl
 (repeat first | dsimp only [Xz,go_sem,rA,rM,rS] | simp only [nbr])
 refine ⟨_,_,_,_,qw89,?_⟩
 dsimp only [Zyc,Zye,go_sem,rA,rM,rS]
 refine ⟨rfl,?_⟩
 refine ZfL u20 rfl ?_
 dsimp only [go_sem,rA,rM,rS]
 refine Zu rfl ?_
 dsimp only [go_sem,rA,rM,rS]
 refine ZbC Zc3 rfl ?_
 dsimp only [go_sem,rA,rM,rS]
 refine Zv rfl ?_
 dsimp only [go_sem,rA,rM,rS]
 refine ⟨_,rfl,?_⟩
 rw [Zrg,if_neg hw]
 refine VS (Yo (ZbI (s':=.tup [.sl false 3 [],.agg [U8 w.1,I w.2]]) 0 rfl (X1 (ZO YA XV)) (fun _ _ _ h=>by cases h)) ?_) (fun _ _ _ e=>by cases e)
 (refine Zl ?_ ?_ ?_ rfl rfl<;>dsimp only [id,go_sem,rA,rM,rS]<;>simp [Za,Zf,KFR,KFL,KF,Zc,mtO,nbr])
theorem Zjc (a b:List Int) (ha:a.length<=1000000) (hb:b.length<=1000000) (c c':Bool):Ct Tryz.prog 57 [.sl c 1 (a.map Zo),.sl c' 1 (b.map Zo)] (B (decide (a=b))):=by
 refine t57.1 (by simp [Za,Zo,KFL,KF]) (by simp [KFL,KF]) ?_
 dsimp only [c57,r57,go_sem,rA,rM,rS]
 simp only [List.length_map]
 by_cases hl:a.length=b.length
 case neg =>
  refine Zu (by simp;omega) ?_
  dsimp only [go_sem,rA,rM,rS]
  have:a≠b:=fun e=>hl (by rw [e])
  simp [this]
 refine Zv (by simp;omega) ?_
 dsimp only [go_sem,rA,rM,rS]
 refine Xf (fun j:Nat=>[(5,I j)]) (fun _=>[]) (fun j=>j<=a.length/\a.take j=b.take j) (fun j=>a.length - j) 0 ⟨Nat.zero_le _,rfl⟩ ?_ ?_
 . (refine Zl ?_ ?_ ?_ rfl rfl<;>dsimp only [Zo,id,go_sem,rA,rM,rS]<;>simp [Zo,Za,Zf,KFR,KFL,KF,Zc,mtO,nbr])
 rintro j ⟨hj,ht⟩
 dsimp only [go_sem,rA,rM,rS]
 simp only [List.length_map]
 by_cases hlt:j < a.length
 . refine Zu (by simpa using hlt) ?_
   dsimp only [go_sem,rA,rM,rS]
   have hltb:j < b.length:=by omega
   refine Zp j hlt rfl ?_
   dsimp only [go_sem,rA,rM,rS]
   refine Zp j hltb rfl ?_
   dsimp only [Zo,go_sem,rA,rM,rS]
   by_cases he:a[j]=b[j]
   . refine Zv (by rw [he];simp [ngB]) ?_
     dsimp only [go_sem,rA,rM,rS]
     rw [Zi (n:=(j:Int)+1) (by omega) (by omega)]
     refine ⟨j+1,⟨hlt,?_⟩,by omega,?_⟩
     . rw [List.take_succ_eq_append_getElem hlt,List.take_succ_eq_append_getElem hltb,ht,he]
     (refine Zl ?_ ?_ ?_ rfl rfl<;>dsimp only [Zo,id,go_sem,rA,rM,rS]<;>simp [Zo,Za,Zf,KFR,KFL,KF,Zc,mtO,nbr])
   . refine Zu ?_ ?_
     . simpa using he
     dsimp only [go_sem,rA,rM,rS]
     have:a≠b:=fun e=>he (by subst e;rfl)
     simp [this]
 refine Zv (by simp;omega) ?_
 dsimp only [go_sem,rA,rM,rS]
 have:a=b:=by
  rw [List.take_of_length_le (by omega),List.take_of_length_le (by omega)] at ht
  exact ht
 simp [this]
theorem VC (s:Season) (hs:SmallS s) (p:Plan) (hg:p.legs.length<=1000):Ct Tryz.prog 14 [.agg (Zr s),.agg (ZB p)] (ZbW (Z5 s p)):=by
 refine tw14.1 (by simp [Zr,ZB,Zj,Ze,Zm,Zg,Zd,Zo,Zy,Za,KFL,KF]) (by simp [ZbW,KFL,KF]) ?_
 dsimp only [cw14,rw14,Zr,ZB,go_sem,rA,rM,rS]
 refine call (Znj s hs p hg) ?_
 dsimp only [go_sem,rA,rM,rS]
 by_cases ho:ZA s=true
 case neg =>
  refine Zu (by simp [ho]) ?_
  dsimp only [go_sem,rA,rM,rS]
  simp [ZbW,Z5,ho]
 by_cases hp:Xu s p=true
 case neg =>
  refine Zu (by simp [ho,hp]) ?_
  dsimp only [go_sem,rA,rM,rS]
  simp [ZbW,Z5,ho,hp]
 refine Zv (by simp [ho,hp]) ?_
 dsimp only [go_sem,rA,rM,rS]
 simp only [List.length_map]
 have h:OkS s:=⟨hs,ho⟩
 have hF:Z5 s p=YN s p s.scenes 0:=by simp only [Z5,ho,hp,Bool.true_eq_false,if_false]
 rw [hF]
 have hsc:=hs.sc
 refine Ws [2,3,20,21] rfl (fun q:Nat=>[(21,I q)]) (fun _=>[]) (fun q=>q<=s.scenes.length/\YN s p (s.scenes.drop q) q=YN s p s.scenes 0) (fun q=>s.scenes.length - q) 0 ⟨Nat.zero_le _,rfl⟩ ?_ ?_
 . (refine Zl ?_ ?_ ?_ rfl rfl<;>dsimp only [Ze,Zm,Zg,Zj,Zd,Zo,Zy,id,go_sem,rA,rM,rS]<;>simp [Ze,Zm,Zg,Zj,Zd,Zo,Zy,Za,Zf,KFR,KFL,KF,Zc,mtO,nbr])
 rintro j ⟨hj,hi⟩
 dsimp only [go_sem,rA,rM,rS]
 by_cases hlt:j < s.scenes.length
 case neg =>
  refine Zv (by simp;omega) ?_
  dsimp only [go_sem,rA,rM,rS]
  rw [List.drop_eq_nil_of_le (by omega),YN] at hi
  rw [<- hi];rfl
 refine Zu (by simpa using hlt) ?_
 dsimp only [go_sem,rA,rM,rS]
 have ht:=ZhU s h j hlt p hp hg
 rw [List.drop_eq_getElem_cons hlt,YN] at hi
 generalize Xk s p s.scenes[j]=w at ht hi
 refine YM [] ht rfl rfl rfl ?_ ?_ ?_
 . exact Zc (by simp [Yl,ZB,Ze,Zm,Zg,Zj,Zd,Zo,Zy,Za,KFL,KF])
 . trivial
 rintro _ rfl
 (repeat first | dsimp only [Zrg,go_sem,rA,rM,rS] | simp only [nbr])
 by_cases hf:w.1=0
 case neg =>
  refine Zu (by simpa using hf) ?_
  dsimp only [go_sem,rA,rM,rS]
  rw [if_pos hf] at hi
  rw [<- hi];rfl
 refine Zv (by simpa using hf) ?_
 dsimp only [go_sem,rA,rM,rS]
 rw [if_neg (by simpa using hf)] at hi
 rw [Zi (n:=(j:Int)+1) (by omega) (by omega)]
 refine ⟨j+1,⟨hlt,hi⟩,by omega,?_⟩
 (refine Zl ?_ ?_ ?_ rfl rfl<;>dsimp only [Ze,Zm,Zg,Zj,Zd,Zo,Zy,id,go_sem,rA,rM,rS]<;>simp [Ze,Zm,Zg,Zj,Zd,Zo,Zy,Za,Zf,KFR,KFL,KF,Zc,mtO,nbr])
theorem Zet (p q:Plan) (hp:p.legs.length<=1000) (hq:q.legs.length<=1000):Ct Tryz.prog 19 [.agg (ZB p),.agg (ZB q)] (B (decide (p=q))):=by
 refine t19.1 (by simp [ZB,Zo,Za,KFL,KF]) (by simp [KFL,KF]) ?_
 dsimp only [c19,r19,ZB,go_sem,rA,rM,rS]
 repeat (first | (refine gb ?_;dsimp only [go_sem,rA,rM,rS]) | (refine call (Zjc p.legs q.legs (by omega) (by omega) _ _) ?_;dsimp only [go_sem,rA,rM,rS]))
 have:(p.animals == q.animals && p.slabs == q.slabs && decide (p.legs=q.legs))=decide (p=q):=by
  obtain ⟨a,b,c⟩:=p;obtain ⟨a',b',c'⟩:=q
  rw [Bool.eq_iff_iff];simp;constructor
  . rintro ⟨⟨h1,h2⟩,h3⟩;exact ⟨h3,h1,h2⟩
  . rintro ⟨h1,h2,h3⟩;exact ⟨⟨h2,h3⟩,h1⟩
 rw [this]
def c59:SC:=(.seq (.reg [
 o1 3 (.box (.t 0) 0 34),
 o1 4 (.box (.t 1) 0 37),
 o1 6 (.mv (.c (.int .i64 0)))])
 (.seq (.reg [
 o1 7 (.mv (.c (.slice none 0 0)))])
 (.seq (.seq (.reg [
 o1 10 (.addo (.t 3) 36),
 o1 11 (.ld (.t 10) 1 false),
 o1 12 (.len (.t 11)),
 o1 13 (.mv (.c (.int .i64 0)))])
 (.block 0 (.loop (.seq (.reg [
  o1 14 (.bin .lss (.t 13) (.t 12))])
  (.seq (.cond (.t 14)
  .skip
  (.exit 0))
  (.seq (.block 1 (.seq (.reg [
   o1 15 (.ixs (.t 11) (.t 13) 6),
   o1 16 (.ld (.t 15) 6 true),
   o1 9 (.alloc zv4 72),
   ⟨none,.st (.t 9) (.t 16) 6,none,[]⟩])
   (.regs [0,1,2,3,4,5,6,7,8,9,10,11,12,13,14,15,16,17,18,19,20,21,22,23,24,25,26] ⟨[
   .op (m1 17 7),
   .op (o1 18 (.addo (.t 4) 1)),
   .op ⟨some 19,.ld (.t 18) 1 false,none,[1]⟩,
   .op (o1 20 (.addo (.t 4) 2)),
   .op ⟨some 21,.ld (.t 20) 1 false,none,[3]⟩,
   .op ⟨some 22,.bin .mul (.t 19) (.t 21),none,[2,4]⟩,
   .op (o1 23 (.addo (.t 9) 5)),
   .op ⟨some 24,.ld (.t 23) 1 false,none,[6]⟩,
   .op (m1 25 2),
   .op ⟨some 26,.ixs (.t 24) (.t 25) 1,none,[7,8]⟩,
   .op ⟨some 27,.ld (.t 26) 1 false,none,[9]⟩,
   .op (o1 28 (.addo (.t 3) 31)),
   .op ⟨some 29,.ld (.t 28) 1 false,none,[11]⟩,
   .op ⟨some 30,.bin .sub (.t 27) (.t 29),none,[10,12]⟩,
   .op ⟨some 31,.bin .mul (.t 22) (.t 30),none,[5,13]⟩,
   .op (o1 32 (.addo (.t 3) 28)),
   .op ⟨some 33,.ld (.t 32) 1 false,none,[15]⟩,
   .op (o1 34 (.addo (.t 4) 1)),
   .op ⟨some 35,.ld (.t 34) 1 false,none,[17]⟩,
   .op ⟨some 36,.bin .sub (.t 33) (.t 35),none,[16,18]⟩,
   .op (o1 37 (.addo (.t 3) 32)),
   .op ⟨some 38,.ld (.t 37) 1 false,none,[20]⟩,
   .op ⟨some 39,.bin .mul (.t 36) (.t 38),none,[19,21]⟩,
   .op ⟨some 40,.bin .add (.t 31) (.t 39),none,[14,22]⟩,
   .op ⟨some 41,.bsl 1 3 [.t 40],none,[23]⟩],0,1,[
   ⟨some 42,.appm 1 8 3 (.t 17) (.t 41),none,[0,24]⟩]⟩ [⟨[
],0,1,[
 ⟨some 7,.mv (.t 42),none,[0,1,2,3,4,5,6,7,8,9,10,11,12,13,14,15,16,17,18,19,20,21,22,23,24,25]⟩]⟩])))
 (.reg [
 o1 43 (.bin .add (.t 13) (.c (.int .i64 1))),
 m1 13 43])))))))
 (.gh (.seq (.reg [
 m1 44 7,
 o1 45 (.call 71 [.t 44]),
 m1 6 45])
 .ret)))))
def r59:List RV:=[.tmp 6]
theorem t59:Qt1 Tryz.prog 59 c59 r59 46:=Z4 Tryz.func59 rfl (by kernel_rfl) (by kernel_rfl) (by kernel_rfl) (by kernel_rfl)
def c20:SC:=(.seq (.reg [
 o1 2 (.box (.t 0) 0 34),
 o1 3 (.box (.t 1) 0 37),
 o1 4 (.mv (.c (.int .i64 0))),
 o1 5 (.mv (.c (.int .i64 0)))])
 (.seq (.reg [
 o1 13 (.ld (.t 2) 37 true),
 o1 14 (.ld (.t 3) 3 true),
 o1 15 (.call 14 [.t 13,.t 14]),
 m1 12 15,
 o1 16 (.ext (.t 12) 0),
 o1 17 (.ext (.t 12) 1),
 o1 18 (.ext (.t 12) 2),
 o1 19 (.ext (.t 12) 3),
 m1 6 16,
 m1 7 17,
 m1 8 18,
 m1 9 19])
 (.seq (.block 0 (.seq (.reg [
  m1 21 9,
  o1 22 (.bin .neq (.t 21) (.c (.int .i64 0))),
  m1 20 22])
  (.cond (.t 20)
  (.seq (.reg [
   m1 23 9,
   o1 4 (.mv (.c (.int .i64 0))),
   m1 5 23])
   .ret)
  (.seq (.reg [
   m1 25 6,
   o1 26 (.bin .neq (.t 25) (.c (.int .u8 0))),
   m1 24 26])
   (.cond (.t 24)
   (.seq (.reg [
    o1 4 (.mv (.c (.int .i64 0))),
    o1 5 (.mv (.c (.int .i64 92)))])
    .ret)
   .skip)))))
 (.seq (.reg [
 o1 28 (.ld (.t 2) 37 true),
 o1 29 (.addo (.t 3) 0),
 o1 30 (.ld (.t 29) 1 false),
 o1 31 (.call 58 [.t 28,.t 30]),
 m1 27 31,
 o1 32 (.ext (.t 27) 0),
 o1 33 (.ext (.t 27) 1),
 m1 10 32,
 m1 11 33])
 (.seq (.reg [
 o1 34 (.ld (.t 2) 37 true),
 o1 35 (.ld (.t 3) 3 true),
 m1 36 10,
 o1 37 (.call 59 [.t 34,.t 35,.t 36]),
 m1 4 37,
 o1 5 (.mv (.c (.int .i64 0)))])
 .ret)))))
def r20:List RV:=[.tmp 4,.tmp 5]
theorem t20:Qt1 Tryz.prog 20 c20 r20 38:=Z4 Tryz.func20 rfl (by kernel_rfl) (by kernel_rfl) (by kernel_rfl) (by kernel_rfl)
def c24:SC:=(.seq (.reg [
 o1 4 (.mv (.c (.bool false)))])
 (.seq (.seq (.reg [
 m1 6 0,
 o1 7 (.len (.t 6)),
 m1 8 1,
 o1 9 (.len (.t 8)),
 o1 10 (.bin .neq (.t 7) (.t 9))])
 (.cond (.t 10)
 (.seq (.reg [
  o1 4 (.mv (.c (.bool false)))])
  .ret)
 .skip))
 (.seq (.seq (.reg [
 o1 5 (.mv (.c (.int .i64 0)))])
 (.block 0 (.loop (.seq (.seq (.reg [
  m1 11 5,
  m1 12 0,
  o1 13 (.len (.t 12)),
  o1 14 (.bin .lss (.t 11) (.t 13))])
  (.cond (.t 14)
  .skip
  (.exit 0)))
  (.seq (.block 1 (.seq (.regd [0,1,2,3,4,5,6,7,8] [
   .op (m1 17 0),
   .op (m1 18 5),
   .op ⟨some 19,.ixs (.t 17) (.t 18) 3,none,[0,1]⟩,
   .op ⟨some 20,.ld (.t 19) 3 true,none,[2]⟩,
   .op (m1 21 1),
   .op (m1 22 5),
   .op ⟨some 23,.ixs (.t 21) (.t 22) 3,none,[4,5]⟩,
   .op ⟨some 24,.ld (.t 23) 3 true,none,[6]⟩,
   .op ⟨some 25,.eqs true true [1,1,1] (.t 20) (.t 24),none,[3,7]⟩] 0 0 [
])
 (.cond (.t 25)
 (.seq (.reg [
  o1 4 (.mv (.c (.bool false)))])
  .ret)
 .skip)))
 (.reg [
 m1 15 5,
 o1 16 (.bin .add (.t 15) (.c (.int .i64 1))),
 m1 5 16]))))))
 (.seq (.reg [
 o1 4 (.mv (.c (.bool true)))])
 .ret))))
def r24:List RV:=[.tmp 4]
theorem t24:Qt1 Tryz.prog 24 c24 r24 26:=Z4 Tryz.func24 rfl (by kernel_rfl) (by kernel_rfl) (by kernel_rfl) (by kernel_rfl)
def c4:SC:=(.seq (.reg [
 o1 3 (.box (.t 0) 0 34),
 o1 4 (.box (.t 1) 0 37),
 o1 6 (.mv (.c (.bool false)))])
 (.seq (.seq (.reg [
 o1 15 (.ld (.t 3) 37 true),
 o1 16 (.call 12 [.t 15]),
 m1 17 16,
 ⟨some 18,.addo (.t 4) 0,some (17,false),[]⟩,
 ⟨some 19,.ld (.t 18) 1 false,some (17,false),[]⟩,
 ⟨some 20,.len (.t 19),some (17,false),[]⟩,
 ⟨some 21,.bin .gtr (.t 20) (.c (.int .i64 40)),some (17,false),[]⟩,
 o1 22 (.pick (.t 17) (.c (.bool true)) (.t 21))])
 (.cond (.t 22)
 (.seq (.reg [
  o1 6 (.mv (.c (.bool true)))])
  .ret)
 .skip))
 (.seq (.reg [
 o1 24 (.ld (.t 3) 37 true),
 o1 25 (.ld (.t 4) 3 true),
 o1 26 (.call 20 [.t 24,.t 25]),
 m1 23 26,
 o1 27 (.ext (.t 23) 0),
 o1 28 (.ext (.t 23) 1),
 m1 7 27,
 m1 8 28])
 (.seq (.reg [
 o1 30 (.ld (.t 3) 37 true),
 o1 31 (.ld (.t 4) 3 true),
 o1 32 (.call 21 [.t 30,.t 31]),
 m1 29 32,
 o1 33 (.ext (.t 29) 0),
 o1 34 (.ext (.t 29) 1),
 m1 9 33,
 m1 10 34])
 (.seq (.reg [
 o1 36 (.ld (.t 3) 37 true),
 o1 37 (.ld (.t 4) 3 true),
 m1 38 2,
 o1 39 (.call 22 [.t 36,.t 37,.t 38]),
 m1 35 39,
 o1 40 (.ext (.t 35) 0),
 o1 41 (.ext (.t 35) 1),
 m1 11 40,
 m1 12 41])
 (.seq (.reg [
 o1 43 (.ld (.t 3) 37 true),
 o1 44 (.ld (.t 4) 3 true),
 m1 45 2,
 o1 46 (.call 23 [.t 43,.t 44,.t 45]),
 m1 42 46,
 o1 47 (.ext (.t 42) 0),
 o1 48 (.ext (.t 42) 1),
 m1 13 47,
 m1 14 48])
 (.seq (.reg [
 m1 49 7,
 m1 50 9,
 o1 51 (.bin .eql (.t 49) (.t 50)),
 m1 52 51,
 ⟨some 53,.mv (.t 8),some (52,true),[]⟩,
 ⟨some 54,.mv (.t 10),some (52,true),[]⟩,
 ⟨some 55,.bin .eql (.t 53) (.t 54),some (52,true),[]⟩,
 o1 56 (.pick (.t 52) (.t 55) (.c (.bool false))),
 m1 57 56,
 ⟨some 58,.mv (.t 11),some (57,true),[]⟩,
 ⟨some 59,.mv (.t 13),some (57,true),[]⟩,
 ⟨some 60,.call 24 [.t 58,.t 59],some (57,true),[]⟩,
 o1 61 (.pick (.t 57) (.t 60) (.c (.bool false))),
 m1 62 61,
 ⟨some 63,.mv (.t 12),some (62,true),[]⟩,
 ⟨some 64,.mv (.t 14),some (62,true),[]⟩,
 ⟨some 65,.bin .eql (.t 63) (.t 64),some (62,true),[]⟩,
 o1 66 (.pick (.t 62) (.t 65) (.c (.bool false))),
 m1 6 66])
 .ret)))))))
def r4:List RV:=[.tmp 6]
theorem n4:Tryz.f4.ntmps=67:=by kernel_rfl
theorem b4:YF Tryz.prog 4=true:=by kernel_rfl
theorem t4:Qt1 Tryz.prog 4 c4 r4 67:=Z4 Tryz.func4 rfl b4 (by kernel_rfl) (by kernel_rfl) n4
end Go.Proofs.YtiigiflofnjilaaGreat
namespace Go.Azalai
open Go.Sx
def ZkJ:List Int->Int
 | []=>0
 | x :: r=>r.foldl min x
theorem Zih {l:List Int} {a:Int} (h:l≠[]):ZkJ (l ++ [a])=min (ZkJ l) a:=by
 cases l with
 | nil=>exact absurd rfl h
 | cons x r=>simp [ZkJ,List.foldl_append]
def UX (s:Season) (p:Plan) (to:Int) (x:Scene):Int:=p.animals * p.slabs * ((x.prices[to.toNat]?).getD 0 - s.cost)+(s.herd - p.animals) * s.sale
def Zil (s:Season) (p:Plan) (to:Int):Int:=ZkJ (s.scenes.map (UX s p to))
def Zch (s:Season) (p:Plan):Int × Int :=
 if (Z5 s p).2.2.2≠0 then (0,(Z5 s p).2.2.2) else if (Z5 s p).1≠0 then (0,92) else (Zil s p ((YI s.land s.start [s.start] p.legs).getD 0),0)
theorem ZsM {α : Type} {L:List α} {k:Nat} (hk:k≠0) (h:1<=L.length):L.take k≠[]:=fun e=>by
 rw [List.take_eq_nil_iff] at e
 rcases e with e | e
 . exact hk e
 . rw [e] at h;simp at h
theorem ZhH {A B d M:Int} (h0:0<=A) (h1:A<=B) (hM:0<=M) (hd:-M<=d/\d<=M):-(B * M)<=A * d/\A * d<=B * M:=by
 have e1:A * d<=A * M:=Int.mul_le_mul_of_nonneg_left hd.2 h0
 have e2:A * M<=B * M:=Int.mul_le_mul_of_nonneg_right h1 hM
 have e3:A * (-M)<=A * d:=Int.mul_le_mul_of_nonneg_left hd.1 h0
 rw [Int.mul_neg] at e3
 omega
theorem ZcH {s:Season} {p:Plan}:∀ {l:List Scene} {i:Nat},(YN s p l i).2.2.2=0
 | [],_=>rfl
 | x :: r,i=>by
  simp only [YN];split
  . rfl
  . exact ZcH
theorem ZcT {s:Season} {p:Plan}:∀ {l:List Scene} {i:Nat},(YN s p l i).1=0->∀ x ∈ l,(Xk s p x).1=0
 | [],_,_,x,hx=>by cases hx
 | y :: r,i,h,x,hx=>by
  simp only [YN] at h
  split at h
  . rename_i hf;exact absurd h hf
  . rename_i hf
    rcases List.mem_cons.1 hx with rfl | hx
    . simpa using hf
    . exact ZcT h x hx
theorem Zbt {s:Season} {p:Plan} (h:(Z5 s p).2.2.2=0):ZA s=true/\Xu s p=true:=by
 unfold Z5 at h
 split at h
 . simp at h
 rename_i h1
 split at h
 . simp at h
 rename_i h2
 exact ⟨by simpa using h1,by simpa using h2⟩
theorem Zne {s:Season} {p:Plan} (h:(Z5 s p).2.2.2=0) (h1:(Z5 s p).1=0):∀ x ∈ s.scenes,(Xk s p x).1=0:=by
 obtain ⟨ho,hp⟩:=Zbt h
 unfold Z5 at h1
 rw [if_neg (by simp [ho]),if_neg (by simp [hp])] at h1
 exact ZcT h1
def Zb5 (s:Season) (p:Plan) (k:Int):List Draw × Int :=
 if (Z5 s p).2.2.2≠0 then ([],(Z5 s p).2.2.2) else if (Z5 s p).1≠0\/inR 0 (s.scenes.length - 1) k=false then ([],92)
 else match s.scenes[k.toNat]? with
  | some x=>(XN s x p.animals p.slabs (Zz s p.legs),0)
  | none=>([],0)
end Go.Azalai
namespace Go.Proofs.YtiigiflofnjilaaGreat
open Go Go.Sx Go.Azalai
theorem Zjr (L:List Int) (h1:1<=L.length) (hl:L.length<=1001) (c:Bool):Ct Tryz.prog 71 [.sl c 1 (L.map Zo)] (I (ZkJ L)):=by
 refine t71.1 (by simp [Za,Zo,KFL,KF]) (by simp [KFL,KF]) ?_
 dsimp only [c71,r71,go_sem,rA,rM,rS]
 simp only [List.length_map]
 refine Zv (by simp;omega) ?_
 dsimp only [go_sem,rA,rM,rS]
 refine Zp 0 (by omega) rfl ?_
 dsimp only [Zo,go_sem,rA,rM,rS]
 have h0:L[0]=ZkJ (L.take 1):=by
  cases L with
  | nil=>simp at h1
  | cons x r=>simp [ZkJ]
 rw [h0]
 refine Xf (fun k:Nat=>[(4,I (k+1)),(3,I (ZkJ (L.take (k+1))))]) (fun _=>[]) (fun k=>k+1<=L.length) (fun k=>L.length - k) 0 h1 ?_ ?_
 . (refine Zl ?_ ?_ ?_ rfl rfl<;>dsimp only [Zo,id,go_sem,rA,rM,rS]<;>simp [Zo,Za,Zf,KFR,KFL,KF,Zc,mtO,nbr])
 intro k hk
 dsimp only [go_sem,rA,rM,rS]
 simp only [List.length_map]
 by_cases hlt:k+1 < L.length
 . refine Zu (by simp;omega) ?_
   dsimp only [go_sem,rA,rM,rS]
   refine Zp (k+1) hlt (by simp) ?_
   dsimp only [Zo,go_sem,rA,rM,rS]
   rw [Zi (n:=(k:Int)+1+1) (by omega) (by omega)]
   refine ⟨k+1,by omega,by omega,?_⟩
   have e:min (ZkJ (L.take (k+1))) L[k+1]=ZkJ (L.take (k+1+1)):=by
    rw [List.take_succ_eq_append_getElem hlt,Zih (ZsM (by omega) h1)]
   rw [e]
   (refine Zl ?_ ?_ ?_ rfl rfl<;>dsimp only [Zo,id,go_sem,rA,rM,rS]<;>simp [Zo,Za,Zf,KFR,KFL,KF,Zc,mtO,nbr])
 refine Zv (by simp;omega) ?_
 dsimp only [go_sem,rA,rM,rS]
 rw [List.take_of_length_le (by omega)]
theorem Zcv {s:Season} (h:OkS s) {k:Nat} (hk:k < s.scenes.length) {m:Nat} (hm:m < s.land.wells.length):∃ hp:m < (s.scenes[k]).prices.length,0<=(s.scenes[k]).prices[m]/\(s.scenes[k]).prices[m]<=1000000:=by
 have hx:=h.scene _ (List.getElem_mem hk)
 simp only [Yg,Bool.and_eq_true,decide_eq_true_eq,List.all_eq_true] at hx
 have hp:m < (s.scenes[k]).prices.length:=by omega
 have:=hx.2 _ (List.getElem_mem hp)
 simp only [inR,decide_eq_true_eq] at this
 exact ⟨hp,this⟩
theorem ZvS {s:Season} (h:OkS s) {p:Plan} (hp:Xu s p=true) {k:Nat} (hk:k < s.scenes.length) {m:Nat} (hm:m < s.land.wells.length) (hq:m < (s.scenes[k]).prices.length) :
 IntKind.i64.wrap (IntKind.i64.wrap (IntKind.i64.wrap (p.animals * p.slabs) * IntKind.i64.wrap ((s.scenes[k]).prices[m] - s.cost))+IntKind.i64.wrap (IntKind.i64.wrap (s.herd - p.animals) * s.sale))=UX s p m s.scenes[k] /\
 -1000000000<=UX s p m s.scenes[k]/\UX s p m s.scenes[k]<=1000000000:=by
 have hnum:=h.num
 obtain ⟨_,hpl⟩:=W6 hp
 obtain ⟨_,hpr⟩:=Zcv h hk hm
 have e1:0<=p.animals * p.slabs/\p.animals * p.slabs<=30 * 12:=⟨Int.mul_nonneg hpl.1 hpl.2.2.1,Int.mul_le_mul (by omega) hpl.2.2.2 hpl.2.2.1 (by decide)⟩
 have e2:=ZhH (A:=p.animals * p.slabs) (B:=360) (d:=(s.scenes[k]).prices[m] - s.cost) (M:=1000000) e1.1 (by omega) (by decide) (by omega)
 have e3:0<=(s.herd - p.animals) * s.sale/\(s.herd - p.animals) * s.sale<=30 * 1000000:=⟨Int.mul_nonneg (by omega) (by omega),Int.mul_le_mul (by omega) (by omega) (by omega) (by decide)⟩
 have e4:UX s p m s.scenes[k]=p.animals * p.slabs * ((s.scenes[k]).prices[m] - s.cost)+(s.herd - p.animals) * s.sale:=by
  simp only [UX,Int.toNat_natCast,List.getElem?_eq_getElem hq,Option.getD_some]
 rw [Zi (n:=p.animals * p.slabs) (by omega) (by omega),Zi (n:=(s.scenes[k]).prices[m] - s.cost) (by omega) (by omega),Zi (n:=s.herd - p.animals) (by omega) (by omega),
  Zi (n:=p.animals * p.slabs * ((s.scenes[k]).prices[m] - s.cost)) (by omega) (by omega),Zi (n:=(s.herd - p.animals) * s.sale) (by omega) (by omega),Zi (by omega) (by omega),e4]
 exact ⟨rfl,by omega,by omega⟩
theorem Zfn (s:Season) (h:OkS s) (p:Plan) (hp:Xu s p=true) (m:Nat) (hm:m < s.land.wells.length):Ct Tryz.prog 59 [.agg (Zr s),.agg (ZB p),I m] (I (Zil s p m)):=by
 have hsc:=h.scs
 have hs4:=h.scs
 refine t59.1 (by simp [Zr,ZB,Zj,Ze,Zm,Zg,Zd,Zo,Za,KFL,KF]) (by simp [KFL,KF]) ?_
 dsimp only [c59,r59,Zr,ZB,go_sem,rA,rM,rS]
 simp only [List.length_map]
 obtain ⟨W,hW⟩:∃ W,W=s.scenes.map (UX s p m):=⟨_,rfl⟩
 have hWl:W.length=s.scenes.length:=by rw [hW];simp
 refine Zc7 (Yo (Vv [2,3,4,6,7,11,12,13] rfl) (YC 7 1 3 rfl rfl)) (fun q:Nat × Nat=>[(13,I q.1),(7,.mr 2 q.2)])
  (fun q=>[(2,.row q.2 1 ((W.take q.1).map Zo) 3)]) (fun q=>q.1<=s.scenes.length) (fun q=>s.scenes.length - q.1) (0,0) (Nat.zero_le _) ?_ ?_
 . (refine Zl ?_ ?_ ?_ rfl rfl<;>dsimp only [Ze,Zm,Zg,Zj,Zd,Zo,Yd,id,go_sem,rA,rM,rS]<;>simp [Ze,Zm,Zg,Zj,Zd,Zo,Yd,Za,Zf,KFR,KFL,KF,Zc,mtO,nbr])
 rintro ⟨j,v⟩ hj
 simp only at hj
 dsimp only [go_sem,rA,rM,rS]
 by_cases hlt:j < s.scenes.length
 . refine Zu (by simpa using hlt) ?_
   dsimp only [go_sem,rA,rM,rS]
   refine Zp j hlt rfl ?_
   dsimp only [Zj,go_sem,rA,rM,rS]
   obtain ⟨hq,_⟩:=Zcv h hlt hm
   refine Zp m hq rfl ?_
   dsimp only [Zo,go_sem,rA,rM,rS]
   obtain ⟨hww,hwb⟩:=ZvS h hp hlt hm hq
   rw [hww]
   simp only [nbr]
   dsimp only [go_sem,rA,rM,rS]
   refine ⟨(by intro c hc;simp only [List.mem_singleton] at hc;subst hc;rfl),by simp;omega,?_⟩
   dsimp only [go_sem,rA,rM,rS]
   rw [Zi (n:=(j:Int)+1) (by omega) (by omega)]
   refine ⟨(j+1,v+1),hlt,by simp only;omega,?_⟩
   simp only
   have hWj:UX s p m s.scenes[j]=W[j]'(by omega):=by simp [hW]
   rw [hWj,List.take_succ_eq_append_getElem (by omega)]
   simp only [List.map_append,List.map_cons,List.map_nil]
   (refine Zl ?_ ?_ ?_ rfl rfl<;>dsimp only [Ze,Zm,Zg,Zj,Zd,Zo,Yd,id,go_sem,rA,rM,rS]<;>simp [Ze,Zm,Zg,Zj,Zd,Zo,Yd,Za,Zf,KFR,KFL,KF,Zc,mtO,nbr])
 refine Zv (by simp;omega) ?_
 dsimp only [go_sem,rA,rM,rS]
 rw [List.take_of_length_le (by omega)]
 refine gh (UQ 7 2 v rfl rfl rfl rfl) ?_
 dsimp only [go_sem,rA,rM,rS]
 refine call (Zjr W (by omega) (by omega) _) ?_
 dsimp only [go_sem,rA,rM,rS]
 rw [hW];rfl
end Go.Proofs.YtiigiflofnjilaaGreat
namespace Go.Azalai
open Go.Sx
theorem ZaD {s:Season} {p:Plan}:∀ {l:List Scene} {i:Nat},(∀ x ∈ l,(Xk s p x).1=0)->(YN s p l i).1=0
 | [],_,_=>rfl
 | x :: r,i,h=>by
  simp only [YN]
  rw [if_neg (by simp [h x (List.mem_cons_self ..)])]
  exact ZaD fun y hy=>h y (List.mem_cons_of_mem _ hy)
theorem Zgi {s:Season} {p:Plan} (h:ZA s=true) (hp:Xu s p=true):(Z5 s p).2.2.2=0/\((Z5 s p).1=0↔∀ x ∈ s.scenes,(Xk s p x).1=0):=by
 have e:Z5 s p=YN s p s.scenes 0:=by unfold Z5;rw [if_neg (by simp [h]),if_neg (by simp [hp])]
 rw [e]
 exact ⟨ZcH,ZcT,ZaD⟩
end Go.Azalai
namespace Go.Proofs.YtiigiflofnjilaaGreat
open Go Go.Sx Go.Azalai
def ZcA (l:Land) (p:Span) (s to day till:Int):SV:=.tup [XB (ZcC l p s to day till) 1 ((US l p s to day till).map Yq),I (ZcC l p s to day till)]
theorem ZlF (l:Land) (p:Span) (s to day till:Int):KF (ZcA l p s to day till):=by
 unfold ZcA XB;split<;>simp [KFL,KF,Za,Yq,ZZ,Ye]
theorem Znr (l:Land) (hs:Wo l) (s to day till:Int) (p:Span):Ct Tryz.prog 65 [.agg (ZY l),I s,I to,I day,I till,.agg (Zd p)] (ZcA l p s to day till):=by
 have hw:=hs.1
 have hleg:=hs.2.1
 refine t65.1 (by simp [ZY,Ze,Zm,Zg,Zd,Za,KFL,KF]) (ZlF _ _ _ _ _ _) ?_
 dsimp only [c65,r65,ZY,Zd,go_sem,rA,rM,rS]
 by_cases ha:Zae l p=0
 case neg =>
  refine call (Zau l hs p ha) ?_
  dsimp only [go_sem,rA,rM,rS]
  refine Zu (by simpa using ha) ?_
  dsimp only [go_sem,rA,rM,rS]
  simp [ZcA,ZcC,ha,XB]
 have hok:=ZkA ha
 refine call (ZcN l hs p ha) ?_
 dsimp only [ZK,go_sem,rA,rM,rS]
 refine Zv (by decide) ?_
 dsimp only [go_sem,rA,rM,rS]
 simp only [List.length_map]
 have h1:=UT hok.land
 rw [Zi (n:=(l.wells.length:Int) - 1) (by omega) (by omega)]
 refine call (Zd1 0 (l.wells.length - 1) s to true) ?_
 dsimp only [go_sem,rA,rM,rS]
 repeat (first | (refine gb ?_;dsimp only [go_sem,rA,rM,rS]) | (refine call (Zd1 0 100000 day till true) ?_;dsimp only [go_sem,rA,rM,rS]))
 by_cases hr:(inR 0 (l.wells.length - 1) s && inR 0 (l.wells.length - 1) to && inR 0 100000 day && inR 0 100000 till)=true
 case neg =>
  have hb:∀ a b c d:Bool,¬ (a && b && c && d)=true->(!(a && b) || !(c && d))=true:=by decide
  refine Zu (hb _ _ _ _ hr) ?_
  dsimp only [go_sem,rA,rM,rS]
  simp [ZcA,ZcC,ha,XB,hr]
 have hb:∀ a b c d:Bool,(a && b && c && d)=true->(!(a && b) || !(c && d))=false:=by decide
 refine Zv (hb _ _ _ _ hr) ?_
 dsimp only [go_sem,rA,rM,rS]
 have he:ZcC l p s to day till=if (US l p s to day till).length > 200 then 9 else 0:=by simp only [ZcC,US,ha,hr];simp
 simp only [Bool.and_eq_true,inR,decide_eq_true_eq] at hr
 obtain ⟨⟨⟨hr1,hr3⟩,hd⟩,hu⟩:=hr
 refine ZbK rfl rfl rfl ?_
 dsimp only [go_sem,rA,rM,rS]
 refine gh (V4 5 0 1 35 rfl rfl) ?_
 dsimp only [go_sem,rA,rM,rS]
 have hlk:=ZuD l p hs hok till to (l.wells.length+1) [] s day [] [] 0 0 [] (.v (.slice none 0 0)) Zlv.start (by simp) (by omega) (by omega) (by simp;omega) (by simp) MW.nil (fun u=>by simp [Xy]) (.inr ⟨rfl,rfl⟩)
 have hW:(XC l p to till (l.wells.length+1) [] s day).map (([]:List Nat) ++ ·)=US l p s to day till:=by simp [US]
 rw [hW] at hlk
 refine YM [2,1,5,7,4,8,9,6] hlk rfl rfl ?_ ?_ ?_ ?_
 . rfl
 . dsimp only [rho,go_sem,rA,rM,rS]
   simp [Za,Zf,KFR,KFL,KF,Zc,mtO,nbr]
 . dsimp only [rho,YE,ZK,go_sem,rA,rM,rS]
   simp [Za,Zf,KFR,KFL,KF,Zc,mtO,nbr,Zw,ZK,Ze,Zm,Zg,Yq,ZZ,Ye]
 rintro o ⟨ver',clk',hM',rfl⟩
 dsimp only [YE,ZK,go_sem,rA,rM,rS]
 try simp only [List.nil_append]
 by_cases hl:(US l p s to day till).length<=200
 . refine Zv (by simp only [hl,decide_true];rfl) ?_
   dsimp only [go_sem,rA,rM,rS]
   simp only [nbr]
   dsimp only [go_sem,rA,rM,rS]
   rw [ZcA,he,if_neg (by omega),Vj (by omega)]
   simp [XB,vwN]
 . refine Zu (by simp only [hl,decide_false];rfl) ?_
   dsimp only [go_sem,rA,rM,rS]
   rw [ZcA,he,if_pos (by omega)]
   simp [XB]
end Go.Proofs.YtiigiflofnjilaaGreat
namespace Go.Azalai
open Go.Sx Go.Proofs.YtiigiflofnjilaaGreat
structure Bst where
 legs:List Nat
 an:Int
 sl:Int
 w:Int
deriving DecidableEq
def Y7 (a:List Nat):List Int:=a.map fun n:Nat=>(n:Int)
def Bst.plan (q:Bst):Plan:=⟨Y7 q.legs,q.an,q.sl⟩
def Yk (q p:Bst):Bool :=
 if q.w≠p.w then decide (q.w > p.w) else if q.an≠p.an then decide (q.an < p.an) else if q.sl≠p.sl then decide (q.sl < p.sl)
 else if q.legs.length≠p.legs.length then decide (q.legs.length < p.legs.length) else W0 q.legs p.legs
def ZjC (p q:Bst):Bst:=if Yk q p then q else p
def XF (s:Season) (to:Int) (a:List Nat) (k n:Int):Bst:=⟨a,n,k,Zil s ⟨Y7 a,n,k⟩ to⟩
def Zhk (s:Season) (x:Scene):List Draw->Int->Int
 | [],n=>n
 | d :: r,n=>Zhk s x r (if d.water > 0 then min n ((ZaP s x ⟨0,d.well,⟨0,0⟩,⟨d.day,0⟩⟩).tdiv d.water) else n)
def ZqQ (s:Season) (a:List Int) (k:Int):List Scene->Int->Int
 | [],n=>n
 | x :: r,n=>if (Xk s ⟨a,1,k⟩ x).1≠0 then 0 else ZqQ s a k r (Zhk s x (Wu s ⟨a,1,k⟩ x) n)
def Zeu (s:Season) (a:List Int) (k:Int):Int:=ZqQ s a k s.scenes s.herd
def Zez (s:Season) (to:Int) (a:List Nat) (k:Int):Nat->Bst->Bst
 | 0,b=>b
 | n+1,b=>Zez s to a k n (ZjC b (XF s to a k (n+1:Nat)))
def ZmF (s:Season) (to:Int) (a:List Nat) (b:Bst) (k:Nat):Bst:=Zez s to a k (Zeu s (Y7 a) k).toNat b
def Zyg (s:Season) (to:Int) (b:Bst) (a:List Nat):Bst:=(List.range 13).foldl (ZmF s to a) b
def ZdI (s:Season):List Nat->Bst->Option Bst
 | [],b=>some b
 | g :: r,b=>if ZcC s.land s.pace s.start g s.day s.till≠0 then none else ZdI s r ((US s.land s.pace s.start g s.day s.till).foldl (Zyg s g) b)
def Zu5 (s:Season):Option Bst:=ZdI s (List.range s.land.wells.length) ⟨[],0,0,s.herd * s.sale⟩
def ZgG (s:Season):Plan × Int × Int :=
 if ZA s=false then (⟨[],0,0⟩,0,90) else match Zu5 s with
  | none=>(⟨[],0,0⟩,0,9)
  | some b=>(b.plan,b.w,0)
def ZeX (s:Season) (x:Scene) (k:Int):List Span->Nat->Int->Int
 | [],_,e=>e
 | r :: l,i,e=>ZeX s x k l (i+1) (if r.hi<=s.till then max e (k * ((x.prices[i]?).getD 0 - s.cost)) else e)
noncomputable def Ze5 (s:Season):Int:=ZkJ (s.scenes.map fun x=>s.herd * ZeX s x (min 12 (s.breed.strong.lo.tdiv s.slab)) (Y8 s.land s.pace s.start s.day) 0 s.sale)
noncomputable def Zbi (s:Season):Int × Int:=if ZA s=false then (0,90) else (Ze5 s,0)
theorem ZfN {s:Season} {x:Scene}:∀ {D:List Draw} {n m:Int},(m<=Zhk s x D n↔m<=n/\∀ d ∈ D,d.water > 0->m<=(ZaP s x ⟨0,d.well,⟨0,0⟩,⟨d.day,0⟩⟩).tdiv d.water)
 | [],n,m=>by simp [Zhk]
 | d :: r,n,m=>by
  rw [Zhk,ZfN]
  simp only [List.mem_cons,forall_eq_or_imp]
  split
  . rename_i h
    constructor
    . rintro ⟨h1,h2⟩;exact ⟨by omega,fun _=>by omega,h2⟩
    . rintro ⟨h1,h2,h3⟩;exact ⟨by have:=h2 h;omega,h3⟩
  . rename_i h
    constructor
    . rintro ⟨h1,h2⟩;exact ⟨h1,fun q=>absurd q h,h2⟩
    . rintro ⟨h1,_,h3⟩;exact ⟨h1,h3⟩
theorem Zjz {s:Season} {x:Scene} (h:∀ st:Stop,0<=ZaP s x st):∀ {D:List Draw} {n:Int},0<=n->0<=Zhk s x D n
 | [],n,hn=>hn
 | d :: r,n,hn=>by
  rw [Zhk]
  refine Zjz h ?_
  split
  . have:=Int.tdiv_nonneg (h ⟨0,d.well,⟨0,0⟩,⟨d.day,0⟩⟩) (show (0:Int)<=d.water by omega)
    omega
  . exact hn
theorem ZkI {s:Season} {a:List Int} {k:Int}:∀ {l:List Scene} {n:Int},0<=n->(∀ x ∈ l,∀ st:Stop,0<=ZaP s x st)->0<=ZqQ s a k l n/\ZqQ s a k l n<=n
 | [],n,hn,_=>⟨hn,Int.le_refl _⟩
 | x :: r,n,hn,hh=>by
  rw [ZqQ]
  split
  . omega
  . have h1:=Zjz (hh x (List.mem_cons_self ..)) (D:=Wu s ⟨a,1,k⟩ x) hn
    have h2:Zhk s x (Wu s ⟨a,1,k⟩ x) n<=n:=(ZfN.1 (Int.le_refl _)).1
    have:=ZkI (s:=s) (a:=a) (k:=k) h1 (fun y hy=>hh y (List.mem_cons_of_mem _ hy))
    omega
theorem Zcb (b:Bst):Yk b b=false:=by simp [Yk,WI]
theorem ZdM {a b c:Bst} (h:Yk a b=true) (h':Yk b c=true):Yk a c=true:=by
 obtain ⟨al,aa,ak,aw⟩:=a;obtain ⟨bl,ba,bk,bw⟩:=b;obtain ⟨cl,ca,ck,cw⟩:=c
 simp only [Yk] at h h' ⊢
 by_cases e1:aw=bw
 . subst e1
   rw [if_neg (by simp)] at h
   by_cases e2:aw=cw
   . subst e2
     rw [if_neg (by simp)] at h' ⊢
     by_cases e3:aa=ba
     . subst e3
       rw [if_neg (by simp)] at h
       by_cases e4:aa=ca
       . subst e4
         rw [if_neg (by simp)] at h' ⊢
         by_cases e5:ak=bk
         . subst e5
           rw [if_neg (by simp)] at h
           by_cases e6:ak=ck
           . subst e6
             rw [if_neg (by simp)] at h' ⊢
             by_cases e7:al.length=bl.length
             . rw [if_neg (by simp [e7])] at h
               by_cases e8:al.length=cl.length
               . rw [if_neg (by omega)] at h' ⊢
                 exact Wk h h'
               . rw [if_pos (by omega)] at h' ⊢
                 rw [decide_eq_true_eq] at h' ⊢;omega
             . rw [if_pos (by omega),decide_eq_true_eq] at h
               by_cases e8:bl.length=cl.length
               . rw [if_pos (by omega),decide_eq_true_eq];omega
               . rw [if_pos (by omega),decide_eq_true_eq] at h'
                 rw [if_pos (by omega),decide_eq_true_eq];omega
           . rw [if_pos e6] at h' ⊢;exact h'
         . rw [if_pos e5,decide_eq_true_eq] at h
           by_cases e6:bk=ck
           . subst e6;rw [if_pos e5,decide_eq_true_eq];exact h
           . rw [if_pos e6,decide_eq_true_eq] at h'
             rw [if_pos (by omega),decide_eq_true_eq];omega
       . rw [if_pos e4] at h' ⊢;exact h'
     . rw [if_pos e3,decide_eq_true_eq] at h
       by_cases e4:ba=ca
       . subst e4;rw [if_pos e3,decide_eq_true_eq];exact h
       . rw [if_pos e4,decide_eq_true_eq] at h'
         rw [if_pos (by omega),decide_eq_true_eq];omega
   . rw [if_pos e2] at h' ⊢;exact h'
 . rw [if_pos e1,decide_eq_true_eq] at h
   by_cases e2:bw=cw
   . subst e2;rw [if_pos e1,decide_eq_true_eq];exact h
   . rw [if_pos e2,decide_eq_true_eq] at h'
     rw [if_pos (by omega),decide_eq_true_eq];omega
structure Top (b0:Bst) (C:Bst->Prop) (b:Bst):Prop where
 is:b=b0\/C b
 init:Yk b0 b=false
 all:∀ q,C q->Yk q b=false
theorem Top.zero {b0:Bst}:Top b0 (fun _=>False) b0:=⟨.inl rfl,Zcb _,fun _ h=>h.elim⟩
theorem Top.congr {b0:Bst} {C C':Bst->Prop} {b:Bst} (h:Top b0 C b) (hc:∀ q,C' q↔C q):Top b0 C' b:=⟨h.is.imp id (hc b).2,h.init,fun q hq=>h.all q ((hc q).1 hq)⟩
theorem Top.take {b0:Bst} {C:Bst->Prop} {b:Bst} (h:Top b0 C b) (q:Bst):Top b0 (fun r=>C r\/r=q) (ZjC b q):=by
 unfold ZjC
 have up:∀ r,Yk r b=false->Yk q b=true->Yk r q=false:=fun r h1 h2=>by
  cases h3:Yk r q with
  | false=>rfl
  | true=>have:=ZdM h3 h2;rw [h1] at this;cases this
 cases hq:Yk q b with
 | false =>
  simp only [Bool.false_eq_true,if_false]
  exact ⟨h.is.imp id .inl,h.init,fun r hr=>hr.elim (h.all r) (fun e=>e ▸ hq)⟩
 | true =>
  simp only [if_true]
  exact ⟨.inr (.inr rfl),up _ h.init hq,fun r hr=>hr.elim (fun q=>up r (h.all r q) hq) (fun e=>e ▸ Zcb _)⟩
theorem Top.fold {α : Type} {b0:Bst} {f:Bst->α->Bst} {P:α->Bst->Prop} (hf:∀ {C:Bst->Prop} {b:Bst} (x:α),Top b0 C b->Top b0 (fun r=>C r\/P x r) (f b x)) :
 ∀ {l:List α} {C:Bst->Prop} {b:Bst},Top b0 C b->Top b0 (fun r=>C r\/∃ x ∈ l,P x r) (l.foldl f b)
 | [],C,b,h=>h.congr fun q=>by simp
 | x :: r,C,b,h=>(Top.fold hf (l:=r) (hf x h)).congr fun q=>by
  simp only [List.mem_cons,exists_eq_or_imp,or_assoc]
structure Ready (l:Land) (p:Span):Prop where
 small:Wo l
 ok:OkLP l p
theorem Zq7 {n day:Int} {o s:Gate->Int} {t:Int} (ht:t<=100000):∀ {l:List Gate} {a:Int},Zde n day o s a l<=t↔a<=t\/∃ g ∈ l,max day (o g)+n - 1<=s g/\max day (o g)<=t
 | [],a=>by simp [Zde]
 | g :: l,a=>by
  simp only [Zde]
  rw [Zq7 ht (l:=l)]
  simp only [List.mem_cons,exists_eq_or_imp]
  by_cases h:max day (o g)+n - 1<=s g
  . rw [if_pos h]
    constructor
    . rintro (q | q)
      . by_cases ha:a<=t
        . exact .inl ha
        . exact .inr (.inl ⟨h,by omega⟩)
      . exact .inr (.inr q)
    . rintro (q | q | q)
      . exact .inl (by omega)
      . exact .inl (by have:=q.2;omega)
      . exact .inr q
  . rw [if_neg h]
    constructor
    . rintro (q | q)
      . exact .inl q
      . exact .inr (.inr q)
    . rintro (q | q | q)
      . exact .inl q
      . exact absurd q.1 h
      . exact .inr q
def oK (k:Bool) (g:Gate):Int:=bif k then g.opens.hi else g.opens.lo
def sK (k:Bool) (g:Gate):Int:=bif k then g.shuts.lo else g.shuts.hi
theorem Zj6 {k:Bool} {x:Leg} {p:Span} {t u:Int} (h:GoodLeg x) (hp:Z1 p=true) (hu:u<=100000) :
 leK k x p t<=u↔∃ g ∈ x.gates,max t (oK k g)+nK k x p - 1<=sK k g/\max t (oK k g)<=u:=by
 rw [(ZaL (k:=k) (t:=t) h hp).1,Zq7 hu]
 constructor
 . rintro (q | q)
   . omega
   . exact q
 . exact fun q=>.inr q
theorem Zj2 {k:Bool} {x:Leg} {p:Span} {t:Int} (h:GoodLeg x) (hp:Z1 p=true) (ht:t<=100001):t<=leK k x p t/\leK k x p t<=100001:=by
 have hn:=ZhW (k:=k) h hp
 obtain ⟨_,a2,a3⟩:=ZaL (k:=k) (t:=t) h hp
 have:=Ze0 (day:=t) (o:=fun g=>bif k then g.opens.hi else g.opens.lo) hn.1 a3
 refine ⟨?_,by omega⟩
 apply Classical.byContradiction
 intro q
 obtain ⟨g,hg,h1,h2⟩:=(Zj6 (k:=k) (t:=t) (u:=leK k x p t) h hp (by omega)).1 (Int.le_refl _)
 omega
theorem Zd0 {a b:Int} (ha:1<=a) (hb:1<=b):a<=(a+b - 1).tdiv b * b/\((a+b - 1).tdiv b - 1) * b < a:=by
 rw [Int.tdiv_eq_ediv_of_nonneg (by omega)]
 have h1:=Int.emod_add_mul_ediv (a+b - 1) b
 have h2:=Int.emod_nonneg (a+b - 1) (show b≠0 by omega)
 have h3:=Int.emod_lt_of_pos (a+b - 1) (show 0 < b by omega)
 rw [Int.sub_mul,Int.mul_comm ((a+b - 1) / b) b]
 omega
theorem Zer {x:Leg} {p:Span} (h:GoodLeg x) (hp:Z1 p=true):nK false x p<=nK true x p:=by
 simp only [Z1,Z9,decide_eq_true_eq] at hp
 obtain ⟨h1,h2,h3,_,_⟩:=h
 simp only [nK,cond_true,cond_false,Zby]
 have u:=Zd0 (a:=x.long.lo) (b:=p.hi) h1 (by omega)
 have v:=Zd0 (a:=x.long.hi) (b:=p.lo) (by omega) (by omega)
 have w:0<=(x.long.hi+p.lo - 1).tdiv p.lo:=Int.tdiv_nonneg (by omega) (by omega)
 generalize (x.long.lo+p.hi - 1).tdiv p.hi=A at *
 generalize (x.long.hi+p.lo - 1).tdiv p.lo=B at *
 have q:=Int.mul_le_mul_of_nonneg_left hp.2.1 w
 apply Classical.byContradiction
 intro hc
 have q2:B * p.hi<=(A - 1) * p.hi:=Int.mul_le_mul_of_nonneg_right (by omega) (by omega)
 omega
theorem Zom {x:Leg} {p:Span} {t:Int} (h:GoodLeg x) (hp:Z1 p=true) (ht:t<=100001):leK false x p t<=leK true x p t:=by
 have b0:=Zj2 (k:=false) h hp ht
 have b1:=Zj2 (k:=true) h hp ht
 have hn:=Zer h hp
 apply Classical.byContradiction
 intro q
 obtain ⟨g,hg,h1,h2⟩:=(Zj6 (k:=true) (t:=t) (u:=leK true x p t) h hp (by omega)).1 (Int.le_refl _)
 have hm:=Xl h.g2 (Int.le_refl _) g hg
 simp only [oK,sK,cond_true] at h1 h2
 exact q ((Zj6 (k:=false) h hp (by omega)).2 ⟨g,hg,by simp only [oK,sK,cond_false];omega,by simp only [oK,cond_false];omega⟩)
end Go.Azalai
namespace Go.Proofs.YtiigiflofnjilaaGreat
open Go Go.Sx Go.Azalai
end Go.Proofs.YtiigiflofnjilaaGreat
namespace Go.Azalai
theorem ZdH {x:Leg} {p:Span} {t t':Int} (h:GoodLeg x) (hp:Z1 p=true) (ht:t<=t') (ht':t'<=100001):ZR false x p t<=ZR true x p t':=by
 have h1:=ZbG (k:=false) h hp ht
 have h2:=Zom (t:=t') h hp ht'
 have h3:=Zer h hp
 simp only [ZR] at *;omega
def Trk (l:Land) (p:Span):Int->Int->Int->List Int->List Stop->Prop
 | _,_,_,[],[]=>True
 | v,a,b,i :: r,s :: ss=>∃ (k:Nat) (x:Leg),i=k/\l.legs[k]? = some x/\0<=Zk x v/\ZR true x p b<=100000 /\
  s=⟨k,Zk x v,⟨leK false x p a,leK true x p b⟩,⟨ZR false x p a,ZR true x p b⟩⟩/\Trk l p (Zk x v) (ZR false x p a) (ZR true x p b) r ss
 | _,_,_,_,_=>False
theorem Trk.len {l:Land} {p:Span}:∀ {legs:List Int} {ss:List Stop} {v a b:Int},Trk l p v a b legs ss->ss.length=legs.length
 | [],[],_,_,_,_=>rfl
 | i :: r,s :: ss,_,_,_,h=>by obtain ⟨_,_,_,_,_,_,_,h⟩:=h;simp [h.len]
 | [],_ :: _,_,_,_,h=>h.elim
 | _ :: _,[],_,_,_,h=>h.elim
theorem Trk.at {l:Land} {p:Span} (h:OkLP l p):∀ {legs:List Int} {ss:List Stop} {v a b:Int},Trk l p v a b legs ss->a<=b->b<=100000->∀ (i:Nat) (s:Stop),ss[i]? = some s ->
 ∃ c:List Nat,c.length=i+1/\legs.take (i+1)=c.map (fun n:Nat=>(n:Int))/\goW true l p v b c=some (s.well,s.arrives.hi)/\goW false l p v a c=some (s.well,s.arrives.lo)
 | [],[],_,_,_,_,_,_,i,s,hs=>by simp at hs
 | j :: r,s0 :: ss,v,a,b,q,hab,hb,i,s,hs=>by
  obtain ⟨k,x,rfl,hx,ho,hr,rfl,q⟩:=q
  have hm:=ZdH (h.leg hx) h.pace hab (by omega)
  cases i with
  | zero =>
   simp only [List.getElem?_cons_zero,Option.some.injEq] at hs
   subst hs
   refine ⟨[k],rfl,by simp,?_,?_⟩
   . simp only [goW,hx];rw [if_neg (by omega),if_neg (by omega)]
   . simp only [goW,hx];rw [if_neg (by omega),if_neg (by omega)]
  | succ i =>
   simp only [List.getElem?_cons_succ] at hs
   obtain ⟨c,h1,h2,h3,h4⟩:=Trk.at h q hm hr i s hs
   refine ⟨k :: c,by simp [h1],by simp [h2],?_,?_⟩
   . simp only [goW,hx];rw [if_neg (by omega),if_neg (by omega)];exact h3
   . simp only [goW,hx];rw [if_neg (by omega),if_neg (by omega)];exact h4
 | [],_ :: _,_,_,_,q,_,_,_,_,_=>q.elim
 | _ :: _,[],_,_,_,q,_,_,_,_,_=>q.elim
theorem ZiG {l:Land} {p:Span}:∀ {legs:List Int} {v a b:Int} {k:Nat} {acc ss:List Stop} {at':Int},XW l v legs k=none->goS l p v a b legs k acc=(ss,at',0)->∃ tt,ss=acc ++ tt/\at'=0/\Trk l p v a b legs tt
 | [],v,a,b,k,acc,ss,at',_,h=>by
  simp only [goS,Prod.mk.injEq] at h
  exact ⟨[],by simp [h.1],h.2.1.symm,trivial⟩
 | i :: r,v,a,b,k,acc,ss,at',hb,h=>by
  simp only [XW] at hb
  by_cases he:WY l i v < 0
  . rw [if_pos he] at hb;cases hb
  rw [if_neg he] at hb
  obtain ⟨n,x,rfl,hn,hx,_,e⟩:=UD he
  simp only [goS,Int.toNat_natCast,hx] at h
  by_cases hr:ZR true x p b > 100000
  . rw [if_pos hr] at h;simp at h
  rw [if_neg hr] at h
  rw [e] at hb he
  obtain ⟨tt,e1,e2,e3⟩:=ZiG hb h
  exact ⟨_ :: tt,by rw [e1,List.append_assoc];rfl,e2,n,x,rfl,hx,by omega,by omega,rfl,e3⟩
theorem Ze2 {l:Land} {p:Span} {s day:Int} {legs:List Int} {ss:List Stop} {at':Int} (h:YG l p s day legs=(ss,at',0)):at'=0/\Trk l p s day day legs ss:=by
 unfold YG at h
 split at h
 . rename_i q;simp at h;exact absurd h.2.2 q
 split at h
 . simp at h
 split at h
 . simp at h
 split at h
 . simp at h
 . rename_i q
   obtain ⟨tt,rfl,e2,e3⟩:=ZiG q h
   exact ⟨e2,by simpa using e3⟩
theorem Zh3 {l:Land} {p:Span}:∀ {c:List Nat} {v a b w u:Int} {k:Nat} {acc:List Stop},goW true l p v b c=some (w,u) ->
 XW l v (c.map fun n:Nat=>(n:Int)) k=none/\∃ ss,goS l p v a b (c.map fun n:Nat=>(n:Int)) k acc=(ss,0,0)
 | [],v,a,b,w,u,k,acc,_=>⟨rfl,acc,rfl⟩
 | i :: c,v,a,b,w,u,k,acc,h=>by
  simp only [goW] at h
  cases hx:l.legs[i]? with
  | none=>rw [hx] at h;cases h
  | some x =>
   rw [hx] at h
   simp only at h
   by_cases ho:Zk x v < 0
   . rw [if_pos ho] at h;cases h
   rw [if_neg ho] at h
   by_cases hr:ZR true x p b > 100000
   . rw [if_pos hr] at h;cases h
   rw [if_neg hr] at h
   have hi:i < l.legs.length:=(List.getElem?_eq_some_iff.1 hx).1
   have he:WY l (i:Int) v=Zk x v:=by rw [Zbe hi,(List.getElem?_eq_some_iff.1 hx).2]
   obtain ⟨h1,_⟩:=Zh3 (a:=ZR false x p a) (k:=k+1) (acc:=[]) h
   refine ⟨?_,?_⟩
   . simp only [List.map_cons,XW,he];rw [if_neg ho];exact h1
   . obtain ⟨_,ss,h2⟩:=Zh3 (a:=ZR false x p a) (k:=k+1) (acc:=acc ++ [⟨i,Zk x v,⟨leK false x p a,leK true x p b⟩,⟨ZR false x p a,ZR true x p b⟩⟩]) h
     refine ⟨ss,?_⟩
     simp only [List.map_cons,goS,Int.toNat_natCast,hx]
     rw [if_neg hr];exact h2
theorem Zt2 {l:Land} {p:Span} (h:OkLP l p) {s day:Int} (hd:0<=day) (hd':day<=100000) (h0:0<=s) (h1:s < l.wells.length) {c:List Nat} {w u:Int} (hc:c.length<=24) (hw:goW true l p s day c=some (w,u)) :
 ∃ ss,YG l p s day (c.map fun n:Nat=>(n:Int))=(ss,0,0):=by
 obtain ⟨e1,ss,e2⟩:=Zh3 (a:=day) (k:=0) (acc:=[]) hw
 refine ⟨ss,?_⟩
 unfold YG
 rw [if_neg (by simp [Zae,h.land,h.pace]),if_neg (by simp [inR];omega),if_neg (by simp;omega),e1]
 exact e2
theorem Gr.ends {l:Land} {p:Span} {s day to best:Int} {n0:Nat} (hg:OkLP l p) (hd:0<=day) (hd':day<=100000) (h0:0<=s) (h1:s < l.wells.length) (hb:best=YP true l p s day to) (hb':best<=100000) :
 ∀ {n:Nat} {v t:Int} {out:List Nat},Gr l p s day to best n0 n v t out->∃ v' t' out',Gr l p s day to best n0 0 v' t' out'
 | 0,v,t,out,h=>⟨v,t,out,h⟩
 | n+1,v,t,out,h=>by
  obtain ⟨i,_,hf⟩:=h.ex hg hd hd' h0 h1 hb hb'
  obtain ⟨m,⟨x,g1,g2,g3,g4⟩,hm⟩:=Go.Sx.least_ex (fun i=>Fit l p to best n v t i) ⟨i,hf⟩
  exact Gr.ends hg hd hd' h0 h1 hb hb' (h.step hg hd hd' h0 h1 hb g1 g2 g3 g4 fun j hj hq=>by have:=hm j hq;omega)
open Go.Sx
def Ua (l:Land) (p:Span) (to till:Int):List Int->Int->Int->List Nat->Prop
 | _,v,t,[]=>v=to/\t<=till
 | been,v,t,i :: r=>∃ x,l.legs[i]? = some x/\0<=Zk x v/\ZR true x p t<=100000/\Zk x v ∉ v :: been/\Ua l p to till (v :: been) (Zk x v) (ZR true x p t) r
theorem Ua.le {l:Land} {p:Span} (h:OkLP l p) {to till:Int}:∀ {a:List Nat} {been:List Int} {v t:Int},Ua l p to till been v t a->t<=100001->t<=till
 | [],_,_,_,q,_=>q.2
 | i :: r,been,v,t,q,ht=>by
  obtain ⟨x,hx,ho,hr,hn,q⟩:=q
  have:=Vb (k:=true) (h.leg hx) h.pace ht
  have:=Ua.le h q (by omega)
  omega
theorem Ua.nin {l:Land} {p:Span} {to till:Int}:∀ {a:List Nat} {been:List Int} {v t:Int},Ua l p to till been v t a->v ∉ been->to ∉ been
 | [],_,_,_,q,hv=>by rw [<- q.1];exact hv
 | i :: r,been,v,t,q,hv=>by
  obtain ⟨x,hx,ho,hr,hn,q⟩:=q
  have:=Ua.nin q hn
  exact fun h=>this (List.mem_cons_of_mem _ h)
theorem Zj4 {l:Land} {p:Span} (h:OkLP l p) {to till:Int} (htill:till<=100000):∀ {f:Nat} {been:List Int} {v t:Int} {a:List Nat},Zlv l f been->v ∉ been->(0<=v/\v < l.wells.length)->t<=100001 ->
 (a ∈ XC l p to till f been v t↔Ua l p to till been v t a):=by
 intro f
 induction f with
 | zero =>
  intro been v t a hR hv hvi
  obtain ⟨g,q,_⟩:=hR.pos hv hvi
  omega
 | succ f ih =>
  intro been v t a hR hv hvi ht
  obtain ⟨g,hg,hR'⟩:=hR.pos hv hvi
  have hgf:g=f:=by omega
  subst hgf
  rw [Yx]
  by_cases h1:t > till
  . rw [if_pos h1]
    constructor
    . intro q;cases q
    . intro q;have:=q.le h ht;omega
  rw [if_neg h1]
  by_cases h2:v=to
  . rw [if_pos h2,List.mem_singleton]
    constructor
    . rintro rfl;exact ⟨h2,by omega⟩
    . intro q
      cases a with
      | nil=>rfl
      | cons i r =>
       obtain ⟨x,hx,ho,hr,hn,q⟩:=q
       have:=q.nin hn
       exact absurd (by simp [h2]) this
  rw [if_neg h2]
  simp only [Z7,List.mem_flatMap,List.mem_range]
  constructor
  . rintro ⟨i,hi,q⟩
    simp only [YZ] at q
    cases hx:l.legs[i]? with
    | none=>rw [hx] at q;cases q
    | some x =>
     rw [hx] at q
     simp only at q
     by_cases hc:Zk x v < 0\/Zk x v ∈ v :: been
     . rw [if_pos hc] at q;cases q
     rw [if_neg hc] at q
     obtain ⟨r,hr,rfl⟩:=List.mem_map.1 q
     have ho:¬ Zk x v < 0:=fun z=>hc (.inl z)
     have hn:Zk x v ∉ v :: been:=fun z=>hc (.inr z)
     have ha:=Xi (k:=true) (h.leg hx) h.pace ht
     have hr':=(ih hR' hn (ZU h hx ho).1 (by omega)).1 hr
     refine ⟨x,hx,by omega,?_,hn,hr'⟩
     have:=hr'.le h (by omega)
     omega
  . intro q
    cases a with
    | nil=>exact absurd q.1 h2
    | cons i r =>
     obtain ⟨x,hx,ho,hr,hn,q⟩:=q
     refine ⟨i,(List.getElem?_eq_some_iff.1 hx).1,?_⟩
     rw [Wz hx (by omega) hn]
     exact List.mem_map.2 ⟨r,(ih hR' hn (ZU h hx (by omega)).1 (by omega)).2 q,rfl⟩
theorem Ua.len {l:Land} {p:Span} (h:OkLP l p) {to till:Int}:∀ {a:List Nat} {f:Nat} {been:List Int} {v t:Int},Ua l p to till been v t a->Zlv l f been->v ∉ been->(0<=v/\v < l.wells.length)->a.length+1<=f
 | [],f,been,v,t,q,hR,hv,hi=>by obtain ⟨g,hg,_⟩:=hR.pos hv hi;simp;omega
 | i :: r,f,been,v,t,q,hR,hv,hi=>by
  obtain ⟨g,hg,hR'⟩:=hR.pos hv hi
  obtain ⟨x,hx,ho,hr,hn,q⟩:=q
  have:=Ua.len h q hR' hn (ZU h hx (by omega)).1
  simp;omega
theorem Zcr {l:Land} {i:Nat} {v:Int}:WY l i v=match l.legs[i]? with | some x=>Zk x v | none=>-1:=by
 cases h:l.legs[i]? with
 | none=>rw [List.getElem?_eq_none_iff] at h;exact Zeo (.inr (by omega))
 | some x =>
  obtain ⟨hi,hx⟩:=List.getElem?_eq_some_iff.1 h
  rw [Zbe hi,hx]
theorem UK {l:Land} {p:Span} {to till:Int}:∀ {c:List Nat} {been:List Int} {v t:Int},
 Ua l p to till been v t c↔YI l v (v :: been) (Y7 c)=some to/\∃ u,goW true l p v t c=some (to,u)/\u<=till
 | [],been,v,t=>by
  simp only [Ua,Y7,List.map_nil,YI,Option.some.injEq,goW,Prod.mk.injEq]
  constructor
  . rintro ⟨h1,h2⟩;exact ⟨h1,t,⟨h1,rfl⟩,h2⟩
  . rintro ⟨h1,u,⟨_,rfl⟩,h2⟩;exact ⟨h1,h2⟩
 | i :: c,been,v,t=>by
  simp only [Ua,Y7,List.map_cons,YI,goW]
  rw [Zcr]
  cases hx:l.legs[i]? with
  | none =>
   constructor
   . rintro ⟨x,hx',_⟩;cases hx'
   . rintro ⟨h1,_⟩;simp at h1
  | some x =>
   simp only
   constructor
   . rintro ⟨y,hy,ho,hr,hn,q⟩
     cases hy
     obtain ⟨q1,q2⟩:=(UK (c:=c)).1 q
     rw [if_neg (by omega),if_neg hn,if_neg (by omega),if_neg (by omega)]
     exact ⟨q1,q2⟩
   . rintro ⟨h1,h2⟩
     split at h1
     . cases h1
     rename_i h3
     split at h1
     . cases h1
     rename_i h4
     rw [if_neg h3] at h2
     split at h2
     . obtain ⟨u,hu,_⟩:=h2;cases hu
     rename_i h5
     exact ⟨x,rfl,by omega,by omega,h4,(UK (c:=c)).2 ⟨h1,h2⟩⟩
theorem ZdQ {l:Land} {p:Span} (hg:OkLP l p):∀ {legs:List Int} {v u:Int} {been:List Int},been.Nodup->(∀ b ∈ been,0<=b/\b < l.wells.length)->YI l v been legs=some u->legs.length+been.length<=l.wells.length
 | [],v,u,been,h1,h2,_=>by have:=ZdK h1 h2;simpa using this
 | i :: r,v,u,been,h1,h2,h=>by
  simp only [YI] at h
  split at h
  . cases h
  rename_i he
  split at h
  . cases h
  rename_i hn
  obtain ⟨k,x,_,_,hx,_,e⟩:=UD he
  have hin:=(ZU hg hx (by rw [<- e];exact he)).1
  have:=ZdQ hg (List.nodup_cons.2 ⟨hn,h1⟩) (fun b hb=>(List.mem_cons.1 hb).elim (fun q=>by rw [q,e];exact hin) (h2 b)) h
  simp only [List.length_cons] at this ⊢;omega
open Go.Proofs.YtiigiflofnjilaaGreat
theorem ZfH:∀ {a b:List Nat},Y7 a=Y7 b->a=b
 | [],[],_=>rfl
 | x :: a,y :: b,h=>by
  simp only [Y7,List.map_cons,List.cons.injEq] at h
  rw [ZfH (a:=a) (b:=b) h.2,show x=y by omega]
 | [],_ :: _,h=>by simp [Y7] at h
 | _ :: _,[],h=>by simp [Y7] at h
theorem lenS {s:Season} (h:OkS s) {legs:List Int} {u:Int} (hg:YI s.land s.start [s.start] legs=some u):legs.length < s.land.wells.length/\legs.length<=24:=by
 have:=ZdQ h.lp (legs:=legs) (v:=s.start) (u:=u) (been:=[s.start]) (by simp) (fun b hb=>by simp only [List.mem_singleton] at hb;subst hb;exact h.start) hg
 have hw:=h.land
 simp only [ZM,inR,Bool.and_eq_true,decide_eq_true_eq] at hw
 simp only [List.length_cons,List.length_nil] at this
 omega
theorem Zfr {s:Season} (h:OkS s) {c:List Nat} (hc:c.length<=24):WZ s (Y7 c)=true↔∃ v u,goW true s.land s.pace s.start s.day c=some (v,u)/\u<=s.till:=by
 have hn:=h.num
 have hst:=h.start
 have key:∀ {ss:List Stop} {at':Int},YG s.land s.pace s.start s.day (Y7 c)=(ss,at',0)->(WZ s (Y7 c)=true↔∃ v u,goW true s.land s.pace s.start s.day c=some (v,u)/\u<=s.till):=fun {ss at'} hw=>by
  obtain ⟨_,ht⟩:=Ze2 hw
  have hss:Zz s (Y7 c)=ss:=by unfold Zz;rw [hw]
  have hlen:=ht.len
  simp only [Y7,List.length_map] at hlen
  unfold WZ
  rw [hss,hw]
  simp only [decide_true,Bool.true_and,Bool.or_eq_true,decide_eq_true_eq]
  by_cases h0:ss.length=0
  . have:c=[]:=List.eq_nil_of_length_eq_zero (by omega)
    subst this
    exact ⟨fun _=>⟨s.start,s.day,rfl,by omega⟩,fun _=>.inl h0⟩
  . obtain ⟨c',h1,h2,h3,_⟩:=ht.at h.lp (Int.le_refl _) (by omega) (ss.length - 1) (ZaQ ss) (Uc h0)
    have hcc:c'=c:=by
     have e:(Y7 c).take (ss.length - 1+1)=Y7 c:=List.take_of_length_le (by simp [Y7];omega)
     rw [e] at h2
     exact ZfH h2.symm
    subst hcc
    constructor
    . rintro (q | q)
      . exact absurd q h0
      . exact ⟨_,_,h3,q⟩
    . rintro ⟨v,u,e,q⟩
      rw [h3] at e
      simp only [Option.some.injEq,Prod.mk.injEq] at e
      exact .inr (by omega)
 constructor
 . intro q
   have q':=q
   simp only [WZ,Bool.and_eq_true,decide_eq_true_eq] at q'
   have:YG s.land s.pace s.start s.day (Y7 c)=((YG s.land s.pace s.start s.day (Y7 c)).1,(YG s.land s.pace s.start s.day (Y7 c)).2.1,0):=by
    rw [<- q'.1]
   exact (key this).1 q
 . rintro ⟨v,u,e,q⟩
   obtain ⟨ss,hw⟩:=Zt2 h.lp (by omega) (by omega) hst.1 hst.2 hc e
   exact (key hw).2 ⟨v,u,e,q⟩
theorem ZfK {k:Bool} {l:Land} {p:Span} {w u to:Int}:∀ {c:List Nat} {v t:Int} {been:List Int},goW k l p v t c=some (w,u)->YI l v been (Y7 c)=some to->w=to
 | [],v,t,been,h,h'=>by
  simp only [goW,Option.some.injEq,Prod.mk.injEq,Y7,List.map_nil,YI] at h h'
  omega
 | i :: c,v,t,been,h,h'=>by
  simp only [goW,Y7,List.map_cons,YI] at h h'
  rw [Zcr] at h'
  cases hx:l.legs[i]? with
  | none=>rw [hx] at h;cases h
  | some x =>
   rw [hx] at h h'
   simp only at h h'
   split at h
   . cases h
   rename_i h1
   split at h
   . cases h
   rw [if_neg h1] at h'
   split at h'
   . cases h'
   exact ZfK h h'
theorem Zm2 {s:Season} (h:OkS s) {to:Int} {c:List Nat}:c ∈ US s.land s.pace s.start to s.day s.till↔YI s.land s.start [s.start] (Y7 c)=some to/\WZ s (Y7 c)=true:=by
 have hn:=h.num
 unfold US
 rw [Zj4 h.lp (by omega) Zlv.start (by simp) h.start (by omega),UK]
 constructor
 . rintro ⟨h1,u,h2,h3⟩
   have hl:=(lenS h h1).2
   exact ⟨h1,(Zfr h (by simpa [Y7] using hl)).2 ⟨_,_,h2,h3⟩⟩
 . rintro ⟨h1,h2⟩
   have hl:=(lenS h h1).2
   obtain ⟨v,u,h3,h4⟩:=(Zfr h (by simpa [Y7] using hl)).1 h2
   refine ⟨h1,u,?_,h4⟩
   rw [ZfK h3 h1] at h3;exact h3
theorem ZpN {l:Land} {well day:Int}:0<=(Xd l well [] day).1.lo:=by
 unfold Xd
 split
 . exact Int.le_refl _
 rename_i h1
 split
 . exact Int.le_refl _
 rename_i h2
 split
 . exact Int.le_refl _
 split
 . exact Int.le_refl _
 split
 . rename_i w hw
   simp only [Bool.not_eq_false,ZM,Bool.and_eq_true,List.all_eq_true,inR,decide_eq_true_eq] at h1 h2
   have hwell:=h1.1.2 w (List.mem_of_getElem? hw)
   simp only [YD,Z9,inR,Bool.and_eq_true,decide_eq_true_eq] at hwell
   have:0<=(day - 1 - -1) * w.yld.lo:=Int.mul_nonneg (by omega) (by omega)
   simp only [W9,X4]
   omega
 . exact Int.le_refl _
theorem ZqX {s:Season} {x:Scene} (st:Stop):0<=ZaP s x st:=ZpN
theorem Zny {s:Season} {p:Plan} {to:Int} (hto:YI s.land s.start [s.start] p.legs=some to) (ha:0<=p.animals/\p.animals<=s.herd) (hs:0<=p.slabs/\p.slabs<=12):Xu s p=true:=by
 simp only [Xu,hto,Option.isSome_some,inR,Bool.true_and,Bool.and_eq_true,decide_eq_true_eq];omega
theorem ZsO {s:Season} (h:OkS s) {a:List Int} {k:Int}:0<=Zeu s a k/\Zeu s a k<=s.herd:=ZkI (by have:=h.num;omega) (fun _ _=>ZqX)
theorem ZiB {l:Land} {D:Int} {draws:List Draw} {k:Nat} (hok:ZM l=true) (hk:k < l.wells.length) (hD:0<=D/\D<=100000) (hl:draws.length<=200) (hd:X8 l.wells.length 0 draws=true) :
 Xd l k draws D=W9 l.wells[k] k D l.wells[k].has (-1) 0 draws:=by
 unfold Xd
 rw [if_neg (by simp [hok]),if_neg (by simp [inR];omega),if_neg (by omega),if_neg (by simp [hd]),Int.toNat_natCast,List.getElem?_eq_getElem hk]
theorem Zdo {l:Land} {p:Span} (hg:OkLP l p):∀ {legs:List Int} {ss:List Stop} {v a b to:Int} {been:List Int},Trk l p v a b legs ss->YI l v been legs=some to ->
 (ss.map Stop.well).Nodup/\∀ w ∈ ss.map Stop.well,w ∉ been/\0<=w/\w < l.wells.length
 | [],[],_,_,_,_,_,_,_=>⟨List.nodup_nil,fun w h=>by cases h⟩
 | i :: r,s :: ss,v,a,b,to,been,ht,hgo=>by
  obtain ⟨k,x,rfl,hx,ho,hr,rfl,ht⟩:=ht
  simp only [YI] at hgo
  rw [Zcr,hx] at hgo
  simp only at hgo
  split at hgo
  . cases hgo
  rename_i h1
  split at hgo
  . cases hgo
  rename_i h2
  obtain ⟨q1,q2⟩:=Zdo hg ht hgo
  have hin:=(ZU hg hx h1).1
  refine ⟨?_,?_⟩
  . rw [List.map_cons,List.nodup_cons]
    exact ⟨fun hm=>(q2 _ hm).1 (List.mem_cons_self ..),q1⟩
  . intro w hw
    rcases List.mem_cons.1 hw with rfl | hw
    . exact ⟨h2,hin⟩
    . exact ⟨fun hm=>(q2 _ hw).1 (List.mem_cons_of_mem _ hm),(q2 _ hw).2⟩
 | [],_ :: _,_,_,_,_,_,h,_=>h.elim
 | _ :: _,[],_,_,_,_,_,h,_=>h.elim
theorem ZfE {l:Land} {p:Span} (hg:OkLP l p):∀ {legs:List Int} {ss:List Stop} {v a b:Int},Trk l p v a b legs ss->a<=b->b<=100000->ss.Pairwise (fun x y=>x.arrives.lo<=y.arrives.lo)/\∀ s ∈ ss,a<=s.arrives.lo/\s.arrives.lo<=100000/\s.arrives.lo<=s.arrives.hi
 | [],[],_,_,_,_,_,_=>⟨.nil,fun _ h=>by cases h⟩
 | i :: r,s :: ss,v,a,b,ht,hab,hb=>by
  obtain ⟨k,x,rfl,hx,ho,hr,rfl,ht⟩:=ht
  have h1:=Vb (k:=false) (hg.leg hx) hg.pace (show a<=100001 by omega)
  have h2:=ZdH (hg.leg hx) hg.pace hab (by omega)
  obtain ⟨q1,q2⟩:=ZfE hg ht h2 hr
  refine ⟨List.pairwise_cons.2 ⟨fun y hy=>(q2 y hy).1,q1⟩,fun y hy=>?_⟩
  rcases List.mem_cons.1 hy with rfl | hy
  . simp only;omega
  . have:=q2 y hy;omega
 | [],_ :: _,_,_,_,h,_,_=>h.elim
 | _ :: _,[],_,_,_,h,_,_=>h.elim
structure Dr (s:Season) (p:Plan) (x:Scene) (D:List Draw):Prop where
 len:D.length=p.legs.length - 1
 at_:∀ (i:Nat) (hi:i < D.length) (hs:i < (Zz s p.legs).length),D[i].well=(Zz s p.legs)[i].well/\D[i].day=(Zz s p.legs)[i].arrives.lo/\0<=D[i].water/\D[i].water<=p.animals * s.breed.full /\
  (p.animals=0->D[i].water=0)/\D[i].water<=ZaP s x (Zz s p.legs)[i]
end Go.Azalai
