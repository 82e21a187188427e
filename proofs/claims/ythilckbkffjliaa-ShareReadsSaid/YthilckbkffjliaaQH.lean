/- Walks and plain laws that lead to the given statement, part 8 of 9. -/
import Derived.Test.YthilckbkffjliaaQG
import Derived.Test.YthilckbkffjliaaProg
set_option maxRecDepth 100000
set_option maxHeartbeats 8000000
set_option linter.all false
open Nat renaming reduceAdd->rA,reduceMul->rM,reduceSub->rS,beq_refl->nbr
namespace Go.Proofs.Ythilckbkffjliaa
open Go Go.Sx
def c8:SC:=(sr1 [
 o1 2 (.box (.t 0) 0 24),
 o1 4 (.mv (.c (.bool false)))]
 (sr1 [
 o1 18 (.call 34 []),
 m1 5 18]
 (.seq (sr1 [
 o1 19 (lt 2 4),
 m1 20 1,
 o1 21 (.call 35 [.t 19,.t 20]),
 o1 22 (.un .not (.t 21)),
 m1 23 22,
 g1 24 23 false (.mv (.t 5)),
 g1 25 23 false (.un .not (.t 24)),
 o1 26 (.pick (.t 23) (.c (.bool true)) (.t 25))]
 (.cond (.t 26)
 (sr1 [
  m1 27 5,
  m1 4 27]
  .ret)
 .skip))
 (sr1 [
 o1 29 (lt 2 4),
 m1 30 1,
 o1 31 (.call 24 [.t 29,.t 30]),
 m1 28 31,
 o1 32 (.ext (.t 28) 0),
 o1 33 (.ext (.t 28) 1),
 o1 34 (.ext (.t 28) 2),
 m1 6 32,
 m1 7 33,
 m1 8 34]
 (sr1 [
 o1 36 (lt 2 4),
 m1 37 1,
 o1 38 (.call 29 [.t 36,.t 37]),
 m1 35 38,
 o1 39 (.ext (.t 35) 0),
 o1 40 (.ext (.t 35) 1),
 m1 9 39,
 m1 10 40]
 (.seq (sr1 [
 m1 41 8,
 o1 42 (.bin .neq (.t 41) (cn 0)),
 m1 43 42,
 g1 44 43 false (.mv (.t 10)),
 g1 45 43 false (.bin .neq (.t 44) (cn 0)),
 o1 46 (.pick (.t 43) (.c (.bool true)) (.t 45)),
 m1 47 46,
 g1 48 47 false (.mv (.t 7)),
 g1 49 47 false (.len (.t 48)),
 g1 50 47 false (.mv (.t 6)),
 g1 51 47 false (.len (.t 50)),
 g1 52 47 false (.bin .neq (.t 49) (.t 51)),
 o1 53 (.pick (.t 47) (.c (.bool true)) (.t 52)),
 m1 54 53,
 g1 55 54 false (.mv (.t 9)),
 g1 56 54 false (.len (.t 55)),
 g1 57 54 false (ao 2 0),
 g1 58 54 false (lf 57 1),
 g1 59 54 false (.len (.t 58)),
 g1 60 54 false (.bin .neq (.t 56) (.t 59)),
 o1 61 (.pick (.t 54) (.c (.bool true)) (.t 60))]
 (.cond (.t 61)
 (sr1 [
  o1 4 (.mv (.c (.bool false)))]
  .ret)
 .skip))
 (sr1 [
 o1 11 (.mv (cn 0))]
 (.seq (sr1 [
 o1 62 (ao 2 0),
 o1 63 (lf 62 1),
 o1 64 (.len (.t 63)),
 o1 65 (.mv (cn 0))]
 (.block 0 (.loop (sr1 [
  o1 66 (.bin .lss (.t 65) (.t 64))]
  (.seq (.cond (.t 66)
  .skip
  (.exit 0))
  (.seq (.block 1 (sr1 [
   o1 67 (.ixs (.t 63) (.t 65) 3),
   o1 68 (lt 67 3),
   o1 13 (.alloc [.int .i64 0,.int .i64 0,.int .i64 0] 64),
   ⟨none,.st (.t 13) (.t 68) 3,none,[]⟩]
   (.reg [
   m1 69 11,
   o1 70 (ao 13 1),
   o1 71 (lf 70 1),
   o1 72 (.bin .add (.t 69) (.t 71)),
   m1 11 72])))
  (.reg [
  o1 73 (.bin .add (.t 65) (cn 1)),
  m1 65 73])))))))
 (.seq (sr1 [
 m1 74 6,
 o1 75 (.len (.t 74)),
 o1 76 (.mv (cn 0))]
 (.block 2 (.loop (sr1 [
  o1 77 (.bin .lss (.t 76) (.t 75))]
  (.seq (.cond (.t 77)
  .skip
  (.exit 2))
  (.seq (.block 3 (sr1 [
   m1 78 76,
   o1 79 (.ixs (.t 74) (.t 76) 8),
   o1 80 (lt 79 8),
   o1 15 (.alloc zv0 50),
   m1 14 78,
   ⟨none,.st (.t 15) (.t 80) 8,none,[]⟩]
   (.seq (sr1 [
   m1 81 7,
   m1 82 14,
   o1 83 (.ixs (.t 81) (.t 82) 1),
   o1 84 (lf 83 1),
   o1 85 (.bin .neq (.t 84) (.c (.int .u8 0)))]
   (.cond (.t 85)
   (.exit 3)
   .skip))
   (sr1 [
   o1 86 (ao 15 2),
   o1 87 (lf 86 1)]
   (.block 4 (.seq (sr1 [
    o1 89 (.bin .eql (.t 87) (.c (.int .u8 1))),
    m1 88 89]
    (.cond (.t 88)
    .skip
    (.reg [
     o1 90 (.bin .eql (.t 87) (.c (.int .u8 6))),
     m1 88 90])))
    (.cond (.t 88)
    (.reg [
     m1 91 11,
     o1 92 (ao 15 6),
     o1 93 (lf 92 1),
     o1 94 (.bin .add (.t 91) (.t 93)),
     m1 11 94])
    (sr1 [
     o1 96 (.bin .eql (.t 87) (.c (.int .u8 2))),
     m1 95 96]
     (.cond (.t 95)
     (.reg [
      m1 97 11,
      o1 98 (ao 15 6),
      o1 99 (lf 98 1),
      o1 100 (.bin .sub (.t 97) (.t 99)),
      m1 11 100])
     .skip)))))))))
  (.reg [
  o1 101 (.bin .add (.t 76) (cn 1)),
  m1 76 101])))))))
 (.seq (sr1 [
 m1 102 9,
 o1 103 (.len (.t 102)),
 o1 104 (.mv (cn 0))]
 (.block 5 (.loop (sr1 [
  o1 105 (.bin .lss (.t 104) (.t 103))]
  (.seq (.cond (.t 105)
  .skip
  (.exit 5))
  (.seq (.block 6 (sr1 [
   o1 106 (.ixs (.t 102) (.t 104) 1),
   o1 107 (lf 106 1),
   m1 17 107]
   (.reg [
   m1 108 11,
   m1 109 17,
   o1 110 (.bin .sub (.t 108) (.t 109)),
   m1 11 110])))
  (.reg [
  o1 111 (.bin .add (.t 104) (cn 1)),
  m1 104 111])))))))
 (sr1 [
 m1 112 5,
 m1 113 112,
 g1 114 113 true (.mv (.t 11)),
 g1 115 113 true (.bin .eql (.t 114) (cn 0)),
 o1 116 (.pick (.t 113) (.t 115) (.c (.bool false))),
 m1 4 116]
 .ret)))))))))))
end Go.Proofs.Ythilckbkffjliaa
namespace Go.Azalai
def Wh (p:Pact) (l:List Letter):Int:=if l.length > 100 then 4 else if l.all (Zh p)=false then 81 else if Zfd l=true then 82 else 0
theorem Zff {p:Pact} {l:List Letter} (h:ZH p=true):Z2 p l=Wh p l:=by simp [Z2,Wh,h]
end Go.Azalai
namespace Go.Proofs.Ythilckbkffjliaa
open Go Go.Sx Go.Azalai
theorem Zbg (p:Pact) (l:List Letter) (hs:Yr p) (hl:l.length<=1000) (c:Bool):Ct Try.prog 51 [.agg (Zj p),.sl c 8 (l.map Zb)] (I (Wh p l)):=by
 refine t51.1 (by simp [Zj,Za,Zb,Zc,KFL,KF]) (by simp [KFL,KF]) ?_
 dsimp only [c51,r51,Zj,go_sem,rA,rM,rS]
 simp only [List.length_map]
 by_cases h100:l.length > 100
 . refine ZK (by simp;omega) ?_
   dsimp only [go_sem,rA,rM,rS]
   simp [Wh,h100]
 refine Zz (by simp;omega) ?_
 dsimp only [go_sem,rA,rM,rS]
 refine YY (fun s:Nat=>[(5,I (s:Nat))]) (fun _=>[]) (fun s=>s<=l.length/\∀ i (hi:i < l.length),i < s->Zh p l[i]=true) (fun s=>l.length - s) 0 ⟨Nat.zero_le _,fun i _ h=>by omega⟩ ?_ ?_
 . (refine Zl ?_ ?_ ?_ rfl rfl<;>dsimp only [Zj,Za,Zb,id,go_sem,rA,rM,rS]<;>simp [Zj,Za,Zb,Zc,Ze,KFR,KFL,KF,Zd,mtO,nbr])
 intro k ⟨hk,hok⟩
 dsimp only [go_sem,rA,rM,rS]
 simp only [List.length_map]
 by_cases hlt:k < l.length
 . refine ZK (by simpa using hlt) ?_
   dsimp only [go_sem,rA,rM,rS]
   refine ZF k hlt rfl ?_
   dsimp only [Zb,go_sem,rA,rM,rS]
   refine call (Zgl p l[k] hs) ?_
   dsimp only [go_sem,rA,rM,rS]
   by_cases hb:Zh p l[k]=true
   case neg =>
    refine ZK (by simpa using hb) ?_
    dsimp only [go_sem,rA,rM,rS]
    have:l.all (Zh p)=false:=by
     rw [<- Bool.not_eq_true,List.all_eq_true]
     exact fun h=>hb (h _ (List.getElem_mem _))
    simp [Wh,h100,this]
   refine Zz (by simpa using hb) ?_
   dsimp only [go_sem,rA,rM,rS]
   rw [Zi (n:=(k:Int)+1) (by omega) (by omega)]
   refine ⟨k+1,⟨hlt,fun i hi h=>?_⟩,by omega,?_⟩
   . by_cases e:i=k
     . subst e;exact hb
     . exact hok i hi (by omega)
   (refine Zl ?_ ?_ ?_ rfl rfl<;>dsimp only [Zj,Za,Zb,id,go_sem,rA,rM,rS]<;>simp [Zj,Za,Zb,Zc,Ze,KFR,KFL,KF,Zd,mtO,nbr])
 refine Zz (by simpa using hlt) ?_
 dsimp only [go_sem,rA,rM,rS]
 have hall:l.all (Zh p)=true:=by
  rw [List.all_eq_true]
  intro x hx
  obtain ⟨i,hi,rfl⟩:=List.getElem_of_mem hx
  exact hok i hi (by omega)
 refine YY (fun s:Nat=>[(6,I (s:Nat))]) (fun _=>[]) (fun s=>s<=l.length/\∀ i j (hi:i < l.length) (hj:j < l.length),i < s->j < i->l[i].id=l[j].id->l[i]=l[j]) (fun s=>l.length - s) 0 ⟨Nat.zero_le _,fun i j _ _ h=>by omega⟩ ?_ ?_
 . (refine Zl ?_ ?_ ?_ rfl rfl<;>dsimp only [Zj,Za,Zb,id,go_sem,rA,rM,rS]<;>simp [Zj,Za,Zb,Zc,Ze,KFR,KFL,KF,Zd,mtO,nbr])
 intro a ⟨ha,hI⟩
 dsimp only [go_sem,rA,rM,rS]
 simp only [List.length_map]
 by_cases hlta:a < l.length
 . refine ZK (by simpa using hlta) ?_
   dsimp only [go_sem,rA,rM,rS]
   refine YY (fun s:Nat=>[(7,I (s:Nat))]) (fun _=>[]) (fun s=>s<=a/\∀ j (hj:j < l.length),j < s->l[a].id=l[j].id->l[a]=l[j]) (fun s=>a - s) 0 ⟨Nat.zero_le _,fun j _ h=>by omega⟩ ?_ ?_
   . (refine Zl ?_ ?_ ?_ rfl rfl<;>dsimp only [Zj,Za,Zb,id,go_sem,rA,rM,rS]<;>simp [Zj,Za,Zb,Zc,Ze,KFR,KFL,KF,Zd,mtO,nbr])
   intro b ⟨hb,hJ⟩
   dsimp only [go_sem,rA,rM,rS]
   by_cases hltb:b < a
   . refine ZK (by simpa using hltb) ?_
     dsimp only [go_sem,rA,rM,rS]
     have hbl:b < l.length:=by omega
     refine ZF a hlta rfl ?_
     dsimp only [Zb,go_sem,rA,rM,rS]
     refine ZF b hbl rfl ?_
     dsimp only [Zb,go_sem,rA,rM,rS]
     by_cases hid:l[a].id=l[b].id
     . have g:(l[a].id == l[b].id)=true:=by simp [hid]
       simp only [g]
       repeat (first | (refine Yz rfl ?_;dsimp only [go_sem,rA,rM,rS]) | (refine ZF a hlta rfl ?_;dsimp only [Zb,go_sem,rA,rM,rS]) | (refine ZF b hbl rfl ?_;dsimp only [Zb,go_sem,rA,rM,rS]))
       by_cases he:l[a]=l[b]
       . refine Zz ?_ ?_
         . rw [Zys];simp [ngB,he]
         dsimp only [go_sem,rA,rM,rS]
         rw [Zi (n:=(b:Int)+1) (by omega) (by omega)]
         refine ⟨b+1,⟨hltb,fun j hj h q=>?_⟩,by omega,?_⟩
         . by_cases e:j=b
           . subst e;exact he
           . exact hJ j hj (by omega) q
         (refine Zl ?_ ?_ ?_ rfl rfl<;>dsimp only [Zj,Za,Zb,id,go_sem,rA,rM,rS]<;>simp [Zj,Za,Zb,Zc,Ze,KFR,KFL,KF,Zd,mtO,nbr])
       . refine ZK ?_ ?_
         . rw [Zys];simp [ngB,he]
         dsimp only [go_sem,rA,rM,rS]
         have:Zfd l=true:=by
          rw [<- Bool.not_eq_false]
          exact fun h=>he (WP h _ (List.getElem_mem _) _ (List.getElem_mem _) hid)
         simp [Wh,h100,hall,this]
     . have g:(l[a].id == l[b].id)=false:=by simp [hid]
       simp only [g]
       repeat (refine ZdR (by decide) ?_;dsimp only [go_sem,rA,rM,rS])
       refine Zz rfl ?_
       dsimp only [go_sem,rA,rM,rS]
       rw [Zi (n:=(b:Int)+1) (by omega) (by omega)]
       refine ⟨b+1,⟨hltb,fun j hj h q=>?_⟩,by omega,?_⟩
       . by_cases e:j=b
         . subst e;exact absurd q hid
         . exact hJ j hj (by omega) q
       (refine Zl ?_ ?_ ?_ rfl rfl<;>dsimp only [Zj,Za,Zb,id,go_sem,rA,rM,rS]<;>simp [Zj,Za,Zb,Zc,Ze,KFR,KFL,KF,Zd,mtO,nbr])
   refine Zz (by simpa using hltb) ?_
   dsimp only [go_sem,rA,rM,rS]
   rw [Zi (n:=(a:Int)+1) (by omega) (by omega)]
   refine ⟨a+1,⟨hlta,fun i j hi hj h1 h2 q=>?_⟩,by omega,?_⟩
   . by_cases e:i=a
     . subst e;exact hJ j hj (by omega) q
     . exact hI i j hi hj (by omega) h2 q
   (refine Zl ?_ ?_ ?_ rfl rfl<;>dsimp only [Zj,Za,Zb,id,go_sem,rA,rM,rS]<;>simp [Zj,Za,Zb,Zc,Ze,KFR,KFL,KF,Zd,mtO,nbr])
 refine Zz (by simpa using hlta) ?_
 dsimp only [go_sem,rA,rM,rS]
 have h2:Zfd l=false:=Zb5 fun x hx y hy q=>by
  obtain ⟨i,hi,rfl⟩:=List.getElem_of_mem hx
  obtain ⟨j,hj,rfl⟩:=List.getElem_of_mem hy
  rcases Nat.lt_trichotomy i j with h | h | h
  . exact (hI j i hj hi (by omega) h q.symm).symm
  . subst h;rfl
  . exact hI i j hi hj (by omega) h q
 simp [Wh,h100,hall,h2]
def WY:Pact:=⟨[⟨1,600,500⟩,⟨2,300,200⟩,⟨3,0,300⟩],500,2,100⟩
def WJ:List Letter:=[⟨10,5,3,3,0,7,0,false⟩,⟨11,20,6,0,8,7,101,false⟩,⟨12,30,5,0,0,7,0,false⟩,⟨13,50,1,0,0,0,1000,false⟩,⟨14,60,2,0,0,0,300,false⟩]
def ZqM:Letter:=⟨15,25,6,0,8,7,90,false⟩
def ZqX:List Letter:=[⟨16,21,7,1,2,0,40,false⟩,⟨17,22,8,1,2,0,50,false⟩,⟨18,23,8,1,2,0,30,false⟩]
def Xn:List Letter:=[⟨10,5,3,3,0,7,0,false⟩,⟨11,20,6,0,8,7,101,false⟩,⟨12,30,5,0,0,7,0,true⟩,⟨13,50,1,0,0,0,1000,false⟩,⟨14,60,2,0,0,0,300,false⟩]
theorem Zne {l l':List SV} (h:∀ (w:World) (E:Env) (n ok:Nat->Prop) (ys:List Value),RL w E n ok l ys->RL w E n ok l' ys):ZaT (.agg l) (.agg l'):=fun w E n ok y hy=>by
 simp only [R] at hy ⊢
 obtain ⟨cs,h1,h2⟩:=hy
 exact ⟨cs,h1,h _ _ _ _ _ h2⟩
end Go.Proofs.Ythilckbkffjliaa
namespace Go.Sx
open Go Go.RowKit
def RLW (l l':List SV):Prop:=∀ (w:World) (E:Env) (n ok:Nat->Prop) (ys:List Value),RL w E n ok l ys->RL w E n ok l' ys
def RRW:List (List SV)->List (List SV)->Prop
 | [],[]=>True
 | r :: xs,r' :: xs'=>RLW r r'/\r'.length=r.length/\RRW xs xs'
 | _,_=>False
theorem Zb0:∀ {xs xs':List (List SV)},RRW xs xs'->xs'.length=xs.length
 | [],[],_=>rfl
 | _ :: xs,_ :: xs',h=>by simp [Zb0 h.2.2]
 | [],_ :: _,h=>h.elim
 | _ :: _,[],h=>h.elim
theorem Zqr {w:World} {E:Env} {n ok:Nat->Prop} {b m:Nat}:∀ {xs xs':List (List SV)} {off:Nat},RRW xs xs'->RR w E n ok b m xs off->RR w E n ok b m xs' off
 | [],[],_,_,h=>h
 | r :: xs,r' :: xs',off,hw,h=>by
  simp only [RR] at h ⊢
  obtain ⟨h0,⟨cs,h1,h2⟩,h3⟩:=h
  exact ⟨by rw [hw.2.1];exact h0,⟨cs,hw.1 _ _ _ _ _ h1,h2⟩,Zqr hw.2.2 h3⟩
 | [],_ :: _,_,h,_=>h.elim
 | _ :: _,[],_,h,_=>h.elim
theorem ZuQ {c:Bool} {m:Nat} {xs xs':List (List SV)} (h:RRW xs xs'):ZaT (.sl c m xs) (.sl false m xs'):=fun w E n ok y hy=>by
 simp only [R] at hy ⊢
 obtain ⟨a,len,cap,h1,h2,h3,h4,h5⟩:=hy
 refine ⟨a,len,cap,h1,by rw [Zb0 h];exact h2,⟨h3.1,fun h=>by cases h⟩,by rw [Zb0 h];exact h4,?_⟩
 rcases h5 with h5 | ⟨b,off,h5,h6⟩
 . left
   have:=Zb0 h
   rw [h5] at this
   exact List.eq_nil_of_length_eq_zero this
 . exact .inr ⟨b,off,h5,Zqr h h6⟩
theorem ZvY {r:List SV} (h:r.length=1):RLW r [.any]:=fun w E n ok ys hR=>by
 match r,h with
 | [s],_ =>
  simp only [RL] at hR ⊢
  obtain ⟨y,t,rfl,_,h2⟩:=hR
  exact ⟨y,t,rfl,by simp only [R],h2⟩
theorem ZkL:∀ {xs:List (List SV)},(∀ r ∈ xs,r.length=1)->RRW xs (List.replicate xs.length [.any])
 | [],_=>trivial
 | r :: xs,h=>⟨ZvY (h r (by simp)),by rw [h r (by simp)];rfl,ZkL fun q hq=>h q (by simp [hq])⟩
theorem ZcD {c:Bool} {N:Nat} {xs:List (List SV)} (hn:xs.length=N) (h:∀ r ∈ xs,r.length=1):ZaT (.sl c 1 xs) (.sl false 1 (List.replicate N [.any])):=by
 subst hn
 exact ZuQ (ZkL h)
end Go.Sx
namespace Go.Proofs.Ythilckbkffjliaa
open Go Go.Sx Go.Azalai
def owS (p:Pact) (c:Co):SV:=.sl false 1 ((ddL p c.debts).map fun r=>[.sl false 1 (r.map ZP)])
theorem ZqB (p:Pact) (d:Int->Int->Int):Zao 0 1 ((ddL p d).map hI) ((ddL p d).map fX)=(ddL p d).map fun r=>[SV.sl false 1 (r.map ZP)]:=by rw [ZeC];rfl
def anR:SV:=.sl false 1 (List.replicate 10000 [.any])
theorem anR_k:KF anR=True:=eq_true (by simp only [anR,KF];exact Zab (by simp [KFL,KF]) 10000)
def Zrj (p:Pact) (c:Co):List SV:=[anR,anR,anR,anR,I (ZaW p c),.sl false 1 ((pp p (ZaS p c)).map ZP),owS p c]
def Zue (p:Pact) (c:Co) (s:Int->Int) (v:Nat):List (Nat × HB):=[(2,.row 0 1 ((rg 10000 (Ux p c)).map ZP) 3),(3,.row 0 1 ((rg 10000 s).map ZP) 3),(4,.row 0 1 ((rg 10000 c.dead).map boL) 4),(5,.row 0 1 ((rg 10000 c.known).map boL) 4),
 (6,.row 0 1 ((pp p c.extra).map ZP) 3),(7,.rws v 1 ((ddL p c.debts).map fX) 27 0 1 ((ddL p c.debts).map hI) 3),(8,.cells [.mr 2 0,.mr 3 0,.mr 4 0,.mr 5 0,I c.result,.mr 6 0,.mr 7 v] 95)]
theorem ZtM {p:Pact} {n:Nat} {c:Co} {b:Bks} (h:BkR n c b) (hp:ZH p=true) {x:Letter} (hx:Zh p x=true):∃ b',BkR (n+1) (Zn p c x).1 b':=by
 by_cases h0:(Zn p c x).2=0
 case neg=>rw [Zcr h0];exact ⟨b,h.next⟩
 have hpp:(0<=p.hire/\p.hire<=1000)/\(0<=p.calf/\p.calf<=1000):=by
  simp only [ZH,Bool.and_eq_true,inR,decide_eq_true_eq] at hp
  omega
 have hday:0<=x.day/\x.day<=100000:=by
  simp only [Zh,Bool.and_eq_true,inR,decide_eq_true_eq] at hx
  exact hx.1.2
 rcases WM hx with hk | hk | hk | hk | hk | hk | hk | hk
 . have hr:0<=x.rials/\x.rials<=10000000:=by simp [Zh,hk,inR] at hx;omega
   have e:(Zn p c x).1={ c with result:=c.result+x.rials }:=by simp [Zn,hk]
   rw [e];exact ⟨_,h.res (by omega)⟩
 . have hr:0<=x.rials/\x.rials<=10000000:=by simp [Zh,hk,inR] at hx;omega
   have e:(Zn p c x).1={ c with result:=c.result - x.rials }:=by simp [Zn,hk]
   rw [e];exact ⟨_,h.res (by omega)⟩
 . have e:=Zyq hk h0
   rw [e];exact ⟨_,h.lent hday⟩
 . obtain ⟨l,hl,e⟩:=ZwV hk h0
   rw [e];exact ⟨_,h.home hpp.1 hl hday⟩
 . obtain ⟨l,hl,e⟩:=Zyt hk h0
   rw [e];exact ⟨_,(h.home hpp.1 hl hday).kill⟩
 . have hr:0<=x.rials/\x.rials<=10000000:=by simp [Zh,hk,inR] at hx;omega
   obtain ⟨l,hl,e⟩:=Zy3 hk h0
   have hpart:=(Ze5 hr hpp.2).2
   rw [e];exact ⟨_,h.calf (by omega) (by omega)⟩
 . have hr:0<=x.rials/\x.rials<=10000000:=by simp [Zh,hk,inR] at hx;omega
   have e:(Zn p c x).1={ c with debts:=upd c.debts x.who (upd (c.debts x.who) x.other (c.debts x.who x.other+x.rials)) }:=by simp [Zn,hk]
   rw [e];exact ⟨_,h.debt (by omega)⟩
 . have hr:0<=x.rials/\x.rials<=10000000:=by simp [Zh,hk,inR] at hx;omega
   have hd:¬ c.debts x.who x.other < x.rials:=fun q=>by simp [Zn,hk,q] at h0
   have e:(Zn p c x).1={ c with debts:=upd c.debts x.who (upd (c.debts x.who) x.other (c.debts x.who x.other - x.rials)) }:=by simp [Zn,hk,hd]
   rw [e];exact ⟨_,h.debt (by omega)⟩
theorem u53 {args:List SV} {res:SV} (ka:KFL args) (kr:KF res) (h:sx Try.prog Y0 0 c53 (st0 args 57) (Ztd r53 res)) (hA:Nat.ble args.length 57=true:=by rfl):Ct Try.prog 53 args res:=VX Try.func53 rfl b53 Zy8 Zw4 n53 (Nat.le_of_ble_eq_true hA) ka kr h
theorem Zrk {p:Pact} (hp:ZH p=true) (l:List Letter) (hl:∀ x ∈ l,Zh p x=true) (h100:l.length<=1000) (k:Bool) :
 Ct Try.prog 53 [.agg (Zj p),.sl k 8 (l.map Zb)] (.tup [.agg (Zrj p (YX p co0 l)),.sl false 1 ((V3 p co0 l).map u8L)]):=by
 have hA:=WX hp
 have hps:Yr p:=by unfold Yr;omega
 have hpp:(0<=p.hire/\p.hire<=1000)/\(0<=p.calf/\p.calf<=1000):=by
  simp only [ZH,Bool.and_eq_true,inR,decide_eq_true_eq] at hp
  omega
 have hids:(ids p).Nodup:=by
  simp only [ZH,Bool.and_eq_true] at hp
  exact (YD hp.1.1.2).2.1
 have hends:0<=p.ends/\p.ends<=100000:=by
  simp only [ZH,Bool.and_eq_true,inR,decide_eq_true_eq] at hp
  omega
 refine u53 (by simp [Zj,Za,Zb,Zc,KFL,KF]) (by simp [Zrj,anR_k,owS,u8L,ZP,Zc,KFL,KF]) ?_
 dsimp only [c53,r53,Zj,go_sem,rA,rM,rS]
 refine Zp [] (Ztn (p:=p) hps) rfl rfl rfl ?_ ?_ ?_
 . dsimp only [Zj,go_sem,rA,rM,rS]
   simp [Zc,Ze,KFR,KFL,KF,Zd,mtL,mtB,mtS,mtO,VT,nbr,Za]
 . trivial
 rintro _ ⟨v,rfl⟩
 dsimp only [bkH,bkV,go_sem,rA,rM,rS]
 refine gh Yq ?_
 dsimp only [go_sem,rA,rM,rS]
 have hco:∀ j,CoOk p (YX p co0 (l.take j)):=fun j=>CoOk.co0.run fun x hx=>hl x (List.mem_of_mem_take hx)
 refine Zg3 (Y4 (ZbR [1,2,4,5,6,7,8] rfl) (Xv 7 1 5 rfl rfl)) (fun q:Nat × (Int->Int)=>[(8,I q.1),(7,.mr 9 q.1)]) (fun q=>Zue p (YX p co0 (l.take q.1)) q.2 v ++ [(9,.row q.1 1 ((V3 p co0 (l.take q.1)).map u8L) 5)])
  (fun q=>q.1<=l.length/\ZaM (YX p co0 (l.take q.1)) q.2/\∃ b,BkR q.1 (YX p co0 (l.take q.1)) b) (fun q=>l.length - q.1) (0,fun _=>0) ⟨Nat.zero_le _,fun a m h=>by simp [YX,co0] at h,_,BkR.start⟩ ?_ ?_
 . dsimp only [Zue,go_sem,rA,rM,rS]
   (refine Zl ?_ ?_ ?_ rfl rfl<;>dsimp only [Za,Zb,ZP,boL,XX,XB,u8L,YX,V3,id,go_sem,rA,rM,rS]<;>simp [Za,Zb,ZP,boL,XX,XB,u8L,YX,V3,Zc,Ze,KFR,KFL,KF,Zd,mtO,nbr])
 rintro ⟨j,s⟩ ⟨hj,hs,b,hb⟩
 simp only at hj hs hb
 dsimp only [Zue,go_sem,rA,rM,rS]
 simp only [List.length_map]
 by_cases hlt:j < l.length
 . refine ZK (by simpa using hlt) ?_
   dsimp only [go_sem,rA,rM,rS]
   refine ZF j hlt rfl ?_
   dsimp only [Zb,go_sem,rA,rM,rS]
   have hx:=hl l[j] (List.getElem_mem _)
   refine UD (by simp [FLT]) (res:=U8 (Zn p (YX p co0 (l.take j)) l[j]).2) ?_ ?_
   . have hw:=ZxT hps (hco j) (s:=s) hx
     simp only [bkW] at hw
     simp only [ZaU,vw4,vwS,nbr]
     dsimp only [go_sem,rA,rM,rS]
     rw [show Nat.beq v v=true from nbr v,ZqB]
     exact hw
   dsimp only [go_sem,rA,rM,rS]
   simp only [nbr]
   dsimp only [go_sem,rA,rM,rS]
   refine ⟨by simp [Z9,VS,Zdf],by simp [Zce];omega,?_⟩
   dsimp only [go_sem,rA,rM,rS]
   have e1:(V3 p co0 (l.take j)).map u8L ++ [[SV.v (Value.int IntKind.u8 (Zn p (YX p co0 (l.take j)) l[j]).2)]]=(V3 p co0 (l.take (j+1))).map u8L:=by
    rw [Zez hlt,List.map_append];rfl
   rw [e1]
   by_cases h0:(Zn p (YX p co0 (l.take j)) l[j]).2=0
   . refine ZK (by rw [h0];rfl) ?_
     dsimp only [go_sem,rA,rM,rS]
     refine ZF j hlt rfl ?_
     dsimp only [Zb,go_sem,rA,rM,rS]
     refine Zp [2,3,4,5,6,7] (do_ok hps hb (by omega) hpp hids (hco j) hs (v:=v) hx h0) rfl rfl rfl ?_ ?_ ?_
     . dsimp only [rho,bkV,Zj,Zb,go_sem,rA,rM,rS]
       simp [Zc,Ze,KFR,KFL,KF,Zd,mtL,mtB,mtS,mtO,VT,nbr,Za]
     . dsimp only [rho,bkH,go_sem,rA,rM,rS]
       simp [Zc,Ze,KFR,KFL,KF,Zd,mtO,nbr,ZP,boL,XX,XB]
     rintro _ rfl
     dsimp only [bkH,bkV,go_sem,rA,rM,rS]
     rw [<- WF hlt,Zi (n:=(j:Int)+1) (by omega) (by omega)]
     refine ⟨(j+1,ZaZ s l[j]),⟨hlt,by rw [WF hlt];exact ZgH hs hx h0,?_⟩,by simp only;omega,?_⟩
     . rw [WF hlt]
       exact ZtM hb hp hx
     generalize YX p co0 (l.take (j+1))=c1
     generalize ZaZ s l[j]=s1
     dsimp only [Zue,go_sem,rA,rM,rS]
     (refine Zl ?_ ?_ ?_ rfl rfl<;>dsimp only [Za,Zb,ZP,boL,XX,XB,u8L,id,go_sem,rA,rM,rS]<;>simp [Za,Zb,ZP,boL,XX,XB,u8L,Zc,Ze,KFR,KFL,KF,Zd,mtO,nbr])
   . refine Zz (by simpa using h0) ?_
     dsimp only [go_sem,rA,rM,rS]
     have e2:YX p co0 (l.take (j+1))=YX p co0 (l.take j):=by rw [WF hlt,Zcr h0]
     rw [Zi (n:=(j:Int)+1) (by omega) (by omega)]
     refine ⟨(j+1,s),⟨hlt,by rw [e2];exact hs,b,by rw [e2];exact hb.next⟩,by simp only;omega,?_⟩
     simp only [e2]
     generalize YX p co0 (l.take j)=c1
     (refine Zl ?_ ?_ ?_ rfl rfl<;>dsimp only [Za,Zb,ZP,boL,XX,XB,u8L,id,go_sem,rA,rM,rS]<;>simp [Za,Zb,ZP,boL,XX,XB,u8L,Zc,Ze,KFR,KFL,KF,Zd,mtO,nbr])
 refine Zz (by simpa using hlt) ?_
 dsimp only [go_sem,rA,rM,rS]
 have hje:j=l.length:=by omega
 subst hje
 rw [List.take_length] at hs hb ⊢
 have hcf:CoOk p (YX p co0 l):=by have:=hco l.length;rwa [List.take_length] at this
 generalize hcc:YX p co0 l=c at hs hb hcf ⊢
 generalize hwl:(V3 p co0 l).map u8L=W
 refine gh Yq ?_
 dsimp only [go_sem,rA,rM,rS]
 refine Zir [2,4,6,7,10] rfl (fun i:Nat=>[(10,I i)]) (fun i=>Zue p (Vs p c i) s v) (fun i=>i<=10000/\∃ b,BkR (l.length+i) (Vs p c i) b) (fun i=>10000 - i) 0 ⟨Nat.zero_le _,b,hb⟩ ?_ ?_
 . dsimp only [Zue,Vs,go_sem,rA,rM,rS]
   have hWk:KFR W:=by rw [<- hwl];simp [Zc,u8L,KFL,KF]
   (refine Zl ?_ ?_ ?_ rfl rfl<;>dsimp only [Za,Zb,ZP,boL,XX,XB,hWk,id,go_sem,rA,rM,rS]<;>simp [Za,Zb,ZP,boL,XX,XB,hWk,Zc,Ze,KFR,KFL,KF,Zd,mtO,nbr])
 rintro i ⟨hi,bi,hbi⟩
 dsimp only [Zue,go_sem,rA,rM,rS]
 have hlo:=fun a:Int=>Ub (p:=p) (c:=c) (n:=i) (a:=a)
 have hsi:ZaM (Vs p c i) s:=fun a m hm=>by
  rw [hlo] at hm
  split at hm
  . cases hm
  . exact hs a m hm
 have hci:CoOk p (Vs p c i):=⟨fun a m hm=>by
  rw [hlo] at hm
  split at hm
  . cases hm
  . exact hcf.who a m hm,fun a m hm=>by
  rw [hlo] at hm
  split at hm
  . cases hm
  . exact hcf.inb a m hm⟩
 by_cases hlt:i < 10000
 . refine ZK (by simp;omega) ?_
   dsimp only [go_sem,rA,rM,rS]
   simp only [List.length_map,Yg]
   refine Xk i rfl hlt ?_
   dsimp only [go_sem,rA,rM,rS]
   refine V0 (by rw [Yg];exact hlt) ?_
   dsimp only [ZP,go_sem,rA,rM,rS]
   rw [Um hlt,ZjO hci]
   have hli:(Vs p c i).loans i=c.loans i:=by rw [hlo,if_neg (by omega)]
   rw [hli]
   cases hl:c.loans i with
   | none =>
    refine Zz (by simp) ?_
    dsimp only [go_sem,rA,rM,rS]
    have e3:Vs p c (i+1)=Vs p c i:=by simp only [Vs,hl]
    rw [Zi (n:=(i:Int)+1) (by omega) (by omega)]
    refine ⟨i+1,⟨by omega,bi,by rw [e3];exact hbi.next⟩,by omega,?_⟩
    simp only [e3]
    have hWk:KFR W:=by rw [<- hwl];simp [Zc,u8L,KFL,KF]
    (refine Zl ?_ ?_ ?_ rfl rfl<;>dsimp only [Za,Zb,ZP,boL,XX,XB,hWk,id,go_sem,rA,rM,rS]<;>simp [Za,Zb,ZP,boL,XX,XB,hWk,Zc,Ze,KFR,KFL,KF,Zd,mtO,nbr])
   | some m =>
    refine ZK (by simp) ?_
    dsimp only [go_sem,rA,rM,rS]
    have e3:Vs p c (i+1)=ZE p (Vs p c i) i p.ends m:=by simp only [Vs,hl]
    refine Zp [2,3,4,5,6,7] (Zd0 hbi (by omega) hpp.1 hids hsi (v:=v) hlt (l:=m) (by rw [hli];exact hl) (hcf.who _ _ hl) hends) rfl rfl rfl ?_ ?_ ?_
    . dsimp only [rho,bkV,Zj,go_sem,rA,rM,rS]
      simp [Zc,Ze,KFR,KFL,KF,Zd,mtL,mtB,mtS,mtO,VT,nbr,Za]
    . dsimp only [rho,bkH,go_sem,rA,rM,rS]
      simp [Zc,Ze,KFR,KFL,KF,Zd,mtO,nbr,ZP,boL,XX,XB]
    rintro _ rfl
    dsimp only [bkH,bkV,go_sem,rA,rM,rS]
    rw [<- e3,Zi (n:=(i:Int)+1) (by omega) (by omega)]
    refine ⟨i+1,⟨by omega,?_⟩,by omega,?_⟩
    . rw [e3];exact ⟨_,by have:=hbi.home hpp.1 (by rw [hli];exact hl) hends;simpa [Nat.add_assoc] using this⟩
    generalize Vs p c (i+1)=c1
    have hWk:KFR W:=by rw [<- hwl];simp [Zc,u8L,KFL,KF]
    (refine Zl ?_ ?_ ?_ rfl rfl<;>dsimp only [Za,Zb,ZP,boL,XX,XB,hWk,id,go_sem,rA,rM,rS]<;>simp [Za,Zb,ZP,boL,XX,XB,hWk,Zc,Ze,KFR,KFL,KF,Zd,mtO,nbr])
 refine Zz (by simp;omega) ?_
 dsimp only [go_sem,rA,rM,rS]
 rw [show i=10000 from by omega]
 refine gh (Zm3 8 6 7 rfl rfl rfl rfl) ?_
 rw [ZqB]
 dsimp only [go_sem,rA,rM,rS]
 have hr1:(Vs p c 10000).result=ZaW p c:=ZbI
 have hr2:pp p (Vs p c 10000).extra=pp p (ZaS p c):=by simp only [pp,UV];rfl
 have hr3:(Vs p c 10000).debts=c.debts:=Ug
 rw [hr1,hr2,hr3]
 simp only [nbr]
 dsimp only [go_sem,rA,rM,rS]
 refine ⟨_,rfl,?_⟩
 have hi1:∀ f:Int->Int,ZaT (.sl false 1 ((rg 10000 f).map ZP)) anR:=fun f=>ZcD (by rw [List.length_map,Yg]) fun r hr=>by obtain ⟨_,_,rfl⟩:=List.mem_map.1 hr;rfl
 have hb1:∀ f:Int->Bool,ZaT (.sl false 1 ((rg 10000 f).map boL)) anR:=fun f=>ZcD (by rw [List.length_map,Yg]) fun r hr=>by obtain ⟨_,_,rfl⟩:=List.mem_map.1 hr;rfl
 exact ZbQ (Y5 (Zne (Y5 (hi1 _) (Y5 (hi1 _) (Y5 (hb1 _) (Y5 (hb1 _) Zq7))))) Zq7)
theorem u52 {args:List SV} {res:SV} (ka:KFL args) (kr:KF res) (h:sx Try.prog Y0 0 c52 (st0 args 117) (Ztd r52 res)) (hA:Nat.ble args.length 117=true:=by rfl):Ct Try.prog 52 args res:=VX Try.func52 rfl b52 Zyb Zxt n52 (Nat.le_of_ble_eq_true hA) ka kr h
theorem Zfc (p:Pact) (l:List Letter) (h100:l.length<=1000) (k:Bool) :
 Ct Try.prog 52 [.agg (Zj p),.sl k 8 (l.map Zb)] (.sl false 8 ((Yn p l).map Zb)):=by
 refine u52 (by simp [Zj,Za,Zb,Zc,KFL,KF]) (by simp [Zb,Zc,KFL,KF]) ?_
 dsimp only [c52,r52,Zj,go_sem,rA,rM,rS]
 have hlk:∀ Q:List Letter,KFR (Q.map Zb):=fun Q=>by simp [Zc,Zb,KFL,KF]
 refine Zg3 (Y4 (ZbR [1,2,5,6] rfl) (Xv 5 8 50 rfl rfl)) (fun q:Nat × List Letter=>[(6,I q.1),(5,.mr 1 q.2.length),(7,.any),(8,.any),(9,.any)]) (fun q=>[(1,.row q.2.length 8 (q.2.map Zb) 50)]) (fun q=>q.1<=l.length/\RdI p.ends l q.1 q.2) (fun q=>l.length - q.1) (0,[]) ⟨Nat.zero_le _,RdI.start⟩ ?_ ?_
 . (refine Zl ?_ ?_ ?_ rfl rfl<;>dsimp only [Za,Zb,id,go_sem,rA,rM,rS]<;>simp [Za,Zb,Zc,Ze,KFR,KFL,KF,Zd,mtO,nbr])
 rintro ⟨i,Q⟩ ⟨hi,hQ⟩
 simp only at hi hQ
 dsimp only [go_sem,rA,rM,rS]
 simp only [List.length_map]
 have hQl:=hQ.len
 by_cases hlt:i < l.length
 case neg =>
  refine Zz (by simpa using hlt) ?_
  dsimp only [go_sem,rA,rM,rS]
  refine gh Yq ?_
  dsimp only [go_sem,rA,rM,rS]
  simp only [nbr]
  dsimp only [go_sem,rA,rM,rS]
  have e:i=l.length:=by omega
  subst e
  rw [hQ.fin]
  exact ⟨_,rfl,ZaT.rfl⟩
 refine ZK (by simpa using hlt) ?_
 dsimp only [go_sem,rA,rM,rS]
 refine ZF i hlt rfl ?_
 dsimp only [Zb,go_sem,rA,rM,rS]
 refine YY (fun k:Nat=>[(8,I k),(7,B (Xw p.ends (l.take k) l[i]))]) (fun _=>[]) (fun k=>k<=i) (fun k=>i - k) 0 (Nat.zero_le _) ?_ ?_
 . (refine Zl ?_ ?_ ?_ rfl rfl<;>dsimp only [Za,Zb,Xw,List.take_zero,List.any_nil,Bool.or_false,id,go_sem,rA,rM,rS]<;>simp [Za,Zb,Xw,List.take_zero,List.any_nil,Bool.or_false,Zc,Ze,KFR,KFL,KF,Zd,mtO,nbr])
 intro k hk
 dsimp only [go_sem,rA,rM,rS]
 by_cases hki:k < i
 . refine ZK (by simpa using hki) ?_
   dsimp only [go_sem,rA,rM,rS]
   have hkl:k < l.length:=by omega
   have ht:Xw p.ends (l.take (k+1)) l[i]=(Xw p.ends (l.take k) l[i] || decide (l[k].id=l[i].id)):=by
    rw [List.take_succ_eq_append_getElem hkl]
    simp only [Xw,List.any_append,List.any_cons,List.any_nil,Bool.or_false,Bool.or_assoc]
   cases hb:Xw p.ends (l.take k) l[i] with
   | true =>
    iterate 11 (refine ZdR (by decide) ?_;dsimp only [go_sem,rA,rM,rS])
    rw [Zi (n:=(k:Int)+1) (by omega) (by omega)]
    refine ⟨k+1,hki,by omega,?_⟩
    rw [hb,Bool.true_or] at ht
    rw [ht]
    (refine Zl ?_ ?_ ?_ rfl rfl<;>dsimp only [Za,Zb,id,go_sem,rA,rM,rS]<;>simp [Za,Zb,Zc,Ze,KFR,KFL,KF,Zd,mtO,nbr])
   | false =>
    refine Yz rfl ?_
    dsimp only [go_sem,rA,rM,rS]
    refine Yz rfl ?_
    dsimp only [go_sem,rA,rM,rS]
    refine Yz rfl ?_
    dsimp only [go_sem,rA,rM,rS]
    refine ZF k hkl rfl ?_
    dsimp only [Zb,go_sem,rA,rM,rS]
    iterate 2 (refine Yz rfl ?_;dsimp only [go_sem,rA,rM,rS])
    iterate 2 (refine Yz rfl ?_;dsimp only [go_sem,rA,rM,rS])
    refine Yz rfl ?_
    dsimp only [go_sem,rA,rM,rS]
    refine ZF i hlt rfl ?_
    dsimp only [Zb,go_sem,rA,rM,rS]
    iterate 3 (refine Yz rfl ?_;dsimp only [go_sem,rA,rM,rS])
    rw [hb,Bool.false_or] at ht
    rw [Zi (n:=(k:Int)+1) (by omega) (by omega)]
    have he:(l[k].id == l[i].id)=Xw p.ends (l.take (k+1)) l[i]:=by rw [ht];exact Bool.beq_eq_decide_eq _ _
    refine ⟨k+1,hki,by omega,?_⟩
    rw [<- he]
    (refine Zl ?_ ?_ ?_ rfl rfl<;>dsimp only [Za,Zb,id,go_sem,rA,rM,rS]<;>simp [Za,Zb,Zc,Ze,KFR,KFL,KF,Zd,mtO,nbr])
 refine Zz (by simpa using hki) ?_
 dsimp only [go_sem,rA,rM,rS]
 have hke:k=i:=by omega
 subst hke
 refine gh Yq ?_
 dsimp only [go_sem,rA,rM,rS]
 cases htw:Xw p.ends (l.take k) l[k] with
 | true =>
  refine ZK rfl ?_
  dsimp only [go_sem,rA,rM,rS]
  refine gh Yq ?_
  dsimp only [go_sem,rA,rM,rS]
  rw [Zi (n:=(k:Int)+1) (by omega) (by omega)]
  refine ⟨(k+1,Q),⟨hlt,hQ.skip hlt htw⟩,by simp only;omega,?_⟩
  (refine Zl ?_ ?_ ?_ rfl rfl<;>dsimp only [Za,Zb,id,go_sem,rA,rM,rS]<;>simp [Za,Zb,Zc,Ze,KFR,KFL,KF,Zd,mtO,nbr])
 | false =>
 refine Zz rfl ?_
 dsimp only [go_sem,rA,rM,rS]
 refine ZF k hlt rfl ?_
 dsimp only [Zb,go_sem,rA,rM,rS]
 simp only [nbr]
 dsimp only [go_sem,rA,rM,rS]
 refine ⟨by simp [Z9,VS,Zdf],by simp;omega,?_⟩
 dsimp only [go_sem,rA,rM,rS]
 simp only [nbr]
 dsimp only [go_sem,rA,rM,rS]
 have e1:Q.map Zb ++ [[I l[k].id,I l[k].day,U8 l[k].kind,I l[k].who,I l[k].other,I l[k].animal,I l[k].rials,B l[k].mouth]]=(Q ++ [l[k]]).map Zb:=by simp [Zb]
 rw [e1]
 simp only [List.length_map,List.length_append,List.length_cons,List.length_nil]
 rw [Zi (n:=((Q.length+(0+1):Nat):Int) - 1) (by omega) (by omega)]
 have hids:=hQ.ids hlt htw
 refine Zir [1,2,5,6,9] rfl (fun q:Nat × List Letter=>[(9,I q.1)]) (fun q=>[(1,.row (Q.length+1) 8 (q.2.map Zb) 50)]) (fun q=>RdS Q l[k] q.1 q.2) (fun q=>q.1) (Q.length,Q ++ [l[k]]) RdS.start ?_ ?_
 . rw [show ((Q.length+(0+1):Nat):Int) - 1=(Q.length:Int) from by omega]
   (refine Zl ?_ ?_ ?_ rfl rfl<;>dsimp only [Za,Zb,id,go_sem,rA,rM,rS]<;>simp [Za,Zb,Zc,Ze,KFR,KFL,KF,Zd,mtO,nbr])
 rintro ⟨j,R⟩ hR
 simp only at hR
 have hRl:=hR.len
 dsimp only [go_sem,rA,rM,rS]
 by_cases hj0:j=0
 . have g:decide ((j:Int) > 0)=false:=by simp;omega
   simp only [g]
   repeat (first | (refine gb ?_;dsimp only [go_sem,rA,rM,rS]) | (simp only [nbr];dsimp only [go_sem,rA,rM,rS]) | (refine ZiC 0 rfl (fun h=>by cases h) ?_;dsimp only [go_sem,rA,rM,rS]) | (refine ⟨0,fun hg=>by have h1:=(Zcd hg rfl).1;have h3:=Zts h1 rfl;exact absurd h3 (by decide),?_⟩;dsimp only [go_sem,rA,rM,rS]) | (refine ⟨0,fun hg=>by have h1:=(Zcd hg rfl).1;have h2:=(Zcd h1 rfl).1;have h3:=Zts h2 rfl;exact absurd h3 (by decide),?_⟩;dsimp only [go_sem,rA,rM,rS]) | (refine V0 (by omega) ?_;dsimp only [Zb,go_sem,rA,rM,rS]))
   refine Zz rfl ?_
   dsimp only [go_sem,rA,rM,rS]
   refine gh Yq ?_
   dsimp only [go_sem,rA,rM,rS]
   rw [Zi (n:=(k:Int)+1) (by omega) (by omega)]
   refine ⟨(k+1,R),⟨hlt,hQ.put hlt htw hR (by omega) (.inl hj0)⟩,by simp only;omega,?_⟩
   simp only [hRl.1]
   (refine Zl ?_ ?_ ?_ rfl rfl<;>dsimp only [Za,Zb,id,go_sem,rA,rM,rS]<;>simp [Za,Zb,Zc,Ze,KFR,KFL,KF,Zd,mtO,nbr])
 obtain ⟨j1,rfl⟩:∃ j1,j=j1+1:=⟨j - 1,by omega⟩
 have hj2:j1+1 < R.length:=by omega
 have hw:IntKind.i64.wrap (((j1+1:Nat):Int) - 1)=((j1:Nat):Int):=by rw [Zi (by omega) (by omega)];omega
 have hat:=hR.at hj2
 have g:decide (((j1+1:Nat):Int) > 0)=true:=by simp
 simp only [g]
 repeat (first | (refine gb ?_;dsimp only [go_sem,rA,rM,rS]) | (simp only [nbr];dsimp only [go_sem,rA,rM,rS]) | (refine Xk (j1+1) rfl (by rw [List.length_map];exact hj2) ?_;dsimp only [go_sem,rA,rM,rS]) | (refine Xk j1 hw (by rw [List.length_map];omega) ?_;dsimp only [go_sem,rA,rM,rS]) | (refine V0 (by omega) ?_;dsimp only [Zb,go_sem,rA,rM,rS]))
 have hc:(true && (decide ((R[j1+1]'hj2).day < (R[j1]'(by omega)).day) || (R[j1+1]'hj2).day == (R[j1]'(by omega)).day && decide ((R[j1+1]'hj2).id < (R[j1]'(by omega)).id)))=lt2 l[k] (R[j1]'(by omega)):=by
  rw [hat,Bool.true_and,lt2,Bool.beq_eq_decide_eq]
 rw [hc]
 by_cases hl:lt2 l[k] (R[j1]'(by omega))=true
 case neg =>
  refine Zz (by simpa using hl) ?_
  dsimp only [go_sem,rA,rM,rS]
  refine gh Yq ?_
  dsimp only [go_sem,rA,rM,rS]
  rw [Zi (n:=(k:Int)+1) (by omega) (by omega)]
  have hput:=hQ.put hlt htw hR (by omega) (.inr ⟨(show j1+1 - 1 < R.length by omega),by omega,by simpa using hl⟩)
  refine ⟨(k+1,R),⟨hlt,hput⟩,by simp only;omega,?_⟩
  simp only [hRl.1]
  (refine Zl ?_ ?_ ?_ rfl rfl<;>dsimp only [Za,Zb,id,go_sem,rA,rM,rS]<;>simp [Za,Zb,Zc,Ze,KFR,KFL,KF,Zd,mtO,nbr])
 refine ZK hl ?_
 dsimp only [go_sem,rA,rM,rS]
 repeat (first | (simp only [nbr];dsimp only [go_sem,rA,rM,rS]) | (refine Xk (j1+1) rfl (by rw [List.length_map];exact hj2) ?_;dsimp only [go_sem,rA,rM,rS]) | (refine Xk j1 hw (by rw [List.length_map];omega) ?_;dsimp only [go_sem,rA,rM,rS]) | (refine V0 (by omega) ?_;dsimp only [Zb,go_sem,rA,rM,rS]))
 refine ZbE (R[j1]'(by omega)) hj2 (by simp [Zb]) (by simp [Zb,Zo]) ?_
 dsimp only [go_sem,rA,rM,rS]
 repeat (first | (simp only [nbr];dsimp only [go_sem,rA,rM,rS]) | (refine Xk j1 hw (by rw [List.length_map,List.length_set];omega) ?_;dsimp only [go_sem,rA,rM,rS]))
 refine ZbE (R[j1+1]'hj2) (by rw [List.length_set];omega) (by simp [Zb]) (by simp [Zb,Zo]) ?_
 dsimp only [go_sem,rA,rM,rS]
 rw [hw,hat]
 refine ⟨(j1,(R.set (j1+1) (R[j1]'(by omega))).set j1 l[k]),hR.swap hj2 hl,by simp only;omega,?_⟩
 generalize (R.set (j1+1) (R[j1]'(by omega))).set j1 l[k]=R2
 (refine Zl ?_ ?_ ?_ rfl rfl<;>dsimp only [Za,Zb,id,go_sem,rA,rM,rS]<;>simp [Za,Zb,Zc,Ze,KFR,KFL,KF,Zd,mtO,nbr])
end Go.Proofs.Ythilckbkffjliaa
namespace Go.Sx
open Go Go.RowKit
section
variable {P:Program} {C:Cx} {E:Env} {σ : St} {a:Act} {w:World} {n:Nat->Prop} {hp:List (Nat × HB)} {r:KT} {K:RK}
end
end Go.Sx
namespace Go.Proofs.Ythilckbkffjliaa
open Go Go.Sx
open Go.Azalai
end Go.Proofs.Ythilckbkffjliaa
namespace Go.Azalai
theorem Zmw {p:Pact} {c d:Co} (h:c.debts=d.debts) (id:Int):VR p c id=VR p d id:=by simp only [VR,h]
theorem Zun {p:Pact} {c d:Co} (h1:ZaW p c=ZaW p d) (h2:∀ w,ZaS p c w=ZaS p d w) (h3:c.debts=d.debts):Zf6 p c=Zf6 p d:=by
 simp only [Zf6,h1,h2,Zmw h3]
def Zy1 (p:Pact) (c:Co) (a:Int):Co:=match c.loans a with
 | none=>c
 | some l=>ZE p c a p.ends l
theorem Zie {p:Pact} {c:Co} {a:Int} (h0:0<=a) (h1:a<=9999):Zf6 p (Zy1 p c a)=Zf6 p c:=by
 unfold Zy1
 split
 . rfl
 . rename_i l hl
   exact Zun (Zcn hl h0 h1) (Zcp hl h0 h1) rfl
def hasN (p:Pact) (c:Co):List Int :=
 (List.range p.partners.length).map fun i=>Zvz (fun x=>x.put+(Xb p c.result).getD i 0+c.extra x.id+VR p c x.id) p.partners[i]?
theorem ZhW {p:Pact} {c:Co} (h:∀ a,c.loans a=none):Zf6 p c=hasN p c:=by
 simp only [Zf6,hasN,Zct h,Zc7 h]
theorem ZcH {p:Pact} {a:Int}:∀ {l:List Letter} {c:Co},(∀ b,b≠a->c.loans b=none)->(∀ x ∈ l,x.kind=3->x.animal=a)->∀ b,b≠a->(YX p c l).loans b=none
 | [],c,h,_,b,hb=>h b hb
 | x :: l,c,h,hl,b,hb=>by
  refine ZcH (l:=l) (c:=(Zn p c x).1) (fun b hb=>?_) (fun y hy=>hl y (by simp [hy])) b hb
  have h0:=h b hb
  have h3:=hl x (by simp)
  unfold Zn
  repeat' split
  all_goals first | exact h0 | (simp only [upd,ZE];split<;>first | rfl | exact h0 | (rename_i q;exact absurd (q.trans (h3 (by assumption))) hb))
theorem WS {p:Pact} {l:List Letter} {a:Int} (h0:0<=a) (h1:a<=9999) (hl:∀ x ∈ l,x.kind=3->x.animal=a):Xz p l=hasN p (Zy1 p (YX p co0 l) a):=by
 rw [Xz,<- Zie h0 h1]
 refine ZhW fun b=>?_
 have ho:=ZcH (p:=p) (c:=co0) (fun _ _=>rfl) hl
 by_cases e:b=a
 . subst e
   unfold Zy1
   split
   . assumption
   . simp [ZE,upd]
 . have:=ho b e
   unfold Zy1
   split
   . exact this
   . simp only [ZE,upd,if_neg e];exact this
end Go.Azalai
namespace Go.Proofs.Ythilckbkffjliaa
open Go Go.Sx Go.Azalai
theorem v1:Xb WY 1001=[501,200,300]:=by decide +kernel
theorem v2:Xb WY (-100)=[-67,-33,0]:=by decide +kernel
theorem e3:Z2 WY WJ=0:=by decide +kernel
theorem e4:Z2 WY (WJ ++ ZqX)=0:=by decide +kernel
theorem e5:Z2 WY (WJ ++ [ZqM])=0:=by decide +kernel
theorem e6:Z2 WY Xn=0:=by decide +kernel
theorem v3:ZbU WY WJ=[951,440,310]:=by
 rw [ZbU,if_pos e3,WS (a:=7) (by decide) (by decide) (by decide +kernel)];decide +kernel
theorem v4:ZbU WY (WJ ++ ZqX)=[941,450,310]:=by
 rw [ZbU,if_pos e4,WS (a:=7) (by decide) (by decide) (by decide +kernel)];decide +kernel
theorem v5:Za1 WY (WJ ++ [ZqM])=[0,0,4,0,0,0]:=by
 rw [Za1,if_pos e5];decide +kernel
theorem v60:Xz WY (ZfO 0 0 Xn)=[881,412,408]:=by
 rw [WS (a:=7) (by decide) (by decide) (by decide +kernel)];decide +kernel
theorem v61:Xz WY (ZfO 1 0 Xn)=[951,440,310]:=by
 rw [WS (a:=7) (by decide) (by decide) (by decide +kernel)];decide +kernel
theorem rd6:Yn WY Xn=Xn:=by decide +kernel
theorem v6:Zb7 WY Xn=0/\Zh9 WY Xn=[(881,951),(412,440),(310,408)]:=by
 have h0:Zb7 WY Xn=0:=by rw [Zb7,if_pos e6,rd6];decide +kernel
 refine ⟨h0,?_⟩
 rw [Zh9,if_pos h0,rd6]
 have hm:(Xn.filter (·.mouth)).length=1:=by decide +kernel
 simp only [Zg0,hm]
 rw [show List.range WY.partners.length=[0,1,2] from by decide]
 simp only [List.map_cons,List.map_nil,show 2 ^ 1 - 1=1 from rfl,minF,maxF,ZdE,v60,v61]
 decide
end Go.Proofs.Ythilckbkffjliaa
namespace Go.Azalai
structure Bd (n:Nat) (c:Co):Prop where
 rb:-(n * 100000000:Int)<=c.result/\c.result<=n * 100000000
 eb:∀ i,-(n * 100000000:Int)<=c.extra i/\c.extra i<=n * 100000000
 bb:∀ x y,-(n * 100000000:Int)<=c.debts x y/\c.debts x y<=n * 100000000
 sb:∀ a l,c.loans a=some l->0<=l.2/\l.2<=100000
theorem Bd.co0:Bd 0 co0:=⟨by simp [Go.Azalai.co0],fun i=>by simp [Go.Azalai.co0],fun x y=>by simp [Go.Azalai.co0],fun a l h=>by simp [Go.Azalai.co0] at h⟩
theorem Bd.next {n:Nat} {c:Co} (h:Bd n c):Bd (n+1) c:=⟨by have:=h.rb;omega,fun i=>by have:=h.eb i;omega,fun x y=>by have:=h.bb x y;omega,h.sb⟩
theorem Bd.home {p:Pact} {n:Nat} {c:Co} (h:Bd n c) (hp:0<=p.hire/\p.hire<=1000) {a d:Int} {l:Int × Int} (hl:c.loans a=some l) (hd:0<=d/\d<=100000):Bd (n+1) (ZE p c a d l):=by
 have hs:=h.sb a l hl
 have hb:=ZbP (h:=p.hire) (t:=d - l.2) hp.1 hp.2 (by omega) (by omega)
 refine ⟨?_,fun i=>?_,fun x y=>?_,fun i m hi=>?_⟩
 . have:=h.rb
   simp only [ZE];omega
 . have h1:=h.eb i
   have h2:=h.eb l.1
   simp only [ZE,upd]
   split<;>omega
 . have:=h.bb x y
   simp only [ZE];omega
 . simp only [ZE,upd] at hi
   split at hi
   . cases hi
   . exact h.sb i m hi
theorem Bd.deb {n:Nat} {c:Co} (h:Bd n c) {who other v:Int} (hv:-100000000<=v - c.debts who other/\v - c.debts who other<=100000000):Bd (n+1) { c with debts:=upd c.debts who (upd (c.debts who) other v) }:=by
 refine ⟨by have:=h.rb;simp only;omega,fun i=>by have:=h.eb i;simp only;omega,fun x y=>?_,h.sb⟩
 have h1:=h.bb x y
 have h2:=h.bb who other
 simp only [upd]
 by_cases hx:x=who
 . subst hx
   rw [if_pos rfl]
   simp only [upd]
   split
   . rename_i q;subst q;omega
   . omega
 . rw [if_neg hx];omega
theorem Bd.step {p:Pact} {n:Nat} {c:Co} (h:Bd n c) (hp:ZH p=true) {x:Letter} (hx:Zh p x=true):Bd (n+1) (Zn p c x).1:=by
 have hpp:(0<=p.hire/\p.hire<=1000)/\(0<=p.calf/\p.calf<=1000):=by
  simp only [ZH,Bool.and_eq_true,inR,decide_eq_true_eq] at hp
  omega
 have hday:0<=x.day/\x.day<=100000:=by
  simp only [Zh,Bool.and_eq_true,inR,decide_eq_true_eq] at hx
  exact hx.1.2
 have hrb:=h.rb
 unfold Zn
 split
 . rename_i k
   have hr:0<=x.rials/\x.rials<=10000000:=by simp only [Zh,k,Bool.and_eq_true] at hx;simp [inR] at hx;omega
   exact ⟨by simp only;omega,h.next.eb,h.next.bb,h.sb⟩
 split
 . rename_i k
   have hr:0<=x.rials/\x.rials<=10000000:=by simp only [Zh,k,Bool.and_eq_true] at hx;simp [inR] at hx;omega
   exact ⟨by simp only;omega,h.next.eb,h.next.bb,h.sb⟩
 split
 . split
   . exact h.next
   split
   . exact h.next
   . refine ⟨h.next.rb,h.next.eb,h.next.bb,fun a l hl=>?_⟩
     simp only [upd] at hl
     split at hl
     . cases hl;exact hday
     . exact h.sb a l hl
 split
 . split
   . exact h.next
   . rename_i l hl;exact h.home hpp.1 hl hday
 split
 . split
   . exact h.next
   split
   . exact h.next
   . rename_i l hl
     have:=h.home hpp.1 hl hday
     exact ⟨this.rb,this.eb,this.bb,this.sb⟩
 split
 . rename_i k
   have hr:0<=x.rials/\x.rials<=10000000:=by simp only [Zh,k,Bool.and_eq_true] at hx;simp [inR] at hx;omega
   split
   . exact h.next
   split
   . exact h.next
   . rename_i l hl
     have hb:=Go.Proofs.Ythilckbkffjliaa.part_bd hr.1 hr.2 hpp.2.1 hpp.2.2
     refine ⟨by simp only;omega,fun i=>?_,h.next.bb,h.sb⟩
     have h1:=h.eb i
     have h2:=h.eb l.1
     simp only [upd]
     split<;>omega
 split
 . rename_i k
   have hr:0<=x.rials/\x.rials<=10000000:=by simp only [Zh,k,Bool.and_eq_true] at hx;simp [inR] at hx;omega
   exact h.deb (by omega)
 split
 . rename_i k
   have hr:0<=x.rials/\x.rials<=10000000:=by simp only [Zh,k,Bool.and_eq_true] at hx;simp [inR] at hx;omega
   split
   . exact h.next
   . exact h.deb (by omega)
 . exact h.next
theorem Bd.run {p:Pact} (hp:ZH p=true):∀ {l:List Letter} {n:Nat} {c:Co},Bd n c->(∀ x ∈ l,Zh p x=true)->Bd (n+l.length) (YX p c l)
 | [],_,_,h,_=>h
 | x :: l,n,c,h,hl=>by
  have:=Bd.run (l:=l) hp (h.step hp (hl x (by simp))) fun y hy=>hl y (by simp [hy])
  rw [List.length_cons,show n+(l.length+1)=n+1+l.length from by omega]
  exact this
end Go.Azalai
namespace Go.Proofs.Ythilckbkffjliaa
open Go Go.Sx
def c3:SC:=(sr1 [
 o1 2 (.box (.t 0) 0 24),
 o1 4 (.mv (.c (.bool false)))]
 (.seq (sr1 [
 o1 10 (lt 2 4),
 o1 11 (.call 16 [.t 10,.c (.slice none 0 0)])]
 (.cond (.t 11)
 (sr1 [
  o1 4 (.mv (.c (.bool true)))]
  .ret)
 .skip))
 (sr1 [
 o1 12 (lt 2 4),
 o1 13 (.call 17 [.t 12]),
 o1 5 (.alloc [.slice none 0 0,.int .i64 0,.int .i64 0,.int .i64 0] 24),
 ⟨none,.st (.t 5) (.t 13) 4,none,[]⟩]
 (sr1 [
 o1 15 (lt 5 4),
 m1 16 1,
 o1 17 (.call 18 [.t 15,.t 16]),
 m1 14 17,
 o1 18 (.ext (.t 14) 0),
 o1 19 (.ext (.t 14) 1),
 m1 6 18,
 m1 7 19]
 (sr1 [
 o1 21 (lt 2 4),
 m1 22 1,
 o1 23 (.call 19 [.t 21,.t 22]),
 m1 20 23,
 o1 24 (.ext (.t 20) 0),
 o1 25 (.ext (.t 20) 1),
 m1 8 24,
 m1 9 25]
 (.seq (.regd [0,1,2,3,4,5,6,7,8,9,10,11,12,13,14,15,16,17,18,19,20] [
 .op (o1 26 (lt 5 4)),
 .op (p1 27 (.call 20 [.t 26]) [0]),
 .op (o1 28 (lt 2 4)),
 .op (p1 29 (.call 21 [.t 28]) [1,2]),
 .op (p1 30 (.bin .eql (.t 27) (.t 29)) [1,3]),
 .op (p1 31 (.mv (.t 30)) [3,4]),
 .op (q1 32 31 true (.mv (.t 6)) [5]),
 .op (q1 33 31 true (.mv (.t 8)) [5]),
 .op (q1 34 31 true (.call 22 [.t 32,.t 33]) [5,6,7]),
 .op (p1 35 (.pick (.t 31) (.t 34) (.c (.bool false))) [5,8]),
 .op (p1 36 (.mv (.t 35)) [8,9]),
 .op (q1 37 36 true (.mv (.t 7)) [10]),
 .op (q1 38 36 true (.mv (.t 9)) [10]),
 .op (q1 39 36 true (.bin .eql (.t 37) (.t 38)) [10,11,12]),
 .op (p1 40 (.pick (.t 36) (.t 39) (.c (.bool false))) [10,13]),
 .op (p1 41 (.mv (.t 40)) [10,14]),
 .op (q1 42 41 true (lt 5 4) [15]),
 .op (q1 43 41 true (lt 2 4) [15]),
 .op (q1 44 41 true (.call 23 [.t 42,.t 43]) [15,16,17]),
 .op (p1 45 (.pick (.t 41) (.t 44) (.c (.bool false))) [15,18]),
 .op (p1 4 (.mv (.t 45)) [0,1,2,3,4,5,6,7,8,9,10,11,12,13,14,15,16,17,18,19])] 0 0 [
])
 .ret))))))
def r3:List RV:=[.tmp 4]
theorem b3:ZW Try.prog 3=true:=by kernel_rfl
theorem t3:Qt1 Try.prog 3 c3 r3 46:=X4 Try.func3 rfl b3 (by kernel_rfl) (by kernel_rfl) (by kernel_rfl)
def c17:SC:=(sr1 [
 o1 1 (.box (.t 0) 0 24),
 o1 2 (.alloc [.slice none 0 0,.int .i64 0,.int .i64 0,.int .i64 0] 24)]
 (sr1 [
 o1 3 (.bsl 3 64 []),
 o1 4 (ao 1 0),
 o1 5 (lf 4 1),
 o1 6 (.app 3 24 64 (.t 3) (.t 5)),
 o1 7 (ao 1 0),
 ⟨none,.st (.t 7) (.t 6) 1,none,[]⟩]
 (sr1 [
 o1 8 (lt 1 4),
 ⟨none,.st (.t 2) (.t 8) 4,none,[]⟩]
 .ret)))
def r17:List RV:=[.cell 2 4 true]
theorem t17:Qt1 Try.prog 17 c17 r17 9:=X4 Try.func17 rfl (by kernel_rfl) (by kernel_rfl) (by kernel_rfl) (by kernel_rfl)
def c23:SC:=(sr1 [
 o1 2 (.box (.t 0) 0 24),
 o1 3 (.box (.t 1) 0 24),
 o1 4 (.mv (.c (.bool false)))]
 (.seq (sr1 [
 o1 6 (ao 2 1),
 o1 7 (lf 6 1),
 o1 8 (ao 3 1),
 o1 9 (lf 8 1),
 o1 10 (.bin .neq (.t 7) (.t 9)),
 m1 11 10,
 g1 12 11 false (ao 2 2),
 g1 13 11 false (lf 12 1),
 g1 14 11 false (ao 3 2),
 g1 15 11 false (lf 14 1),
 g1 16 11 false (.bin .neq (.t 13) (.t 15)),
 o1 17 (.pick (.t 11) (.c (.bool true)) (.t 16)),
 m1 18 17,
 g1 19 18 false (ao 2 3),
 g1 20 18 false (lf 19 1),
 g1 21 18 false (ao 3 3),
 g1 22 18 false (lf 21 1),
 g1 23 18 false (.bin .neq (.t 20) (.t 22)),
 o1 24 (.pick (.t 18) (.c (.bool true)) (.t 23)),
 m1 25 24,
 g1 26 25 false (ao 2 0),
 g1 27 25 false (lf 26 1),
 g1 28 25 false (.len (.t 27)),
 g1 29 25 false (ao 3 0),
 g1 30 25 false (lf 29 1),
 g1 31 25 false (.len (.t 30)),
 g1 32 25 false (.bin .neq (.t 28) (.t 31)),
 o1 33 (.pick (.t 25) (.c (.bool true)) (.t 32))]
 (.cond (.t 33)
 (sr1 [
  o1 4 (.mv (.c (.bool false)))]
  .ret)
 .skip))
 (.seq (sr1 [
 o1 5 (.mv (cn 0))]
 (.block 0 (.loop (.seq (sr1 [
  m1 34 5,
  o1 35 (ao 2 0),
  o1 36 (lf 35 1),
  o1 37 (.len (.t 36)),
  o1 38 (.bin .lss (.t 34) (.t 37))]
  (.cond (.t 38)
  .skip
  (.exit 0)))
  (.seq (.block 1 (.seq (.regd [0,1,2,3,4,5,6,7,8,9,10] [
   .op (o1 41 (ao 2 0)),
   .op (p1 42 (lf 41 1) [0]),
   .op (m1 43 5),
   .op (p1 44 (.ixs (.t 42) (.t 43) 3) [1,2]),
   .op (p1 45 (lt 44 3) [3]),
   .op (o1 46 (ao 3 0)),
   .op (p1 47 (lf 46 1) [5]),
   .op (m1 48 5),
   .op (p1 49 (.ixs (.t 47) (.t 48) 3) [6,7]),
   .op (p1 50 (lt 49 3) [8]),
   .op (p1 51 (.eqs true true [1,1,1] (.t 45) (.t 50)) [4,9])] 0 0 [
])
 (.cond (.t 51)
 (sr1 [
  o1 4 (.mv (.c (.bool false)))]
  .ret)
 .skip)))
 (.reg [
 m1 39 5,
 o1 40 (.bin .add (.t 39) (cn 1)),
 m1 5 40]))))))
 (sr1 [
 o1 4 (.mv (.c (.bool true)))]
 .ret))))
def r23:List RV:=[.tmp 4]
theorem t23:Qt1 Try.prog 23 c23 r23 52:=X4 Try.func23 rfl (by kernel_rfl) (by kernel_rfl) (by kernel_rfl) (by kernel_rfl)
end Go.Proofs.Ythilckbkffjliaa
namespace Go.Azalai
end Go.Azalai
namespace Go.Proofs.Ythilckbkffjliaa
open Go Go.Sx Go.Azalai
theorem Zab {n:Nat} {x:Int}:KFR (List.replicate n [SV.v (Value.int .i64 x)]):=by
 induction n with
 | zero=>simp [KFR]
 | succ n ih=>simp [List.replicate_succ,KFR,KFL,KF,ih]
end Go.Proofs.Ythilckbkffjliaa
namespace Go.Azalai
open Go.Sx
end Go.Azalai
namespace Go.Proofs.Ythilckbkffjliaa
open Go Go.Sx Go.Azalai
def cj67:SC:=(sr1 [
 o1 3 (.box (.t 1) 0 140),
 o1 4 (.mv (.c (.slice none 0 0)))]
 (sr1 [
 m1 5 0,
 o1 6 (.callm 86 [.t 5]),
 m1 0 6]
 (.gh (sr1 [
 m1 7 0,
 o1 8 (.mkf 88 [.t 3]),
 o1 9 (.callm 87 [.t 7,.t 8])]
 (.gh (sr1 [
 m1 10 0,
 m1 4 10]
 .ret))))))
def rj67:List RV:=[.tmp 4]
theorem nj67:Try.f67.ntmps=11:=by kernel_rfl
theorem bj67:ZW Try.prog 67=true:=by kernel_rfl
theorem Zu0:Yx Try.prog cj67 ((Try.f67.body).getD .skip)=true:=by kernel_rfl
theorem ZvQ:YQ Try.prog rj67 Try.f67.results.toList=true:=by kernel_rfl
theorem mj67 {n0:Nat} {hp0:List (Nat × HB)} {args:List SV} {Zs:Ot->Prop} (hh:hpb n0 hp0) (hx:∀ o,Zs o->KX o.res/\KXP o.hp) (h:sx Try.prog Y0 n0 cj67 ⟨YN 0 args,hp0,n0,11,[]⟩ (Wd rj67 fun o=>∃ o',Zs o'/\Ws n0 o o')) (hA:Nat.ble args.length 11=true:=by rfl):CtM Try.prog 67 hp0 n0 args Zs:=Zr Try.func67 rfl bj67 Zu0 ZvQ nj67 (Nat.le_of_ble_eq_true hA) hh hx h
def cj47:SC:=(sr1 [
 o1 2 (.box (.t 0) 0 24),
 o1 4 (.mv (.c (.slice none 0 0))),
 o1 5 (.mv (cn 0))]
 (.seq (sr1 [
 o1 13 (lt 2 4),
 o1 14 (.call 20 [.t 13]),
 m1 6 14]
 (sr1 [
 m1 15 6,
 o1 16 (.bin .neq (.t 15) (cn 0))]
 (.cond (.t 16)
 (sr1 [
  m1 17 6,
  o1 4 (.mv (.c (.slice none 0 0))),
  m1 5 17]
  .ret)
 .skip)))
 (.seq (sr1 [
 m1 18 1,
 o1 19 (.len (.t 18)),
 o1 20 (.bin .gtr (.t 19) (cn 100))]
 (.cond (.t 20)
 (sr1 [
  o1 4 (.mv (.c (.slice none 0 0))),
  o1 5 (.mv (cn 4))]
  .ret)
 .skip))
 (.seq (sr1 [
 m1 21 1,
 o1 22 (.mkf 65 [.t 2]),
 o1 23 (.call 64 [.t 21,.t 22])]
 (.cond (.t 23)
 (sr1 [
  o1 4 (.mv (.c (.slice none 0 0))),
  o1 5 (.mv (cn 81))]
  .ret)
 .skip))
 (sr1 [
 o1 24 (.raw (Go.Op.makeMap 114 Option.none) 114),
 m1 7 24]
 (sr1 [
 o1 8 (.mv (.c (.slice none 0 0)))]
 (.seq (sr1 [
 m1 25 1,
 o1 26 (.len (.t 25)),
 o1 27 (.mv (cn 0))]
 (.block 0 (.loop (sr1 [
  o1 28 (.bin .lss (.t 27) (.t 26))]
  (.seq (.cond (.t 28)
  .skip
  (.exit 0))
  (.seq (.block 1 (sr1 [
   o1 29 (.ixs (.t 25) (.t 27) 8),
   o1 30 (lt 29 8),
   o1 10 (.alloc zv0 50),
   ⟨none,.st (.t 10) (.t 30) 8,none,[]⟩]
   (sr1 [
   m1 32 7,
   o1 33 (ao 10 0),
   o1 34 (lf 33 1),
   o1 35 (.raw (Go.Op.lookup 114 (Go.Operand.tmp 32) (Go.Operand.tmp 34) Bool.true) 115),
   m1 31 35,
   o1 36 (.ext (.t 31) 0),
   o1 37 (.ext (.t 31) 1),
   o1 11 (.alloc zv0 50),
   ⟨none,.st (.t 11) (.t 36) 8,none,[]⟩,
   m1 12 37]
   (.seq (sr1 [
   m1 38 12,
   m1 39 38,
   g1 40 39 true (lt 11 8),
   g1 41 39 true (lt 10 8),
   g1 42 39 true (.eqs true true [1,1,1,1,1,1,1,0] (.t 40) (.t 41)),
   o1 43 (.pick (.t 39) (.t 42) (.c (.bool false)))]
   (.cond (.t 43)
   (sr1 [
    o1 4 (.mv (.c (.slice none 0 0))),
    o1 5 (.mv (cn 82))]
    .ret)
   .skip))
   (sr1 [
   m1 44 7,
   o1 45 (ao 10 0),
   o1 46 (lf 45 1),
   o1 47 (lt 10 8),
   ⟨none,.raw (Go.Op.mapUpdate 114 (Go.Operand.tmp 44) (Go.Operand.tmp 46) (Go.Operand.tmp 47)) 0,none,[]⟩]
   (sr1 [
   m1 48 12,
   o1 49 (.un .not (.t 48)),
   m1 50 49,
   g1 51 50 true (ao 10 1),
   g1 52 50 true (lf 51 1),
   g1 53 50 true (ao 2 3),
   g1 54 50 true (lf 53 1),
   g1 55 50 true (.bin .leq (.t 52) (.t 54)),
   o1 56 (.pick (.t 50) (.t 55) (.c (.bool false)))]
   (.cond (.t 56)
   (.reg [
    m1 57 8,
    o1 58 (lt 10 8),
    o1 59 (.bsl 8 50 [.t 58]),
    o1 60 (.appm 8 64 50 (.t 57) (.t 59)),
    m1 8 60])
   .skip)))))))
  (.reg [
  o1 61 (.bin .add (.t 27) (cn 1)),
  m1 27 61])))))))
 (.gh (sr1 [
 m1 62 8,
 o1 63 (.bsl 1 117 [.f 68,.f 69]),
 o1 64 (.callm 67 [.t 62,.t 63]),
 m1 4 64,
 o1 5 (.mv (cn 0))]
 (.gh .ret))))))))))
def rj47:List RV:=[.tmp 4,.tmp 5]
theorem nj47:Try.f47.ntmps=65:=by kernel_rfl
theorem bj47:ZW Try.prog 47=true:=by kernel_rfl
theorem Zt9:Yx Try.prog cj47 ((Try.f47.body).getD .skip)=true:=by kernel_rfl
theorem Zs0:YQ Try.prog rj47 Try.f47.results.toList=true:=by kernel_rfl
theorem mj47 {n0:Nat} {hp0:List (Nat × HB)} {args:List SV} {Zs:Ot->Prop} (hh:hpb n0 hp0) (hx:∀ o,Zs o->KX o.res/\KXP o.hp) (h:sx Try.prog Y0 n0 cj47 ⟨YN 0 args,hp0,n0,65,[]⟩ (Wd rj47 fun o=>∃ o',Zs o'/\Ws n0 o o')) (hA:Nat.ble args.length 65=true:=by rfl):CtM Try.prog 47 hp0 n0 args Zs:=Zr Try.func47 rfl bj47 Zt9 Zs0 nj47 (Nat.le_of_ble_eq_true hA) hh hx h
def cj24:SC:=(sr1 [
 o1 2 (.box (.t 0) 0 24),
 o1 4 (.mv (.c (.slice none 0 0))),
 o1 5 (.mv (.c (.slice none 0 0))),
 o1 6 (.mv (cn 0))]
 (sr1 [
 o1 8 (lt 2 4),
 m1 9 1,
 o1 10 (.callm 47 [.t 8,.t 9]),
 m1 7 10,
 o1 11 (.ext (.t 7) 0),
 o1 12 (.ext (.t 7) 1),
 m1 4 11,
 m1 6 12]
 (.seq (sr1 [
 m1 13 6,
 o1 14 (.bin .neq (.t 13) (cn 0))]
 (.cond (.t 14)
 (sr1 [
  m1 15 6,
  o1 4 (.mv (.c (.slice none 0 0))),
  o1 5 (.mv (.c (.slice none 0 0))),
  m1 6 15]
  .ret)
 .skip))
 (sr1 [
 m1 16 4,
 o1 17 (lt 2 4),
 o1 18 (.callm 49 [.t 17]),
 m1 19 4,
 o1 20 (.callm 50 [.t 18,.t 19]),
 o1 21 (.callm 48 [.t 20]),
 m1 4 16,
 m1 5 21,
 o1 6 (.mv (cn 0))]
 .ret))))
def rj24:List RV:=[.tmp 4,.tmp 5,.tmp 6]
theorem nj24:Try.f24.ntmps=22:=by kernel_rfl
theorem bj24:ZW Try.prog 24=true:=by kernel_rfl
theorem ZrG:Yx Try.prog cj24 ((Try.f24.body).getD .skip)=true:=by kernel_rfl
theorem Zs6:YQ Try.prog rj24 Try.f24.results.toList=true:=by kernel_rfl
theorem mj24 {n0:Nat} {hp0:List (Nat × HB)} {args:List SV} {Zs:Ot->Prop} (hh:hpb n0 hp0) (hx:∀ o,Zs o->KX o.res/\KXP o.hp) (h:sx Try.prog Y0 n0 cj24 ⟨YN 0 args,hp0,n0,22,[]⟩ (Wd rj24 fun o=>∃ o',Zs o'/\Ws n0 o o')) (hA:Nat.ble args.length 22=true:=by rfl):CtM Try.prog 24 hp0 n0 args Zs:=Zr Try.func24 rfl bj24 ZrG Zs6 nj24 (Nat.le_of_ble_eq_true hA) hh hx h
def c25:SC:=(sr1 [
 o1 2 (.box (.t 0) 0 24),
 o1 4 (.mv (.c (.slice none 0 0))),
 o1 5 (.mv (.c (.slice none 0 0))),
 o1 6 (.mv (cn 0))]
 (.seq (sr1 [
 o1 11 (lt 2 4),
 o1 12 (.call 44 [.t 11]),
 o1 13 (.un .not (.t 12))]
 (.cond (.t 13)
 (sr1 [
  o1 4 (.mv (.c (.slice none 0 0))),
  o1 5 (.mv (.c (.slice none 0 0))),
  o1 6 (.mv (cn 80))]
  .ret)
 .skip))
 (.seq (sr1 [
 o1 14 (lt 2 4),
 m1 15 1,
 o1 16 (.call 51 [.t 14,.t 15]),
 m1 7 16]
 (sr1 [
 m1 17 7,
 o1 18 (.bin .neq (.t 17) (cn 0))]
 (.cond (.t 18)
 (sr1 [
  m1 19 7,
  o1 4 (.mv (.c (.slice none 0 0))),
  o1 5 (.mv (.c (.slice none 0 0))),
  m1 6 19]
  .ret)
 .skip)))
 (sr1 [
 o1 20 (lt 2 4),
 m1 21 1,
 o1 22 (.call 52 [.t 20,.t 21]),
 m1 8 22]
 (sr1 [
 o1 24 (lt 2 4),
 m1 25 8,
 o1 26 (.call 53 [.t 24,.t 25]),
 m1 23 26,
 o1 27 (.ext (.t 23) 0),
 o1 28 (.ext (.t 23) 1),
 o1 9 (.alloc zv1 95),
 ⟨none,.st (.t 9) (.t 27) 7,none,[]⟩,
 m1 10 28]
 (sr1 [
 m1 29 8,
 m1 30 10,
 m1 4 29,
 m1 5 30,
 o1 6 (.mv (cn 0))]
 .ret))))))
def r25:List RV:=[.tmp 4,.tmp 5,.tmp 6]
theorem n25:Try.f25.ntmps=31:=by kernel_rfl
theorem b25:ZW Try.prog 25=true:=by kernel_rfl
theorem ZzA:Yx Try.prog c25 ((Try.f25.body).getD .skip)=true:=by kernel_rfl
theorem Zzw:YQ Try.prog r25 Try.f25.results.toList=true:=by kernel_rfl
def c27:SC:=(sr1 [
 o1 4 (.box (.t 0) 0 24),
 o1 8 (.mv (cn 0)),
 o1 9 (.mv (cn 0))]
 (.seq (sr1 [
 o1 13 (lt 4 4),
 o1 14 (.call 44 [.t 13]),
 o1 15 (.un .not (.t 14))]
 (.cond (.t 15)
 (sr1 [
  o1 8 (.mv (cn 0)),
  o1 9 (.mv (cn 80))]
  .ret)
 .skip))
 (.seq (sr1 [
 o1 16 (lt 4 4),
 m1 17 1,
 o1 18 (.call 51 [.t 16,.t 17]),
 m1 10 18]
 (sr1 [
 m1 19 10,
 o1 20 (.bin .neq (.t 19) (cn 0))]
 (.cond (.t 20)
 (sr1 [
  m1 21 10,
  o1 8 (.mv (cn 0)),
  m1 9 21]
  .ret)
 .skip)))
 (.seq (sr1 [
 o1 22 (lt 4 4),
 m1 23 2,
 o1 24 (.call 55 [.t 22,.t 23]),
 o1 25 (.bin .lss (.t 24) (cn 0)),
 m1 26 25,
 g1 27 26 false (lt 4 4),
 g1 28 26 false (.mv (.t 3)),
 g1 29 26 false (.call 55 [.t 27,.t 28]),
 g1 30 26 false (.bin .lss (.t 29) (cn 0)),
 o1 31 (.pick (.t 26) (.c (.bool true)) (.t 30)),
 m1 32 31,
 g1 33 32 false (.mv (.t 2)),
 g1 34 32 false (.mv (.t 3)),
 g1 35 32 false (.bin .eql (.t 33) (.t 34)),
 o1 36 (.pick (.t 32) (.c (.bool true)) (.t 35))]
 (.cond (.t 36)
 (sr1 [
  o1 8 (.mv (cn 0)),
  o1 9 (.mv (cn 2))]
  .ret)
 .skip))
 (.seq (.regd [0,1,2,3,4,5,6,7,8,9,10] [
 .op (o1 38 (lt 4 4)),
 .op (o1 39 (lt 4 4)),
 .op (m1 40 1),
 .op (p1 41 (.call 52 [.t 39,.t 40]) [1,2]),
 .op (p1 42 (.call 53 [.t 38,.t 41]) [0,3]),
 .op (p1 37 (.mv (.t 42)) [4]),
 .op (p1 43 (.ext (.t 37) 0) [5]),
 .op (p1 44 (.ext (.t 37) 1) [5])] 1 2 [
 o1 11 (.alloc zv1 95),
 ⟨none,.st (.t 11) (.t 43) 7,none,[0,1,2,3,4,5,6,8]⟩,
 ⟨some 12,.mv (.t 44),none,[0,1,2,3,4,5,6,7,8,9]⟩])
 (.seq (.regd [0,1,2,3,4,5,6,7,8,9,10,11,12,13] [
 .op (o1 45 (ao 11 6)),
 .op (p1 46 (lf 45 1) [0]),
 .op (o1 47 (lt 4 4)),
 .op (m1 48 2),
 .op (p1 49 (.call 55 [.t 47,.t 48]) [2,3]),
 .op (p1 50 (.ixs (.t 46) (.t 49) 1) [1,4]),
 .op (p1 51 (lf 50 1) [5]),
 .op (o1 52 (lt 4 4)),
 .op (m1 53 3),
 .op (p1 54 (.call 55 [.t 52,.t 53]) [4,7,8]),
 .op (p1 55 (.ixs (.t 51) (.t 54) 1) [6,9]),
 .op (p1 56 (lf 55 1) [10]),
 .op (p1 8 (.mv (.t 56)) [0,1,2,3,4,5,6,7,8,9,10,11]),
 .op (p1 9 (.mv (cn 0)) [0,1,2,3,4,5,6,7,8,9,10,11,12])] 0 0 [
])
 .ret))))))
def r27:List RV:=[.tmp 8,.tmp 9]
theorem t27:Qt1 Try.prog 27 c27 r27 57:=X4 Try.func27 rfl (by kernel_rfl) (by kernel_rfl) (by kernel_rfl) (by kernel_rfl)
def c4:SC:=(sr1 [
 o1 4 (.box (.t 0) 0 24),
 o1 8 (.mv (.c (.bool false)))]
 (.seq (sr1 [
 o1 23 (lt 4 4),
 m1 24 1,
 o1 25 (.call 16 [.t 23,.t 24])]
 (.cond (.t 25)
 (sr1 [
  o1 8 (.mv (.c (.bool true)))]
  .ret)
 .skip))
 (sr1 [
 o1 26 (lt 4 4),
 o1 27 (.call 17 [.t 26]),
 o1 28 (.bsl 8 50 []),
 m1 29 1,
 o1 30 (.app 8 64 50 (.t 28) (.t 29)),
 o1 9 (.alloc [.slice none 0 0,.int .i64 0,.int .i64 0,.int .i64 0] 24),
 ⟨none,.st (.t 9) (.t 27) 4,none,[]⟩,
 m1 10 30]
 (sr1 [
 o1 32 (lt 9 4),
 m1 33 10,
 o1 34 (.callm 24 [.t 32,.t 33]),
 m1 31 34,
 o1 35 (.ext (.t 31) 0),
 o1 36 (.ext (.t 31) 1),
 o1 37 (.ext (.t 31) 2),
 m1 11 35,
 m1 12 36,
 m1 13 37]
 (.gh (sr1 [
 o1 39 (lt 4 4),
 m1 40 1,
 o1 41 (.call 25 [.t 39,.t 40]),
 m1 38 41,
 o1 42 (.ext (.t 38) 0),
 o1 43 (.ext (.t 38) 1),
 o1 44 (.ext (.t 38) 2),
 m1 14 42,
 m1 15 43,
 m1 16 44]
 (sr1 [
 o1 46 (lt 9 4),
 m1 47 10,
 m1 48 2,
 m1 49 3,
 o1 50 (.call 26 [.t 46,.t 47,.t 48,.t 49]),
 m1 45 50,
 o1 51 (.ext (.t 45) 0),
 o1 52 (.ext (.t 45) 1),
 m1 17 51,
 m1 18 52]
 (sr1 [
 o1 54 (lt 4 4),
 m1 55 1,
 m1 56 2,
 m1 57 3,
 o1 58 (.call 27 [.t 54,.t 55,.t 56,.t 57]),
 m1 53 58,
 o1 59 (.ext (.t 53) 0),
 o1 60 (.ext (.t 53) 1),
 m1 19 59,
 m1 20 60]
 (sr1 [
 m1 61 11,
 m1 62 14,
 o1 63 (.call 28 [.t 61,.t 62]),
 m1 64 63,
 g1 65 64 true (.mv (.t 12)),
 g1 66 64 true (.raw (Go.Op.convert 39 9 (Go.Operand.tmp 65)) 9),
 g1 67 64 true (.mv (.t 15)),
 g1 68 64 true (.raw (Go.Op.convert 39 9 (Go.Operand.tmp 67)) 9),
 g1 69 64 true (.raw (Go.Op.binOp Go.BinOp.eql 9 (Go.Operand.tmp 66) (Go.Operand.tmp 68) 9) 4),
 o1 70 (.pick (.t 64) (.t 69) (.c (.bool false))),
 m1 71 70,
 g1 72 71 true (.mv (.t 13)),
 g1 73 71 true (.mv (.t 16)),
 g1 74 71 true (.bin .eql (.t 72) (.t 73)),
 o1 75 (.pick (.t 71) (.t 74) (.c (.bool false))),
 m1 76 75,
 g1 77 76 true (.mv (.t 17)),
 g1 78 76 true (.mv (.t 19)),
 g1 79 76 true (.bin .eql (.t 77) (.t 78)),
 o1 80 (.pick (.t 76) (.t 79) (.c (.bool false))),
 m1 81 80,
 g1 82 81 true (.mv (.t 18)),
 g1 83 81 true (.mv (.t 20)),
 g1 84 81 true (.bin .eql (.t 82) (.t 83)),
 o1 85 (.pick (.t 81) (.t 84) (.c (.bool false))),
 m1 21 85]
 (.seq (sr1 [
 m1 86 11,
 o1 87 (.len (.t 86)),
 o1 88 (.mv (cn 0))]
 (.block 0 (.loop (sr1 [
  o1 89 (.bin .lss (.t 88) (.t 87))]
  (.seq (.cond (.t 89)
  .skip
  (.exit 0))
  (.seq (.block 1 (sr1 [
   m1 90 88,
   m1 22 90]
   (.reg [
   m1 91 11,
   m1 92 22,
   o1 93 (.ixs (.t 91) (.t 92) 8),
   o1 94 (ao 93 1),
   ⟨none,.st (.t 94) (.c (.int .i64 (-7))) 1,none,[]⟩])))
  (.reg [
  o1 95 (.bin .add (.t 88) (cn 1)),
  m1 88 95])))))))
 (.gh (sr1 [
 m1 96 21,
 m1 97 96,
 g1 98 97 true (lt 9 4),
 g1 99 97 true (lt 4 4),
 g1 100 97 true (.call 23 [.t 98,.t 99]),
 o1 101 (.pick (.t 97) (.t 100) (.c (.bool false))),
 m1 102 101,
 g1 103 102 true (.mv (.t 10)),
 g1 104 102 true (.mv (.t 1)),
 g1 105 102 true (.call 28 [.t 103,.t 104]),
 o1 106 (.pick (.t 102) (.t 105) (.c (.bool false))),
 m1 8 106]
 .ret))))))))))))
def r4:List RV:=[.tmp 8]
theorem b4:ZW Try.prog 4=true:=by kernel_rfl
theorem t4:Qt1 Try.prog 4 c4 r4 107:=X4 Try.func4 rfl b4 (by kernel_rfl) (by kernel_rfl) (by kernel_rfl)
theorem Zvh (l:List Letter) (hl:Zcu l) (hn:(l.map (·.id)).Nodup) (hL:l.length<=1000) (k:Bool):CtM Try.prog 67 [] 0 [.sl k 8 (l.map Zb),.sl true 1 [[.cl 68 []],[.cl 69 []]]] (fun o=>o=⟨false,.mr 0 0,[(0,.row 0 8 ((Zr1 l).map Zb) 50)],1⟩):=by
 obtain ⟨L,rfl⟩:=ZrY hl
 rw [ZbT]
 have hL:L.length<=1000:=by simpa using hL
 refine mj67 (by simp [hpb]) (fun o ho=>by subst ho;simp [KX,KXL,KXP,KXH,Zc,KFL,KF,Zb]) ?_
 dsimp only [cj67,rj67,go_sem,rA,rM,rS]
 refine Zp [] (ZeS L hL k) rfl rfl rfl ?_ ?_ ?_
 . (repeat first | dsimp only [go_sem,rA,rM,rS] | simp only [nbr])
   try simp [mtL,mtB,mtS,Zc,KFL,KF,loL]
 . trivial
 rintro _ rfl
 (repeat first | dsimp only [go_sem,rA,rM,rS] | simp only [nbr])
 refine gh Yq ?_
 (repeat first | dsimp only [go_sem,rA,rM,rS] | simp only [nbr])
 refine Zp [1,0] (Zju 0 L (by omega)) rfl rfl rfl ?_ ?_ ?_
 . (repeat first | dsimp only [go_sem,rA,rM,rS] | simp only [nbr])
   try simp [mtL,mtB,mtS]
 . (repeat first | dsimp only [go_sem,rA,rM,rS] | simp only [nbr])
   simp [Zc,KFR,loL,KFL,KF]
 rintro _ ⟨L',hp,hs,rfl⟩
 (repeat first | dsimp only [YU,go_sem,rA,rM,rS] | simp only [nbr])
 refine gh Yq ?_
 (repeat first | dsimp only [go_sem,rA,rM,rS] | simp only [nbr])
 refine ⟨_,rfl,?_⟩
 rw [<- ZqA hp.perm hs hn,ZbT]
 refine Zy2 (rho [1]) ?_ ?_ ?_ (UY rfl rfl) rfl (fun i hi=>absurd hi (Nat.not_lt_zero i))<;>dsimp only [go_sem,rA,rM,rS]<;>simp [Zc,Ze,KFR,KFL,KF,Zd,mtO,nbr,loL]
def ZgQ (p:Pact) (l:List Letter) (o:Ot):Prop :=
 if Z2 p l=0 then o=⟨false,.tup [.mr 0 0,I 0],[(0,.row 0 8 ((Yn p l).map Zb) 50)],1⟩ else o=⟨false,.tup [.v (.slice none 0 0),I (Z2 p l)],[],0⟩
theorem Zoc (p:Pact) (l:List Letter) (hs:Yr p) (hl:l.length<=1000) (c:Bool):CtM Try.prog 47 [] 0 [.agg (Zj p),.sl c 8 (l.map Zb)] (ZgQ p l):=by
 refine mj47 (by simp [hpb]) (fun o ho=>?_) ?_
 . unfold ZgQ at ho
   split at ho<;>(subst ho;simp [KX,KXL,KXP,KXH,Zc,KFL,KF,Zb])
 have hs':p.partners.length<=1000:=hs
 have herr:∀ e,Z2 p l=e->e≠0->ZgQ p l ⟨false,.tup [.v (.slice none 0 0),I e],[],0⟩:=fun e h1 h2=>by
  rw [ZgQ,h1,if_neg h2]
 dsimp only [cj47,rj47,Zj,go_sem,rA,rM,rS]
 refine call (Zd6 p hs) ?_
 dsimp only [go_sem,rA,rM,rS]
 by_cases hp:ZH p=true
 case neg =>
  refine ZK (by simp [ZfF,hp]) ?_
  dsimp only [go_sem,rA,rM,rS]
  rw [show ZfF p=80 from by simp [ZfF,hp]]
  refine ⟨_,herr 80 (by simp [Z2,hp]) (by omega),?_⟩
  (refine Zm ?_ ?_ ?_ rfl<;>dsimp only [Zb,ltV,Zj,Za,Zg,id,go_sem,rA,rM,rS]<;>simp [Zb,ltV,Zj,Za,Zg,Zc,Ze,KFR,KFL,KF,Zd,mtO,nbr])
 refine Zz (by simp [ZfF,hp]) ?_
 dsimp only [go_sem,rA,rM,rS]
 simp only [List.length_map]
 by_cases h100:l.length > 100
 . refine ZK (by simp;omega) ?_
   dsimp only [go_sem,rA,rM,rS]
   refine ⟨_,herr 4 (by simp [Z2,hp,h100]) (by omega),?_⟩
   (refine Zm ?_ ?_ ?_ rfl<;>dsimp only [Zb,ltV,Zj,Za,Zg,id,go_sem,rA,rM,rS]<;>simp [Zb,ltV,Zj,Za,Zg,Zc,Ze,KFR,KFL,KF,Zd,mtO,nbr])
 refine Zz (by simp;omega) ?_
 dsimp only [go_sem,rA,rM,rS]
 refine UD (by simp [FLT]) (res:=B (l.any fun x=>!Zh p x)) ?_ ?_
 . dsimp only [go_sem,rA,rM,rS]
   exact Zyc 65 [.ps (Zj p) 0] (by simp [KFL,KF,Zc,Zj,Za]) (fun x=>!Zh p x) l (fun x _=>ZeO p x hs hp) (by omega)
 dsimp only [go_sem,rA,rM,rS]
 have hany:(l.any fun x=>!Zh p x) = !l.all (Zh p):=by simp [List.all_eq_not_any_not]
 by_cases hall:l.all (Zh p)=true
 case neg =>
  refine ZK (by rw [hany];simpa using hall) ?_
  dsimp only [go_sem,rA,rM,rS]
  rw [Bool.not_eq_true] at hall
  refine ⟨_,herr 81 (by simp only [Z2,hp,hall];simp [h100]) (by omega),?_⟩
  (refine Zm ?_ ?_ ?_ rfl<;>dsimp only [Zb,ltV,Zj,Za,Zg,id,go_sem,rA,rM,rS]<;>simp [Zb,ltV,Zj,Za,Zg,Zc,Ze,KFR,KFL,KF,Zd,mtO,nbr])
 refine Zz (by rw [hany,hall];rfl) ?_
 dsimp only [go_sem,rA,rM,rS]
 refine Y6 rfl rfl rfl ?_
 dsimp only [go_sem,rA,rM,rS]
 simp only [List.length_map]
 refine Zg3 (Xv 8 8 50 rfl rfl) (fun s:Nat × List (Nat × Int × Letter) × Nat × Nat × List Letter=>[(27,I s.1),(8,.mr 2 s.2.2.2.1)]) (fun s=>[(1,.map (mpS kI ltV s.2.1) s.2.2.1),(2,.row s.2.2.2.1 8 (s.2.2.2.2.map Zb) 50)]) (fun s=>PreR p l s.1 s.2.1 s.2.2.1 s.2.2.2.2) (fun s=>l.length - s.1) (0,[],0,0,[]) (.start p l) ?_ ?_
 . (refine Zl ?_ ?_ ?_ rfl rfl<;>dsimp only [Zb,ltV,Zj,Za,mpS,id,go_sem,rA,rM,rS]<;>simp [Zb,ltV,Zj,Za,mpS,Zc,Ze,KFR,KFL,KF,Zd,mtO,nbr])
 rintro ⟨k,L,cl,v,R⟩ hI
 simp only at hI
 have hle:=hI.le
 dsimp only [go_sem,rA,rM,rS]
 by_cases hlt:k < l.length
 . refine ZK (by simpa using hlt) ?_
   dsimp only [go_sem,rA,rM,rS]
   refine ZF k hlt rfl ?_
   dsimp only [Zb,go_sem,rA,rM,rS]
   refine YF (key:=kI) (val:=ltV) (sv:=sI) (L:=L) (k:=l[k].id) (zs:=ltV ⟨0,0,0,0,0,0,0,false⟩) rfl rfl Zwq W4 rfl Zra zl_R ?_ ?_
   . intro y hg
     dsimp only [ltV,Zb,go_sem,rA,rM,rS]
     repeat (refine gb ?_;dsimp only [go_sem,rA,rM,rS])
     by_cases hy:y=l[k]
     case neg =>
      refine ZK ?_ ?_
      . rw [Zys];simp [hy]
      dsimp only [go_sem,rA,rM,rS]
      have h2:=hI.two hlt hg hy
      refine ⟨_,herr 82 (by simp only [Z2,hp,hall,h2];simp [h100]) (by omega),?_⟩
      (refine Zm ?_ ?_ ?_ rfl<;>dsimp only [Zb,ltV,Zj,Za,Zg,id,go_sem,rA,rM,rS]<;>simp [Zb,ltV,Zj,Za,Zg,Zc,Ze,KFR,KFL,KF,Zd,mtO,nbr])
     subst hy
     refine Zz (by simp) ?_
     dsimp only [go_sem,rA,rM,rS]
     refine Yd (key:=kI) (val:=ltV) (sv:=sI) (L:=L) (k:=l[k].id) (v:=l[k]) (ins:=false) rfl rfl Zwq W4 rfl rfl (fun _ _ _ e=>by cases e) ?_
     dsimp only [go_sem,rA,rM,rS]
     repeat (refine gb ?_;dsimp only [go_sem,rA,rM,rS])
     refine Zz (by simp) ?_
     dsimp only [go_sem,rA,rM,rS]
     rw [Zi (n:=(k:Int)+1) (by omega) (by omega)]
     have hst:=hI.step hlt (.inr hg)
     rw [if_neg (by rw [hg];simp)] at hst
     refine ⟨(k+1,mset cl l[k].id l[k] L,mclk cl l[k].id L,v,R),hst,by simp only;omega,?_⟩
     (refine Zl ?_ ?_ ?_ rfl rfl<;>dsimp only [Zb,ltV,Zj,Za,Zg,id,go_sem,rA,rM,rS]<;>simp [Zb,ltV,Zj,Za,Zg,Zc,Ze,KFR,KFL,KF,Zd,mtO,nbr])
   . intro hg
     dsimp only [ltV,Zb,go_sem,rA,rM,rS]
     repeat (refine gb ?_;dsimp only [go_sem,rA,rM,rS])
     refine Zz (by simp) ?_
     dsimp only [go_sem,rA,rM,rS]
     refine Yd (key:=kI) (val:=ltV) (sv:=sI) (L:=L) (k:=l[k].id) (v:=l[k]) (ins:=false) rfl rfl Zwq W4 rfl rfl (fun _ _ _ e=>by cases e) ?_
     dsimp only [go_sem,rA,rM,rS]
     repeat (refine gb ?_;dsimp only [go_sem,rA,rM,rS])
     have hst:=hI.step hlt (.inl hg)
     by_cases hd:l[k].day<=p.ends
     . refine ZK (by simpa using hd) ?_
       dsimp only [go_sem,rA,rM,rS]
       have hRl:=hI.len
       (repeat first | dsimp only [go_sem,rA,rM,rS] | simp only [nbr])
       refine ⟨by simp [Z9,VS,Zdf],by simp;omega,?_⟩
       (repeat first | dsimp only [go_sem,rA,rM,rS] | simp only [nbr])
       rw [Zi (n:=(k:Int)+1) (by omega) (by omega)]
       rw [if_pos ⟨hg,hd⟩] at hst
       refine ⟨(k+1,mset cl l[k].id l[k] L,mclk cl l[k].id L,v+1,R ++ [l[k]]),hst,by simp only;omega,?_⟩
       (refine Zl ?_ ?_ ?_ rfl rfl<;>dsimp only [Zb,ltV,Zj,Za,Zg,id,go_sem,rA,rM,rS]<;>simp [Zb,ltV,Zj,Za,Zg,Zc,Ze,KFR,KFL,KF,Zd,mtO,nbr])
     . refine Zz (by simpa using hd) ?_
       dsimp only [go_sem,rA,rM,rS]
       rw [Zi (n:=(k:Int)+1) (by omega) (by omega)]
       rw [if_neg (by intro q;exact hd q.2)] at hst
       refine ⟨(k+1,mset cl l[k].id l[k] L,mclk cl l[k].id L,v,R),hst,by simp only;omega,?_⟩
       (refine Zl ?_ ?_ ?_ rfl rfl<;>dsimp only [Zb,ltV,Zj,Za,Zg,id,go_sem,rA,rM,rS]<;>simp [Zb,ltV,Zj,Za,Zg,Zc,Ze,KFR,KFL,KF,Zd,mtO,nbr])
 refine Zz (by simpa using hlt) ?_
 dsimp only [go_sem,rA,rM,rS]
 refine gh (ZbW 8 2 v rfl rfl rfl rfl) ?_
 dsimp only [go_sem,rA,rM,rS]
 have hkl:k=l.length:=by omega
 have hone:=hI.one
 have hrows:=hI.rows
 rw [hkl,List.take_length] at hone hrows
 have h2:Zfd l=false:=Zb5 hone
 have he:Z2 p l=0:=by simp only [Z2,hp,hall,h2];simp [h100]
 have hRl:=hI.len
 have hsm:Zcu R:=fun x hx=>by
  rw [hrows] at hx
  have:=List.all_eq_true.1 hall x (Xy hx).1
  simp only [Zh,Bool.and_eq_true,inR,decide_eq_true_eq] at this
  exact this.1.1
 refine Zp [] (Zvh R hsm (by rw [hrows];exact XF) (by omega) false) rfl rfl rfl ?_ ?_ ?_
 . (repeat first | dsimp only [go_sem,rA,rM,rS] | simp only [nbr])
   simp [mtL,mtB,mtS,Zc,KFR,KFL,KF,Zb]
 . trivial
 rintro _ rfl
 (repeat first | dsimp only [go_sem,rA,rM,rS] | simp only [nbr])
 refine gh Yq ?_
 (repeat first | dsimp only [go_sem,rA,rM,rS] | simp only [nbr])
 refine ⟨_,by rw [ZgQ,if_pos he],?_⟩
 rw [Yn,<- hrows]
 refine Zy2 (rho [3]) ?_ ?_ ?_ (UY rfl rfl) rfl (fun i hi=>absurd hi (Nat.not_lt_zero i))<;>dsimp only [go_sem,rA,rM,rS]<;>simp [Zc,Ze,KFR,KFL,KF,Zd,mtO,nbr,Zb]
def rkH (p:Pact) (b:Bks) (l:List Letter):List (Nat × HB):=bH p b ++ [(6,.row 0 8 (l.map Zb) 50),(7,.cells [.p 5 0] 87),(8,.cells [.mr 6 0] 38)]
theorem Zl4 (p:Pact) (b:Bks) (l:List Letter):CtM Try.prog 50 (bH p b ++ [(6,.row 0 8 (l.map Zb) 50)]) 7 [.p 5 0,.mr 6 0] (fun o=>o=⟨false,.cl 71 [.p 8 0,.p 7 0],rkH p b l,9⟩):=by
 refine m50 (by simp [hpb,bH]) (fun o ho=>by subst ho;simp [rkH,bH,KX,KXL,KXP,KXH,Zc,KFL,KF,Za,Zb,Zq,ZD,ZL,Zg]) ?_
 dsimp only [c50,r50,bH,go_sem,rA,rM,rS]
 refine ⟨_,rfl,?_⟩
 simp only [rkH,bH]
 (refine Zm ?_ ?_ ?_ rfl<;>dsimp only [Zg,Zq,ZD,ZL,Za,Zb,id,go_sem,rA,rM,rS]<;>simp [Zg,Zq,ZD,ZL,Za,Zb,Zc,Ze,KFR,KFL,KF,Zd,mtO,nbr])
def ZcP (p:Pact) (b:Bks) (l:List Letter):Ot:=⟨false,.mr 10 l.length,rkH p b l ++ [(10,.row l.length 1 (ZcE p l) 5)],11⟩
theorem ZgS (p:Pact) (hp:ZH p=true) (l:List Letter) (hl:∀ x ∈ l,Zh p x=true) (h100:l.length<=1000) :
 CtM Try.prog 70 (rkH p Zdg l) 9 [.v (.slice none 0 0),.cl 71 [.p 8 0,.p 7 0]] (fun o=>∃ b,BkR l.length (YX p co0 l) b/\o=ZcP p b l):=by
 refine m70 (by simp [hpb,rkH,bH]) (fun o ho=>by obtain ⟨b,-,rfl⟩:=ho;simp [ZcP,ZcE,u8L,rkH,bH,KX,KXL,KXP,KXH,Zc,KFL,KF,Za,Zb,Zq,ZD,ZL,Zg]) ?_
 dsimp only [c70,r70,rkH,bH,go_sem,rA,rM,rS]
 refine gh (U9 9 0 1 5 rfl rfl) ?_
 dsimp only [go_sem,rA,rM,rS]
 refine ⟨b71,fun rec=>?_⟩
 refine y71 ?_
 dsimp only [c71,r71,go_sem,rA,rM,rS]
 refine Zp [] Zae rfl rfl rfl ?_ ?_ ?_
 . (repeat first | dsimp only [go_sem,rA,rM,rS] | simp only [nbr])
   try simp [mtL,mtB,mtS]
 . trivial
 rintro _ rfl
 (repeat first | dsimp only [go_sem,rA,rM,rS] | simp only [nbr])
 simp only [List.length_map]
 refine YY (fun s:Nat × Bks=>[(10,I (s.1:Nat))]) (fun s=>bH p s.2 ++ [(9,.cells [.mr 10 s.1] 39),(10,.row s.1 1 (ZcE p (l.take s.1)) 5)]) (fun s=>s.1<=l.length/\BkR s.1 (YX p co0 (l.take s.1)) s.2) (fun s=>l.length - s.1) (0,Zdg) ⟨Nat.zero_le _,BkR.start⟩ ?_ ?_
 . dsimp only [bH,go_sem,rA,rM,rS]
   (refine Zl ?_ ?_ ?_ rfl rfl<;>dsimp only [Zdg,ZcE,V3,Zg,Za,Zb,YP,id,go_sem,rA,rM,rS]<;>simp [Zdg,ZcE,V3,Zg,Za,Zb,YP,Zc,Ze,KFR,KFL,KF,Zd,mtO,nbr])
 rintro ⟨j,b⟩ ⟨hj,hb⟩
 simp only at hj hb
 dsimp only [bH,go_sem,rA,rM,rS]
 by_cases hlt:j < l.length
 . refine ZK (by simpa using hlt) ?_
   dsimp only [go_sem,rA,rM,rS]
   (repeat first | dsimp only [go_sem,rA,rM,rS] | simp only [nbr])
   refine Xk j rfl (by rw [List.length_map];exact hlt) ?_
   (repeat first | dsimp only [go_sem,rA,rM,rS] | simp only [nbr])
   refine V0 hlt ?_
   (repeat first | dsimp only [Zb,go_sem,rA,rM,rS] | simp only [nbr])
   have hx:=hl l[j] (List.getElem_mem _)
   obtain ⟨ka,kb',hkg⟩:=Ze7 (WM hx)
   refine YF (key:=kB) (val:=YP) (sv:=fun n=>.v (kB n)) (L:=ZA) (k:=l[j].kind) (zs:=zk) rfl rfl Zid Zko rfl ZdM zk_R (fun v hg=>?_) (fun hg=>?_)
   case refine_2=>rw [hkg] at hg;cases hg
   rw [hkg] at hg
   cases hg
   dsimp only [YP,go_sem,rA,rM,rS]
   refine Zp [0,1,2,3,4,5] (Zq3 hb (by omega) hp l[j] hx) rfl rfl rfl ?_ ?_ ?_
   . (repeat first | dsimp only [bH,go_sem,rA,rM,rS] | simp only [nbr])
     try simp [mtL,mtB,mtS,Zb]
   . (repeat first | dsimp only [bH,go_sem,rA,rM,rS] | simp only [nbr])
     try simp [Zg,Zq,ZD,ZL,Za,Zb,Zc,KFL,KF]
   rintro _ ⟨b2,hb2,rfl⟩
   (repeat first | dsimp only [ZgU,bH,go_sem,rA,rM,rS] | simp only [nbr])
   refine ⟨trivial,trivial,?_⟩
   (repeat first | dsimp only [go_sem,rA,rM,rS] | simp only [nbr])
   refine ⟨by simp [Z9,VS,Zdf],by simp [ZcE,Zce];omega,?_⟩
   (repeat first | dsimp only [go_sem,rA,rM,rS] | simp only [nbr])
   refine ⟨trivial,?_⟩
   refine Zz rfl ?_
   (repeat first | dsimp only [go_sem,rA,rM,rS] | simp only [nbr])
   have e1:ZcE p (l.take j) ++ [[SV.v (Value.int IntKind.u8 (Zn p (YX p co0 (l.take j)) l[j]).2)]]=ZcE p (l.take (j+1)):=by
    simp only [ZcE,Zez hlt,List.map_append];rfl
   rw [e1,Zi (n:=(j:Int)+1) (by omega) (by omega)]
   refine ⟨(j+1,b2),⟨hlt,by rw [WF hlt];exact hb2⟩,by simp only;omega,?_⟩
   dsimp only [bH,go_sem,rA,rM,rS]
   (refine Zl ?_ ?_ ?_ rfl rfl<;>dsimp only [Zg,Za,Zb,YP,Zq,ZD,ZL,ZcE,u8L,id,go_sem,rA,rM,rS]<;>simp [Zg,Za,Zb,YP,Zq,ZD,ZL,ZcE,u8L,Zc,Ze,KFR,KFL,KF,Zd,mtO,nbr])
 refine Zz (by simpa using hlt) ?_
 dsimp only [go_sem,rA,rM,rS]
 have hjl:j=l.length:=by omega
 subst hjl
 rw [List.take_length] at hb ⊢
 refine ⟨_,⟨b,hb,rfl⟩,?_⟩
 try simp only [ZcP,rkH,bH,List.cons_append,List.nil_append]
 (refine Zm ?_ ?_ ?_ rfl<;>dsimp only [Zg,Za,Zb,YP,Zq,ZD,ZL,ZcE,u8L,id,go_sem,rA,rM,rS]<;>simp [Zg,Za,Zb,YP,Zq,ZD,ZL,ZcE,u8L,Zc,Ze,KFR,KFL,KF,Zd,mtO,nbr])
theorem Zl2 (p:Pact) (hp:ZH p=true) (l:List Letter) (hl:∀ x ∈ l,Zh p x=true) (h100:l.length<=1000) :
 CtM Try.prog 48 (rkH p Zdg l) 9 [.cl 71 [.p 8 0,.p 7 0]] (fun o=>∃ b,BkR l.length (YX p co0 l) b/\o=ZcP p b l):=by
 refine m48 (by simp [hpb,rkH,bH]) (fun o ho=>by obtain ⟨b,-,rfl⟩:=ho;simp [ZcP,ZcE,u8L,rkH,bH,KX,KXL,KXP,KXH,Zc,KFL,KF,Za,Zb,Zq,ZD,ZL,Zg]) ?_
 dsimp only [c48,r48,rkH,bH,go_sem,rA,rM,rS]
 refine Zp [0,1,2,3,4,5,6,7,8] (ZgS p hp l hl h100) rfl rfl rfl ?_ ?_ ?_
 . (repeat first | dsimp only [go_sem,rA,rM,rS] | simp only [nbr])
   try simp [mtL,mtB,mtS]
 . (repeat first | dsimp only [rkH,bH,go_sem,rA,rM,rS] | simp only [nbr])
   try simp [Zg,Zq,ZD,ZL,Za,Zb,Zc,KFL,KF]
 rintro _ ⟨b,hb,rfl⟩
 (repeat first | dsimp only [ZcP,rkH,bH,go_sem,rA,rM,rS] | simp only [nbr])
 refine ⟨_,⟨b,hb,rfl⟩,?_⟩
 try simp only [ZcP,rkH,bH,List.cons_append,List.nil_append]
 (refine Zm ?_ ?_ ?_ rfl<;>dsimp only [Zg,Za,Zb,YP,Zq,ZD,ZL,ZcE,u8L,id,go_sem,rA,rM,rS]<;>simp [Zg,Za,Zb,YP,Zq,ZD,ZL,ZcE,u8L,Zc,Ze,KFR,KFL,KF,Zd,mtO,nbr])
def RdO (p:Pact) (l:List Letter) (o:Ot):Prop :=
 if Z2 p l=0 then o=⟨false,.tup [.mr 0 0,.mr 1 (Yn p l).length,I 0],[(0,.row 0 8 ((Yn p l).map Zb) 50),(1,.row (Yn p l).length 1 ((V3 p co0 (Yn p l)).map u8L) 5)],2⟩
 else o=⟨false,.tup [.v (.slice none 0 0),.v (.slice none 0 0),I (Z2 p l)],[],0⟩
theorem Zlc (p:Pact) (l:List Letter) (hs:Yr p) (hl:l.length<=1000) (c:Bool):CtM Try.prog 24 [] 0 [.agg (Zj p),.sl c 8 (l.map Zb)] (RdO p l):=by
 refine mj24 (by simp [hpb]) (fun o ho=>?_) ?_
 . unfold RdO at ho
   split at ho<;>(subst ho;simp [KX,KXL,KXP,KXH,Zc,KFL,KF,Zb,u8L])
 dsimp only [cj24,rj24,Zj,go_sem,rA,rM,rS]
 refine Zp [] (Zoc p l hs hl c) rfl rfl rfl ?_ ?_ ?_
 . (repeat first | dsimp only [Zj,go_sem,rA,rM,rS] | simp only [nbr])
   simp [mtL,mtB,mtS,mtO,VT,Zc,KFL,KF,Zb,Za]
 . trivial
 intro o ho
 unfold ZgQ at ho
 by_cases h0:Z2 p l=0
 case neg =>
  rw [if_neg h0] at ho
  subst ho
  dsimp only [go_sem,rA,rM,rS]
  refine ZK (by simpa using h0) ?_
  dsimp only [go_sem,rA,rM,rS]
  refine ⟨_,by rw [RdO,if_neg h0],?_⟩
  (refine Zm ?_ ?_ ?_ rfl<;>dsimp only [Za,id,go_sem,rA,rM,rS]<;>simp [Za,Zc,Ze,KFR,KFL,KF,Zd,mtO,nbr])
 rw [if_pos h0] at ho
 subst ho
 dsimp only [go_sem,rA,rM,rS]
 refine Zz (by decide) ?_
 dsimp only [go_sem,rA,rM,rS]
 obtain ⟨hp,h100,-,-⟩:=Zd2 h0
 have hlen:=Wx (p:=p) (l:=l)
 have hX:=UR h0
 have hO:∀ o,o=(⟨false,.tup [.mr 0 0,.mr 1 (Yn p l).length,I 0],[(0,.row 0 8 ((Yn p l).map Zb) 50),(1,.row (Yn p l).length 1 ((V3 p co0 (Yn p l)).map u8L) 5)],2⟩:Ot)->RdO p l o:=fun o h=>by rw [RdO,if_pos h0];exact h
 generalize Yn p l=X at *
 refine Zp [] (Zeq p) rfl rfl rfl ?_ ?_ ?_
 . (repeat first | dsimp only [Zj,go_sem,rA,rM,rS] | simp only [nbr])
   simp [mtL,mtB,mtS,mtO,VT,Zc,KFL,KF,Za]
 . trivial
 rintro _ rfl
 (repeat first | dsimp only [Zc4,go_sem,rA,rM,rS] | simp only [nbr])
 refine Zp [3,4,5,6,7,8,1] (Zl4 p Zdg X) rfl rfl rfl ?_ ?_ ?_
 . (repeat first | dsimp only [bH,go_sem,rA,rM,rS] | simp only [nbr])
   try simp [mtL,mtB,mtS,Zc,KFL,KF,Zb]
 . (repeat first | dsimp only [bH,Zdg,go_sem,rA,rM,rS] | simp only [nbr])
   try simp [mpS,Za,Zc,KFL,KF,Zb]
 rintro _ rfl
 (repeat first | dsimp only [rkH,bH,Zdg,go_sem,rA,rM,rS] | simp only [nbr])
 refine Zp [3,4,5,6,7,8,1,9,10] (Zl2 p hp X hX (by omega)) rfl rfl rfl ?_ ?_ ?_
 . (repeat first | dsimp only [go_sem,rA,rM,rS] | simp only [nbr])
   try simp [mtL,mtB,mtS]
 . (repeat first | dsimp only [rkH,bH,Zdg,go_sem,rA,rM,rS] | simp only [nbr])
   try simp [mpS,Za,Zc,KFL,KF,Zb]
 rintro _ ⟨b,hb,rfl⟩
 (repeat first | dsimp only [ZcP,rkH,bH,go_sem,rA,rM,rS] | simp only [nbr])
 refine ⟨_,hO _ rfl,?_⟩
 refine Zy2 (rho [1,12]) ?_ ?_ ?_ (UY rfl rfl) rfl (fun i hi=>absurd hi (Nat.not_lt_zero i))<;>dsimp only [go_sem,rA,rM,rS]<;>simp [Zc,Ze,KFR,KFL,KF,Zd,mtO,nbr,Zb,u8L,ZcE]
theorem u25 {args:List SV} {res:SV} (ka:KFL args) (kr:KF res) (h:sx Try.prog Y0 0 c25 (st0 args 31) (Ztd r25 res)) (hA:Nat.ble args.length 31=true:=by rfl):Ct Try.prog 25 args res:=VX Try.func25 rfl b25 ZzA Zzw n25 (Nat.le_of_ble_eq_true hA) ka kr h
theorem Zoy (p:Pact) (l:List Letter) (hs:Yr p) (hl:l.length<=1000) (c:Bool):Ct Try.prog 25 [.agg (Zj p),.sl c 8 (l.map Zb)] (.tup [.sl false 8 ((VN p l).map Zb),.sl false 1 ((Za1 p l).map u8L),I (Z2 p l)]):=by
 refine u25 (by simp [Zj,Za,Zb,Zc,KFL,KF]) (by simp [Zc,Zb,u8L,KFL,KF]) ?_
 have herr:∀ e,Z2 p l=e->e≠0->ZaT (.tup [.v (.slice none 0 0),.v (.slice none 0 0),I e]) (.tup [.sl false 8 ((VN p l).map Zb),.sl false 1 ((Za1 p l).map u8L),I (Z2 p l)]):=fun e h1 h2=>by
  rw [VN,Za1,h1,if_neg h2,if_neg h2]
  exact ZbQ (Y5 VA (Y5 VA fun _ _ _ _ _ h=>h))
 dsimp only [c25,r25,Zj,go_sem,rA,rM,rS]
 refine call (Ze1 p hs) ?_
 dsimp only [go_sem,rA,rM,rS]
 by_cases hp:ZH p=true
 case neg =>
  have e:Z2 p l=80:=by rw [Z2,if_pos (by simpa using hp)]
  refine ZK (by simpa using hp) ?_
  dsimp only [go_sem,rA,rM,rS]
  exact ⟨_,rfl,herr 80 e (by decide)⟩
 refine Zz (by simp [hp]) ?_
 dsimp only [go_sem,rA,rM,rS]
 refine call (Zbg p l hs hl c) ?_
 dsimp only [go_sem,rA,rM,rS]
 rw [<- Zff (l:=l) hp]
 by_cases h0:Z2 p l=0
 case neg =>
  refine ZK (by simpa using h0) ?_
  dsimp only [go_sem,rA,rM,rS]
  exact ⟨_,rfl,herr _ rfl h0⟩
 refine Zz (by simpa using h0) ?_
 dsimp only [go_sem,rA,rM,rS]
 have hlen:=Wx (p:=p) (l:=l)
 refine call (Zfc p l hl c) ?_
 dsimp only [go_sem,rA,rM,rS]
 refine call (Zrk hp (Yn p l) (UR h0) (by omega) false) ?_
 dsimp only [Zrj,owS,anR,go_sem,rA,rM,rS]
 refine ⟨_,rfl,?_⟩
 rw [VN,Za1,if_pos h0,if_pos h0,h0]
 exact ZaT.rfl
theorem ZeQ (p:Pact) (l:List Letter) (who other:Int) (hs:Yr p) (hl:l.length<=1000) (c:Bool):Ct Try.prog 27 [.agg (Zj p),.sl c 8 (l.map Zb),I who,I other] (.tup [I (UC p l who other),I (UF p l who other)]):=by
 refine t27.1 (by simp [Zj,Za,Zb,Zc,KFL,KF]) (by simp [KFL,KF]) ?_
 dsimp only [c27,r27,Zj,go_sem,rA,rM,rS]
 refine call (Ze1 p hs) ?_
 dsimp only [go_sem,rA,rM,rS]
 by_cases hp:ZH p=true
 case neg =>
  have e:Z2 p l=80:=by rw [Z2,if_pos (by simpa using hp)]
  refine ZK (by simpa using hp) ?_
  dsimp only [go_sem,rA,rM,rS]
  simp [UC,UF,e]
 refine Zz (by simp [hp]) ?_
 dsimp only [go_sem,rA,rM,rS]
 refine call (Zbg p l hs hl c) ?_
 dsimp only [go_sem,rA,rM,rS]
 rw [<- Zff (l:=l) hp]
 by_cases h0:Z2 p l=0
 case neg =>
  refine ZK (by simpa using h0) ?_
  dsimp only [go_sem,rA,rM,rS]
  simp [UC,UF,h0]
 refine Zz (by simpa using h0) ?_
 dsimp only [go_sem,rA,rM,rS]
 have hlen:=Wx (p:=p) (l:=l)
 refine call (YW p who hs) ?_
 dsimp only [go_sem,rA,rM,rS]
 repeat (first | (refine gb ?_;dsimp only [go_sem,rA,rM,rS]) | (refine call (YW p other hs) ?_;dsimp only [go_sem,rA,rM,rS]))
 have g1:=Xf p who
 have g2:=Xf p other
 have e1:decide (atF p who < 0) = !atP p who:=by rw [<- g1];by_cases q:atF p who < 0<;>simp [q]<;>omega
 have e2:decide (atF p other < 0) = !atP p other:=by rw [<- g2];by_cases q:atF p other < 0<;>simp [q]<;>omega
 by_cases hb:VL p who other=true
 . refine ZK ?_ ?_
   . simp only [VL] at hb;rw [e1,e2];revert hb;cases atP p who<;>cases atP p other<;>simp
   dsimp only [go_sem,rA,rM,rS]
   simp [UC,UF,h0,hb]
 refine Zz ?_ ?_
 . rw [Bool.not_eq_true] at hb
   simp only [VL] at hb;rw [e1,e2];revert hb;cases atP p who<;>cases atP p other<;>simp
 dsimp only [go_sem,rA,rM,rS]
 rw [Bool.not_eq_true] at hb
 have hw:UC p l who other=(YX p co0 (Yn p l)).debts who other:=by rw [UC,if_pos ⟨h0,hb⟩]
 have he:UF p l who other=0:=by simp [UF,h0,hb]
 have hww:who ∈ ids p/\other ∈ ids p:=by
  simp only [VL,Bool.or_eq_false_iff,Bool.not_eq_false',Ui] at hb
  exact hb.1
 obtain ⟨i,hi,hi1,hi2⟩:=XV hww.1
 obtain ⟨j,hj,hj1,hj2⟩:=XV hww.2
 refine call (Zfc p l hl c) ?_
 dsimp only [go_sem,rA,rM,rS]
 refine call (Zrk hp (Yn p l) (UR h0) (by omega) false) ?_
 dsimp only [Zrj,owS,anR,go_sem,rA,rM,rS]
 refine call (YW p who hs) ?_
 dsimp only [go_sem,rA,rM,rS]
 refine ZF i (by rw [V5];exact hi) hi1 ?_
 dsimp only [go_sem,rA,rM,rS]
 refine call (YW p other hs) ?_
 dsimp only [go_sem,rA,rM,rS]
 refine ZF j (by rw [Zkj hi,Xh];exact hj) hj1 ?_
 dsimp only [ZP,go_sem,rA,rM,rS]
 rw [ZkY hi hj,hi2,hj2,hw,he]
theorem Zur (p:Pact) (hs:Yr p):Ct Try.prog 17 [.agg (Zj p)] (.agg (Zj p)):=by
 have hs':p.partners.length<=1000:=hs
 refine t17.1 (by simp [Zj,Za,Zc,KFL,KF]) (by simp [Zj,Za,Zc,KFL,KF]) ?_
 dsimp only [c17,r17,Zj,go_sem,rA,rM,rS]
 refine app0 (by simp;omega) ?_
 dsimp only [go_sem,rA,rM,rS]
 try simp
theorem ZdB (p:Pact) (hs:Yr p):Ct Try.prog 23 [.agg (Zj p),.agg (Zj p)] (B true):=by
 have hs':p.partners.length<=1000:=hs
 refine t23.1 (by simp [Zj,Za,Zc,KFL,KF]) (by simp [KFL,KF]) ?_
 dsimp only [c23,r23,Zj,go_sem,rA,rM,rS]
 repeat (refine gb ?_;dsimp only [go_sem,rA,rM,rS])
 refine Zz (by simp) ?_
 dsimp only [go_sem,rA,rM,rS]
 refine YY (fun s:Nat=>[(5,I (s:Nat))]) (fun _=>[]) (fun s=>s<=p.partners.length) (fun s=>p.partners.length - s) 0 (Nat.zero_le _) ?_ ?_
 . (refine Zl ?_ ?_ ?_ rfl rfl<;>dsimp only [Zj,Za,id,go_sem,rA,rM,rS]<;>simp [Zj,Za,Zc,Ze,KFR,KFL,KF,Zd,mtO,nbr])
 intro k hk
 dsimp only [go_sem,rA,rM,rS]
 simp only [List.length_map]
 by_cases hlt:k < p.partners.length
 . refine ZK (by simpa using hlt) ?_
   dsimp only [go_sem,rA,rM,rS]
   refine ZF k hlt rfl ?_
   dsimp only [Za,go_sem,rA,rM,rS]
   refine ZF k hlt rfl ?_
   dsimp only [Za,go_sem,rA,rM,rS]
   refine Zz (by simp [ngB]) ?_
   dsimp only [go_sem,rA,rM,rS]
   rw [Zi (n:=(k:Int)+1) (by omega) (by omega)]
   refine ⟨k+1,hlt,by omega,?_⟩
   (refine Zl ?_ ?_ ?_ rfl rfl<;>dsimp only [Zj,Za,id,go_sem,rA,rM,rS]<;>simp [Zj,Za,Zc,Ze,KFR,KFL,KF,Zd,mtO,nbr])
 refine Zz (by simpa using hlt) ?_
 dsimp only [go_sem,rA,rM,rS]
theorem Zna (p:Pact) (l:List Letter) (who other:Int) (c:Bool):Ct Try.prog 4 [.agg (Zj p),.sl c 8 (l.map Zb),I who,I other] (B true):=by
 refine t4.1 (by simp [Zj,Za,Zb,Zc,KFL,KF]) (by simp [KFL,KF]) ?_
 dsimp only [c4,r4,Zj,go_sem,rA,rM,rS]
 refine call (Zmm p l c) ?_
 dsimp only [go_sem,rA,rM,rS]
 by_cases hg:ZeP p l=true
 . refine ZK hg ?_
   dsimp only [go_sem,rA,rM,rS]
 refine Zz (by simpa using hg) ?_
 dsimp only [go_sem,rA,rM,rS]
 simp only [ZeP,Bool.or_eq_true,decide_eq_true_eq,not_or] at hg
 have hs:Yr p:=by unfold Yr;omega
 have hl:l.length<=1000:=by omega
 have hlen:=Wx (p:=p) (l:=l)
 have k3:=ZaO l l (by omega) (by omega) false c
 have dt:∀ L:List Letter,decide (L=L)=true:=fun L=>by simp
 rw [dt] at k3
 have kp:=ZdB p hs
 simp only [Zj] at kp
 refine call (Zur p hs) ?_
 dsimp only [Zj,go_sem,rA,rM,rS]
 refine app0 (by simp;omega) ?_
 dsimp only [go_sem,rA,rM,rS]
 have hns:∀ w:List Int,Zc8 1 (.sl false 1 (w.map u8L))=some (w.map fun n=>[SV.v (.int .u8 n)]):=fun w=>rfl
 have gs:∀ w:List Int,((byS w).toList == (byS w).toList)=true:=fun w=>by simp
 have ge:∀ n:Int,(n == n)=true:=fun n=>by simp
 have kR:=Zoy p l hs hl c
 refine Zp [] (Zlc p l hs hl false) rfl rfl rfl ?_ ?_ ?_
 . (repeat first | dsimp only [Zj,go_sem,rA,rM,rS] | simp only [nbr])
   simp [mtL,mtB,mtS,mtO,VT,Zc,KFL,KF,Zb,Za]
 . trivial
 intro o ho
 unfold RdO at ho
 by_cases h0:Z2 p l=0
 case neg =>
  rw [if_neg h0] at ho
  subst ho
  dsimp only [go_sem,rA,rM,rS]
  refine gh (Y4 (ZcM (s':=.sl false 8 (([]:List Letter).map Zb)) 11 rfl VA (fun _ _ _ h=>by cases h)) (ZcM (s':=.sl false 1 (([]:List Int).map u8L)) 12 rfl VA (fun _ _ _ h=>by cases h))) ?_
  dsimp only [go_sem,rA,rM,rS]
  have e1:VN p l=[]:=by rw [VN,if_neg h0]
  have e2:Za1 p l=[]:=by rw [Za1,if_neg h0]
  rw [e1,e2] at kR
  have k2:=ZaO [] [] (by simp) (by simp) false false
  rw [dt] at k2
  refine call kR ?_
  dsimp only [go_sem,rA,rM,rS]
  refine call (Zg2 p l who other hs hl false) ?_
  dsimp only [go_sem,rA,rM,rS]
  refine call (ZeQ p l who other hs hl c) ?_
  dsimp only [go_sem,rA,rM,rS]
  refine call k2 ?_
  dsimp only [go_sem,rA,rM,rS]
  repeat (refine Yz rfl ?_;dsimp only [go_sem,rA,rM,rS])
  refine ZbO (e:=5) (ns:=[]) rfl (fun _ _ _ e=>by cases e) (hns _) (by kernel_rfl) (by kernel_rfl) (by kernel_rfl) ?_
  dsimp only [go_sem,rA,rM,rS]
  repeat (refine Yz rfl ?_;dsimp only [go_sem,rA,rM,rS])
  refine ZbO (e:=5) (ns:=[]) rfl (fun _ _ _ e=>by cases e) (hns _) (by kernel_rfl) (by kernel_rfl) (by kernel_rfl) ?_
  dsimp only [go_sem,rA,rM,rS]
  repeat (refine Yz rfl ?_;dsimp only [go_sem,rA,rM,rS])
  refine ZeK rfl rfl ?_
  simp only [gs]
  dsimp only [go_sem,rA,rM,rS]
  iterate 3 (refine Yz rfl ?_;dsimp only [go_sem,rA,rM,rS])
  simp only [ge]
  iterate 3 (refine Yz rfl ?_;dsimp only [go_sem,rA,rM,rS])
  simp only [ge]
  iterate 3 (refine Yz rfl ?_;dsimp only [go_sem,rA,rM,rS])
  simp only [ge]
  refine Zrg 1 ?_
  dsimp only [ZV,go_sem,rA,rM,rS]
  refine Zz (by simp) ?_
  dsimp only [go_sem,rA,rM,rS]
  refine gh Yq ?_
  dsimp only [go_sem,rA,rM,rS]
  repeat (first | (refine Yz rfl ?_;dsimp only [go_sem,rA,rM,rS]) | (refine call kp ?_;dsimp only [go_sem,rA,rM,rS]) | (refine call k3 ?_;dsimp only [go_sem,rA,rM,rS]))
  rfl
 rw [if_pos h0] at ho
 subst ho
 dsimp only [go_sem,rA,rM,rS]
 refine gh (ZbW 12 3 (Yn p l).length rfl rfl rfl rfl) ?_
 dsimp only [go_sem,rA,rM,rS]
 have e1:VN p l=Yn p l:=by rw [VN,if_pos h0]
 have e2:Za1 p l=V3 p co0 (Yn p l):=by rw [Za1,if_pos h0]
 rw [e1,e2,h0] at kR
 have kW:=Zg2 p l who other hs hl false
 have kV:=ZeQ p l who other hs hl c
 generalize V3 p co0 (Yn p l)=W at *
 generalize Yn p l=X at *
 have k2:=ZaO X X (by omega) (by omega) false false
 rw [dt] at k2
 refine call kR ?_
 dsimp only [go_sem,rA,rM,rS]
 refine call kW ?_
 dsimp only [go_sem,rA,rM,rS]
 refine call kV ?_
 dsimp only [go_sem,rA,rM,rS]
 generalize UC p l who other=oR at *
 generalize UF p l who other=oE at *
 refine UD (by simp [FLT]) (res:=B true) (by dsimp only [go_sem,rA,rM,rS];exact k2) ?_
 dsimp only [go_sem,rA,rM,rS]
 repeat (refine Yz rfl ?_;dsimp only [go_sem,rA,rM,rS])
 refine ZbO (e:=5) (ns:=W) rfl (fun _ _ _ e=>by cases e) (hns _) (by kernel_rfl) (by kernel_rfl) (by kernel_rfl) ?_
 dsimp only [go_sem,rA,rM,rS]
 repeat (refine Yz rfl ?_;dsimp only [go_sem,rA,rM,rS])
 refine ZbO (e:=5) (ns:=W) rfl (fun _ _ _ e=>by cases e) (hns _) (by kernel_rfl) (by kernel_rfl) (by kernel_rfl) ?_
 dsimp only [go_sem,rA,rM,rS]
 repeat (refine Yz rfl ?_;dsimp only [go_sem,rA,rM,rS])
 refine ZeK rfl rfl ?_
 simp only [gs]
 dsimp only [go_sem,rA,rM,rS]
 iterate 3 (refine Yz rfl ?_;dsimp only [go_sem,rA,rM,rS])
 simp only [ge]
 iterate 3 (refine Yz rfl ?_;dsimp only [go_sem,rA,rM,rS])
 simp only [ge]
 iterate 3 (refine Yz rfl ?_;dsimp only [go_sem,rA,rM,rS])
 simp only [ge,Bool.and_self]
 refine Zir [87,88,21,11,10,9,8,4,1] rfl (fun s:Nat × List Letter=>[(88,I (s.1:Nat))]) (fun s=>[(2,.row 0 8 (s.2.map Zb) 50)]) (fun s=>s.1<=X.length/\s.2.length=X.length) (fun s=>X.length - s.1) (0,X) ⟨Nat.zero_le _,rfl⟩ ?_ ?_
 . (refine Zl ?_ ?_ ?_ rfl rfl<;>dsimp only [Zj,Za,Zb,u8L,id,go_sem,rA,rM,rS]<;>simp [Zj,Za,Zb,u8L,Zc,Ze,KFR,KFL,KF,Zd,mtO,nbr])
 rintro ⟨i,Y⟩ ⟨hi,hY⟩
 simp only at hi hY
 dsimp only [go_sem,rA,rM,rS]
 try simp only [List.length_map]
 by_cases hlt:i < X.length
 case neg =>
  refine Zz (by simpa using hlt) ?_
  dsimp only [go_sem,rA,rM,rS]
  refine gh Yq ?_
  dsimp only [go_sem,rA,rM,rS]
  repeat (first | (refine Yz rfl ?_;dsimp only [go_sem,rA,rM,rS]) | (refine call kp ?_;dsimp only [go_sem,rA,rM,rS]) | (refine call k3 ?_;dsimp only [go_sem,rA,rM,rS]))
  try rfl
 refine ZK (by simpa using hlt) ?_
 dsimp only [go_sem,rA,rM,rS]
 refine Xk i rfl (by simp;omega) ?_
 dsimp only [go_sem,rA,rM,rS]
 refine ZbE { Y[i] with day:=-7 } (by omega) (by simp [Zb]) (by simp [Zb,Zo]) ?_
 dsimp only [go_sem,rA,rM,rS]
 rw [Zi (n:=(i:Int)+1) (by omega) (by omega)]
 have hZ:(Y.set i { Y[i] with day:=-7 }).length=X.length:=by simp [hY]
 generalize Y.set i { Y[i] with day:=-7 }=Z at *
 refine ⟨(i+1,Z),⟨hlt,hZ⟩,by simp only;omega,?_⟩
 (refine Zl ?_ ?_ ?_ rfl rfl<;>dsimp only [Zj,Za,Zb,u8L,id,go_sem,rA,rM,rS]<;>simp [Zj,Za,Zb,u8L,Zc,Ze,KFR,KFL,KF,Zd,mtO,nbr])
end Go.Proofs.Ythilckbkffjliaa
