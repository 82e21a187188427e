/- A walk through the code of the given statement, and what it says. -/
import Derived.Test.YthilckbkffjliaaCI
import Derived.Test.YthilckbkffjliaaRows
open Nat renaming reduceAdd→rA,reduceMul→rM,reduceSub→rS,beq_refl→nbr
set_option maxRecDepth 100000
namespace Go.Proofs.Ythilckbkffjliaa
open Go Go.Sx
def c13:SC:=(.seq (.reg [
 o1 3 (.box (.t 0) 0 24),
 o1 6 (.mv (.c (.bool false)))])
 (.seq (.reg [
 o1 19 (.call 34 []),
 m1 7 19])
 (.seq (.seq (.reg [
 o1 20 (.ld (.t 3) 4 true),
 m1 21 1,
 o1 22 (.call 35 [.t 20,.t 21]),
 o1 23 (.un .not (.t 22)),
 m1 24 23,
 ⟨some 25,.mv (.t 7),some (24,false),[]⟩,
 ⟨some 26,.un .not (.t 25),some (24,false),[]⟩,
 o1 27 (.pick (.t 24) (.c (.bool true)) (.t 26))])
 (.cond (.t 27)
 (.seq (.reg [
  m1 28 7,
  m1 6 28])
  .ret)
 .skip))
 (.seq (.reg [
 o1 30 (.ld (.t 3) 4 true),
 m1 31 1,
 o1 32 (.call 24 [.t 30,.t 31]),
 m1 29 32,
 o1 33 (.ext (.t 29) 0),
 o1 34 (.ext (.t 29) 1),
 o1 35 (.ext (.t 29) 2),
 m1 8 33,
 m1 9 34,
 m1 10 35])
 (.seq (.seq (.reg [
 m1 36 10,
 o1 37 (.bin .neq (.t 36) (.c (.int .i64 0))),
 m1 38 37,
 ⟨some 39,.mv (.t 9),some (38,false),[]⟩,
 ⟨some 40,.len (.t 39),some (38,false),[]⟩,
 ⟨some 41,.mv (.t 8),some (38,false),[]⟩,
 ⟨some 42,.len (.t 41),some (38,false),[]⟩,
 ⟨some 43,.bin .neq (.t 40) (.t 42),some (38,false),[]⟩,
 o1 44 (.pick (.t 38) (.c (.bool true)) (.t 43))])
 (.cond (.t 44)
 (.seq (.reg [
  o1 6 (.mv (.c (.bool false)))])
  .ret)
 .skip))
 (.seq (.seq (.reg [
 m1 45 8,
 o1 46 (.len (.t 45)),
 o1 47 (.bin .eql (.t 46) (.c (.int .i64 0)))])
 (.cond (.t 47)
 (.seq (.reg [
  m1 48 7,
  m1 6 48])
  .ret)
 .skip))
 (.seq (.reg [
 m1 49 2,
 o1 50 (.conv .i64 (.t 49)),
 m1 51 8,
 o1 52 (.len (.t 51)),
 o1 53 (.div .rem (.t 50) (.t 52)),
 m1 11 53])
 (.seq (.seq (.reg [
 m1 54 8,
 m1 55 11,
 o1 56 (.ixs (.t 54) (.t 55) 8),
 o1 57 (.addo (.t 56) 2),
 o1 58 (.ld (.t 57) 1 false),
 o1 59 (.bin .neq (.t 58) (.c (.int .u8 5))),
 m1 60 59,
 ⟨some 61,.mv (.t 9),some (60,false),[]⟩,
 ⟨some 62,.mv (.t 11),some (60,false),[]⟩,
 ⟨some 63,.ixs (.t 61) (.t 62) 1,some (60,false),[]⟩,
 ⟨some 64,.ld (.t 63) 1 false,some (60,false),[]⟩,
 ⟨some 65,.bin .neq (.t 64) (.c (.int .u8 0)),some (60,false),[]⟩,
 o1 66 (.pick (.t 60) (.c (.bool true)) (.t 65))])
 (.cond (.t 66)
 (.seq (.reg [
  m1 67 7,
  m1 6 67])
  .ret)
 .skip))
 (.seq (.seq (.reg [
 m1 68 8,
 m1 69 11,
 o1 70 (.bin .add (.t 69) (.c (.int .i64 1))),
 o1 71 (.sub 8 (.t 68) (some (.t 70)) none),
 o1 72 (.len (.t 71)),
 o1 73 (.mv (.c (.int .i64 0)))])
 (.block 0 (.loop (.seq (.reg [
  o1 74 (.bin .lss (.t 73) (.t 72))])
  (.seq (.cond (.t 74)
  .skip
  (.exit 0))
  (.seq (.block 1 (.seq (.reg [
   o1 75 (.ixs (.t 71) (.t 73) 8),
   o1 76 (.ld (.t 75) 8 true),
   o1 13 (.alloc [.int .i64 0,.int .i64 0,.int .u8 0,.int .i64 0,.int .i64 0,.int .i64 0,.int .i64 0,.bool false] 50),
   ⟨none,.st (.t 13) (.t 76) 8,none,[]⟩])
   (.seq (.regd [0,1,2,3,4,5,6,7,8,9,10,11,12] [
   .op (o1 77 (.addo (.t 13) 2)),
   .op ⟨some 78,.ld (.t 77) 1 false,none,[0]⟩,
   .op ⟨some 79,.bin .eql (.t 78) (.c (.int .u8 3)),none,[1]⟩,
   .op ⟨some 80,.mv (.t 79),none,[2]⟩,
   .op ⟨some 81,.addo (.t 13) 5,some (80,true),[3]⟩,
   .op ⟨some 82,.ld (.t 81) 1 false,some (80,true),[3,4]⟩,
   .op ⟨some 83,.mv (.t 8),some (80,true),[3]⟩,
   .op ⟨some 84,.mv (.t 11),some (80,true),[3]⟩,
   .op ⟨some 85,.ixs (.t 83) (.t 84) 8,some (80,true),[3,6,7]⟩,
   .op ⟨some 86,.addo (.t 85) 5,some (80,true),[3,8]⟩,
   .op ⟨some 87,.ld (.t 86) 1 false,some (80,true),[3,9]⟩,
   .op ⟨some 88,.bin .eql (.t 82) (.t 87),some (80,true),[3,5,10]⟩,
   .op ⟨some 89,.pick (.t 80) (.t 88) (.c (.bool false)),none,[3,11]⟩] 0 0 [
])
 (.cond (.t 89)
 (.seq (.reg [
  m1 90 7,
  m1 6 90])
  .ret)
 .skip))))
 (.reg [
 o1 91 (.bin .add (.t 73) (.c (.int .i64 1))),
 m1 73 91])))))))
 (.seq (.reg [
 o1 92 (.bsl 8 50 []),
 m1 93 8,
 o1 94 (.cln 8 64 50 (.t 92) (.t 93)),
 m1 14 94])
 (.seq (.reg [
 m1 95 14,
 m1 96 11,
 o1 97 (.ixs (.t 95) (.t 96) 8),
 o1 98 (.addo (.t 97) 2),
 ⟨none,.st (.t 98) (.c (.int .u8 4)) 1,none,[]⟩])
 (.seq (.gh (.reg [
 o1 100 (.ld (.t 3) 4 true),
 m1 101 1,
 o1 102 (.call 29 [.t 100,.t 101]),
 m1 99 102,
 o1 103 (.ext (.t 99) 0),
 o1 104 (.ext (.t 99) 1),
 m1 15 103,
 m1 16 104]))
 (.seq (.gh (.reg [
 o1 106 (.ld (.t 3) 4 true),
 m1 107 14,
 o1 108 (.call 29 [.t 106,.t 107]),
 m1 105 108,
 o1 109 (.ext (.t 105) 0),
 o1 110 (.ext (.t 105) 1),
 m1 17 109,
 m1 18 110]))
 (.seq (.reg [
 m1 111 7,
 m1 112 111,
 ⟨some 113,.mv (.t 16),some (112,true),[]⟩,
 ⟨some 114,.bin .eql (.t 113) (.c (.int .i64 0)),some (112,true),[]⟩,
 o1 115 (.pick (.t 112) (.t 114) (.c (.bool false))),
 m1 116 115,
 ⟨some 117,.mv (.t 18),some (116,true),[]⟩,
 ⟨some 118,.bin .eql (.t 117) (.c (.int .i64 0)),some (116,true),[]⟩,
 o1 119 (.pick (.t 116) (.t 118) (.c (.bool false))),
 m1 120 119,
 ⟨some 121,.mv (.t 15),some (120,true),[]⟩,
 ⟨some 122,.mv (.t 17),some (120,true),[]⟩,
 ⟨some 123,.call 22 [.t 121,.t 122],some (120,true),[]⟩,
 o1 124 (.pick (.t 120) (.t 123) (.c (.bool false))),
 m1 6 124])
 .ret))))))))))))))
def r13:List RV:=[.tmp 6]
theorem n13:Try.f13.ntmps=125:=by kernel_rfl
theorem b13:bodyB Try.prog 13=true:=by kernel_rfl
theorem c13_ok:cmpC Try.prog c13 ((Try.f13.body).getD .skip)=true:=by kernel_rfl
theorem r13_ok:cmpR Try.prog r13 Try.f13.results.toList=true:=by kernel_rfl
theorem t13 {args:List SV} {res:SV} (ka:KFL args) (kr:KF res) (h:sx Try.prog Y0 0 c13 (st0 args 125) (retK r13 res)) (hA:Nat.ble args.length 125=true:=by rfl):Ct Try.prog 13 args res:=ct_intro Try.func13 rfl b13 c13_ok r13_ok n13 (Nat.le_of_ble_eq_true hA) ka kr h
end Go.Proofs.Ythilckbkffjliaa
set_option maxRecDepth 100000
set_option maxHeartbeats 4000000
namespace Go.Proofs.Ythilckbkffjliaa
open Go Go.Sx Go.Azalai
theorem alone_ok (p:Pact) (l:List Letter) (w:Int) (hw:0≤w∧w < 256) (c:Bool):Ct Try.prog 13 [.agg (pactL p),.sl c 8 (l.map letterL),U8 w] (B true):=by
 refine t13 (by simp [pactL,partnerL,letterL,KFR_iff,KFL,KF]) (by simp [KFL,KF]) ?_
 obtain ⟨wn,rfl⟩:=Int.eq_ofNat_of_zero_le hw.1
 dsimp only [c13,r13,pactL,go_sem,rA,rM,rS]
 refine call alive_ok ?_
 dsimp only [go_sem,rA,rM,rS]
 refine call (readyA_ok p l c) ?_
 dsimp only [go_sem,rA,rM,rS]
 by_cases hr:readyF p l=true
 case neg =>
  rw [Bool.not_eq_true] at hr
  rw [hr]
  repeat (refine gb_skip (by decide) ?_;dsimp only [go_sem,rA,rM,rS])
  refine br_t rfl ?_
  dsimp only [go_sem,rA,rM,rS]
 rw [hr]
 obtain ⟨hs,hl,h0⟩:=readyF_t hr
 obtain ⟨hp,-,hok,h2⟩:=readE_0 h0
 repeat (refine gb_run rfl ?_;dsimp only [go_sem,rA,rM,rS])
 refine br_f rfl ?_
 dsimp only [go_sem,rA,rM,rS]
 refine call (Read_ok p l hs (by omega) c) ?_
 dsimp only [go_sem,rA,rM,rS]
 have hX:=readL_ok h0
 have hrl:=readL_len (p:=p) (l:=l)
 have e1:readR p l=readL p l:=by rw [readR,if_pos h0]
 have e2:whyRR p l=whyL p co0 (readL p l):=by rw [whyRR,if_pos h0]
 have e3:settleR p l=settleF p (readL p l):=by rw [settleR,if_pos h0]
 have hwl:=whyL_len (p:=p) (l:=readL p l) (c:=co0)
 have hord:(readL p l).Pairwise fun a b=>lt2 a b=true:=readL_ord
 have hday:=read_days h0
 have hnd:=readL_nodup (p:=p) (l:=l)
 rw [e1,e2,h0]
 generalize readL p l=X at *
 repeat (refine gb ?_;dsimp only [go_sem,rA,rM,rS])
 simp only [List.length_map]
 refine br_f (by simp [hwl]) ?_
 dsimp only [go_sem,rA,rM,rS]
 simp only [List.length_map]
 by_cases hx0:X.length=0
 · refine br_t (by simp [hx0]) ?_
   dsimp only [go_sem,rA,rM,rS]
 refine br_f (by simp;intro h;exact hx0 (by rw [h];rfl)) ?_
 dsimp only [go_sem,rA,rM,rS]
 simp only [List.length_map]
 rw [w64_in (n:=(wn:Int)) (by omega) (by omega)]
 refine div0 (by omega) ?_
 dsimp only [divr,go_sem,rA,rM,rS]
 rw [nat_tmod]
 have hk:wn % X.length < X.length:=Nat.mod_lt _ (by omega)
 generalize wn % X.length=k at *
 refine ixs_map k hk rfl ?_
 dsimp only [letterL,go_sem,rA,rM,rS]
 have hwk:=why_at (p:=p) hk co0
 by_cases h5:X[k].kind=5
 case neg =>
  have g:(X[k].kind != 5)=true:=by simp [h5]
  simp only [g]
  repeat (refine gb_skip (by decide) ?_;dsimp only [go_sem,rA,rM,rS])
  refine br_t rfl ?_
  dsimp only [go_sem,rA,rM,rS]
 have g:(X[k].kind != 5)=false:=by simp [h5]
 simp only [g]
 repeat (first | (refine gb_run rfl ?_;dsimp only [go_sem,rA,rM,rS]) | (refine ixs_map k (by omega) rfl ?_;dsimp only [u8L,go_sem,rA,rM,rS]))
 by_cases hv:(whyL p co0 X)[k]'(by omega)=0
 case neg =>
  refine br_t (by simp [hv]) ?_
  dsimp only [go_sem,rA,rM,rS]
 refine br_f (by simp [hv]) ?_
 dsimp only [go_sem,rA,rM,rS]
 rw [hv] at hwk
 simp only [List.length_map]
 rw [w64_in (n:=(k:Int)+1) (by omega) (by omega)]
 refine ⟨k+1,X.length,⟨by omega,rfl,by omega,by simp⟩,?_⟩
 dsimp only [go_sem,rA,rM,rS]
 have hsub:List.drop (k+1) (List.take X.length (X.map letterL))=(X.drop (k+1)).map letterL:=by
  rw [List.take_of_length_le (by simp),List.map_drop]
 rw [hsub]
 simp only [List.length_map]
 have hkfd:KFR (List.drop (k+1) (List.map letterL X)):=by rw [← List.map_drop];exact KFR_iff.2 fun x _=>by simp [KFL,KF,letterL]
 have hDl:(X.drop (k+1)).length≤100:=by simp;omega
 generalize hD:X.drop (k+1)=D at *
 refine loopO (fun s:Nat=>[(73,I (s:Nat))]) (fun _=>[]) (fun s=>s≤D.length∧∀ i (hi:i < D.length),i < s→¬(D[i].kind=3∧D[i].animal=X[k].animal)) (fun s=>D.length - s) 0 ⟨Nat.zero_le _,fun i _ h=>by omega⟩ ?_ ?_
 · (refine ent_id ?_ ?_ ?_ rfl rfl<;>dsimp only [pactL,partnerL,letterL,u8L,intL,hkfd,id,go_sem,rA,rM,rS]<;>simp [pactL,partnerL,letterL,u8L,intL,hkfd,KFR_iff,KFR_app,KFR,KFL,KF,mtL_same,mtO,nbr])
 intro j ⟨hj,hno⟩
 dsimp only [go_sem,rA,rM,rS]
 by_cases hlt:j < D.length
 · refine br_t (by simpa using hlt) ?_
   dsimp only [go_sem,rA,rM,rS]
   refine ixs_map j hlt rfl ?_
   dsimp only [letterL,go_sem,rA,rM,rS]
   by_cases h3:D[j].kind=3
   · have g3:(D[j].kind == 3)=true:=by simp [h3]
     simp only [g3]
     repeat (first | (refine gb_run rfl ?_;dsimp only [go_sem,rA,rM,rS]) | (refine ixs_map k hk rfl ?_;dsimp only [letterL,go_sem,rA,rM,rS]))
     by_cases ha:D[j].animal=X[k].animal
     · refine br_t (by simp [ha]) ?_
       dsimp only [go_sem,rA,rM,rS]
     · refine br_f (by simp [ha]) ?_
       dsimp only [go_sem,rA,rM,rS]
       rw [w64_in (n:=(j:Int)+1) (by omega) (by omega)]
       refine ⟨j+1,⟨hlt,fun i hi h=>?_⟩,by omega,?_⟩
       · by_cases e:i=j
         · subst e;exact fun q=>ha q.2
         · exact hno i hi (by omega)
       (refine ent_id ?_ ?_ ?_ rfl rfl<;>dsimp only [pactL,partnerL,letterL,u8L,intL,hkfd,id,go_sem,rA,rM,rS]<;>simp [pactL,partnerL,letterL,u8L,intL,hkfd,KFR_iff,KFR_app,KFR,KFL,KF,mtL_same,mtO,nbr])
   · have g3:(D[j].kind == 3)=false:=by simp [h3]
     simp only [g3]
     repeat (refine gb_skip (by decide) ?_;dsimp only [go_sem,rA,rM,rS])
     refine br_f rfl ?_
     dsimp only [go_sem,rA,rM,rS]
     rw [w64_in (n:=(j:Int)+1) (by omega) (by omega)]
     refine ⟨j+1,⟨hlt,fun i hi h=>?_⟩,by omega,?_⟩
     · by_cases e:i=j
       · subst e;exact fun q=>h3 q.1
       · exact hno i hi (by omega)
     (refine ent_id ?_ ?_ ?_ rfl rfl<;>dsimp only [pactL,partnerL,letterL,u8L,intL,hkfd,id,go_sem,rA,rM,rS]<;>simp [pactL,partnerL,letterL,u8L,intL,hkfd,KFR_iff,KFR_app,KFR,KFL,KF,mtL_same,mtO,nbr])
 refine br_f (by simpa using hlt) ?_
 dsimp only [go_sem,rA,rM,rS]
 have hnoD:∀ y ∈ D,¬(y.kind=3∧y.animal=X[k].animal):=fun y hy=>by
  obtain ⟨i,hi,rfl⟩:=List.getElem_of_mem hy
  exact hno i hi (by omega)
 have hal:=alone (p:=p) hk h5 hwk.symm (by rw [hD];exact hnoD)
 refine ⟨by simp;omega,?_⟩
 (repeat first | dsimp only [go_sem,rA,rM,rS] | simp only [nbr])
 refine ixrm k rfl (by simpa using hk) ?_
 (repeat first | dsimp only [go_sem,rA,rM,rS] | simp only [nbr])
 refine strm { X[k] with kind:=4 } hk (by simp [letterL]) (by simp [letterL,splice]) ?_
 (repeat first | dsimp only [go_sem,rA,rM,rS] | simp only [nbr])
 refine gh ent_refl ?_
 (repeat first | dsimp only [go_sem,rA,rM,rS] | simp only [nbr])
 refine call (settle_ok p l hs (by omega) c) ?_
 (repeat first | dsimp only [go_sem,rA,rM,rS] | simp only [nbr])
 rw [e3,h0]
 refine gh (ent_frz 14 1 0 rfl rfl rfl rfl) ?_
 (repeat first | dsimp only [go_sem,rA,rM,rS] | simp only [nbr])
 have hself:readE p (X.set k { X[k] with kind:=4 })=0∧readL p (X.set k { X[k] with kind:=4 })=X.set k { X[k] with kind:=4 }:=by
  have hel:∀ i (hi:i < (X.set k { X[k] with kind:=4 }).length),(X.set k { X[k] with kind:=4 })[i]=if k=i then { X[k] with kind:=4 } else X[i]'(by simpa using hi):=fun i hi=>List.getElem_set ..
  have hd2:∀ i (hi:i < (X.set k { X[k] with kind:=4 }).length),(X.set k { X[k] with kind:=4 })[i].day=(X[i]'(by simpa using hi)).day∧(X.set k { X[k] with kind:=4 })[i].id=(X[i]'(by simpa using hi)).id:=fun i hi=>by
   rw [hel i hi]
   split
   · rename_i e;subst e;exact ⟨rfl,rfl⟩
   · exact ⟨rfl,rfl⟩
  refine read_self hp (by simp;omega) (fun x hx=>?_) ?_ (fun x hx=>?_) ?_
  · obtain ⟨i,hi,rfl⟩:=List.getElem_of_mem hx
    rw [hel i hi]
    split
    · have:=hX _ (List.getElem_mem hk)
      simp only [okLetter,h5] at this ⊢
      simpa using this
    · exact hX _ (List.getElem_mem _)
  · rw [List.pairwise_iff_getElem] at hord ⊢
    intro i j hi hj hij
    have:=hord i j (by simpa using hi) (by simpa using hj) hij
    simp only [lt2] at this ⊢
    rw [(hd2 i hi).1,(hd2 j hj).1,(hd2 i hi).2,(hd2 j hj).2]
    exact this
  · obtain ⟨i,hi,rfl⟩:=List.getElem_of_mem hx
    rw [(hd2 i hi).1]
    exact hday _ (List.getElem_mem _)
  · have:(X.set k { X[k] with kind:=4 }).map (·.id)=X.map (·.id):=by
     apply List.ext_getElem
     · simp
     intro i h1 h2
     rw [List.getElem_map,List.getElem_map,(hd2 i (by simpa using h1)).2]
    rw [this];exact hnd
 refine call (settle_ok p (X.set k { X[k] with kind:=4 }) hs (by simp;omega) false) ?_
 (repeat first | dsimp only [go_sem,rA,rM,rS] | simp only [nbr])
 rw [settleR_of hself,hself.1,hal]
 have hsl:(settleF p X).length=p.partners.length:=hasF_len
 have h8:=(okPact_all hp).2.2.2.2.2.2
 have q1:=same22_ok (settleF p X) (settleF p X) (by omega) (by omega) false false
 simp only [decide_true] at q1
 repeat (first | (refine call q1 ?_;dsimp only [go_sem,rA,rM,rS]) | (refine gb_run rfl ?_;dsimp only [go_sem,rA,rM,rS]))
 try rfl
end Go.Proofs.Ythilckbkffjliaa
set_option maxRecDepth 100000
set_option maxHeartbeats 4000000
namespace Go.Proofs.Ythilckbkffjliaa
open Go Go.Sx Go.Azalai Go.ChangeShapes Go.WideShapes Go.RowKit
theorem wf8 {n:Int} (h:(Lit.int .u8 n).wf=true):0≤n∧n < 256:=by
 simp only [Lit.wf,Bool.and_eq_true,decide_eq_true_eq] at h
 have e1:IntKind.u8.min=0:=rfl
 have e2:IntKind.u8.max=255:=rfl
 omega
theorem lift_map {α : Type} {rep:α→List SV} {q:List SV→Prop} (hq:∀ r,q r→∃ a,r=rep a):∀ {xs:List (List SV)},(∀ r ∈ xs,q r)→∃ l:List α,xs=l.map rep
 | [],_=>⟨[],rfl⟩
 | x :: xs,h=>by
  obtain ⟨a,rfl⟩:=hq x (h x (by simp))
  obtain ⟨l,rfl⟩:=lift_map (xs:=xs) hq (fun r hr=>h r (by simp [hr]))
  exact ⟨a :: l,rfl⟩
theorem shp3 {f:Nat} {l:List SV} (h:Shp Try.prog (f+1) 3 l):∃ n:Int,l=[.v (.int .i64 n)]∧(Lit.int .i64 n).wf=true:=by
 rw [Shp,Try.underlying3] at h
 exact h
theorem shp64 {f:Nat} {l:List SV} (h:Shp Try.prog (f+2) 64 l):∃ w:Partner,l=partnerL w:=by
 rw [Shp,Try.underlying64] at h
 simp only [ShpF] at h
 obtain ⟨_,_,rfl,_,h0,_,_,rfl,_,h1,_,_,rfl,_,h2,rfl⟩:=h
 obtain ⟨a0,rfl,_⟩:=shp3 (f:=f+0) h0
 obtain ⟨a1,rfl,_⟩:=shp3 (f:=f+0) h1
 obtain ⟨a2,rfl,_⟩:=shp3 (f:=f+0) h2
 exact ⟨⟨a0,a1,a2⟩,rfl⟩
theorem cells64:Try.prog.cellsOf 64=3:=by kernel_rfl
theorem shp22 {f:Nat} {l:List SV} (h:Shp Try.prog (f+3) 22 l):∃ ds:List Partner,l=[.sl false 3 (ds.map partnerL)]∧ds.length≤9223372036854775807:=by
 rw [Shp,Try.underlying22] at h
 obtain ⟨xs,rfl,hl,hx⟩:=h
 obtain ⟨ws,rfl⟩:=lift_map (rep:=partnerL) (fun r h=>shp64 (f:=f) h.2) hx
 rw [cells64]
 exact ⟨ws,rfl,by simpa using hl⟩
theorem shp24 {f:Nat} {l:List SV} (h:Shp Try.prog (f+4) 24 l):∃ w:Pact,l=pactL w:=by
 rw [Shp,Try.underlying24] at h
 simp only [ShpF] at h
 obtain ⟨_,_,rfl,_,h0,_,_,rfl,_,h1,_,_,rfl,_,h2,_,_,rfl,_,h3,rfl⟩:=h
 obtain ⟨a0,rfl,_⟩:=shp22 (f:=f+0) h0
 obtain ⟨a1,rfl,_⟩:=shp3 (f:=f+2) h1
 obtain ⟨a2,rfl,_⟩:=shp3 (f:=f+2) h2
 obtain ⟨a3,rfl,_⟩:=shp3 (f:=f+2) h3
 exact ⟨⟨a0,a1,a2,a3⟩,rfl⟩
theorem shp5 {f:Nat} {l:List SV} (h:Shp Try.prog (f+1) 5 l):∃ n:Int,l=[.v (.int .u8 n)]∧(Lit.int .u8 n).wf=true:=by
 rw [Shp,Try.underlying5] at h
 exact h
theorem shp4 {f:Nat} {l:List SV} (h:Shp Try.prog (f+1) 4 l):∃ n:Bool,l=[B n]:=by
 rw [Shp,Try.underlying4] at h
 exact h
theorem shp50 {f:Nat} {l:List SV} (h:Shp Try.prog (f+2) 50 l):∃ w:Letter,l=letterL w:=by
 rw [Shp,Try.underlying50] at h
 simp only [ShpF] at h
 obtain ⟨_,_,rfl,_,h0,_,_,rfl,_,h1,_,_,rfl,_,h2,_,_,rfl,_,h3,_,_,rfl,_,h4,_,_,rfl,_,h5,_,_,rfl,_,h6,_,_,rfl,_,h7,rfl⟩:=h
 obtain ⟨a0,rfl,_⟩:=shp3 (f:=f+0) h0
 obtain ⟨a1,rfl,_⟩:=shp3 (f:=f+0) h1
 obtain ⟨a2,rfl,_⟩:=shp5 (f:=f+0) h2
 obtain ⟨a3,rfl,_⟩:=shp3 (f:=f+0) h3
 obtain ⟨a4,rfl,_⟩:=shp3 (f:=f+0) h4
 obtain ⟨a5,rfl,_⟩:=shp3 (f:=f+0) h5
 obtain ⟨a6,rfl,_⟩:=shp3 (f:=f+0) h6
 obtain ⟨a7,rfl⟩:=shp4 (f:=f+0) h7
 exact ⟨⟨a0,a1,a2,a3,a4,a5,a6,a7⟩,rfl⟩
theorem cells50:Try.prog.cellsOf 50=8:=by kernel_rfl
theorem shp38 {f:Nat} {l:List SV} (h:Shp Try.prog (f+3) 38 l):∃ ds:List Letter,l=[.sl false 8 (ds.map letterL)]∧ds.length≤9223372036854775807:=by
 rw [Shp,Try.underlying38] at h
 obtain ⟨xs,rfl,hl,hx⟩:=h
 obtain ⟨ws,rfl⟩:=lift_map (rep:=letterL) (fun r h=>shp50 (f:=f) h.2) hx
 rw [cells50]
 exact ⟨ws,rfl,by simpa using hl⟩
theorem Try.own:ownKnob Try.prog.godebug=none:=by kernel_rfl
theorem Try.laidOut:laidOutB Try.prog=true:=by kernel_rfl
theorem tyB24:tyB Try.prog 20 24=true:=by kernel_rfl
theorem tyB38:tyB Try.prog 20 38=true:=by kernel_rfl
theorem tyB5:tyB Try.prog 20 5=true:=by kernel_rfl
theorem shareAlone_lifted (os:Os) (started:os.Started) (H:Type) (enc:TypeId × Value→H) :
 ReturnsInHanded {} Try.checked os 13 .any (Rows.shareAloneSpec.pre6 enc Try.prog Try.f13 Rows.shareAloneRow.domain false) (Rows.shareAloneSpec.post enc Try.prog Try.f13 false true false false):=by
 refine returnsInHanded_of_change (C:=Try.checked) Try.own started (by kernel_rfl) Try.func13
  (ChangeSpec.witness6 (enc:=enc) (C:=Try.checked) false ⟨#[],#[.agg #[.slice none 0 0,.int .i64 0,.int .i64 0,.int .i64 0],.slice none 0 0,.int .u8 0],[]⟩ 8 (by kernel_rfl) (by kernel_rfl) (by kernel_rfl) (by kernel_rfl)) ?_
 intro W base args ds gs before hval0 hW hcnd _
 have hval:∀ (j:Nat) t v,Try.f13.params[j]? = some t→args[j]? = some v→Value.okWide Try.prog W .any base t v:=hval0
 have hW':=hW
 obtain ⟨p,q,hA0,hV,rfl,hfz,hnd⟩:=hW
 have hA:DataW.TrodAll enc Try.prog W 0 (fun _=>true) true Try.f13.params.toList args.toList ds p:=hA0
 rw [Try.params13] at hA hval
 obtain ⟨v0,vs0,d0,ds0,p0,q0,ea0,rfl,rfl,h0,hA⟩:=trodAll_cons hA
 obtain ⟨v1,vs1,d1,ds1,p1,q1,rfl,rfl,rfl,h1,hA⟩:=trodAll_cons hA
 obtain ⟨v2,vs2,d2,ds2,p2,q2,rfl,rfl,rfl,h2,hA⟩:=trodAll_cons hA
 obtain ⟨rfl,rfl,rfl⟩:=trodAll_nil hA
 obtain ⟨rfl,rfl⟩:=trodVars_none hV
 have hargs:args = #[v0,v1,v2]:=Array.toList_inj.1 ea0
 subst hargs
 obtain ⟨l0,r0,s0⟩:=trod_arg tyB24 (hval 0 24 v0 rfl rfl) h0
 obtain ⟨l1,r1,s1⟩:=trod_arg tyB38 (hval 1 38 v1 rfl rfl) h1
 obtain ⟨l2,r2,s2⟩:=trod_arg tyB5 (hval 2 5 v2 rfl rfl) h2
 obtain ⟨x0,rfl⟩:=shp24 s0
 obtain ⟨x1,rfl,b1⟩:=shp38 s1
 obtain ⟨x2,rfl,b2⟩:=shp5 s2
 simp only [argV,Try.underlying24,Try.underlying38,Try.underlying5,List.headD_cons] at r0 r1 r2
 refine ((alone_ok x0 x1 x2 (wf8 b2) false).run W Tr [v0,v1,v2] (by simp only [RL];exact ⟨_,_,rfl,r0,_,_,rfl,r1,_,_,rfl,r2,rfl⟩)).mono fun e W' ⟨y,he,hy,hb⟩=>?_
 simp only [R] at hy
 subst hy
 exact ⟨_,he,post_law (P:=Try.prog) Try.laidOut (by kernel_rfl) (by kernel_rfl) Try.underlying4 rfl rfl hW' hb⟩
theorem shareAlone_holds:Rows.ShareAloneSaid :=
 OpenClaim.holds_of_wide 13 Try.f13 rfl rfl rfl rfl rfl rfl rfl ⟨rfl,rfl,rfl,rfl,rfl⟩ rfl rfl rfl rfl rfl (by kernel_rfl) Try.func13 (by kernel_rfl)
  (of_decide_eq_true (by kernel_rfl)) (by unfold Func.isWrapper;first | (rw [if_pos (by decide +kernel)];kernel_rfl) | (rw [if_neg (by decide +kernel)];exact ⟨rfl,rfl⟩))
  (fun os started H enc _=>shareAlone_lifted os started H enc)
end Go.Proofs.Ythilckbkffjliaa
