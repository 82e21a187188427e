/- A walk through the code of the given statement, and what it says. -/
import Derived.Test.YthilckbkffjliaaCI
import Derived.Test.YthilckbkffjliaaRows
set_option linter.all false
open Nat renaming reduceAdd→rA,reduceMul→rM,reduceSub→rS,beq_refl→nbr
set_option maxRecDepth 100000
namespace Go.Proofs.Ythilckbkffjliaa
open Go Go.Sx
def c7:SC:=(.seq (.reg [
 o1 3 (.box (.t 0) 0 24),
 o1 6 (.mv (.c (.bool false)))])
 (.seq (.reg [
 o1 23 (.call 34 []),
 m1 7 23])
 (.seq (.seq (.reg [
 o1 24 (.ld (.t 3) 4 true),
 m1 25 1,
 o1 26 (.call 35 [.t 24,.t 25]),
 o1 27 (.un .not (.t 26)),
 m1 28 27,
 ⟨some 29,.mv (.t 7),some (28,false),[]⟩,
 ⟨some 30,.un .not (.t 29),some (28,false),[]⟩,
 o1 31 (.pick (.t 28) (.c (.bool true)) (.t 30))])
 (.cond (.t 31)
 (.seq (.reg [
  m1 32 7,
  m1 6 32])
  .ret)
 .skip))
 (.seq (.reg [
 o1 34 (.ld (.t 3) 4 true),
 m1 35 1,
 o1 36 (.call 24 [.t 34,.t 35]),
 m1 33 36,
 o1 37 (.ext (.t 33) 0),
 o1 38 (.ext (.t 33) 1),
 o1 39 (.ext (.t 33) 2),
 m1 8 37,
 m1 9 38,
 m1 10 39])
 (.seq (.seq (.reg [
 m1 40 10,
 o1 41 (.bin .neq (.t 40) (.c (.int .i64 0))),
 m1 42 41,
 ⟨some 43,.mv (.t 9),some (42,false),[]⟩,
 ⟨some 44,.len (.t 43),some (42,false),[]⟩,
 ⟨some 45,.mv (.t 8),some (42,false),[]⟩,
 ⟨some 46,.len (.t 45),some (42,false),[]⟩,
 ⟨some 47,.bin .neq (.t 44) (.t 46),some (42,false),[]⟩,
 o1 48 (.pick (.t 42) (.c (.bool true)) (.t 47))])
 (.cond (.t 48)
 (.seq (.reg [
  o1 6 (.mv (.c (.bool false)))])
  .ret)
 .skip))
 (.seq (.reg [
 o1 11 (.mv (.c (.slice none 0 0)))])
 (.seq (.seq (.reg [
 m1 49 8,
 o1 50 (.len (.t 49)),
 o1 51 (.mv (.c (.int .i64 0)))])
 (.block 0 (.loop (.seq (.reg [
  o1 52 (.bin .lss (.t 51) (.t 50))])
  (.seq (.cond (.t 52)
  .skip
  (.exit 0))
  (.seq (.block 1 (.seq (.reg [
   o1 53 (.ixs (.t 49) (.t 51) 8),
   o1 54 (.ld (.t 53) 8 true),
   o1 13 (.alloc [.int .i64 0,.int .i64 0,.int .u8 0,.int .i64 0,.int .i64 0,.int .i64 0,.int .i64 0,.bool false] 50),
   ⟨none,.st (.t 13) (.t 54) 8,none,[]⟩])
   (.seq (.reg [
   o1 55 (.addo (.t 13) 2),
   o1 56 (.ld (.t 55) 1 false),
   o1 57 (.bin .eql (.t 56) (.c (.int .u8 6)))])
   (.cond (.t 57)
   (.reg [
    m1 58 11,
    o1 59 (.addo (.t 13) 4),
    o1 60 (.ld (.t 59) 1 false),
    o1 61 (.bsl 1 3 [.t 60]),
    o1 62 (.appm 1 8 3 (.t 58) (.t 61)),
    m1 11 62])
   .skip))))
  (.reg [
  o1 63 (.bin .add (.t 51) (.c (.int .i64 1))),
  m1 51 63])))))))
 (.gh (.seq (.seq (.reg [
 m1 64 11,
 o1 65 (.len (.t 64)),
 o1 66 (.bin .eql (.t 65) (.c (.int .i64 0)))])
 (.cond (.t 66)
 (.seq (.reg [
  m1 67 7,
  m1 6 67])
  .ret)
 .skip))
 (.seq (.reg [
 m1 68 11,
 m1 69 2,
 o1 70 (.conv .i64 (.t 69)),
 m1 71 11,
 o1 72 (.len (.t 71)),
 o1 73 (.div .rem (.t 70) (.t 72)),
 o1 74 (.ixs (.t 68) (.t 73) 1),
 o1 75 (.ld (.t 74) 1 false),
 m1 14 75])
 (.seq (.reg [
 o1 15 (.mv (.c (.bool false)))])
 (.seq (.reg [
 o1 16 (.mv (.c (.slice none 0 0)))])
 (.seq (.seq (.reg [
 m1 76 8,
 o1 77 (.len (.t 76)),
 o1 78 (.mv (.c (.int .i64 0)))])
 (.block 2 (.loop (.seq (.reg [
  o1 79 (.bin .lss (.t 78) (.t 77))])
  (.seq (.cond (.t 79)
  .skip
  (.exit 2))
  (.seq (.block 3 (.seq (.reg [
   m1 80 78,
   o1 81 (.ixs (.t 76) (.t 78) 8),
   o1 82 (.ld (.t 81) 8 true),
   o1 18 (.alloc [.int .i64 0,.int .i64 0,.int .u8 0,.int .i64 0,.int .i64 0,.int .i64 0,.int .i64 0,.bool false] 50),
   m1 17 80,
   ⟨none,.st (.t 18) (.t 82) 8,none,[]⟩])
   (.seq (.seq (.reg [
   o1 83 (.addo (.t 18) 2),
   o1 84 (.ld (.t 83) 1 false),
   o1 85 (.bin .neq (.t 84) (.c (.int .u8 6))),
   m1 86 85,
   ⟨some 87,.addo (.t 18) 4,some (86,false),[]⟩,
   ⟨some 88,.ld (.t 87) 1 false,some (86,false),[]⟩,
   ⟨some 89,.mv (.t 14),some (86,false),[]⟩,
   ⟨some 90,.bin .neq (.t 88) (.t 89),some (86,false),[]⟩,
   o1 91 (.pick (.t 86) (.c (.bool true)) (.t 90))])
   (.cond (.t 91)
   (.seq (.reg [
    m1 92 16,
    o1 93 (.ld (.t 18) 8 true),
    o1 94 (.bsl 8 50 [.t 93]),
    o1 95 (.appm 8 64 50 (.t 92) (.t 94)),
    m1 16 95])
    (.exit 3))
   .skip))
   (.seq (.seq (.reg [
   m1 96 15])
   (.cond (.t 96)
   (.seq (.seq (.reg [
    m1 97 9,
    m1 98 17,
    o1 99 (.ixs (.t 97) (.t 98) 1),
    o1 100 (.ld (.t 99) 1 false),
    o1 101 (.bin .neq (.t 100) (.c (.int .u8 4)))])
    (.cond (.t 101)
    (.seq (.reg [
     o1 6 (.mv (.c (.bool false)))])
     .ret)
    .skip))
    (.exit 3))
   .skip))
   (.seq (.reg [
   m1 102 9,
   m1 103 17,
   o1 104 (.ixs (.t 102) (.t 103) 1),
   o1 105 (.ld (.t 104) 1 false),
   o1 106 (.bin .eql (.t 105) (.c (.int .u8 0))),
   m1 15 106])
   (.seq (.seq (.reg [
   m1 107 9,
   m1 108 17,
   o1 109 (.ixs (.t 107) (.t 108) 1),
   o1 110 (.ld (.t 109) 1 false),
   o1 111 (.bin .neq (.t 110) (.c (.int .u8 0))),
   m1 112 111,
   ⟨some 113,.mv (.t 9),some (112,true),[]⟩,
   ⟨some 114,.mv (.t 17),some (112,true),[]⟩,
   ⟨some 115,.ixs (.t 113) (.t 114) 1,some (112,true),[]⟩,
   ⟨some 116,.ld (.t 115) 1 false,some (112,true),[]⟩,
   ⟨some 117,.bin .neq (.t 116) (.c (.int .u8 3)),some (112,true),[]⟩,
   o1 118 (.pick (.t 112) (.t 117) (.c (.bool false)))])
   (.cond (.t 118)
   (.seq (.reg [
    o1 6 (.mv (.c (.bool false)))])
    .ret)
   .skip))
   (.reg [
   m1 119 16,
   o1 120 (.ld (.t 18) 8 true),
   o1 121 (.bsl 8 50 [.t 120]),
   o1 122 (.appm 8 64 50 (.t 119) (.t 121)),
   m1 16 122])))))))
  (.reg [
  o1 123 (.bin .add (.t 78) (.c (.int .i64 1))),
  m1 78 123])))))))
 (.gh (.seq (.reg [
 o1 125 (.ld (.t 3) 4 true),
 m1 126 1,
 o1 127 (.call 29 [.t 125,.t 126]),
 m1 124 127,
 o1 128 (.ext (.t 124) 0),
 o1 129 (.ext (.t 124) 1),
 m1 19 128,
 m1 20 129])
 (.seq (.reg [
 o1 131 (.ld (.t 3) 4 true),
 m1 132 16,
 o1 133 (.call 29 [.t 131,.t 132]),
 m1 130 133,
 o1 134 (.ext (.t 130) 0),
 o1 135 (.ext (.t 130) 1),
 m1 21 134,
 m1 22 135])
 (.seq (.reg [
 m1 136 7,
 m1 137 136,
 ⟨some 138,.mv (.t 20),some (137,true),[]⟩,
 ⟨some 139,.bin .eql (.t 138) (.c (.int .i64 0)),some (137,true),[]⟩,
 o1 140 (.pick (.t 137) (.t 139) (.c (.bool false))),
 m1 141 140,
 ⟨some 142,.mv (.t 22),some (141,true),[]⟩,
 ⟨some 143,.bin .eql (.t 142) (.c (.int .i64 0)),some (141,true),[]⟩,
 o1 144 (.pick (.t 141) (.t 143) (.c (.bool false))),
 m1 145 144,
 ⟨some 146,.mv (.t 19),some (145,true),[]⟩,
 ⟨some 147,.mv (.t 21),some (145,true),[]⟩,
 ⟨some 148,.call 22 [.t 146,.t 147],some (145,true),[]⟩,
 o1 149 (.pick (.t 145) (.t 148) (.c (.bool false))),
 m1 6 149])
 .ret)))))))))))))))))
def r7:List RV:=[.tmp 6]
theorem n7:Try.f7.ntmps=150:=by kernel_rfl
theorem b7:bodyB Try.prog 7=true:=by kernel_rfl
theorem c7_ok:cmpC Try.prog c7 ((Try.f7.body).getD .skip)=true:=by kernel_rfl
theorem r7_ok:cmpR Try.prog r7 Try.f7.results.toList=true:=by kernel_rfl
theorem t7 {args:List SV} {res:SV} (ka:KFL args) (kr:KF res) (h:sx Try.prog Y0 0 c7 (st0 args 150) (retK r7 res)) (hA:Nat.ble args.length 150=true:=by rfl):Ct Try.prog 7 args res:=ct_intro Try.func7 rfl b7 c7_ok r7_ok n7 (Nat.le_of_ble_eq_true hA) ka kr h
end Go.Proofs.Ythilckbkffjliaa
set_option maxRecDepth 100000
set_option maxHeartbeats 4000000
namespace Go.Azalai
def calL (X:List Letter):List Int:=(X.filter fun x=>decide (x.kind=6)).map (·.other)
theorem calL_take {X:List Letter} {k:Nat} (h:k < X.length):calL (X.take (k+1))=calL (X.take k) ++ (if X[k].kind=6 then [X[k].other] else []):=by
 rw [calL,List.take_succ_eq_append_getElem h,List.filter_append,List.map_append]
 by_cases k6:X[k].kind=6
 · simp [k6,calL]
 · simp [k6,calL]
theorem calL_len {X:List Letter}:(calL X).length≤X.length:=by simp only [calL,List.length_map];exact List.length_filter_le _ _
end Go.Azalai
namespace Go.Proofs.Ythilckbkffjliaa
open Go Go.Sx Go.Azalai
theorem calf_ok (p:Pact) (l:List Letter) (w:Int) (hw:0≤w∧w < 256) (c:Bool):Ct Try.prog 7 [.agg (pactL p),.sl c 8 (l.map letterL),U8 w] (B true):=by
 refine t7 (by simp [pactL,partnerL,letterL,KFR_iff,KFL,KF]) (by simp [KFL,KF]) ?_
 obtain ⟨wn,rfl⟩:=Int.eq_ofNat_of_zero_le hw.1
 dsimp only [c7,r7,pactL,go_sem,rA,rM,rS]
 refine call alive_ok ?_
 dsimp only [go_sem,rA,rM,rS]
 refine call (readyA_ok p l c) ?_
 dsimp only [go_sem,rA,rM,rS]
 by_cases hr:readyF p l=true
 case neg =>
  rw [Bool.not_eq_true] at hr
  rw [hr]
  repeat (refine gb_skip (by decide) ?_;dsimp only [go_sem,rA,rM,rS])
  refine br_t rfl ?_
  dsimp only [go_sem,rA,rM,rS]
 rw [hr]
 obtain ⟨hs,hl,h0⟩:=readyF_t hr
 obtain ⟨hp,-,hok,h2⟩:=readE_0 h0
 repeat (refine gb_run rfl ?_;dsimp only [go_sem,rA,rM,rS])
 refine br_f rfl ?_
 dsimp only [go_sem,rA,rM,rS]
 refine call (Read_ok p l hs (by omega) c) ?_
 dsimp only [go_sem,rA,rM,rS]
 have hX:=readL_ok h0
 have hrl:=readL_len (p:=p) (l:=l)
 have e1:readR p l=readL p l:=by rw [readR,if_pos h0]
 have e2:whyRR p l=whyL p co0 (readL p l):=by rw [whyRR,if_pos h0]
 have e3:settleR p l=settleF p (readL p l):=by rw [settleR,if_pos h0]
 have hwl:=whyL_len (p:=p) (l:=readL p l) (c:=co0)
 have hsub:=fun {few:List Letter} (h:few.Sublist (readL p l))=>read_sub h0 h
 rw [e1,e2,h0]
 generalize readL p l=X at *
 repeat (refine gb ?_;dsimp only [go_sem,rA,rM,rS])
 simp only [List.length_map]
 refine br_f (by simp [hwl]) ?_
 dsimp only [go_sem,rA,rM,rS]
 simp only [List.length_map]
 refine loopG (ent_nilslot 11 1 3 rfl rfl) (fun s:Nat=>[(51,I (s:Nat)),(11,.mr 1 (calL (X.take s)).length)]) (fun s=>[(1,.row (calL (X.take s)).length 1 ((calL (X.take s)).map intL) 3)]) (fun s=>s≤X.length) (fun s=>X.length - s) 0 (Nat.zero_le _) ?_ ?_
 · (refine ent_id ?_ ?_ ?_ rfl rfl<;>dsimp only [pactL,partnerL,letterL,u8L,calL,id,go_sem,rA,rM,rS]<;>simp [pactL,partnerL,letterL,u8L,calL,KFR_iff,KFR_app,KFR,KFL,KF,mtL_same,mtO,nbr])
 intro k hk
 dsimp only [go_sem,rA,rM,rS]
 by_cases hlt:k < X.length
 · refine br_t (by simpa using hlt) ?_
   dsimp only [go_sem,rA,rM,rS]
   refine ixs_map k hlt rfl ?_
   dsimp only [letterL,go_sem,rA,rM,rS]
   have hct:=calL_take hlt
   have hcl:=calL_len (X:=X.take k)
   by_cases k6:X[k].kind=6
   · refine br_t (by simp [k6]) ?_
     (repeat first | dsimp only [go_sem,rA,rM,rS] | simp only [nbr])
     rw [if_pos k6] at hct
     refine ⟨by simp [allOne,oneS,oneV],by simp at hcl ⊢;omega,?_⟩
     (repeat first | dsimp only [go_sem,rA,rM,rS] | simp only [nbr])
     have q1:(calL (X.take k)).map intL ++ [[I X[k].other]]=(calL (X.take (k+1))).map intL:=by rw [hct,List.map_append];rfl
     have q2:(calL (X.take k)).length+1=(calL (X.take (k+1))).length:=by rw [hct];simp
     rw [q1,q2,w64_in (n:=(k:Int)+1) (by omega) (by omega)]
     refine ⟨k+1,hlt,by omega,?_⟩
     (refine ent_id ?_ ?_ ?_ rfl rfl<;>dsimp only [pactL,partnerL,letterL,u8L,intL,id,go_sem,rA,rM,rS]<;>simp [pactL,partnerL,letterL,u8L,intL,KFR_iff,KFR_app,KFR,KFL,KF,mtL_same,mtO,nbr])
   · refine br_f (by simp [k6]) ?_
     (repeat first | dsimp only [go_sem,rA,rM,rS] | simp only [nbr])
     rw [if_neg k6,List.append_nil] at hct
     rw [← hct,w64_in (n:=(k:Int)+1) (by omega) (by omega)]
     refine ⟨k+1,hlt,by omega,?_⟩
     (refine ent_id ?_ ?_ ?_ rfl rfl<;>dsimp only [pactL,partnerL,letterL,u8L,intL,id,go_sem,rA,rM,rS]<;>simp [pactL,partnerL,letterL,u8L,intL,KFR_iff,KFR_app,KFR,KFL,KF,mtL_same,mtO,nbr])
 refine br_f (by simpa using hlt) ?_
 dsimp only [go_sem,rA,rM,rS]
 have hke:k=X.length:=by omega
 subst hke
 rw [List.take_length]
 have hcl:=calL_len (X:=X)
 generalize calL X=C at *
 refine gh (ent_frz 11 1 C.length rfl rfl rfl rfl) ?_
 dsimp only [go_sem,rA,rM,rS]
 simp only [List.length_map]
 by_cases hc0:C.length=0
 · refine br_t (by simp [hc0]) ?_
   dsimp only [go_sem,rA,rM,rS]
 refine br_f (by simp;intro h;exact hc0 (by rw [h];rfl)) ?_
 dsimp only [go_sem,rA,rM,rS]
 simp only [List.length_map]
 rw [w64_in (n:=(wn:Int)) (by omega) (by omega)]
 refine div0 (by omega) ?_
 dsimp only [divr,go_sem,rA,rM,rS]
 rw [nat_tmod]
 have hm:wn % C.length < C.length:=Nat.mod_lt _ (by omega)
 generalize wn % C.length=m at *
 refine ixs_map m hm rfl ?_
 dsimp only [intL,go_sem,rA,rM,rS]
 simp only [List.length_map]
 generalize C[m]=calf at *
 obtain ⟨r1,r2⟩:=calf_run (p:=p) (calf:=calf) (l:=X) (c:=co0) (born:=false) rfl
 have hfs:=fewF_sub (calf:=calf) (l:=X) (ws:=whyL p co0 X) (born:=false)
 generalize hW:whyL p co0 X=W at *
 refine loopG (ent_nilslot 16 8 50 rfl rfl) (fun s:Nat × Bool × List Letter=>[(78,I (s.1:Nat)),(15,B s.2.1),(16,.mr 2 s.2.2.length)]) (fun s=>[(2,.row s.2.2.length 8 (s.2.2.map letterL) 50)])
  (fun s=>s.1≤X.length∧s.2.2.length≤s.1∧s.2.2 ++ fewF calf s.2.1 (X.drop s.1) (W.drop s.1)=fewF calf false X W∧calfB calf s.2.1 (X.drop s.1) (W.drop s.1)=true) (fun s=>X.length - s.1) (0,false,[]) ⟨Nat.zero_le _,Nat.le_refl _,rfl,r2⟩ ?_ ?_
 · (refine ent_id ?_ ?_ ?_ rfl rfl<;>dsimp only [pactL,partnerL,letterL,u8L,intL,id,go_sem,rA,rM,rS]<;>simp [pactL,partnerL,letterL,u8L,intL,KFR_iff,KFR_app,KFR,KFL,KF,mtL_same,mtO,nbr])
 rintro ⟨j,b,F⟩ ⟨hj,hF,hf,hb⟩
 simp only at hj hF hf hb
 dsimp only [go_sem,rA,rM,rS]
 by_cases hlt2:j < X.length
 · refine br_t (by simpa using hlt2) ?_
   dsimp only [go_sem,rA,rM,rS]
   refine ixs_map j hlt2 rfl ?_
   dsimp only [letterL,go_sem,rA,rM,rS]
   have hjW:j < W.length:=by omega
   rw [List.drop_eq_getElem_cons hlt2,List.drop_eq_getElem_cons hjW,fewF] at hf
   rw [List.drop_eq_getElem_cons hlt2,List.drop_eq_getElem_cons hjW,calfB] at hb
   have q1:F.map letterL ++ [[I X[j].id,I X[j].day,U8 X[j].kind,I X[j].who,I X[j].other,I X[j].animal,I X[j].rials,B X[j].mouth]]=(F ++ [X[j]]).map letterL:=by rw [List.map_append];rfl
   repeat (refine gb ?_;dsimp only [go_sem,rA,rM,rS])
   by_cases hx:X[j].kind=6∧X[j].other=calf
   case neg =>
    refine br_t ?_ ?_
    · by_cases k6:X[j].kind=6
      · have:X[j].other≠calf:=fun e=>hx ⟨k6,e⟩
        simp [k6,this]
      · simp [k6]
    (repeat first | dsimp only [go_sem,rA,rM,rS] | simp only [nbr])
    refine ⟨by simp [allOne,oneS,oneV],by simp;omega,?_⟩
    (repeat first | dsimp only [go_sem,rA,rM,rS] | simp only [nbr])
    rw [if_pos hx] at hf hb
    rw [q1,w64_in (n:=(j:Int)+1) (by omega) (by omega)]
    refine ⟨(j+1,b,F ++ [X[j]]),⟨hlt2,by simp;omega,by simpa using hf,hb⟩,by simp only;omega,?_⟩
    (refine ent_id ?_ ?_ ?_ rfl rfl<;>dsimp only [pactL,partnerL,letterL,u8L,intL,id,go_sem,rA,rM,rS]<;>simp [pactL,partnerL,letterL,u8L,intL,KFR_iff,KFR_app,KFR,KFL,KF,mtL_same,mtO,nbr])
   refine br_f (by simp [hx.1,hx.2]) ?_
   dsimp only [go_sem,rA,rM,rS]
   rw [if_neg (by simpa using hx)] at hf hb
   cases b with
   | true =>
    refine br_t rfl ?_
    dsimp only [go_sem,rA,rM,rS]
    refine ixs_map j hjW rfl ?_
    dsimp only [u8L,go_sem,rA,rM,rS]
    rw [if_pos rfl] at hf hb
    simp only [Bool.and_eq_true,decide_eq_true_eq] at hb
    refine br_f (by simp [hb.1]) ?_
    dsimp only [go_sem,rA,rM,rS]
    rw [w64_in (n:=(j:Int)+1) (by omega) (by omega)]
    refine ⟨(j+1,true,F),⟨hlt2,by simp only;omega,hf,hb.2⟩,by simp only;omega,?_⟩
    (refine ent_id ?_ ?_ ?_ rfl rfl<;>dsimp only [pactL,partnerL,letterL,u8L,intL,id,go_sem,rA,rM,rS]<;>simp [pactL,partnerL,letterL,u8L,intL,KFR_iff,KFR_app,KFR,KFL,KF,mtL_same,mtO,nbr])
   | false =>
    refine br_f rfl ?_
    dsimp only [go_sem,rA,rM,rS]
    refine ixs_map j hjW rfl ?_
    dsimp only [u8L,go_sem,rA,rM,rS]
    refine ixs_map j hjW rfl ?_
    dsimp only [u8L,go_sem,rA,rM,rS]
    rw [if_neg (by simp)] at hf hb
    simp only [Bool.and_eq_true,decide_eq_true_eq] at hb
    have hcont:(W[j] == 0)=decide (W[j]=0):=by rw [Bool.eq_iff_iff];simp
    rw [hcont]
    by_cases hw0:W[j]=0
    · have g:(W[j] != 0)=false:=by simp [hw0]
      simp only [g]
      repeat (refine gb_skip (by decide) ?_;dsimp only [go_sem,rA,rM,rS])
      refine br_f rfl ?_
      (repeat first | dsimp only [go_sem,rA,rM,rS] | simp only [nbr])
      refine ⟨by simp [allOne,oneS,oneV],by simp;omega,?_⟩
      (repeat first | dsimp only [go_sem,rA,rM,rS] | simp only [nbr])
      rw [q1,w64_in (n:=(j:Int)+1) (by omega) (by omega)]
      refine ⟨(j+1,decide (W[j]=0),F ++ [X[j]]),⟨hlt2,by simp;omega,by simpa using hf,hb.2⟩,by simp only;omega,?_⟩
      (refine ent_id ?_ ?_ ?_ rfl rfl<;>dsimp only [pactL,partnerL,letterL,u8L,intL,id,go_sem,rA,rM,rS]<;>simp [pactL,partnerL,letterL,u8L,intL,KFR_iff,KFR_app,KFR,KFL,KF,mtL_same,mtO,nbr])
    · have h3:W[j]=3:=hb.1.resolve_left hw0
      have g:(W[j] != 0)=true:=by simp [hw0]
      simp only [g]
      repeat (first | (refine gb_run rfl ?_;dsimp only [go_sem,rA,rM,rS]) | (refine ixs_map j hjW rfl ?_;dsimp only [u8L,go_sem,rA,rM,rS]))
      refine br_f (by simp [h3]) ?_
      (repeat first | dsimp only [go_sem,rA,rM,rS] | simp only [nbr])
      refine ⟨by simp [allOne,oneS,oneV],by simp;omega,?_⟩
      (repeat first | dsimp only [go_sem,rA,rM,rS] | simp only [nbr])
      rw [q1,w64_in (n:=(j:Int)+1) (by omega) (by omega)]
      refine ⟨(j+1,decide (W[j]=0),F ++ [X[j]]),⟨hlt2,by simp;omega,by simpa using hf,hb.2⟩,by simp only;omega,?_⟩
      (refine ent_id ?_ ?_ ?_ rfl rfl<;>dsimp only [pactL,partnerL,letterL,u8L,intL,id,go_sem,rA,rM,rS]<;>simp [pactL,partnerL,letterL,u8L,intL,KFR_iff,KFR_app,KFR,KFL,KF,mtL_same,mtO,nbr])
 refine br_f (by simpa using hlt2) ?_
 dsimp only [go_sem,rA,rM,rS]
 have hje:j=X.length:=by omega
 subst hje
 rw [List.drop_length] at hf
 have hff:F=fewF calf false X W:=by
  rw [← hf]
  cases b<;>simp [fewF]
 refine gh (ent_frz 16 2 F.length rfl rfl rfl rfl) ?_
 (repeat first | dsimp only [go_sem,rA,rM,rS] | simp only [nbr])
 rw [← hff] at r1 hfs
 have hself:=hsub hfs
 have hFl:=hfs.length_le
 refine call (settle_ok p l hs (by omega) c) ?_
 (repeat first | dsimp only [go_sem,rA,rM,rS] | simp only [nbr])
 refine call (settle_ok p F hs (by omega) false) ?_
 (repeat first | dsimp only [go_sem,rA,rM,rS] | simp only [nbr])
 have e4:settleF p F=settleF p X:=by simp only [settleF,r1]
 rw [e3,h0,settleR_of hself,hself.1,e4]
 have hsl:(settleF p X).length=p.partners.length:=hasF_len
 have h8:=(okPact_all hp).2.2.2.2.2.2
 have q1:=same22_ok (settleF p X) (settleF p X) (by omega) (by omega) false false
 simp only [decide_true] at q1
 repeat (first | (refine call q1 ?_;dsimp only [go_sem,rA,rM,rS]) | (refine gb_run rfl ?_;dsimp only [go_sem,rA,rM,rS]))
 try rfl
end Go.Proofs.Ythilckbkffjliaa
set_option maxRecDepth 100000
set_option maxHeartbeats 4000000
namespace Go.Proofs.Ythilckbkffjliaa
open Go Go.Sx Go.Azalai Go.ChangeShapes Go.WideShapes Go.RowKit
theorem wf8 {n:Int} (h:(Lit.int .u8 n).wf=true):0≤n∧n < 256:=by
 simp only [Lit.wf,Bool.and_eq_true,decide_eq_true_eq] at h
 have e1:IntKind.u8.min=0:=rfl
 have e2:IntKind.u8.max=255:=rfl
 omega
theorem lift_map {α : Type} {rep:α→List SV} {q:List SV→Prop} (hq:∀ r,q r→∃ a,r=rep a):∀ {xs:List (List SV)},(∀ r ∈ xs,q r)→∃ l:List α,xs=l.map rep
 | [],_=>⟨[],rfl⟩
 | x :: xs,h=>by
  obtain ⟨a,rfl⟩:=hq x (h x (by simp))
  obtain ⟨l,rfl⟩:=lift_map (xs:=xs) hq (fun r hr=>h r (by simp [hr]))
  exact ⟨a :: l,rfl⟩
theorem shp3 {f:Nat} {l:List SV} (h:Shp Try.prog (f+1) 3 l):∃ n:Int,l=[.v (.int .i64 n)]∧(Lit.int .i64 n).wf=true:=by
 rw [Shp,Try.underlying3] at h
 exact h
theorem shp64 {f:Nat} {l:List SV} (h:Shp Try.prog (f+2) 64 l):∃ w:Partner,l=partnerL w:=by
 rw [Shp,Try.underlying64] at h
 simp only [ShpF] at h
 obtain ⟨_,_,rfl,_,h0,_,_,rfl,_,h1,_,_,rfl,_,h2,rfl⟩:=h
 obtain ⟨a0,rfl,_⟩:=shp3 (f:=f+0) h0
 obtain ⟨a1,rfl,_⟩:=shp3 (f:=f+0) h1
 obtain ⟨a2,rfl,_⟩:=shp3 (f:=f+0) h2
 exact ⟨⟨a0,a1,a2⟩,rfl⟩
theorem cells64:Try.prog.cellsOf 64=3:=by kernel_rfl
theorem shp22 {f:Nat} {l:List SV} (h:Shp Try.prog (f+3) 22 l):∃ ds:List Partner,l=[.sl false 3 (ds.map partnerL)]∧ds.length≤9223372036854775807:=by
 rw [Shp,Try.underlying22] at h
 obtain ⟨xs,rfl,hl,hx⟩:=h
 obtain ⟨ws,rfl⟩:=lift_map (rep:=partnerL) (fun r h=>shp64 (f:=f) h.2) hx
 rw [cells64]
 exact ⟨ws,rfl,by simpa using hl⟩
theorem shp24 {f:Nat} {l:List SV} (h:Shp Try.prog (f+4) 24 l):∃ w:Pact,l=pactL w:=by
 rw [Shp,Try.underlying24] at h
 simp only [ShpF] at h
 obtain ⟨_,_,rfl,_,h0,_,_,rfl,_,h1,_,_,rfl,_,h2,_,_,rfl,_,h3,rfl⟩:=h
 obtain ⟨a0,rfl,_⟩:=shp22 (f:=f+0) h0
 obtain ⟨a1,rfl,_⟩:=shp3 (f:=f+2) h1
 obtain ⟨a2,rfl,_⟩:=shp3 (f:=f+2) h2
 obtain ⟨a3,rfl,_⟩:=shp3 (f:=f+2) h3
 exact ⟨⟨a0,a1,a2,a3⟩,rfl⟩
theorem shp5 {f:Nat} {l:List SV} (h:Shp Try.prog (f+1) 5 l):∃ n:Int,l=[.v (.int .u8 n)]∧(Lit.int .u8 n).wf=true:=by
 rw [Shp,Try.underlying5] at h
 exact h
theorem shp4 {f:Nat} {l:List SV} (h:Shp Try.prog (f+1) 4 l):∃ n:Bool,l=[B n]:=by
 rw [Shp,Try.underlying4] at h
 exact h
theorem shp50 {f:Nat} {l:List SV} (h:Shp Try.prog (f+2) 50 l):∃ w:Letter,l=letterL w:=by
 rw [Shp,Try.underlying50] at h
 simp only [ShpF] at h
 obtain ⟨_,_,rfl,_,h0,_,_,rfl,_,h1,_,_,rfl,_,h2,_,_,rfl,_,h3,_,_,rfl,_,h4,_,_,rfl,_,h5,_,_,rfl,_,h6,_,_,rfl,_,h7,rfl⟩:=h
 obtain ⟨a0,rfl,_⟩:=shp3 (f:=f+0) h0
 obtain ⟨a1,rfl,_⟩:=shp3 (f:=f+0) h1
 obtain ⟨a2,rfl,_⟩:=shp5 (f:=f+0) h2
 obtain ⟨a3,rfl,_⟩:=shp3 (f:=f+0) h3
 obtain ⟨a4,rfl,_⟩:=shp3 (f:=f+0) h4
 obtain ⟨a5,rfl,_⟩:=shp3 (f:=f+0) h5
 obtain ⟨a6,rfl,_⟩:=shp3 (f:=f+0) h6
 obtain ⟨a7,rfl⟩:=shp4 (f:=f+0) h7
 exact ⟨⟨a0,a1,a2,a3,a4,a5,a6,a7⟩,rfl⟩
theorem cells50:Try.prog.cellsOf 50=8:=by kernel_rfl
theorem shp38 {f:Nat} {l:List SV} (h:Shp Try.prog (f+3) 38 l):∃ ds:List Letter,l=[.sl false 8 (ds.map letterL)]∧ds.length≤9223372036854775807:=by
 rw [Shp,Try.underlying38] at h
 obtain ⟨xs,rfl,hl,hx⟩:=h
 obtain ⟨ws,rfl⟩:=lift_map (rep:=letterL) (fun r h=>shp50 (f:=f) h.2) hx
 rw [cells50]
 exact ⟨ws,rfl,by simpa using hl⟩
theorem Try.own:ownKnob Try.prog.godebug=none:=by kernel_rfl
theorem Try.laidOut:laidOutB Try.prog=true:=by kernel_rfl
theorem tyB24:tyB Try.prog 20 24=true:=by kernel_rfl
theorem tyB38:tyB Try.prog 20 38=true:=by kernel_rfl
theorem tyB5:tyB Try.prog 20 5=true:=by kernel_rfl
theorem shareCalf_lifted (os:Os) (started:os.Started) (H:Type) (enc:TypeId × Value→H) :
 ReturnsInHanded {} Try.checked os 7 .any (Rows.shareCalfSpec.pre6 enc Try.prog Try.f7 Rows.shareCalfRow.domain false) (Rows.shareCalfSpec.post enc Try.prog Try.f7 false true false false):=by
 refine returnsInHanded_of_change (C:=Try.checked) Try.own started (by kernel_rfl) Try.func7
  (ChangeSpec.witness6 (enc:=enc) (C:=Try.checked) false ⟨#[],#[.agg #[.slice none 0 0,.int .i64 0,.int .i64 0,.int .i64 0],.slice none 0 0,.int .u8 0],[]⟩ 8 (by kernel_rfl) (by kernel_rfl) (by kernel_rfl) (by kernel_rfl)) ?_
 intro W base args ds gs before hval0 hW hcnd _
 have hval:∀ (j:Nat) t v,Try.f7.params[j]? = some t→args[j]? = some v→Value.okWide Try.prog W .any base t v:=hval0
 have hW':=hW
 obtain ⟨p,q,hA0,hV,rfl,hfz,hnd⟩:=hW
 have hA:DataW.TrodAll enc Try.prog W 0 (fun _=>true) true Try.f7.params.toList args.toList ds p:=hA0
 rw [Try.params7] at hA hval
 obtain ⟨v0,vs0,d0,ds0,p0,q0,ea0,rfl,rfl,h0,hA⟩:=trodAll_cons hA
 obtain ⟨v1,vs1,d1,ds1,p1,q1,rfl,rfl,rfl,h1,hA⟩:=trodAll_cons hA
 obtain ⟨v2,vs2,d2,ds2,p2,q2,rfl,rfl,rfl,h2,hA⟩:=trodAll_cons hA
 obtain ⟨rfl,rfl,rfl⟩:=trodAll_nil hA
 obtain ⟨rfl,rfl⟩:=trodVars_none hV
 have hargs:args = #[v0,v1,v2]:=Array.toList_inj.1 ea0
 subst hargs
 obtain ⟨l0,r0,s0⟩:=trod_arg tyB24 (hval 0 24 v0 rfl rfl) h0
 obtain ⟨l1,r1,s1⟩:=trod_arg tyB38 (hval 1 38 v1 rfl rfl) h1
 obtain ⟨l2,r2,s2⟩:=trod_arg tyB5 (hval 2 5 v2 rfl rfl) h2
 obtain ⟨x0,rfl⟩:=shp24 s0
 obtain ⟨x1,rfl,b1⟩:=shp38 s1
 obtain ⟨x2,rfl,b2⟩:=shp5 s2
 simp only [argV,Try.underlying24,Try.underlying38,Try.underlying5,List.headD_cons] at r0 r1 r2
 refine ((calf_ok x0 x1 x2 (wf8 b2) false).run W Tr [v0,v1,v2] (by simp only [RL];exact ⟨_,_,rfl,r0,_,_,rfl,r1,_,_,rfl,r2,rfl⟩)).mono fun e W' ⟨y,he,hy,hb⟩=>?_
 simp only [R] at hy
 subst hy
 exact ⟨_,he,post_law (P:=Try.prog) Try.laidOut (by kernel_rfl) (by kernel_rfl) Try.underlying4 rfl rfl hW' hb⟩
theorem shareCalf_holds:Rows.ShareCalfSaid :=
 OpenClaim.holds_of_wide 7 Try.f7 rfl rfl rfl rfl rfl rfl rfl ⟨rfl,rfl,rfl,rfl,rfl⟩ rfl rfl rfl rfl rfl (by kernel_rfl) Try.func7 (by kernel_rfl)
  (of_decide_eq_true (by kernel_rfl)) (by unfold Func.isWrapper;first | (rw [if_pos (by decide +kernel)];kernel_rfl) | (rw [if_neg (by decide +kernel)];exact ⟨rfl,rfl⟩))
  (fun os started H enc _=>shareCalf_lifted os started H enc)
end Go.Proofs.Ythilckbkffjliaa
