/- A walk through the code of the given statement, and what it says. -/
import Derived.Test.YthilckbkffjliaaCI
import Derived.Test.YthilckbkffjliaaRows
set_option linter.all false
open Nat renaming reduceAdd→rA,reduceMul→rM,reduceSub→rS,beq_refl→nbr
namespace Go.Proofs.Ythilckbkffjliaa
open Go Go.Sx
theorem t29 {args:List SV} {res:SV} (ka:KFL args) (kr:KF res) (h:sx Try.prog Y0 0 c29 (st0 args 20) (retK r29 res)) (hA:Nat.ble args.length 20=true:=by rfl):Ct Try.prog 29 args res:=ct_intro Try.func29 rfl b29 c29_ok r29_ok n29 (Nat.le_of_ble_eq_true hA) ka kr h
theorem t24 {args:List SV} {res:SV} (ka:KFL args) (kr:KF res) (h:sx Try.prog Y0 0 c24 (st0 args 22) (retK r24 res)) (hA:Nat.ble args.length 22=true:=by rfl):Ct Try.prog 24 args res:=ct_intro Try.func24 rfl b24 c24_ok r24_ok n24 (Nat.le_of_ble_eq_true hA) ka kr h
end Go.Proofs.Ythilckbkffjliaa
set_option maxRecDepth 100000
namespace Go.Proofs.Ythilckbkffjliaa
open Go Go.Sx
def c14:SC:=(.seq (.reg [
 o1 0 (.mv (.c (.bool false)))])
 (.seq (.seq (.reg [
 o1 17 (.mv (.c (.bool false))),
 ⟨some 18,.call 34 [],some (17,false),[]⟩,
 ⟨some 19,.un .not (.t 18),some (17,false),[]⟩,
 o1 20 (.pick (.t 17) (.c (.bool true)) (.t 19))])
 (.cond (.t 20)
 (.seq (.reg [
  o1 0 (.mv (.c (.bool false)))])
  .ret)
 .skip))
 (.seq (.reg [
 o1 22 (.call 38 []),
 o1 23 (.call 39 []),
 o1 24 (.call 40 []),
 o1 25 (.bsl 8 50 [.t 24]),
 o1 26 (.app 8 64 50 (.t 23) (.t 25)),
 o1 27 (.call 29 [.t 22,.t 26]),
 m1 21 27,
 o1 28 (.ext (.t 21) 0),
 o1 29 (.ext (.t 21) 1),
 m1 1 28,
 m1 2 29])
 (.seq (.reg [
 o1 31 (.call 38 []),
 o1 32 (.call 39 []),
 o1 33 (.call 41 []),
 o1 34 (.app 8 64 50 (.t 32) (.t 33)),
 o1 35 (.call 24 [.t 31,.t 34]),
 m1 30 35,
 o1 36 (.ext (.t 30) 0),
 o1 37 (.ext (.t 30) 1),
 o1 38 (.ext (.t 30) 2),
 m1 3 36,
 m1 4 37,
 m1 5 38])
 (.seq (.reg [
 o1 40 (.call 38 []),
 o1 41 (.call 39 []),
 o1 42 (.call 41 []),
 o1 43 (.app 8 64 50 (.t 41) (.t 42)),
 o1 44 (.call 26 [.t 40,.t 43,.c (.int .i64 1),.c (.int .i64 2)]),
 m1 39 44,
 o1 45 (.ext (.t 39) 0),
 o1 46 (.ext (.t 39) 1),
 m1 6 45,
 m1 7 46])
 (.seq (.seq (.reg [
 m1 47 2,
 o1 48 (.bin .neq (.t 47) (.c (.int .i64 0))),
 m1 49 48,
 ⟨some 50,.mv (.t 1),some (49,false),[]⟩,
 ⟨some 51,.bsl 1 3 [.c (.int .i64 951),.c (.int .i64 440),.c (.int .i64 310)],some (49,false),[]⟩,
 ⟨some 52,.call 22 [.t 50,.t 51],some (49,false),[]⟩,
 ⟨some 53,.un .not (.t 52),some (49,false),[]⟩,
 o1 54 (.pick (.t 49) (.c (.bool true)) (.t 53)),
 m1 55 54,
 ⟨some 56,.mv (.t 5),some (55,false),[]⟩,
 ⟨some 57,.bin .neq (.t 56) (.c (.int .i64 0)),some (55,false),[]⟩,
 o1 58 (.pick (.t 55) (.c (.bool true)) (.t 57)),
 m1 59 58,
 ⟨some 60,.mv (.t 4),some (59,false),[]⟩,
 ⟨some 61,.raw (Go.Op.convert 39 9 (Go.Operand.tmp 60)) 9,some (59,false),[]⟩,
 ⟨some 62,.raw (Go.Op.binOp Go.BinOp.neq 9 (Go.Operand.tmp 61) (Go.Operand.const (Go.Value.string { data:=#[0,0,0,5,0,0,0,0] })) 9) 4,some (59,false),[]⟩,
 o1 63 (.pick (.t 59) (.c (.bool true)) (.t 62)),
 m1 64 63,
 ⟨some 65,.mv (.t 7),some (64,false),[]⟩,
 ⟨some 66,.bin .neq (.t 65) (.c (.int .i64 0)),some (64,false),[]⟩,
 o1 67 (.pick (.t 64) (.c (.bool true)) (.t 66)),
 m1 68 67,
 ⟨some 69,.mv (.t 6),some (68,false),[]⟩,
 ⟨some 70,.bin .neq (.t 69) (.c (.int .i64 10)),some (68,false),[]⟩,
 o1 71 (.pick (.t 68) (.c (.bool true)) (.t 70))])
 (.cond (.t 71)
 (.seq (.reg [
  o1 0 (.mv (.c (.bool false)))])
  .ret)
 .skip))
 (.seq (.reg [
 o1 72 (.call 40 []),
 o1 8 (.alloc [.int .i64 0,.int .i64 0,.int .u8 0,.int .i64 0,.int .i64 0,.int .i64 0,.int .i64 0,.bool false] 50),
 ⟨none,.st (.t 8) (.t 72) 8,none,[]⟩])
 (.seq (.reg [
 o1 73 (.addo (.t 8) 0),
 ⟨none,.st (.t 73) (.c (.int .i64 10)) 1,none,[]⟩])
 (.seq (.reg [
 o1 9 (.mv (.c (.slice none 0 0)))])
 (.seq (.seq (.reg [
 o1 74 (.mv (.c (.int .i64 0)))])
 (.block 0 (.loop (.seq (.reg [
  o1 75 (.bin .lss (.t 74) (.c (.int .i64 7)))])
  (.seq (.cond (.t 75)
  .skip
  (.exit 0))
  (.seq (.block 1 (.seq (.reg [
   m1 76 74,
   m1 10 76])
   (.reg [
   m1 77 9,
   m1 78 10,
   o1 79 (.build [.int .i64 0,.int .i64 0,.int .u8 0,.int .i64 0,.int .i64 0,.int .i64 0,.int .i64 0,.bool false] [(0,1,.t 78),(2,1,.c (.int .u8 1)),(7,1,.c (.bool true))]),
   o1 80 (.bsl 8 50 [.t 79]),
   o1 81 (.appm 8 64 50 (.t 77) (.t 80)),
   m1 9 81])))
  (.reg [
  o1 82 (.bin .add (.t 74) (.c (.int .i64 1))),
  m1 74 82])))))))
 (.gh (.seq (.reg [
 o1 84 (.call 38 []),
 o1 85 (.call 18 [.t 84,.c (.int .i64 10000000001)]),
 m1 83 85,
 o1 86 (.ext (.t 83) 0),
 o1 87 (.ext (.t 83) 1),
 m1 2 87])
 (.seq (.regs [0,1,2,3,4,5,6] ⟨[
 .op (o1 89 (.call 38 []))],1,0,[
 o1 90 (.mks 8 64 [.int .i64 0,.int .i64 0,.int .u8 0,.int .i64 0,.int .i64 0,.int .i64 0,.int .i64 0,.bool false] 50 (.c (.int .i64 101))),
 ⟨some 91,.call 29 [.t 89,.t 90],none,[0,1]⟩]⟩ [⟨[
 .op ⟨some 88,.mv (.t 91),none,[2]⟩,
 .op ⟨some 92,.ext (.t 88) 0,none,[3]⟩,
 .op ⟨some 93,.ext (.t 88) 1,none,[3]⟩],1,0,[
 ⟨some 5,.mv (.t 93),none,[0,1,2,3,4,5]⟩]⟩])
 (.seq (.regs [0,1,2,3,4,5,6,7] ⟨[
 .op (o1 95 (.call 38 []))],1,0,[
 o1 96 (.mks 8 64 [.int .i64 0,.int .i64 0,.int .u8 0,.int .i64 0,.int .i64 0,.int .i64 0,.int .i64 0,.bool false] 50 (.c (.int .i64 1))),
 ⟨some 97,.call 24 [.t 95,.t 96],none,[0,1]⟩]⟩ [⟨[
 .op ⟨some 94,.mv (.t 97),none,[2]⟩,
 .op ⟨some 98,.ext (.t 94) 0,none,[3]⟩,
 .op ⟨some 99,.ext (.t 94) 1,none,[3]⟩,
 .op ⟨some 100,.ext (.t 94) 2,none,[3]⟩],1,0,[
 ⟨some 7,.mv (.t 100),none,[0,1,2,3,4,5,6]⟩]⟩])
 (.seq (.regd [0,1,2,3,4,5,6,7,8,9,10] [
 .op (o1 102 (.call 38 [])),
 .op ⟨some 103,.call 39 [],none,[0]⟩,
 .op (o1 104 (.ld (.t 8) 8 true)),
 .op ⟨some 105,.bsl 8 50 [.t 104],none,[2]⟩,
 .op ⟨some 106,.app 8 64 50 (.t 103) (.t 105),none,[1,3]⟩,
 .op ⟨some 107,.call 29 [.t 102,.t 106],none,[0,4]⟩,
 .op ⟨some 101,.mv (.t 107),none,[5]⟩,
 .op ⟨some 108,.ext (.t 101) 0,none,[6]⟩,
 .op ⟨some 109,.ext (.t 101) 1,none,[6]⟩,
 .op ⟨some 11,.mv (.t 108),none,[0,1,2,3,4,5,6,7]⟩,
 .op ⟨some 12,.mv (.t 109),none,[0,1,2,3,4,5,6,7,8,9]⟩] 0 0 [
])
 (.seq (.reg [
 o1 111 (.call 38 []),
 o1 112 (.call 26 [.t 111,.c (.slice none 0 0),.c (.int .i64 1),.c (.int .i64 1)]),
 m1 110 112,
 o1 113 (.ext (.t 110) 0),
 o1 114 (.ext (.t 110) 1),
 m1 13 113,
 m1 14 114])
 (.seq (.reg [
 o1 116 (.call 38 []),
 m1 117 9,
 o1 118 (.call 31 [.t 116,.t 117]),
 m1 115 118,
 o1 119 (.ext (.t 115) 0),
 o1 120 (.ext (.t 115) 1),
 m1 15 119,
 m1 16 120])
 (.seq (.reg [
 m1 121 2,
 o1 122 (.bin .eql (.t 121) (.c (.int .i64 2))),
 m1 123 122,
 ⟨some 124,.mv (.t 5),some (123,true),[]⟩,
 ⟨some 125,.bin .eql (.t 124) (.c (.int .i64 4)),some (123,true),[]⟩,
 o1 126 (.pick (.t 123) (.t 125) (.c (.bool false))),
 m1 127 126,
 ⟨some 128,.mv (.t 7),some (127,true),[]⟩,
 ⟨some 129,.bin .eql (.t 128) (.c (.int .i64 81)),some (127,true),[]⟩,
 o1 130 (.pick (.t 127) (.t 129) (.c (.bool false))),
 m1 131 130,
 ⟨some 132,.mv (.t 12),some (131,true),[]⟩,
 ⟨some 133,.bin .eql (.t 132) (.c (.int .i64 82)),some (131,true),[]⟩,
 o1 134 (.pick (.t 131) (.t 133) (.c (.bool false))),
 m1 135 134,
 ⟨some 136,.mv (.t 14),some (135,true),[]⟩,
 ⟨some 137,.bin .eql (.t 136) (.c (.int .i64 2)),some (135,true),[]⟩,
 o1 138 (.pick (.t 135) (.t 137) (.c (.bool false))),
 m1 139 138,
 ⟨some 140,.mv (.t 16),some (139,true),[]⟩,
 ⟨some 141,.bin .eql (.t 140) (.c (.int .i64 83)),some (139,true),[]⟩,
 o1 142 (.pick (.t 139) (.t 141) (.c (.bool false))),
 m1 143 142,
 ⟨some 144,.build [.slice none 0 0,.int .i64 0,.int .i64 0,.int .i64 0] [],some (143,true),[]⟩,
 ⟨some 145,.call 20 [.t 144],some (143,true),[]⟩,
 ⟨some 146,.bin .eql (.t 145) (.c (.int .i64 80)),some (143,true),[]⟩,
 o1 147 (.pick (.t 143) (.t 146) (.c (.bool false))),
 m1 0 147])
 .ret))))))))))))))))))
def r14:List RV:=[.tmp 0]
theorem n14:Try.f14.ntmps=148:=by kernel_rfl
theorem b14:bodyB Try.prog 14=true:=by kernel_rfl
theorem c14_ok:cmpC Try.prog c14 ((Try.f14.body).getD .skip)=true:=by kernel_rfl
theorem r14_ok:cmpR Try.prog r14 Try.f14.results.toList=true:=by kernel_rfl
theorem t14 {args:List SV} {res:SV} (ka:KFL args) (kr:KF res) (h:sx Try.prog Y0 0 c14 (st0 args 148) (retK r14 res)) (hA:Nat.ble args.length 148=true:=by rfl):Ct Try.prog 14 args res:=ct_intro Try.func14 rfl b14 c14_ok r14_ok n14 (Nat.le_of_ble_eq_true hA) ka kr h
end Go.Proofs.Ythilckbkffjliaa
set_option maxRecDepth 100000
set_option maxHeartbeats 4000000
namespace Go.Proofs.Ythilckbkffjliaa
open Go Go.Sx Go.Azalai
theorem settleX_ok (p:Pact) (l:List Letter) (hs:smallP p) (hl:l.length≤1000) (c:Bool) (h0:readE p l≠0):Ct Try.prog 29 [.agg (pactL p),.sl c 8 (l.map letterL)] (.tup [.v (.slice none 0 0),I (readE p l)]):=by
 refine t29 (by simp [pactL,partnerL,letterL,KFR_iff,KFL,KF]) (by simp [KFL,KF]) ?_
 dsimp only [c29,r29,pactL,go_sem,rA,rM,rS]
 refine call (read_ok p l hs hl c) ?_
 dsimp only [go_sem,rA,rM,rS]
 refine br_t (by simpa using h0) ?_
 dsimp only [go_sem,rA,rM,rS]
theorem readX_ok (p:Pact) (l:List Letter) (hs:smallP p) (hl:l.length≤1000) (c:Bool) (h0:readE p l≠0):Ct Try.prog 24 [.agg (pactL p),.sl c 8 (l.map letterL)] (.tup [.v (.slice none 0 0),.v (.slice none 0 0),I (readE p l)]):=by
 refine t24 (by simp [pactL,partnerL,letterL,KFR_iff,KFL,KF]) (by simp [KFL,KF]) ?_
 dsimp only [c24,r24,pactL,go_sem,rA,rM,rS]
 refine call (read_ok p l hs hl c) ?_
 dsimp only [go_sem,rA,rM,rS]
 refine br_t (by simpa using h0) ?_
 dsimp only [go_sem,rA,rM,rS]
def z0:Letter:=⟨0,0,0,0,0,0,0,false⟩
def otherX:Letter:=⟨10,25,6,0,8,7,90,false⟩
def mouthX (i:Nat):Letter:=⟨i,0,1,0,0,0,0,true⟩
theorem x1:settleR pactX (lettersX ++ [againX])=[951,440,310]:=by
 rw [settleR,if_pos e5,settle_one (a:=7) (by decide) (by decide) (by decide +kernel)];decide +kernel
theorem x2:whyRR pactX (lettersX ++ debtsX)=[0,0,0,5,0,0,0,0]:=by
 rw [whyRR,if_pos e4];decide +kernel
theorem x3:owedR pactX (lettersX ++ debtsX) 1 2=10:=by decide +kernel
theorem x4:owedE pactX (lettersX ++ debtsX) 1 2=0:=by decide +kernel
theorem x5:readE pactX (List.replicate 101 z0)=4:=by decide +kernel
theorem x6:readE pactX (List.replicate 1 z0)=81:=by decide +kernel
theorem x7:readE pactX (lettersX ++ [otherX])=82:=by decide +kernel
theorem x8:owedE pactX [] 1 1=2:=by decide +kernel
theorem x9:surelyE pactX ((List.range 7).map mouthX)=83:=by decide +kernel
theorem examples_ok:Ct Try.prog 14 [] (B true):=by
 refine t14 (by simp [KFL,KF]) (by simp [KFL,KF]) ?_
 dsimp only [c14,r14,go_sem,rA,rM,rS]
 have hp:okPact pactX=true:=by decide +kernel
 repeat (first | (refine call alive_ok ?_;dsimp only [go_sem,rA,rM,rS]) | (refine gb_run rfl ?_;dsimp only [go_sem,rA,rM,rS]))
 refine br_f rfl ?_
 dsimp only [go_sem,rA,rM,rS]
 refine call pactX_ok ?_
 dsimp only [go_sem,rA,rM,rS]
 refine call lettersX_ok ?_
 dsimp only [go_sem,rA,rM,rS]
 refine call againX_ok ?_
 dsimp only [letterL,go_sem,rA,rM,rS]
 refine app0 (by simp [lettersX]) ?_
 dsimp only [go_sem,rA,rM,rS]
 have ea:lettersX.map letterL ++ [letterL againX]=(lettersX ++ [againX]).map letterL:=by rw [List.map_append];rfl
 simp only [letterL] at ea
 rw [ea]
 refine call (settle_ok pactX (lettersX ++ [againX]) sm_pact (by decide) false) ?_
 dsimp only [go_sem,rA,rM,rS]
 rw [x1,e5]
 refine call pactX_ok ?_
 dsimp only [go_sem,rA,rM,rS]
 refine call lettersX_ok ?_
 dsimp only [go_sem,rA,rM,rS]
 refine call debtsX_ok ?_
 dsimp only [go_sem,rA,rM,rS]
 refine app0 (by simp [lettersX,debtsX]) ?_
 dsimp only [go_sem,rA,rM,rS]
 rw [← List.map_append]
 refine call (Read_ok pactX (lettersX ++ debtsX) sm_pact (by decide) false) ?_
 dsimp only [go_sem,rA,rM,rS]
 rw [x2,e4]
 refine call pactX_ok ?_
 dsimp only [go_sem,rA,rM,rS]
 refine call lettersX_ok ?_
 dsimp only [go_sem,rA,rM,rS]
 refine call debtsX_ok ?_
 dsimp only [go_sem,rA,rM,rS]
 refine app0 (by simp [lettersX,debtsX]) ?_
 dsimp only [go_sem,rA,rM,rS]
 rw [← List.map_append]
 refine call (owed_ok pactX (lettersX ++ debtsX) 1 2 sm_pact (by decide) false) ?_
 dsimp only [go_sem,rA,rM,rS]
 rw [x3,x4]
 have q3:=same22_ok [951,440,310] [951,440,310] (by decide) (by decide) false true
 simp only [decide_true] at q3
 repeat (first | (refine call q3 ?_;dsimp only [go_sem,rA,rM,rS]) | (refine gb_run rfl ?_;dsimp only [go_sem,rA,rM,rS]))
 refine raw_str (e:=5) (ns:=[0,0,0,5,0,0,0,0]) rfl (fun _ _ _ e=>by cases e) rfl (by kernel_rfl) (by kernel_rfl) (by kernel_rfl) ?_
 dsimp only [go_sem,rA,rM,rS]
 refine gb_run rfl ?_
 dsimp only [go_sem,rA,rM,rS]
 refine raw_seqc (q:=false) rfl (.inr ⟨rfl,by decide +kernel⟩) ?_
 dsimp only [go_sem,rA,rM,rS]
 repeat (refine gb_run rfl ?_;dsimp only [go_sem,rA,rM,rS])
 refine br_f rfl ?_
 dsimp only [go_sem,rA,rM,rS]
 refine call againX_ok ?_
 dsimp only [letterL,go_sem,rA,rM,rS]
 refine loopG (ent_nilslot 9 8 50 rfl rfl) (fun s:Nat=>[(74,I (s:Nat)),(9,.mr 1 s)]) (fun s=>[(1,.row s 8 (((List.range s).map mouthX).map letterL) 50)]) (fun s=>s≤7) (fun s=>7 - s) 0 (Nat.zero_le _) ?_ ?_
 · (refine ent_id ?_ ?_ ?_ rfl rfl<;>dsimp only [letterL,pactL,partnerL,u8L,intL,id,go_sem,rA,rM,rS]<;>simp [letterL,pactL,partnerL,u8L,intL,KFR_iff,KFR_app,KFR,KFL,KF,mtL_same,mtO,nbr])
 intro k hk
 dsimp only [go_sem,rA,rM,rS]
 by_cases hlt:k < 7
 · refine br_t (by simp;omega) ?_
   (repeat first | dsimp only [go_sem,rA,rM,rS] | simp only [nbr])
   refine ⟨by simp [allOne,oneS,oneV],by simp;omega,?_⟩
   (repeat first | dsimp only [go_sem,rA,rM,rS] | simp only [nbr])
   have em:((List.range k).map mouthX).map letterL ++ [letterL (mouthX k)]=((List.range (k+1)).map mouthX).map letterL:=by simp [List.range_succ]
   simp only [letterL,mouthX] at em
   rw [w64_in (n:=(k:Int)+1) (by omega) (by omega)]
   refine ⟨k+1,hlt,by omega,?_⟩
   (refine ent_id ?_ ?_ ?_ rfl rfl<;>dsimp only [letterL,mouthX,pactL,partnerL,u8L,intL,id,go_sem,rA,rM,rS]<;>simp [letterL,mouthX,pactL,partnerL,u8L,intL,KFR_iff,KFR_app,KFR,KFL,KF,mtL_same,mtO,nbr])
   all_goals simp [List.range_succ,letterL,mouthX]
 refine br_f (by simp;omega) ?_
 dsimp only [go_sem,rA,rM,rS]
 have hk7:k=7:=by omega
 subst hk7
 refine gh (ent_frz 9 1 7 rfl rfl rfl rfl) ?_
 dsimp only [go_sem,rA,rM,rS]
 refine call pactX_ok ?_
 dsimp only [go_sem,rA,rM,rS]
 have hd1:=Divide_ok pactX 10000000001 sm_pact
 simp only [hp,show inR (-10000000000) 10000000000 10000000001=false from by decide,Bool.false_eq_true,and_false,if_false,if_true] at hd1
 refine call hd1 ?_
 dsimp only [go_sem,rA,rM,rS]
 refine call pactX_ok ?_
 dsimp only [go_sem,rA,rM,rS]
 refine ⟨101,rfl,by decide,?_⟩
 (repeat first | dsimp only [go_sem,rA,rM,rS] | simp only [nbr])
 have ez:∀ n,List.replicate n [SV.v (Value.int .i64 0),SV.v (Value.int .i64 0),SV.v (Value.int .u8 0),SV.v (Value.int .i64 0),SV.v (Value.int .i64 0),SV.v (Value.int .i64 0),SV.v (Value.int .i64 0),SV.v (Value.bool false)]=(List.replicate n z0).map letterL:=fun n=>by rw [List.map_replicate];rfl
 rw [ez]
 refine callv (by simp [FLT,FLTL]) (settleX_ok pactX (List.replicate 101 z0) sm_pact (by simp) false (by rw [x5];decide)) ?_
 (repeat first | dsimp only [go_sem,rA,rM,rS] | simp only [nbr])
 rw [x5]
 refine call pactX_ok ?_
 (repeat first | dsimp only [go_sem,rA,rM,rS] | simp only [nbr])
 refine ⟨1,rfl,by decide,?_⟩
 (repeat first | dsimp only [go_sem,rA,rM,rS] | simp only [nbr])
 rw [ez]
 refine callv (by simp [FLT,FLTL]) (readX_ok pactX (List.replicate 1 z0) sm_pact (by simp) false (by rw [x6];decide)) ?_
 (repeat first | dsimp only [go_sem,rA,rM,rS] | simp only [nbr])
 rw [x6]
 refine call pactX_ok ?_
 (repeat first | dsimp only [go_sem,rA,rM,rS] | simp only [nbr])
 refine call lettersX_ok ?_
 (repeat first | dsimp only [go_sem,rA,rM,rS] | simp only [nbr])
 refine app0 (by simp [lettersX]) ?_
 (repeat first | dsimp only [go_sem,rA,rM,rS] | simp only [nbr])
 have eo:lettersX.map letterL ++ [[I 10,I againX.day,U8 againX.kind,I againX.who,I againX.other,I againX.animal,I againX.rials,B againX.mouth]]=(lettersX ++ [otherX]).map letterL:=by rw [List.map_append];rfl
 rw [eo]
 refine call (settle_ok pactX (lettersX ++ [otherX]) sm_pact (by decide) false) ?_
 (repeat first | dsimp only [go_sem,rA,rM,rS] | simp only [nbr])
 rw [x7]
 refine call pactX_ok ?_
 (repeat first | dsimp only [go_sem,rA,rM,rS] | simp only [nbr])
 have ho:=(owed_ok pactX [] 1 1 sm_pact (by decide) true).args (args0:=[.agg (pactL pactX),.v (.slice none 0 0),I 1,I 1]) (by simp [pactL,partnerL,pactX,KFR,KFL,KF]) (weak_cons Weak.rfl (weak_cons weak_nil rl_rfl))
 refine call ho ?_
 (repeat first | dsimp only [go_sem,rA,rM,rS] | simp only [nbr])
 rw [x8]
 refine call pactX_ok ?_
 (repeat first | dsimp only [go_sem,rA,rM,rS] | simp only [nbr])
 refine call (surely_ok pactX ((List.range 7).map mouthX) sm_pact (by simp) false) ?_
 (repeat first | dsimp only [go_sem,rA,rM,rS] | simp only [nbr])
 rw [x9]
 have hc:=(check_ok ⟨[],0,0,0⟩ (by show ([]:List Partner).length≤1000;decide)).args (args0:=[.agg [.v (.slice none 0 0),I 0,I 0,I 0]]) (by simp [KFL,KF]) (weak_cons (weak_agg (weak_cons weak_nil rl_rfl)) rl_rfl)
 have he:errP ⟨[],0,0,0⟩=80:=by decide +kernel
 rw [he] at hc
 repeat (first | (refine call hc ?_;dsimp only [go_sem,rA,rM,rS]) | (refine gb_run rfl ?_;dsimp only [go_sem,rA,rM,rS]))
 try rfl
end Go.Proofs.Ythilckbkffjliaa
set_option maxRecDepth 100000
set_option maxHeartbeats 4000000
namespace Go.Proofs.Ythilckbkffjliaa
open Go Go.Sx Go.Azalai Go.ChangeShapes Go.WideShapes Go.RowKit
theorem Try.own:ownKnob Try.prog.godebug=none:=by kernel_rfl
theorem Try.laidOut:laidOutB Try.prog=true:=by kernel_rfl
theorem shareExamples_lifted (os:Os) (started:os.Started) (H:Type) (enc:TypeId × Value→H) :
 ReturnsInHanded {} Try.checked os 14 .any (Rows.shareExamplesSpec.pre6 enc Try.prog Try.f14 Rows.shareExamplesRow.domain false) (Rows.shareExamplesSpec.post enc Try.prog Try.f14 false true false false):=by
 refine returnsInHanded_of_change (C:=Try.checked) Try.own started (by kernel_rfl) Try.func14
  (ChangeSpec.witness6 (enc:=enc) (C:=Try.checked) false ⟨#[],#[],[]⟩ 8 (by kernel_rfl) (by kernel_rfl) (by kernel_rfl) (by kernel_rfl)) ?_
 intro W base args ds gs before hval0 hW hcnd _
 have hval:∀ (j:Nat) t v,Try.f14.params[j]? = some t→args[j]? = some v→Value.okWide Try.prog W .any base t v:=hval0
 have hW':=hW
 obtain ⟨p,q,hA0,hV,rfl,hfz,hnd⟩:=hW
 have hA:DataW.TrodAll enc Try.prog W 0 (fun _=>true) true Try.f14.params.toList args.toList ds p:=hA0
 rw [Try.params14] at hA hval
 obtain ⟨ea0,rfl,rfl⟩:=trodAll_nil hA
 obtain ⟨rfl,rfl⟩:=trodVars_none hV
 have hargs:args = #[]:=Array.toList_inj.1 ea0
 subst hargs
 refine ((examples_ok).run W Tr [] (by simp only [RL])).mono fun e W' ⟨y,he,hy,hb⟩=>?_
 simp only [R] at hy
 subst hy
 exact ⟨_,he,post_law (P:=Try.prog) Try.laidOut (by kernel_rfl) (by kernel_rfl) Try.underlying4 rfl rfl hW' hb⟩
theorem shareExamples_holds:Rows.ShareExamplesSaid :=
 OpenClaim.holds_of_wide 14 Try.f14 rfl rfl rfl rfl rfl rfl rfl ⟨rfl,rfl,rfl,rfl,rfl⟩ rfl rfl rfl rfl rfl (by kernel_rfl) Try.func14 (by kernel_rfl)
  (of_decide_eq_true (by kernel_rfl)) (by unfold Func.isWrapper;first | (rw [if_pos (by decide +kernel)];kernel_rfl) | (rw [if_neg (by decide +kernel)];exact ⟨rfl,rfl⟩))
  (fun os started H enc _=>shareExamples_lifted os started H enc)
end Go.Proofs.Ythilckbkffjliaa
