/- A walk through the code of the given statement, and what it says. -/
import Derived.Test.YthilckbkffjliaaCI
import Derived.Test.YthilckbkffjliaaRows
set_option linter.all false
open Nat renaming reduceAdd→rA,reduceMul→rM,reduceSub→rS,beq_refl→nbr
set_option maxRecDepth 100000
namespace Go.Proofs.Ythilckbkffjliaa
open Go Go.Sx
def c6b:SC:=(.seq (.reg [
 o1 90 (.ld (.t 3) 4 true),
 m1 91 1,
 o1 92 (.call 29 [.t 90,.t 91]),
 m1 89 92,
 o1 93 (.ext (.t 89) 0),
 o1 94 (.ext (.t 89) 1),
 m1 13 93,
 m1 14 94])
 (.seq (.reg [
 o1 96 (.ld (.t 3) 4 true),
 m1 97 8,
 o1 98 (.call 29 [.t 96,.t 97]),
 m1 95 98,
 o1 99 (.ext (.t 95) 0),
 o1 100 (.ext (.t 95) 1),
 m1 15 99,
 m1 16 100])
 (.seq (.gh (.reg [
 o1 102 (.ld (.t 3) 4 true),
 m1 103 1,
 o1 104 (.call 24 [.t 102,.t 103]),
 m1 101 104,
 o1 105 (.ext (.t 101) 0),
 o1 106 (.ext (.t 101) 1),
 o1 107 (.ext (.t 101) 2),
 m1 17 105,
 m1 18 106,
 m1 19 107]))
 (.seq (.gh (.reg [
 o1 109 (.ld (.t 3) 4 true),
 m1 110 8,
 o1 111 (.call 24 [.t 109,.t 110]),
 m1 108 111,
 o1 112 (.ext (.t 108) 0),
 o1 113 (.ext (.t 108) 1),
 o1 114 (.ext (.t 108) 2),
 m1 20 112,
 m1 21 113,
 m1 22 114]))
 (.seq (.reg [
 o1 116 (.ld (.t 3) 4 true),
 m1 117 1,
 o1 118 (.call 31 [.t 116,.t 117]),
 m1 115 118,
 o1 119 (.ext (.t 115) 0),
 o1 120 (.ext (.t 115) 1),
 m1 23 119,
 m1 24 120])
 (.seq (.reg [
 o1 122 (.ld (.t 3) 4 true),
 m1 123 8,
 o1 124 (.call 31 [.t 122,.t 123]),
 m1 121 124,
 o1 125 (.ext (.t 121) 0),
 o1 126 (.ext (.t 121) 1),
 m1 25 125,
 m1 26 126])
 (.seq (.reg [
 m1 127 7,
 m1 128 127,
 ⟨some 129,.mv (.t 14),some (128,true),[]⟩,
 ⟨some 130,.bin .eql (.t 129) (.c (.int .i64 0)),some (128,true),[]⟩,
 o1 131 (.pick (.t 128) (.t 130) (.c (.bool false))),
 m1 132 131,
 ⟨some 133,.mv (.t 16),some (132,true),[]⟩,
 ⟨some 134,.bin .eql (.t 133) (.c (.int .i64 0)),some (132,true),[]⟩,
 o1 135 (.pick (.t 132) (.t 134) (.c (.bool false))),
 m1 136 135,
 ⟨some 137,.mv (.t 19),some (136,true),[]⟩,
 ⟨some 138,.bin .eql (.t 137) (.c (.int .i64 0)),some (136,true),[]⟩,
 o1 139 (.pick (.t 136) (.t 138) (.c (.bool false))),
 m1 140 139,
 ⟨some 141,.mv (.t 22),some (140,true),[]⟩,
 ⟨some 142,.bin .eql (.t 141) (.c (.int .i64 0)),some (140,true),[]⟩,
 o1 143 (.pick (.t 140) (.t 142) (.c (.bool false))),
 m1 144 143,
 ⟨some 145,.mv (.t 24),some (144,true),[]⟩,
 ⟨some 146,.mv (.t 26),some (144,true),[]⟩,
 ⟨some 147,.bin .eql (.t 145) (.t 146),some (144,true),[]⟩,
 o1 148 (.pick (.t 144) (.t 147) (.c (.bool false))),
 m1 149 148,
 ⟨some 150,.mv (.t 13),some (149,true),[]⟩,
 ⟨some 151,.mv (.t 15),some (149,true),[]⟩,
 ⟨some 152,.call 22 [.t 150,.t 151],some (149,true),[]⟩,
 o1 153 (.pick (.t 149) (.t 152) (.c (.bool false))),
 m1 154 153,
 ⟨some 155,.mv (.t 17),some (154,true),[]⟩,
 ⟨some 156,.mv (.t 20),some (154,true),[]⟩,
 ⟨some 157,.call 28 [.t 155,.t 156],some (154,true),[]⟩,
 o1 158 (.pick (.t 154) (.t 157) (.c (.bool false))),
 m1 159 158,
 ⟨some 160,.mv (.t 18),some (159,true),[]⟩,
 ⟨some 161,.raw (Go.Op.convert 39 9 (Go.Operand.tmp 160)) 9,some (159,true),[]⟩,
 ⟨some 162,.mv (.t 21),some (159,true),[]⟩,
 ⟨some 163,.raw (Go.Op.convert 39 9 (Go.Operand.tmp 162)) 9,some (159,true),[]⟩,
 ⟨some 164,.raw (Go.Op.binOp Go.BinOp.eql 9 (Go.Operand.tmp 161) (Go.Operand.tmp 163) 9) 4,some (159,true),[]⟩,
 o1 165 (.pick (.t 159) (.t 164) (.c (.bool false))),
 m1 166 165,
 ⟨some 167,.mv (.t 23),some (166,true),[]⟩,
 ⟨some 168,.mv (.t 25),some (166,true),[]⟩,
 ⟨some 169,.call 33 [.t 167,.t 168],some (166,true),[]⟩,
 o1 170 (.pick (.t 166) (.t 169) (.c (.bool false))),
 m1 6 170])
 .ret)))))))
def c6:SC:=(.seq (.reg [
 o1 3 (.box (.t 0) 0 24),
 o1 6 (.mv (.c (.bool false)))])
 (.seq (.reg [
 o1 27 (.call 34 []),
 m1 7 27])
 (.seq (.seq (.reg [
 o1 28 (.ld (.t 3) 4 true),
 m1 29 1,
 o1 30 (.call 35 [.t 28,.t 29]),
 o1 31 (.un .not (.t 30)),
 m1 32 31,
 ⟨some 33,.mv (.t 7),some (32,false),[]⟩,
 ⟨some 34,.un .not (.t 33),some (32,false),[]⟩,
 o1 35 (.pick (.t 32) (.c (.bool true)) (.t 34))])
 (.cond (.t 35)
 (.seq (.reg [
  m1 36 7,
  m1 6 36])
  .ret)
 .skip))
 (.seq (.reg [
 o1 37 (.bsl 8 50 []),
 m1 38 1,
 o1 39 (.cln 8 64 50 (.t 37) (.t 38)),
 m1 8 39])
 (.seq (.seq (.reg [
 m1 40 2,
 o1 41 (.len (.t 40)),
 o1 42 (.mv (.c (.int .i64 0)))])
 (.block 0 (.loop (.seq (.reg [
  o1 43 (.bin .lss (.t 42) (.t 41))])
  (.seq (.cond (.t 43)
  .skip
  (.exit 0))
  (.seq (.block 1 (.seq (.reg [
   m1 44 42,
   o1 45 (.ixs (.t 40) (.t 42) 1),
   o1 46 (.ld (.t 45) 1 false),
   m1 9 44,
   m1 10 46])
   (.seq (.seq (.reg [
   m1 47 8,
   o1 48 (.len (.t 47)),
   o1 49 (.bin .eql (.t 48) (.c (.int .i64 0)))])
   (.cond (.t 49)
   (.exit 0)
   .skip))
   (.seq (.regd [0,1,2,3,4,5,6,7,8,9,10] [
   .op (m1 50 9),
   .op (m1 51 8),
   .op ⟨some 52,.len (.t 51),none,[1]⟩,
   .op ⟨some 53,.div .rem (.t 50) (.t 52),none,[0,2]⟩,
   .op (m1 54 10),
   .op ⟨some 55,.conv .i64 (.t 54),none,[4]⟩,
   .op (m1 56 8),
   .op ⟨some 57,.len (.t 56),none,[6]⟩,
   .op ⟨some 58,.div .rem (.t 55) (.t 57),none,[5,7]⟩,
   .op ⟨some 11,.mv (.t 53),none,[0,1,2,3]⟩,
   .op ⟨some 12,.mv (.t 58),none,[0,1,2,3,4,5,6,7,8,9]⟩] 0 0 [
])
 (.seq (.regd [0,1,4,5,6,7,8,9,10,11,12,2,3,13,14,15] [
 .op (m1 59 8),
 .op (m1 60 11),
 .op (m1 63 8),
 .op (m1 64 12),
 .op ⟨some 65,.ixs (.t 63) (.t 64) 8,none,[4,5]⟩,
 .op ⟨some 66,.ld (.t 65) 8 true,none,[6]⟩,
 .op (m1 67 8),
 .op (m1 68 11),
 .op ⟨some 69,.ixs (.t 67) (.t 68) 8,none,[8,9]⟩,
 .op ⟨some 70,.ld (.t 69) 8 true,none,[10]⟩,
 .op ⟨some 71,.ixs (.t 59) (.t 60) 8,none,[0,1,4,5,6,7,11]⟩,
 .hide (.t 71),
 .op (m1 61 8),
 .op (m1 62 12)] 0 1 [
 ⟨none,.st (.t 71) (.t 66) 8,none,[0,1,4,5,6,7,11,12]⟩,
 ⟨some 72,.ixs (.t 61) (.t 62) 8,none,[0,1,2,3,4,5,6,7,8,9,10,11,12,13]⟩,
 ⟨none,.st (.t 72) (.t 70) 8,none,[0,1,2,3,4,5,6,7,8,9,10,11,12,13,14]⟩])
 (.seq (.reg [
 m1 73 10,
 o1 74 (.div .rem (.t 73) (.c (.int .u8 5))),
 o1 75 (.bin .eql (.t 74) (.c (.int .u8 0))),
 m1 76 75,
 ⟨some 77,.mv (.t 8),some (76,true),[]⟩,
 ⟨some 78,.len (.t 77),some (76,true),[]⟩,
 ⟨some 79,.bin .lss (.t 78) (.c (.int .i64 100)),some (76,true),[]⟩,
 o1 80 (.pick (.t 76) (.t 79) (.c (.bool false)))])
 (.cond (.t 80)
 (.reg [
  m1 81 8,
  m1 82 8,
  m1 83 12,
  o1 84 (.ixs (.t 82) (.t 83) 8),
  o1 85 (.ld (.t 84) 8 true),
  o1 86 (.bsl 8 50 [.t 85]),
  o1 87 (.appm 8 64 50 (.t 81) (.t 86)),
  m1 8 87])
 .skip)))))))
 (.reg [
 o1 88 (.bin .add (.t 42) (.c (.int .i64 1))),
 m1 42 88])))))))
 (.gh c6b))))))
def r6:List RV:=[.tmp 6]
theorem n6:Try.f6.ntmps=171:=by kernel_rfl
theorem b6:bodyB Try.prog 6=true:=by kernel_rfl
theorem c6_ok:cmpC Try.prog c6 ((Try.f6.body).getD .skip)=true:=by kernel_rfl
theorem r6_ok:cmpR Try.prog r6 Try.f6.results.toList=true:=by kernel_rfl
theorem t6 {args:List SV} {res:SV} (ka:KFL args) (kr:KF res) (h:sx Try.prog Y0 0 c6 (st0 args 171) (retK r6 res)) (hA:Nat.ble args.length 171=true:=by rfl):Ct Try.prog 6 args res:=ct_intro Try.func6 rfl b6 c6_ok r6_ok n6 (Nat.le_of_ble_eq_true hA) ka kr h
end Go.Proofs.Ythilckbkffjliaa
set_option maxRecDepth 100000
set_option maxHeartbeats 4000000
namespace Go.Azalai
def W8:Type:={ n:Int // 0≤n∧n < 256 }
structure Mix (p:Pact) (l O:List Letter):Prop where
 mem:∀ x,x ∈ O↔x ∈ l
 len:O.length≤100
theorem Mix.read {p:Pact} {l O:List Letter} (h:Mix p l O) (h0:readE p l=0):readE p O=0∧readL p O=readL p l:=by
 obtain ⟨hp,-,hok,h2⟩:=readE_0 h0
 have h3:twoB O=false:=twoB_sub h2 fun x hx=>(h.mem x).1 hx
 have ha:O.all (okLetter p)=true:=List.all_eq_true.2 fun x hx=>hok x ((h.mem x).1 hx)
 refine ⟨?_,readL_same h2 h.mem⟩
 rw [readE_of hp]
 have:=h.len
 simp only [lettersE,ha,h3]
 simp;omega
theorem Mix.swap {p:Pact} {l O:List Letter} (h:Mix p l O) {i j:Nat} (hi:i < O.length) (hj:j < O.length):Mix p l (swp O i j) :=
 ⟨fun x=>by rw [(swp_perm hi hj).mem_iff];exact h.mem x,by rw [swp_len];exact h.len⟩
theorem Mix.more {p:Pact} {l O:List Letter} (h:Mix p l O) {i:Nat} (hi:i < O.length) (hl:O.length < 100):Mix p l (O ++ [O[i]]) :=
 ⟨fun x=>by
  rw [List.mem_append,h.mem]
  constructor
  · rintro (q | q)
    · exact q
    · have:x=O[i]:=by simpa using q
      rw [this];exact (h.mem _).1 (List.getElem_mem hi)
  · exact fun q=>.inl q,by simp;omega⟩
end Go.Azalai
namespace Go.Proofs.Ythilckbkffjliaa
open Go Go.Sx Go.Azalai
def w8L (x:W8):List SV:=[U8 x.1]
theorem rest6 (p:Pact) (l O:List Letter) (c:Bool) (hs:smallP p) (hl:l.length≤100) (h0:readE p l=0) (hM:Mix p l O) :
 sx Try.prog Y0 0 c6b ⟨[(8,.sl false 8 (O.map letterL)),(7,B true),(3,.p 0 0),(1,.sl c 8 (l.map letterL))],[(0,.cells [.sl false 3 (p.partners.map partnerL),I p.calf,I p.hire,I p.ends] 24)],1,171,[]⟩ (retK r6 (B true)):=by
 obtain ⟨hp,-,hok,h2⟩:=readE_0 h0
 obtain ⟨g0,g1⟩:=hM.read h0
 have hO:=hM.len
 have h8:=(okPact_all hp).2.2.2.2.2.2
 have s1:settleR p O=settleR p l:=by rw [settleR,settleR,if_pos h0,if_pos g0,g1]
 have s2:readR p O=readR p l:=by rw [readR,readR,if_pos h0,if_pos g0,g1]
 have s3:whyRR p O=whyRR p l:=by rw [whyRR,whyRR,if_pos h0,if_pos g0,g1]
 have s4:surelyE p O=surelyE p l:=by rw [surelyE,surelyE,if_pos h0,if_pos g0,g1]
 have s5:surelyR p O=surelyR p l:=by rw [surelyR,surelyR,s4,g1]
 have hrl:=readL_len (p:=p) (l:=l)
 have n1:(settleR p l).length≤1000000:=by
  rw [settleR,if_pos h0]
  have:(settleF p (readL p l)).length=p.partners.length:=hasF_len
  omega
 have n2:(readR p l).length≤1000000:=by rw [readR,if_pos h0];omega
 have n3:(surelyR p l).length≤1000000:=by
  rw [surelyR]
  split
  · simp [surelyF];omega
  · simp
 dsimp only [c6b,go_sem,rA,rM,rS]
 refine call (settle_ok p l hs (by omega) c) ?_
 dsimp only [go_sem,rA,rM,rS]
 refine call (settle_ok p O hs (by omega) false) ?_
 dsimp only [go_sem,rA,rM,rS]
 refine gh ent_refl ?_
 dsimp only [go_sem,rA,rM,rS]
 refine call (Read_ok p l hs (by omega) c) ?_
 dsimp only [go_sem,rA,rM,rS]
 refine gh ent_refl ?_
 dsimp only [go_sem,rA,rM,rS]
 refine call (Read_ok p O hs (by omega) false) ?_
 dsimp only [go_sem,rA,rM,rS]
 refine call (surely_ok p l hs (by omega) c) ?_
 dsimp only [go_sem,rA,rM,rS]
 refine call (surely_ok p O hs (by omega) false) ?_
 dsimp only [go_sem,rA,rM,rS]
 rw [s1,s2,s3,s4,s5,h0,g0]
 have q1:=same22_ok (settleR p l) (settleR p l) n1 n1 false false
 have q2:=same28_ok (readR p l) (readR p l) n2 n2 false false
 have q3:=same33_ok (surelyR p l) (surelyR p l) n3 n3 false false
 simp only [decide_true] at q1 q2 q3
 have ge:(surelyE p l == surelyE p l)=true:=by simp
 try simp only [ge]
 repeat (first | (refine call q1 ?_;dsimp only [go_sem,rA,rM,rS]) | (refine call q2 ?_;dsimp only [go_sem,rA,rM,rS]) | (refine gb_run rfl ?_;dsimp only [go_sem,rA,rM,rS]))
 simp only [ge]
 repeat (first | (refine call q1 ?_;dsimp only [go_sem,rA,rM,rS]) | (refine call q2 ?_;dsimp only [go_sem,rA,rM,rS]) | (refine gb_run rfl ?_;dsimp only [go_sem,rA,rM,rS]))
 have hns:∀ w:List Int,sprV 1 (.sl false 1 (w.map u8L))=some (w.map fun n=>[SV.v (.int .u8 n)]):=fun w=>rfl
 refine raw_str (e:=5) (ns:=whyRR p l) rfl (fun _ _ _ e=>by cases e) (hns _) (by kernel_rfl) (by kernel_rfl) (by kernel_rfl) ?_
 dsimp only [go_sem,rA,rM,rS]
 repeat (refine gb_run rfl ?_;dsimp only [go_sem,rA,rM,rS])
 refine raw_str (e:=5) (ns:=whyRR p l) rfl (fun _ _ _ e=>by cases e) (hns _) (by kernel_rfl) (by kernel_rfl) (by kernel_rfl) ?_
 dsimp only [go_sem,rA,rM,rS]
 repeat (refine gb_run rfl ?_;dsimp only [go_sem,rA,rM,rS])
 refine raw_seqO rfl rfl ?_
 have gs:((byS (whyRR p l)).toList == (byS (whyRR p l)).toList)=true:=by simp
 simp only [gs]
 dsimp only [go_sem,rA,rM,rS]
 repeat (first | (refine call q3 ?_;dsimp only [go_sem,rA,rM,rS]) | (refine gb_run rfl ?_;dsimp only [go_sem,rA,rM,rS]))
 try rfl
theorem order_ok (p:Pact) (l:List Letter) (by':List W8) (c c':Bool) (hby:by'.length≤9223372036854775807):Ct Try.prog 6 [.agg (pactL p),.sl c 8 (l.map letterL),.sl c' 1 (by'.map w8L)] (B true):=by
 refine t6 (by simp [pactL,partnerL,letterL,w8L,KFR_iff,KFL,KF]) (by simp [KFL,KF]) ?_
 dsimp only [c6,r6,pactL,go_sem,rA,rM,rS]
 refine call alive_ok ?_
 dsimp only [go_sem,rA,rM,rS]
 refine call (readyA_ok p l c) ?_
 dsimp only [go_sem,rA,rM,rS]
 by_cases hr:readyF p l=true
 case neg =>
  rw [Bool.not_eq_true] at hr
  rw [hr]
  repeat (refine gb_skip (by decide) ?_;dsimp only [go_sem,rA,rM,rS])
  refine br_t rfl ?_
  dsimp only [go_sem,rA,rM,rS]
 rw [hr]
 obtain ⟨hs,hl,h0⟩:=readyF_t hr
 repeat (refine gb_run rfl ?_;dsimp only [go_sem,rA,rM,rS])
 refine br_f rfl ?_
 (repeat first | dsimp only [go_sem,rA,rM,rS] | simp only [nbr])
 refine ⟨by simp;omega,?_⟩
 (repeat first | dsimp only [go_sem,rA,rM,rS] | simp only [nbr])
 simp only [List.length_map]
 refine loopO (fun s:Nat × Nat × List Letter=>[(42,I (s.1:Nat)),(8,.mr 1 s.2.1)]) (fun s=>[(1,.row s.2.1 8 (s.2.2.map letterL) 50)]) (fun s=>s.1≤by'.length∧Mix p l s.2.2) (fun s=>by'.length - s.1) (0,0,l) ⟨Nat.zero_le _,⟨fun _=>Iff.rfl,hl⟩⟩ ?_ ?_
 · (refine ent_id ?_ ?_ ?_ rfl rfl<;>dsimp only [pactL,partnerL,letterL,w8L,id,go_sem,rA,rM,rS]<;>simp [pactL,partnerL,letterL,w8L,KFR_iff,KFR_app,KFR,KFL,KF,mtL_same,mtO,nbr])
 rintro ⟨i,v,O⟩ ⟨hi,hM⟩
 simp only at hi hM
 have hO:=hM.len
 dsimp only [go_sem,rA,rM,rS]
 by_cases hlt:i < by'.length
 case neg =>
  refine br_f (by simpa using hlt) ?_
  dsimp only [go_sem,rA,rM,rS]
  refine gh (σ1:=⟨[(8,.sl false 8 (O.map letterL)),(7,B true),(3,.p 0 0),(1,.sl c 8 (l.map letterL))],[(0,.cells [.sl false 3 (p.partners.map partnerL),I p.calf,I p.hire,I p.ends] 24)],1,171,[]⟩) ?_ (rest6 p l O c hs hl h0 hM)
  refine ent_trans (ent_frz 8 1 v rfl rfl rfl rfl) ?_
  (refine ent_id ?_ ?_ ?_ rfl rfl<;>dsimp only [pactL,partnerL,letterL,w8L,id,go_sem,rA,rM,rS]<;>simp [pactL,partnerL,letterL,w8L,KFR_iff,KFR_app,KFR,KFL,KF,mtL_same,mtO,nbr])
 refine br_t (by simpa using hlt) ?_
 dsimp only [go_sem,rA,rM,rS]
 refine ixs_map i hlt rfl ?_
 dsimp only [w8L,go_sem,rA,rM,rS]
 simp only [nbr]
 (repeat first | dsimp only [go_sem,rA,rM,rS] | simp only [nbr])
 simp only [List.length_map]
 by_cases hO0:O.length=0
 · refine br_t (by simp [hO0]) ?_
   dsimp only [go_sem,rA,rM,rS]
   refine gh (σ1:=⟨[(8,.sl false 8 (O.map letterL)),(7,B true),(3,.p 0 0),(1,.sl c 8 (l.map letterL))],[(0,.cells [.sl false 3 (p.partners.map partnerL),I p.calf,I p.hire,I p.ends] 24)],1,171,[]⟩) ?_ (rest6 p l O c hs hl h0 hM)
   refine ent_trans (ent_frz 8 1 v rfl rfl rfl rfl) ?_
   (refine ent_id ?_ ?_ ?_ rfl rfl<;>dsimp only [pactL,partnerL,letterL,w8L,id,go_sem,rA,rM,rS]<;>simp [pactL,partnerL,letterL,w8L,KFR_iff,KFR_app,KFR,KFL,KF,mtL_same,mtO,nbr])
 refine br_f (by simp;intro h;exact hO0 (by rw [h];rfl)) ?_
 (repeat first | dsimp only [go_sem,rA,rM,rS] | simp only [nbr])
 have hb:=by'[i].2
 obtain ⟨bn,hbn⟩:=Int.eq_ofNat_of_zero_le hb.1
 have hbl:bn < 256:=by have:=hb.2;omega
 rw [hbn]
 try simp only [List.length_map]
 refine div0 (by first | omega | (simp;omega)) ?_
 (repeat first | dsimp only [divr,go_sem,rA,rM,rS] | simp only [nbr])
 simp only [List.length_map]
 rw [nat_tmod,w64_in (n:=(bn:Int)) (by omega) (by omega)]
 refine div0 (by omega) ?_
 (repeat first | dsimp only [divr,go_sem,rA,rM,rS] | simp only [nbr])
 rw [nat_tmod]
 have hj:i % O.length < O.length:=Nat.mod_lt _ (by omega)
 have hk:bn % O.length < O.length:=Nat.mod_lt _ (by omega)
 generalize i % O.length=j at *
 generalize bn % O.length=k at *
 refine ixrm k rfl (by simpa using hk) ?_
 (repeat first | dsimp only [go_sem,rA,rM,rS] | simp only [nbr])
 refine ldrm hk ?_
 (repeat first | dsimp only [letterL,go_sem,rA,rM,rS] | simp only [nbr])
 refine ixrm j rfl (by simpa using hj) ?_
 (repeat first | dsimp only [go_sem,rA,rM,rS] | simp only [nbr])
 refine ldrm hj ?_
 (repeat first | dsimp only [letterL,go_sem,rA,rM,rS] | simp only [nbr])
 refine ixrm j rfl (by simpa using hj) ?_
 (repeat first | dsimp only [go_sem,rA,rM,rS] | simp only [nbr])
 refine strm O[k] hj (by simp [letterL]) (by simp [letterL,splice]) ?_
 (repeat first | dsimp only [go_sem,rA,rM,rS] | simp only [nbr])
 refine ixrm k rfl (by simpa using hk) ?_
 (repeat first | dsimp only [go_sem,rA,rM,rS] | simp only [nbr])
 refine strm O[j] (by simpa using hk) (by simp [letterL]) (by simp [letterL,splice]) ?_
 rw [← swp_eq (l:=O) (i:=j) (j:=k) hj hk]
 (repeat first | dsimp only [go_sem,rA,rM,rS] | simp only [nbr])
 have hP:=hM.swap hj hk
 have hPl:(swp O j k).length=O.length:=swp_len _ _ _
 generalize swp O j k=P at *
 refine div0 (by decide) ?_
 (repeat first | dsimp only [divr,go_sem,rA,rM,rS] | simp only [nbr])
 try simp only [List.length_map]
 repeat (refine gb ?_;(repeat first | dsimp only [go_sem,rA,rM,rS] | simp only [nbr]))
 try simp only [List.length_map]
 by_cases hq:((bn:Int).tmod 5 == 0)=true∧P.length < 100
 · refine br_t (by have:=hq.2;simp only [hq.1,Bool.true_and];simp;omega) ?_
   (repeat first | dsimp only [go_sem,rA,rM,rS] | simp only [nbr])
   refine ixrm k rfl (by simp;omega) ?_
   (repeat first | dsimp only [go_sem,rA,rM,rS] | simp only [nbr])
   refine ldrm (by omega) ?_
   (repeat first | dsimp only [letterL,go_sem,rA,rM,rS] | simp only [nbr])
   refine ⟨by simp [allOne,oneS,oneV],by simp;omega,?_⟩
   (repeat first | dsimp only [go_sem,rA,rM,rS] | simp only [nbr])
   have hkP:k < P.length:=by omega
   have e1:P.map letterL ++ [[I P[k].id,I P[k].day,U8 P[k].kind,I P[k].who,I P[k].other,I P[k].animal,I P[k].rials,B P[k].mouth]]=(P ++ [P[k]]).map letterL:=by rw [List.map_append];rfl
   rw [e1,w64_in (n:=(i:Int)+1) (by omega) (by omega)]
   refine ⟨(i+1,v+1,P ++ [P[k]]),⟨hlt,hP.more hkP hq.2⟩,by simp only;omega,?_⟩
   (refine ent_id ?_ ?_ ?_ rfl rfl<;>dsimp only [pactL,partnerL,letterL,w8L,id,go_sem,rA,rM,rS]<;>simp [pactL,partnerL,letterL,w8L,KFR_iff,KFR_app,KFR,KFL,KF,mtL_same,mtO,nbr])
 refine br_f ?_ ?_
 · cases h5:((bn:Int).tmod 5 == 0) with
   | true =>
    have:¬ P.length < 100:=fun h=>hq ⟨h5,h⟩
    simp;omega
   | false=>rfl
 (repeat first | dsimp only [go_sem,rA,rM,rS] | simp only [nbr])
 rw [w64_in (n:=(i:Int)+1) (by omega) (by omega)]
 refine ⟨(i+1,v,P),⟨hlt,hP⟩,by simp only;omega,?_⟩
 (refine ent_id ?_ ?_ ?_ rfl rfl<;>dsimp only [pactL,partnerL,letterL,w8L,id,go_sem,rA,rM,rS]<;>simp [pactL,partnerL,letterL,w8L,KFR_iff,KFR_app,KFR,KFL,KF,mtL_same,mtO,nbr])
end Go.Proofs.Ythilckbkffjliaa
set_option maxRecDepth 100000
set_option maxHeartbeats 4000000
namespace Go.Proofs.Ythilckbkffjliaa
open Go Go.Sx Go.Azalai Go.ChangeShapes Go.WideShapes Go.RowKit
theorem wf8 {n:Int} (h:(Lit.int .u8 n).wf=true):0≤n∧n < 256:=by
 simp only [Lit.wf,Bool.and_eq_true,decide_eq_true_eq] at h
 have e1:IntKind.u8.min=0:=rfl
 have e2:IntKind.u8.max=255:=rfl
 omega
theorem lift_map {α : Type} {rep:α→List SV} {q:List SV→Prop} (hq:∀ r,q r→∃ a,r=rep a):∀ {xs:List (List SV)},(∀ r ∈ xs,q r)→∃ l:List α,xs=l.map rep
 | [],_=>⟨[],rfl⟩
 | x :: xs,h=>by
  obtain ⟨a,rfl⟩:=hq x (h x (by simp))
  obtain ⟨l,rfl⟩:=lift_map (xs:=xs) hq (fun r hr=>h r (by simp [hr]))
  exact ⟨a :: l,rfl⟩
theorem shp3 {f:Nat} {l:List SV} (h:Shp Try.prog (f+1) 3 l):∃ n:Int,l=[.v (.int .i64 n)]∧(Lit.int .i64 n).wf=true:=by
 rw [Shp,Try.underlying3] at h
 exact h
theorem shp64 {f:Nat} {l:List SV} (h:Shp Try.prog (f+2) 64 l):∃ w:Partner,l=partnerL w:=by
 rw [Shp,Try.underlying64] at h
 simp only [ShpF] at h
 obtain ⟨_,_,rfl,_,h0,_,_,rfl,_,h1,_,_,rfl,_,h2,rfl⟩:=h
 obtain ⟨a0,rfl,_⟩:=shp3 (f:=f+0) h0
 obtain ⟨a1,rfl,_⟩:=shp3 (f:=f+0) h1
 obtain ⟨a2,rfl,_⟩:=shp3 (f:=f+0) h2
 exact ⟨⟨a0,a1,a2⟩,rfl⟩
theorem cells64:Try.prog.cellsOf 64=3:=by kernel_rfl
theorem shp22 {f:Nat} {l:List SV} (h:Shp Try.prog (f+3) 22 l):∃ ds:List Partner,l=[.sl false 3 (ds.map partnerL)]∧ds.length≤9223372036854775807:=by
 rw [Shp,Try.underlying22] at h
 obtain ⟨xs,rfl,hl,hx⟩:=h
 obtain ⟨ws,rfl⟩:=lift_map (rep:=partnerL) (fun r h=>shp64 (f:=f) h.2) hx
 rw [cells64]
 exact ⟨ws,rfl,by simpa using hl⟩
theorem shp24 {f:Nat} {l:List SV} (h:Shp Try.prog (f+4) 24 l):∃ w:Pact,l=pactL w:=by
 rw [Shp,Try.underlying24] at h
 simp only [ShpF] at h
 obtain ⟨_,_,rfl,_,h0,_,_,rfl,_,h1,_,_,rfl,_,h2,_,_,rfl,_,h3,rfl⟩:=h
 obtain ⟨a0,rfl,_⟩:=shp22 (f:=f+0) h0
 obtain ⟨a1,rfl,_⟩:=shp3 (f:=f+2) h1
 obtain ⟨a2,rfl,_⟩:=shp3 (f:=f+2) h2
 obtain ⟨a3,rfl,_⟩:=shp3 (f:=f+2) h3
 exact ⟨⟨a0,a1,a2,a3⟩,rfl⟩
theorem shp5 {f:Nat} {l:List SV} (h:Shp Try.prog (f+1) 5 l):∃ n:Int,l=[.v (.int .u8 n)]∧(Lit.int .u8 n).wf=true:=by
 rw [Shp,Try.underlying5] at h
 exact h
theorem shp4 {f:Nat} {l:List SV} (h:Shp Try.prog (f+1) 4 l):∃ n:Bool,l=[B n]:=by
 rw [Shp,Try.underlying4] at h
 exact h
theorem shp50 {f:Nat} {l:List SV} (h:Shp Try.prog (f+2) 50 l):∃ w:Letter,l=letterL w:=by
 rw [Shp,Try.underlying50] at h
 simp only [ShpF] at h
 obtain ⟨_,_,rfl,_,h0,_,_,rfl,_,h1,_,_,rfl,_,h2,_,_,rfl,_,h3,_,_,rfl,_,h4,_,_,rfl,_,h5,_,_,rfl,_,h6,_,_,rfl,_,h7,rfl⟩:=h
 obtain ⟨a0,rfl,_⟩:=shp3 (f:=f+0) h0
 obtain ⟨a1,rfl,_⟩:=shp3 (f:=f+0) h1
 obtain ⟨a2,rfl,_⟩:=shp5 (f:=f+0) h2
 obtain ⟨a3,rfl,_⟩:=shp3 (f:=f+0) h3
 obtain ⟨a4,rfl,_⟩:=shp3 (f:=f+0) h4
 obtain ⟨a5,rfl,_⟩:=shp3 (f:=f+0) h5
 obtain ⟨a6,rfl,_⟩:=shp3 (f:=f+0) h6
 obtain ⟨a7,rfl⟩:=shp4 (f:=f+0) h7
 exact ⟨⟨a0,a1,a2,a3,a4,a5,a6,a7⟩,rfl⟩
theorem cells50:Try.prog.cellsOf 50=8:=by kernel_rfl
theorem shp38 {f:Nat} {l:List SV} (h:Shp Try.prog (f+3) 38 l):∃ ds:List Letter,l=[.sl false 8 (ds.map letterL)]∧ds.length≤9223372036854775807:=by
 rw [Shp,Try.underlying38] at h
 obtain ⟨xs,rfl,hl,hx⟩:=h
 obtain ⟨ws,rfl⟩:=lift_map (rep:=letterL) (fun r h=>shp50 (f:=f) h.2) hx
 rw [cells50]
 exact ⟨ws,rfl,by simpa using hl⟩
theorem cells5:Try.prog.cellsOf 5=1:=by kernel_rfl
theorem shp39 {f:Nat} {l:List SV} (h:Shp Try.prog (f+2) 39 l):∃ ds:List W8,l=[.sl false 1 (ds.map w8L)]∧ds.length≤9223372036854775807:=by
 rw [Shp,Try.underlying39] at h
 obtain ⟨xs,rfl,hl,hx⟩:=h
 obtain ⟨ws,rfl⟩:=lift_map (rep:=w8L) (fun r h=>by obtain ⟨n,rfl,hw⟩:=shp5 (f:=f) h.2;exact ⟨⟨n,wf8 hw⟩,rfl⟩) hx
 rw [cells5]
 exact ⟨ws,rfl,by simpa using hl⟩
theorem Try.own:ownKnob Try.prog.godebug=none:=by kernel_rfl
theorem Try.laidOut:laidOutB Try.prog=true:=by kernel_rfl
theorem tyB24:tyB Try.prog 20 24=true:=by kernel_rfl
theorem tyB38:tyB Try.prog 20 38=true:=by kernel_rfl
theorem tyB39:tyB Try.prog 20 39=true:=by kernel_rfl
theorem shareAnyOrder_lifted (os:Os) (started:os.Started) (H:Type) (enc:TypeId × Value→H) :
 ReturnsInHanded {} Try.checked os 6 .any (Rows.shareAnyOrderSpec.pre6 enc Try.prog Try.f6 Rows.shareAnyOrderRow.domain false) (Rows.shareAnyOrderSpec.post enc Try.prog Try.f6 false true false false):=by
 refine returnsInHanded_of_change (C:=Try.checked) Try.own started (by kernel_rfl) Try.func6
  (ChangeSpec.witness6 (enc:=enc) (C:=Try.checked) false ⟨#[],#[.agg #[.slice none 0 0,.int .i64 0,.int .i64 0,.int .i64 0],.slice none 0 0,.slice none 0 0],[]⟩ 8 (by kernel_rfl) (by kernel_rfl) (by kernel_rfl) (by kernel_rfl)) ?_
 intro W base args ds gs before hval0 hW hcnd _
 have hval:∀ (j:Nat) t v,Try.f6.params[j]? = some t→args[j]? = some v→Value.okWide Try.prog W .any base t v:=hval0
 have hW':=hW
 obtain ⟨p,q,hA0,hV,rfl,hfz,hnd⟩:=hW
 have hA:DataW.TrodAll enc Try.prog W 0 (fun _=>true) true Try.f6.params.toList args.toList ds p:=hA0
 rw [Try.params6] at hA hval
 obtain ⟨v0,vs0,d0,ds0,p0,q0,ea0,rfl,rfl,h0,hA⟩:=trodAll_cons hA
 obtain ⟨v1,vs1,d1,ds1,p1,q1,rfl,rfl,rfl,h1,hA⟩:=trodAll_cons hA
 obtain ⟨v2,vs2,d2,ds2,p2,q2,rfl,rfl,rfl,h2,hA⟩:=trodAll_cons hA
 obtain ⟨rfl,rfl,rfl⟩:=trodAll_nil hA
 obtain ⟨rfl,rfl⟩:=trodVars_none hV
 have hargs:args = #[v0,v1,v2]:=Array.toList_inj.1 ea0
 subst hargs
 obtain ⟨l0,r0,s0⟩:=trod_arg tyB24 (hval 0 24 v0 rfl rfl) h0
 obtain ⟨l1,r1,s1⟩:=trod_arg tyB38 (hval 1 38 v1 rfl rfl) h1
 obtain ⟨l2,r2,s2⟩:=trod_arg tyB39 (hval 2 39 v2 rfl rfl) h2
 obtain ⟨x0,rfl⟩:=shp24 s0
 obtain ⟨x1,rfl,b1⟩:=shp38 s1
 obtain ⟨x2,rfl,b2⟩:=shp39 s2
 simp only [argV,Try.underlying24,Try.underlying38,Try.underlying39,List.headD_cons] at r0 r1 r2
 refine ((order_ok x0 x1 x2 false false b2).run W Tr [v0,v1,v2] (by simp only [RL];exact ⟨_,_,rfl,r0,_,_,rfl,r1,_,_,rfl,r2,rfl⟩)).mono fun e W' ⟨y,he,hy,hb⟩=>?_
 simp only [R] at hy
 subst hy
 exact ⟨_,he,post_law (P:=Try.prog) Try.laidOut (by kernel_rfl) (by kernel_rfl) Try.underlying4 rfl rfl hW' hb⟩
theorem shareAnyOrder_holds:Rows.ShareAnyOrderSaid :=
 OpenClaim.holds_of_wide 6 Try.f6 rfl rfl rfl rfl rfl rfl rfl ⟨rfl,rfl,rfl,rfl,rfl⟩ rfl rfl rfl rfl rfl (by kernel_rfl) Try.func6 (by kernel_rfl)
  (of_decide_eq_true (by kernel_rfl)) (by unfold Func.isWrapper;first | (rw [if_pos (by decide +kernel)];kernel_rfl) | (rw [if_neg (by decide +kernel)];exact ⟨rfl,rfl⟩))
  (fun os started H enc _=>shareAnyOrder_lifted os started H enc)
end Go.Proofs.Ythilckbkffjliaa
