/- A walk through the code of the given statement, and what it says. -/
import Derived.Test.YthilckbkffjliaaCI
import Derived.Test.YthilckbkffjliaaRows
set_option linter.all false
open Nat renaming reduceAdd→rA,reduceMul→rM,reduceSub→rS,beq_refl→nbr
set_option maxRecDepth 100000
namespace Go.Proofs.Ythilckbkffjliaa
open Go Go.Sx
def c9:SC:=(.seq (.reg [
 o1 2 (.box (.t 0) 0 24),
 o1 4 (.mv (.c (.bool false)))])
 (.seq (.reg [
 o1 25 (.call 34 []),
 m1 5 25])
 (.seq (.seq (.reg [
 o1 26 (.ld (.t 2) 4 true),
 o1 27 (.call 16 [.t 26,.c (.slice none 0 0)]),
 m1 28 27,
 ⟨some 29,.ld (.t 2) 4 true,some (28,false),[]⟩,
 ⟨some 30,.call 21 [.t 29],some (28,false),[]⟩,
 ⟨some 31,.bin .neq (.t 30) (.c (.int .i64 0)),some (28,false),[]⟩,
 o1 32 (.pick (.t 28) (.c (.bool true)) (.t 31)),
 m1 33 32,
 ⟨some 34,.mv (.t 1),some (33,false),[]⟩,
 ⟨some 35,.bin .lss (.t 34) (.c (.int .i64 (-10000000000))),some (33,false),[]⟩,
 o1 36 (.pick (.t 33) (.c (.bool true)) (.t 35)),
 m1 37 36,
 ⟨some 38,.mv (.t 1),some (37,false),[]⟩,
 ⟨some 39,.bin .gtr (.t 38) (.c (.int .i64 10000000000)),some (37,false),[]⟩,
 o1 40 (.pick (.t 37) (.c (.bool true)) (.t 39)),
 m1 41 40,
 ⟨some 42,.mv (.t 5),some (41,false),[]⟩,
 ⟨some 43,.un .not (.t 42),some (41,false),[]⟩,
 o1 44 (.pick (.t 41) (.c (.bool true)) (.t 43))])
 (.cond (.t 44)
 (.seq (.reg [
  m1 45 5,
  m1 4 45])
  .ret)
 .skip))
 (.seq (.reg [
 o1 47 (.ld (.t 2) 4 true),
 m1 48 1,
 o1 49 (.call 18 [.t 47,.t 48]),
 m1 46 49,
 o1 50 (.ext (.t 46) 0),
 o1 51 (.ext (.t 46) 1),
 m1 6 50,
 m1 7 51])
 (.seq (.seq (.reg [
 m1 52 7,
 o1 53 (.bin .neq (.t 52) (.c (.int .i64 0))),
 m1 54 53,
 ⟨some 55,.mv (.t 6),some (54,false),[]⟩,
 ⟨some 56,.len (.t 55),some (54,false),[]⟩,
 ⟨some 57,.addo (.t 2) 0,some (54,false),[]⟩,
 ⟨some 58,.ld (.t 57) 1 false,some (54,false),[]⟩,
 ⟨some 59,.len (.t 58),some (54,false),[]⟩,
 ⟨some 60,.bin .neq (.t 56) (.t 59),some (54,false),[]⟩,
 o1 61 (.pick (.t 54) (.c (.bool true)) (.t 60))])
 (.cond (.t 61)
 (.seq (.reg [
  o1 4 (.mv (.c (.bool false)))])
  .ret)
 .skip))
 (.seq (.reg [
 o1 8 (.mv (.c (.int .i64 0)))])
 (.seq (.seq (.reg [
 o1 62 (.addo (.t 2) 0),
 o1 63 (.ld (.t 62) 1 false),
 o1 64 (.len (.t 63)),
 o1 65 (.mv (.c (.int .i64 0)))])
 (.block 0 (.loop (.seq (.reg [
  o1 66 (.bin .lss (.t 65) (.t 64))])
  (.seq (.cond (.t 66)
  .skip
  (.exit 0))
  (.seq (.block 1 (.seq (.reg [
   o1 67 (.ixs (.t 63) (.t 65) 3),
   o1 68 (.ld (.t 67) 3 true),
   o1 10 (.alloc [.int .i64 0,.int .i64 0,.int .i64 0] 64),
   ⟨none,.st (.t 10) (.t 68) 3,none,[]⟩])
   (.reg [
   m1 69 8,
   o1 70 (.addo (.t 10) 1),
   o1 71 (.ld (.t 70) 1 false),
   o1 72 (.bin .add (.t 69) (.t 71)),
   m1 8 72])))
  (.reg [
  o1 73 (.bin .add (.t 65) (.c (.int .i64 1))),
  m1 65 73])))))))
 (.seq (.reg [
 o1 11 (.mv (.c (.int .i64 0)))])
 (.seq (.reg [
 o1 12 (.mv (.c (.slice none 0 0)))])
 (.seq (.seq (.reg [
 o1 74 (.addo (.t 2) 0),
 o1 75 (.ld (.t 74) 1 false),
 o1 76 (.len (.t 75)),
 o1 77 (.mv (.c (.int .i64 0)))])
 (.block 2 (.loop (.seq (.reg [
  o1 78 (.bin .lss (.t 77) (.t 76))])
  (.seq (.cond (.t 78)
  .skip
  (.exit 2))
  (.seq (.block 3 (.seq (.reg [
   m1 79 77,
   o1 80 (.ixs (.t 75) (.t 77) 3),
   o1 81 (.ld (.t 80) 3 true),
   o1 14 (.alloc [.int .i64 0,.int .i64 0,.int .i64 0] 64),
   m1 13 79,
   ⟨none,.st (.t 14) (.t 81) 3,none,[]⟩])
   (.seq (.reg [
   m1 82 11,
   m1 83 6,
   m1 84 13,
   o1 85 (.ixs (.t 83) (.t 84) 1),
   o1 86 (.ld (.t 85) 1 false),
   o1 87 (.bin .add (.t 82) (.t 86)),
   m1 11 87])
   (.seq (.regd [0,1,2,3,4,5,6,7,8,9,10] [
   .op (o1 88 (.addo (.t 14) 2)),
   .op ⟨some 89,.ld (.t 88) 1 false,none,[0]⟩,
   .op (m1 90 6),
   .op (m1 91 13),
   .op ⟨some 92,.ixs (.t 90) (.t 91) 1,none,[2,3]⟩,
   .op ⟨some 93,.ld (.t 92) 1 false,none,[4]⟩,
   .op (m1 94 1),
   .op ⟨some 15,.mv (.t 89),none,[0,1]⟩,
   .op ⟨some 16,.mv (.c (.int .i64 1000)),none,[0,1,7]⟩,
   .op ⟨some 17,.mv (.t 93),none,[0,1,2,3,4,5,7,8]⟩,
   .op ⟨some 18,.mv (.t 94),none,[0,1,2,3,4,5,6,7,8,9]⟩] 0 0 [
])
 (.seq (.seq (.reg [
 m1 95 1,
 o1 96 (.bin .lss (.t 95) (.c (.int .i64 0)))])
 (.cond (.t 96)
 (.regd [0,1,2,3,4,5,6,7,8,9,10,11,12,13] [
  .op (o1 97 (.addo (.t 14) 1)),
  .op ⟨some 98,.ld (.t 97) 1 false,none,[0]⟩,
  .op (m1 99 8),
  .op (m1 100 6),
  .op (m1 101 13),
  .op ⟨some 102,.ixs (.t 100) (.t 101) 1,none,[3,4]⟩,
  .op ⟨some 103,.ld (.t 102) 1 false,none,[5]⟩,
  .op ⟨some 104,.un .neg (.t 103),none,[6]⟩,
  .op (m1 105 1),
  .op ⟨some 106,.un .neg (.t 105),none,[8]⟩,
  .op ⟨some 15,.mv (.t 98),none,[0,1]⟩,
  .op ⟨some 16,.mv (.t 99),none,[0,1,2,10]⟩,
  .op ⟨some 17,.mv (.t 104),none,[0,1,2,3,4,5,6,7,10,11]⟩,
  .op ⟨some 18,.mv (.t 106),none,[0,1,2,3,4,5,6,7,8,9,10,11,12]⟩] 0 0 [
])
 .skip))
 (.seq (.reg [
 m1 107 18,
 m1 108 15,
 o1 109 (.bin .mul (.t 107) (.t 108)),
 m1 110 16,
 o1 111 (.div .quo (.t 109) (.t 110)),
 m1 19 111])
 (.seq (.seq (.reg [
 m1 112 17,
 m1 113 19,
 o1 114 (.bin .lss (.t 112) (.t 113)),
 m1 115 114,
 ⟨some 116,.mv (.t 17),some (115,false),[]⟩,
 ⟨some 117,.mv (.t 19),some (115,false),[]⟩,
 ⟨some 118,.bin .add (.t 117) (.c (.int .i64 1)),some (115,false),[]⟩,
 ⟨some 119,.bin .gtr (.t 116) (.t 118),some (115,false),[]⟩,
 o1 120 (.pick (.t 115) (.c (.bool true)) (.t 119)),
 m1 121 120,
 ⟨some 122,.mv (.t 15),some (121,false),[]⟩,
 ⟨some 123,.bin .eql (.t 122) (.c (.int .i64 0)),some (121,false),[]⟩,
 ⟨some 124,.mv (.t 123),some (121,false),[]⟩,
 ⟨some 125,.mv (.t 17),some (124,true),[]⟩,
 ⟨some 126,.bin .neq (.t 125) (.c (.int .i64 0)),some (124,true),[]⟩,
 ⟨some 127,.pick (.t 124) (.t 126) (.c (.bool false)),some (121,false),[]⟩,
 o1 128 (.pick (.t 121) (.c (.bool true)) (.t 127)),
 m1 129 128,
 ⟨some 130,.mv (.t 17),some (129,false),[]⟩,
 ⟨some 131,.mv (.t 19),some (129,false),[]⟩,
 ⟨some 132,.bin .add (.t 131) (.c (.int .i64 1)),some (129,false),[]⟩,
 ⟨some 133,.bin .eql (.t 130) (.t 132),some (129,false),[]⟩,
 ⟨some 134,.mv (.t 133),some (129,false),[]⟩,
 ⟨some 135,.mv (.t 18),some (134,true),[]⟩,
 ⟨some 136,.mv (.t 15),some (134,true),[]⟩,
 ⟨some 137,.bin .mul (.t 135) (.t 136),some (134,true),[]⟩,
 ⟨some 138,.mv (.t 16),some (134,true),[]⟩,
 ⟨some 139,.div .rem (.t 137) (.t 138),some (134,true),[]⟩,
 ⟨some 140,.bin .eql (.t 139) (.c (.int .i64 0)),some (134,true),[]⟩,
 ⟨some 141,.pick (.t 134) (.t 140) (.c (.bool false)),some (129,false),[]⟩,
 o1 142 (.pick (.t 129) (.c (.bool true)) (.t 141))])
 (.cond (.t 142)
 (.seq (.reg [
  o1 4 (.mv (.c (.bool false)))])
  .ret)
 .skip))
 (.seq (.reg [
 m1 143 18,
 m1 144 15,
 o1 145 (.bin .mul (.t 143) (.t 144)),
 m1 146 16,
 o1 147 (.div .rem (.t 145) (.t 146)),
 m1 20 147])
 (.seq (.seq (.reg [
 m1 148 17,
 m1 149 19,
 o1 150 (.bin .add (.t 149) (.c (.int .i64 1))),
 o1 151 (.bin .eql (.t 148) (.t 150))])
 (.cond (.t 151)
 (.reg [
  m1 152 20,
  o1 153 (.bin .sub (.c (.int .i64 (-1))) (.t 152)),
  m1 20 153])
 .skip))
 (.reg [
 m1 154 12,
 m1 155 20,
 o1 156 (.bsl 1 3 [.t 155]),
 o1 157 (.appm 1 8 3 (.t 154) (.t 156)),
 m1 12 157]))))))))))
 (.reg [
 o1 158 (.bin .add (.t 77) (.c (.int .i64 1))),
 m1 77 158])))))))
 (.seq (.seq (.reg [
 m1 159 12,
 o1 160 (.len (.t 159)),
 o1 161 (.mv (.c (.int .i64 0)))])
 (.block 4 (.loop (.seq (.reg [
  o1 162 (.bin .lss (.t 161) (.t 160))])
  (.seq (.cond (.t 162)
  .skip
  (.exit 4))
  (.seq (.block 5 (.seq (.reg [
   m1 163 161,
   o1 164 (.ixs (.t 159) (.t 161) 1),
   o1 165 (.ld (.t 164) 1 false),
   m1 21 163,
   m1 22 165])
   (.seq (.reg [
   m1 166 12,
   o1 167 (.len (.t 166)),
   o1 168 (.mv (.c (.int .i64 0)))])
   (.block 6 (.loop (.seq (.reg [
    o1 169 (.bin .lss (.t 168) (.t 167))])
    (.seq (.cond (.t 169)
    .skip
    (.exit 6))
    (.seq (.block 7 (.seq (.reg [
     m1 170 168,
     o1 171 (.ixs (.t 166) (.t 168) 1),
     o1 172 (.ld (.t 171) 1 false),
     m1 23 170,
     m1 24 172])
     (.seq (.reg [
     m1 173 22,
     o1 174 (.bin .lss (.t 173) (.c (.int .i64 0))),
     m1 175 174,
     ⟨some 176,.mv (.t 24),some (175,true),[]⟩,
     ⟨some 177,.bin .geq (.t 176) (.c (.int .i64 0)),some (175,true),[]⟩,
     o1 178 (.pick (.t 175) (.t 177) (.c (.bool false))),
     m1 179 178,
     ⟨some 180,.mv (.t 22),some (179,true),[]⟩,
     ⟨some 181,.bin .sub (.c (.int .i64 (-1))) (.t 180),some (179,true),[]⟩,
     ⟨some 182,.mv (.t 24),some (179,true),[]⟩,
     ⟨some 183,.bin .lss (.t 181) (.t 182),some (179,true),[]⟩,
     ⟨some 184,.mv (.t 183),some (179,true),[]⟩,
     ⟨some 185,.mv (.t 22),some (184,false),[]⟩,
     ⟨some 186,.bin .sub (.c (.int .i64 (-1))) (.t 185),some (184,false),[]⟩,
     ⟨some 187,.mv (.t 24),some (184,false),[]⟩,
     ⟨some 188,.bin .eql (.t 186) (.t 187),some (184,false),[]⟩,
     ⟨some 189,.mv (.t 188),some (184,false),[]⟩,
     ⟨some 190,.mv (.t 21),some (189,true),[]⟩,
     ⟨some 191,.mv (.t 23),some (189,true),[]⟩,
     ⟨some 192,.bin .gtr (.t 190) (.t 191),some (189,true),[]⟩,
     ⟨some 193,.pick (.t 189) (.t 192) (.c (.bool false)),some (184,false),[]⟩,
     ⟨some 194,.pick (.t 184) (.c (.bool true)) (.t 193),some (179,true),[]⟩,
     o1 195 (.pick (.t 179) (.t 194) (.c (.bool false)))])
     (.cond (.t 195)
     (.seq (.reg [
      o1 4 (.mv (.c (.bool false)))])
      .ret)
     .skip))))
    (.reg [
    o1 196 (.bin .add (.t 168) (.c (.int .i64 1))),
    m1 168 196])))))))))
  (.reg [
  o1 197 (.bin .add (.t 161) (.c (.int .i64 1))),
  m1 161 197])))))))
 (.seq (.reg [
 m1 198 5,
 m1 199 198,
 ⟨some 200,.mv (.t 11),some (199,true),[]⟩,
 ⟨some 201,.mv (.t 1),some (199,true),[]⟩,
 ⟨some 202,.bin .eql (.t 200) (.t 201),some (199,true),[]⟩,
 o1 203 (.pick (.t 199) (.t 202) (.c (.bool false))),
 m1 4 203])
 .ret))))))))))))
def r9:List RV:=[.tmp 4]
theorem n9:Try.f9.ntmps=204:=by kernel_rfl
theorem b9:bodyB Try.prog 9=true:=by kernel_rfl
theorem c9_ok:cmpC Try.prog c9 ((Try.f9.body).getD .skip)=true:=by kernel_rfl
theorem r9_ok:cmpR Try.prog r9 Try.f9.results.toList=true:=by kernel_rfl
theorem t9 {args:List SV} {res:SV} (ka:KFL args) (kr:KF res) (h:sx Try.prog Y0 0 c9 (st0 args 204) (retK r9 res)) (hA:Nat.ble args.length 204=true:=by rfl):Ct Try.prog 9 args res:=ct_intro Try.func9 rfl b9 c9_ok r9_ok n9 (Nat.le_of_ble_eq_true hA) ka kr h
end Go.Proofs.Ythilckbkffjliaa
set_option maxRecDepth 100000
set_option maxHeartbeats 4000000
namespace Go.Azalai
def eF (A:Int) (BY:List Int) (k:Nat):Int:=if (rankF (cutF A BY) BY.length k:Int) < leftF A BY then 1 else 0
def rF (A:Int) (BY:List Int) (k:Nat):Int:=if eF A BY k=1 then -1 - cutF A BY k else cutF A BY k
theorem eF_01 (A:Int) (BY:List Int) (k:Nat):eF A BY k=0∨eF A BY k=1:=by unfold eF;split<;>simp
theorem eF_cut {A:Int} {BY:List Int} (ha:0≤A) (hb:∀ x ∈ BY,0≤x) (hs:0 < sumL BY) {k:Nat} (hk:k < BY.length) (c0:cutF A BY k=0):eF A BY k=0:=by
 have:=no_cut ha hb hs hk c0
 unfold eF
 rw [if_neg (by omega)]
theorem divided_get {A:Int} {BY:List Int} {k:Nat} (hk:k < (dividedF A BY).length):(dividedF A BY)[k]=partF A BY k+eF A BY k:=by simp [dividedF,eF]
theorem fair_pair {A:Int} {BY:List Int} (ha:0≤A) (hb:∀ x ∈ BY,0≤x) (hs:0 < sumL BY) {i j:Nat} (hi:i < BY.length) (hj:j < BY.length) :
 ¬(rF A BY i < 0∧rF A BY j ≥ 0∧(-1 - rF A BY i < rF A BY j∨(-1 - rF A BY i=rF A BY j∧(i:Int) > j))):=by
 rintro ⟨h1,h2,h3⟩
 have c1:=cut_bd ha hb hs i
 have c2:=cut_bd ha hb hs j
 have ei:eF A BY i=1:=by
  apply Classical.byContradiction;intro q
  rw [rF,if_neg q] at h1;omega
 have ej:¬ eF A BY j=1:=by
  intro q
  rw [rF,if_pos q] at h2;omega
 rw [rF,if_pos ei,rF,if_neg ej] at h3
 have r1:(rankF (cutF A BY) BY.length i:Int) < leftF A BY:=by
  unfold eF at ei;split at ei
  · assumption
  · cases ei
 have r2:¬(rankF (cutF A BY) BY.length j:Int) < leftF A BY:=by
  intro q;unfold eF at ej;rw [if_pos q] at ej;exact ej rfl
 have hne:i≠j:=fun e=>by subst e;exact r2 r1
 have hf:=rank_fst (c:=cutF A BY) (n:=BY.length) (i:=i) (k:=j) hj hne (by omega)
 simp only [fst',Bool.or_eq_true,Bool.and_eq_true,decide_eq_true_eq] at hf
 omega
theorem rF_bd {A:Int} {BY:List Int} (ha:0≤A) (hb:∀ x ∈ BY,0≤x) (hs:0 < sumL BY) (hs1:sumL BY≤1600000000) (k:Nat):-1600000001≤rF A BY k∧rF A BY k≤1600000000:=by
 have c1:=cut_bd ha hb hs k
 unfold rF
 split<;>omega
end Go.Azalai
namespace Go.Proofs.Ythilckbkffjliaa
open Go Go.Sx Go.Azalai
theorem fair_ok (p:Pact) (r:Int):Ct Try.prog 9 [.agg (pactL p),I r] (B true):=by
 refine t9 (by simp [pactL,partnerL,letterL,KFR_iff,KFL,KF]) (by simp [KFL,KF]) ?_
 dsimp only [c9,r9,pactL,go_sem,rA,rM,rS]
 refine call alive_ok ?_
 dsimp only [go_sem,rA,rM,rS]
 have hgr:=(great_ok p [] true).args (args0:=[.agg (pactL p),.v (.slice none 0 0)]) (by simp [pactL,partnerL,KFR_iff,KFL,KF]) (weak_cons Weak.rfl (weak_cons weak_nil rl_rfl))
 simp only [pactL] at hgr
 refine call hgr ?_
 dsimp only [go_sem,rA,rM,rS]
 by_cases hg:greatF p []=true
 · rw [hg]
   repeat (refine gb_skip (by decide) ?_;dsimp only [go_sem,rA,rM,rS])
   refine br_t rfl ?_
   dsimp only [go_sem,rA,rM,rS]
 rw [Bool.not_eq_true] at hg
 rw [hg]
 have hs:smallP p:=by
  simp only [greatF,Bool.or_eq_false_iff,decide_eq_false_iff_not] at hg
  show p.partners.length≤1000;omega
 have hrc:=rcheck_ok p hs
 simp only [pactL] at hrc
 repeat (first | (refine gb ?_;dsimp only [go_sem,rA,rM,rS]) | (refine call hrc ?_;dsimp only [go_sem,rA,rM,rS]))
 by_cases hall:okPact p=true∧inR (-10000000000) 10000000000 r=true
 case neg =>
  refine br_t ?_ ?_
  · by_cases hp:okPact p=true
    · have hnr:¬ inR (-10000000000) 10000000000 r=true:=fun h=>hall ⟨hp,h⟩
      simp only [inR,decide_eq_true_eq] at hnr
      simp only [errP,hp,if_true,Bool.or_eq_true,decide_eq_true_eq]
      by_cases q:r < -10000000000
      · simp [q]
      · have:r > 10000000000:=by omega
        simp [this]
    · simp [errP,hp]
  dsimp only [go_sem,rA,rM,rS]
 obtain ⟨hp,hrr⟩:=hall
 have hb:=hrr
 simp only [inR,decide_eq_true_eq] at hb
 refine br_f ?_ ?_
 · have q1:¬ r < -10000000000:=by omega
   have q2:¬ r > 10000000000:=by omega
   simp [errP,hp,q1];omega
 dsimp only [go_sem,rA,rM,rS]
 have hd:=Divide_ok p r hs
 simp only [hp,hrr,and_self,if_true,pactL] at hd
 refine call hd ?_
 dsimp only [go_sem,rA,rM,rS]
 repeat (refine gb ?_;dsimp only [go_sem,rA,rM,rS])
 simp only [List.length_map]
 have hPl:=divideF_len (p:=p) (r:=r)
 have hdsum:=divide_sum hp r
 have hAll:=okPact_all hp
 have h8:=hAll.2.2.2.2.2.2
 have hPb:∀ x ∈ divideF p r,-10000000001≤x∧x≤10000000001:=fun x hx=>by
  obtain ⟨i,hi,rfl⟩:=List.getElem_of_mem hx
  have:=divF_bd hp r i hi
  split at this<;>omega
 have hP4:okPartners (-1) p.partners=true:=by
  simp only [okPact,Bool.and_eq_true] at hp;exact hp.1.1.2
 have hP5:=(okPartners_ids hP4).2.2
 refine br_f (by simp [hPl]) ?_
 dsimp only [go_sem,rA,rM,rS]
 simp only [List.length_map]
 refine loopO (fun s:Nat=>[(65,I (s:Nat)),(8,I (sumL ((p.partners.take s).map (·.put))))]) (fun _=>[]) (fun s=>s≤p.partners.length) (fun s=>p.partners.length - s) 0 (Nat.zero_le _) ?_ ?_
 · (refine ent_id ?_ ?_ ?_ rfl rfl<;>dsimp only [pactL,partnerL,letterL,u8L,intL,sumL,id,go_sem,rA,rM,rS]<;>simp [pactL,partnerL,letterL,u8L,intL,sumL,KFR_iff,KFR_app,KFR,KFL,KF,mtL_same,mtO,nbr])
 intro k hk'
 dsimp only [go_sem,rA,rM,rS]
 by_cases hlt:k < p.partners.length
 · refine br_t (by simpa using hlt) ?_
   dsimp only [go_sem,rA,rM,rS]
   refine ixs_map k hlt rfl ?_
   dsimp only [partnerL,go_sem,rA,rM,rS]
   have hs1:=sumL_take (f:=fun x:Partner=>x.put) hlt
   have hb1:=sumL_sub0 hAll.2.2.1 (k+1)
   rw [← List.map_take] at hb1
   have hb2:=sumL_le (l:=p.partners.map (·.put)) (b:=100000000) fun x hx=>by
    obtain ⟨y,hy,rfl⟩:=List.mem_map.1 hx
    have:=hP5 y hy;omega
   simp only [List.length_map] at hb2
   rw [w64_in (n:=_+p.partners[k].put) (by omega) (by omega),w64_in (n:=(k:Int)+1) (by omega) (by omega),← hs1]
   refine ⟨k+1,hlt,by omega,?_⟩
   (refine ent_id ?_ ?_ ?_ rfl rfl<;>dsimp only [pactL,partnerL,letterL,u8L,intL,id,go_sem,rA,rM,rS]<;>simp [pactL,partnerL,letterL,u8L,intL,KFR_iff,KFR_app,KFR,KFL,KF,mtL_same,mtO,nbr])
 refine br_f (by simpa using hlt) ?_
 dsimp only [go_sem,rA,rM,rS]
 have hke:k=p.partners.length:=by omega
 subst hke
 rw [List.take_length]
 have hPU:0≤sumL (p.partners.map (·.put))∧sumL (p.partners.map (·.put))≤800000000:=by
  have hb1:=sumL_sub0 hAll.2.2.1 0
  have hb2:=sumL_le (l:=p.partners.map (·.put)) (b:=100000000) fun x hx=>by
   obtain ⟨y,hy,rfl⟩:=List.mem_map.1 hx
   have:=hP5 y hy;omega
  simp only [List.length_map] at hb2
  omega
 simp only [List.length_map]
 obtain ⟨A,BY,hA0,hA1,hBl,hBb,hS,hS1,hpos,hneg⟩:∃ (A:Int) (BY:List Int),0≤A∧A≤10000000000∧BY.length=p.partners.length∧(∀ x ∈ BY,0≤x∧x≤100000000)∧0 < sumL BY∧sumL BY≤1600000000 ∧
  (0≤r→A=r∧BY=p.partners.map (·.share)∧divideF p r=dividedF A BY)∧(r < 0→A = -r∧BY=p.partners.map (·.put)∧divideF p r=(dividedF A BY).map fun n=>-n):=by
  by_cases hr0:0≤r
  · refine ⟨r,p.partners.map (·.share),hr0,hb.2,by simp,fun x hx=>?_,by omega,by omega,fun _=>⟨rfl,rfl,by rw [divideF,if_pos hr0]⟩,fun h=>by omega⟩
    obtain ⟨y,hy,rfl⟩:=List.mem_map.1 hx
    have:=hP5 y hy;omega
  · refine ⟨-r,p.partners.map (·.put),by omega,by omega,by simp,fun x hx=>?_,by omega,by omega,fun h=>absurd h hr0,fun _=>⟨rfl,rfl,by rw [divideF,if_neg hr0]⟩⟩
    obtain ⟨y,hy,rfl⟩:=List.mem_map.1 hx
    have:=hP5 y hy;omega
 have hB0:∀ x ∈ BY,0≤x:=fun x hx=>(hBb x hx).1
 generalize hPP:divideF p r=P at *
 refine loopG (ent_nilslot 12 1 3 rfl rfl) (fun s:Nat=>[(77,I (s:Nat)),(11,I (sumL (P.take s))),(12,.mr 1 s)]) (fun s=>[(1,.row s 1 (((List.range s).map (rF A BY)).map intL) 3)]) (fun s=>s≤p.partners.length) (fun s=>p.partners.length - s) 0 (Nat.zero_le _) ?_ ?_
 · (refine ent_id ?_ ?_ ?_ rfl rfl<;>dsimp only [pactL,partnerL,letterL,u8L,intL,sumL,id,go_sem,rA,rM,rS]<;>simp [pactL,partnerL,letterL,u8L,intL,sumL,KFR_iff,KFR_app,KFR,KFL,KF,mtL_same,mtO,nbr])
 intro k hk'
 dsimp only [go_sem,rA,rM,rS]
 by_cases hlt:k < p.partners.length
 · refine br_t (by simpa using hlt) ?_
   dsimp only [go_sem,rA,rM,rS]
   refine ixs_map k hlt rfl ?_
   dsimp only [partnerL,go_sem,rA,rM,rS]
   have hltP:k < P.length:=by omega
   have hkB:k < BY.length:=by omega
   refine ixs_map k hltP rfl ?_
   dsimp only [intL,go_sem,rA,rM,rS]
   have t1:=sumL_taken hltP
   have b1:=hPb _ (List.getElem_mem hltP)
   have b3:=sumL_abs (b:=10000000001) (l:=P.take k) fun y hy=>by have:=hPb y (List.mem_of_mem_take hy);omega
   have b5:(P.take k).length≤8:=by simp;omega
   rw [w64_in (n:=sumL (P.take k)+P[k]) (by omega) (by omega)]
   have hsum1:sumL (P.take k)+P[k]=sumL (P.take (k+1)):=t1.symm
   refine ixs_map k hltP rfl ?_
   dsimp only [intL,go_sem,rA,rM,rS]
   have hbk:=hBb _ (List.getElem_mem hkB)
   have hbyF:byF BY k=BY[k]:=byF_get hkB
   have hmul:0≤A * byF BY k∧A * byF BY k≤1000000000000000000:=by
    rw [hbyF]
    have m1:A * BY[k]≤10000000000 * BY[k]:=Int.mul_le_mul_of_nonneg_right hA1 hbk.1
    have m2:=Int.mul_nonneg hA0 hbk.1
    omega
   have hcb:=cut_bd hA0 hB0 hS k
   have hpb:0≤partF A BY k∧partF A BY k≤1000000000000000000:=by
    unfold partF
    refine ⟨Int.tdiv_nonneg hmul.1 (by omega),?_⟩
    rw [Int.tdiv_eq_ediv_of_nonneg hmul.1]
    have:=Int.ediv_le_self (sumL BY) hmul.1
    omega
   have he:=eF_01 A BY k
   by_cases hr0:0≤r
   · obtain ⟨hA',hBY,hD⟩:=hpos hr0
     have hav:r=A:=hA'.symm
     have hbv:p.partners[k].share=byF BY k:=by rw [hbyF];simp [hBY]
     have hwv:(1000:Int)=sumL BY:=by rw [hBY];exact hAll.2.2.2.2.1.symm
     have hnv:P[k]=partF A BY k+eF A BY k:=by simp only [hD];exact divided_get _
     refine br_f (by simpa using hr0) ?_
     dsimp only [go_sem,rA,rM,rS]
     have hq1:(r * p.partners[k].share).tdiv (1000:Int)=partF A BY k:=by rw [hav,hbv,hwv];rfl
     have hq2:(r * p.partners[k].share).tmod (1000:Int)=cutF A BY k:=by rw [hav,hbv,hwv];rfl
     have hmm:0≤r * p.partners[k].share∧r * p.partners[k].share≤1000000000000000000:=by rw [hav,hbv];exact hmul
     have hw0:(1000:Int)≠0:=by omega
     have hz1:p.partners[k].share≠0∨(partF A BY k=0∧eF A BY k=0):=by
      by_cases q:p.partners[k].share=0
      · right
        rw [hbv] at q
        have p0:partF A BY k=0:=by simp [partF,q]
        have c0:cutF A BY k=0:=by simp [cutF,q]
        exact ⟨p0,eF_cut hA0 hB0 hS hkB c0⟩
      · exact .inl q
     have hz2:cutF A BY k≠0∨eF A BY k=0:=by
      by_cases c0:cutF A BY k=0
      · exact .inr (eF_cut hA0 hB0 hS hkB c0)
      · exact .inl c0
     rw [w64_in (n:=r * p.partners[k].share) (by omega) (by omega)]
     refine div0 hw0 ?_
     dsimp only [divr,go_sem,rA,rM,rS]
     rw [hq1,w64_in (n:=partF A BY k) (by omega) (by omega)]
     repeat (first | (refine gb ?_;dsimp only [go_sem,rA,rM,rS]) | (refine div0 hw0 ?_;dsimp only [divr,go_sem,rA,rM,rS]))
     rw [w64_in (n:=partF A BY k+1) (by omega) (by omega),w64_in (n:=r * p.partners[k].share) (by omega) (by omega),hq2]
     refine br_f ?_ ?_
     · rw [← Bool.not_eq_true]
       intro hh
       simp only [Bool.or_eq_true,Bool.and_eq_true,decide_eq_true_eq,beq_iff_eq,bne_iff_ne] at hh
       omega
     dsimp only [go_sem,rA,rM,rS]
     rw [w64_in (n:=r * p.partners[k].share) (by omega) (by omega)]
     refine div0 hw0 ?_
     dsimp only [divr,go_sem,rA,rM,rS]
     rw [hq2,w64_in (n:=partF A BY k+1) (by omega) (by omega)]
     by_cases he1:eF A BY k=1
     · refine br_t (by simp;omega) ?_
       (repeat first | dsimp only [go_sem,rA,rM,rS] | simp only [nbr])
       rw [w64_in (n:=-1 - cutF A BY k) (by omega) (by omega)]
       refine ⟨by simp [allOne,oneS,oneV],by simp;omega,?_⟩
       (repeat first | dsimp only [go_sem,rA,rM,rS] | simp only [nbr])
       have e1:((List.range k).map (rF A BY)).map intL ++ [[I (-1 - cutF A BY k)]]=((List.range (k+1)).map (rF A BY)).map intL:=by simp [List.range_succ,intL,rF,he1]
       rw [e1,w64_in (n:=(k:Int)+1) (by omega) (by omega),hsum1]
       refine ⟨k+1,hlt,by omega,?_⟩
       (refine ent_id ?_ ?_ ?_ rfl rfl<;>dsimp only [pactL,partnerL,intL,id,go_sem,rA,rM,rS]<;>simp [pactL,partnerL,intL,KFR_iff,KFR_app,KFR,KFL,KF,mtL_same,mtO,nbr])
     · refine br_f (by simp;omega) ?_
       (repeat first | dsimp only [go_sem,rA,rM,rS] | simp only [nbr])
       refine ⟨by simp [allOne,oneS,oneV],by simp;omega,?_⟩
       (repeat first | dsimp only [go_sem,rA,rM,rS] | simp only [nbr])
       have e1:((List.range k).map (rF A BY)).map intL ++ [[I (cutF A BY k)]]=((List.range (k+1)).map (rF A BY)).map intL:=by simp [List.range_succ,intL,rF,he1]
       rw [e1,w64_in (n:=(k:Int)+1) (by omega) (by omega),hsum1]
       refine ⟨k+1,hlt,by omega,?_⟩
       (refine ent_id ?_ ?_ ?_ rfl rfl<;>dsimp only [pactL,partnerL,intL,id,go_sem,rA,rM,rS]<;>simp [pactL,partnerL,intL,KFR_iff,KFR_app,KFR,KFL,KF,mtL_same,mtO,nbr])
   · obtain ⟨hA',hBY,hD⟩:=hneg (by omega)
     have hav:0 - r=A:=by omega
     have hbv:p.partners[k].put=byF BY k:=by rw [hbyF];simp [hBY]
     have hwv:sumL (p.partners.map (·.put))=sumL BY:=by rw [hBY]
     have hnv:0 - P[k]=partF A BY k+eF A BY k:=by
      have:=divided_get (A:=A) (BY:=BY) (k:=k) (by simp [dividedF];omega)
      simp only [hD,List.getElem_map];omega
     refine br_t (by simp;omega) ?_
     dsimp only [go_sem,rA,rM,rS]
     refine ixs_map k hltP rfl ?_
     dsimp only [intL,go_sem,rA,rM,rS]
     rw [w64_in (n:=0 - P[k]) (by omega) (by omega),w64_in (n:=0 - r) (by omega) (by omega)]
     have hq1:((0 - r) * p.partners[k].put).tdiv (sumL (p.partners.map (·.put)))=partF A BY k:=by rw [hav,hbv,hwv];rfl
     have hq2:((0 - r) * p.partners[k].put).tmod (sumL (p.partners.map (·.put)))=cutF A BY k:=by rw [hav,hbv,hwv];rfl
     have hmm:0≤(0 - r) * p.partners[k].put∧(0 - r) * p.partners[k].put≤1000000000000000000:=by rw [hav,hbv];exact hmul
     have hw0:(sumL (p.partners.map (·.put)))≠0:=by omega
     have hz1:p.partners[k].put≠0∨(partF A BY k=0∧eF A BY k=0):=by
      by_cases q:p.partners[k].put=0
      · right
        rw [hbv] at q
        have p0:partF A BY k=0:=by simp [partF,q]
        have c0:cutF A BY k=0:=by simp [cutF,q]
        exact ⟨p0,eF_cut hA0 hB0 hS hkB c0⟩
      · exact .inl q
     have hz2:cutF A BY k≠0∨eF A BY k=0:=by
      by_cases c0:cutF A BY k=0
      · exact .inr (eF_cut hA0 hB0 hS hkB c0)
      · exact .inl c0
     rw [w64_in (n:=(0 - r) * p.partners[k].put) (by omega) (by omega)]
     refine div0 hw0 ?_
     dsimp only [divr,go_sem,rA,rM,rS]
     rw [hq1,w64_in (n:=partF A BY k) (by omega) (by omega)]
     repeat (first | (refine gb ?_;dsimp only [go_sem,rA,rM,rS]) | (refine div0 hw0 ?_;dsimp only [divr,go_sem,rA,rM,rS]))
     rw [w64_in (n:=partF A BY k+1) (by omega) (by omega),w64_in (n:=(0 - r) * p.partners[k].put) (by omega) (by omega),hq2]
     refine br_f ?_ ?_
     · rw [← Bool.not_eq_true]
       intro hh
       simp only [Bool.or_eq_true,Bool.and_eq_true,decide_eq_true_eq,beq_iff_eq,bne_iff_ne] at hh
       omega
     dsimp only [go_sem,rA,rM,rS]
     rw [w64_in (n:=(0 - r) * p.partners[k].put) (by omega) (by omega)]
     refine div0 hw0 ?_
     dsimp only [divr,go_sem,rA,rM,rS]
     rw [hq2,w64_in (n:=partF A BY k+1) (by omega) (by omega)]
     by_cases he1:eF A BY k=1
     · refine br_t (by simp;omega) ?_
       (repeat first | dsimp only [go_sem,rA,rM,rS] | simp only [nbr])
       rw [w64_in (n:=-1 - cutF A BY k) (by omega) (by omega)]
       refine ⟨by simp [allOne,oneS,oneV],by simp;omega,?_⟩
       (repeat first | dsimp only [go_sem,rA,rM,rS] | simp only [nbr])
       have e1:((List.range k).map (rF A BY)).map intL ++ [[I (-1 - cutF A BY k)]]=((List.range (k+1)).map (rF A BY)).map intL:=by simp [List.range_succ,intL,rF,he1]
       rw [e1,w64_in (n:=(k:Int)+1) (by omega) (by omega),hsum1]
       refine ⟨k+1,hlt,by omega,?_⟩
       (refine ent_id ?_ ?_ ?_ rfl rfl<;>dsimp only [pactL,partnerL,intL,id,go_sem,rA,rM,rS]<;>simp [pactL,partnerL,intL,KFR_iff,KFR_app,KFR,KFL,KF,mtL_same,mtO,nbr])
     · refine br_f (by simp;omega) ?_
       (repeat first | dsimp only [go_sem,rA,rM,rS] | simp only [nbr])
       refine ⟨by simp [allOne,oneS,oneV],by simp;omega,?_⟩
       (repeat first | dsimp only [go_sem,rA,rM,rS] | simp only [nbr])
       have e1:((List.range k).map (rF A BY)).map intL ++ [[I (cutF A BY k)]]=((List.range (k+1)).map (rF A BY)).map intL:=by simp [List.range_succ,intL,rF,he1]
       rw [e1,w64_in (n:=(k:Int)+1) (by omega) (by omega),hsum1]
       refine ⟨k+1,hlt,by omega,?_⟩
       (refine ent_id ?_ ?_ ?_ rfl rfl<;>dsimp only [pactL,partnerL,intL,id,go_sem,rA,rM,rS]<;>simp [pactL,partnerL,intL,KFR_iff,KFR_app,KFR,KFL,KF,mtL_same,mtO,nbr])
 refine br_f (by simpa using hlt) ?_
 (repeat first | dsimp only [go_sem,rA,rM,rS] | simp only [nbr])
 have hke:k=p.partners.length:=by omega
 subst hke
 simp only [List.length_map,List.length_range]
 refine loopO (fun s:Nat=>[(161,I (s:Nat))]) (fun _=>[]) (fun s=>s≤p.partners.length) (fun s=>p.partners.length - s) 0 (Nat.zero_le _) ?_ ?_
 · (refine ent_id ?_ ?_ ?_ rfl rfl<;>dsimp only [pactL,partnerL,letterL,u8L,intL,id,go_sem,rA,rM,rS]<;>simp [pactL,partnerL,letterL,u8L,intL,KFR_iff,KFR_app,KFR,KFL,KF,mtL_same,mtO,nbr])
 intro i hi
 dsimp only [go_sem,rA,rM,rS]
 by_cases hlti:i < p.partners.length
 · refine br_t (by simpa using hlti) ?_
   (repeat first | dsimp only [go_sem,rA,rM,rS] | simp only [nbr])
   refine ixrm i rfl (by simpa using hlti) ?_
   (repeat first | dsimp only [go_sem,rA,rM,rS] | simp only [nbr])
   refine ldrm (by simpa using hlti) ?_
   (repeat first | dsimp only [intL,go_sem,rA,rM,rS] | simp only [nbr])
   simp only [List.length_map,List.length_range,List.getElem_map,List.getElem_range]
   refine loopO (fun s:Nat=>[(168,I (s:Nat))]) (fun _=>[]) (fun s=>s≤p.partners.length) (fun s=>p.partners.length - s) 0 (Nat.zero_le _) ?_ ?_
   · (refine ent_id ?_ ?_ ?_ rfl rfl<;>dsimp only [pactL,partnerL,letterL,u8L,intL,id,go_sem,rA,rM,rS]<;>simp [pactL,partnerL,letterL,u8L,intL,KFR_iff,KFR_app,KFR,KFL,KF,mtL_same,mtO,nbr])
   intro j hj
   dsimp only [go_sem,rA,rM,rS]
   by_cases hltj:j < p.partners.length
   · refine br_t (by simpa using hltj) ?_
     (repeat first | dsimp only [go_sem,rA,rM,rS] | simp only [nbr])
     refine ixrm j rfl (by simpa using hltj) ?_
     (repeat first | dsimp only [go_sem,rA,rM,rS] | simp only [nbr])
     refine ldrm (by simpa using hltj) ?_
     (repeat first | dsimp only [intL,go_sem,rA,rM,rS] | simp only [nbr])
     simp only [List.getElem_map,List.getElem_range]
     have hfp:=fair_pair hA0 hB0 hS (i:=i) (j:=j) (by omega) (by omega)
     have rb:=rF_bd hA0 hB0 hS hS1 i
     generalize rF A BY i=ri at *
     generalize rF A BY j=rj at *
     repeat (refine gb ?_;dsimp only [go_sem,rA,rM,rS])
     rw [w64_in (n:=-1 - ri) (by omega) (by omega)]
     refine br_f ?_ ?_
     · rw [← Bool.not_eq_true]
       intro hh
       simp only [Bool.or_eq_true,Bool.and_eq_true,decide_eq_true_eq,beq_iff_eq] at hh
       apply hfp
       omega
     dsimp only [go_sem,rA,rM,rS]
     rw [w64_in (n:=(j:Int)+1) (by omega) (by omega)]
     refine ⟨j+1,hltj,by omega,?_⟩
     (refine ent_id ?_ ?_ ?_ rfl rfl<;>dsimp only [pactL,partnerL,letterL,u8L,intL,id,go_sem,rA,rM,rS]<;>simp [pactL,partnerL,letterL,u8L,intL,KFR_iff,KFR_app,KFR,KFL,KF,mtL_same,mtO,nbr])
   refine br_f (by simpa using hltj) ?_
   dsimp only [go_sem,rA,rM,rS]
   rw [w64_in (n:=(i:Int)+1) (by omega) (by omega)]
   refine ⟨i+1,hlti,by omega,?_⟩
   (refine ent_id ?_ ?_ ?_ rfl rfl<;>dsimp only [pactL,partnerL,letterL,u8L,intL,id,go_sem,rA,rM,rS]<;>simp [pactL,partnerL,letterL,u8L,intL,KFR_iff,KFR_app,KFR,KFL,KF,mtL_same,mtO,nbr])
 refine br_f (by simpa using hlti) ?_
 dsimp only [go_sem,rA,rM,rS]
 rw [show P.take p.partners.length=P from by rw [← hPl,List.take_length],hdsum]
 repeat (refine gb ?_;dsimp only [go_sem,rA,rM,rS])
 simp
end Go.Proofs.Ythilckbkffjliaa
set_option maxRecDepth 100000
set_option maxHeartbeats 4000000
namespace Go.Proofs.Ythilckbkffjliaa
open Go Go.Sx Go.Azalai Go.ChangeShapes Go.WideShapes Go.RowKit
theorem lift_map {α : Type} {rep:α→List SV} {q:List SV→Prop} (hq:∀ r,q r→∃ a,r=rep a):∀ {xs:List (List SV)},(∀ r ∈ xs,q r)→∃ l:List α,xs=l.map rep
 | [],_=>⟨[],rfl⟩
 | x :: xs,h=>by
  obtain ⟨a,rfl⟩:=hq x (h x (by simp))
  obtain ⟨l,rfl⟩:=lift_map (xs:=xs) hq (fun r hr=>h r (by simp [hr]))
  exact ⟨a :: l,rfl⟩
theorem shp3 {f:Nat} {l:List SV} (h:Shp Try.prog (f+1) 3 l):∃ n:Int,l=[.v (.int .i64 n)]∧(Lit.int .i64 n).wf=true:=by
 rw [Shp,Try.underlying3] at h
 exact h
theorem shp64 {f:Nat} {l:List SV} (h:Shp Try.prog (f+2) 64 l):∃ w:Partner,l=partnerL w:=by
 rw [Shp,Try.underlying64] at h
 simp only [ShpF] at h
 obtain ⟨_,_,rfl,_,h0,_,_,rfl,_,h1,_,_,rfl,_,h2,rfl⟩:=h
 obtain ⟨a0,rfl,_⟩:=shp3 (f:=f+0) h0
 obtain ⟨a1,rfl,_⟩:=shp3 (f:=f+0) h1
 obtain ⟨a2,rfl,_⟩:=shp3 (f:=f+0) h2
 exact ⟨⟨a0,a1,a2⟩,rfl⟩
theorem cells64:Try.prog.cellsOf 64=3:=by kernel_rfl
theorem shp22 {f:Nat} {l:List SV} (h:Shp Try.prog (f+3) 22 l):∃ ds:List Partner,l=[.sl false 3 (ds.map partnerL)]∧ds.length≤9223372036854775807:=by
 rw [Shp,Try.underlying22] at h
 obtain ⟨xs,rfl,hl,hx⟩:=h
 obtain ⟨ws,rfl⟩:=lift_map (rep:=partnerL) (fun r h=>shp64 (f:=f) h.2) hx
 rw [cells64]
 exact ⟨ws,rfl,by simpa using hl⟩
theorem shp24 {f:Nat} {l:List SV} (h:Shp Try.prog (f+4) 24 l):∃ w:Pact,l=pactL w:=by
 rw [Shp,Try.underlying24] at h
 simp only [ShpF] at h
 obtain ⟨_,_,rfl,_,h0,_,_,rfl,_,h1,_,_,rfl,_,h2,_,_,rfl,_,h3,rfl⟩:=h
 obtain ⟨a0,rfl,_⟩:=shp22 (f:=f+0) h0
 obtain ⟨a1,rfl,_⟩:=shp3 (f:=f+2) h1
 obtain ⟨a2,rfl,_⟩:=shp3 (f:=f+2) h2
 obtain ⟨a3,rfl,_⟩:=shp3 (f:=f+2) h3
 exact ⟨⟨a0,a1,a2,a3⟩,rfl⟩
theorem Try.own:ownKnob Try.prog.godebug=none:=by kernel_rfl
theorem Try.laidOut:laidOutB Try.prog=true:=by kernel_rfl
theorem tyB24:tyB Try.prog 20 24=true:=by kernel_rfl
theorem tyB3:tyB Try.prog 20 3=true:=by kernel_rfl
theorem shareFair_lifted (os:Os) (started:os.Started) (H:Type) (enc:TypeId × Value→H) :
 ReturnsInHanded {} Try.checked os 9 .any (Rows.shareFairSpec.pre6 enc Try.prog Try.f9 Rows.shareFairRow.domain false) (Rows.shareFairSpec.post enc Try.prog Try.f9 false true false false):=by
 refine returnsInHanded_of_change (C:=Try.checked) Try.own started (by kernel_rfl) Try.func9
  (ChangeSpec.witness6 (enc:=enc) (C:=Try.checked) false ⟨#[],#[.agg #[.slice none 0 0,.int .i64 0,.int .i64 0,.int .i64 0],.int .i64 0],[]⟩ 8 (by kernel_rfl) (by kernel_rfl) (by kernel_rfl) (by kernel_rfl)) ?_
 intro W base args ds gs before hval0 hW hcnd _
 have hval:∀ (j:Nat) t v,Try.f9.params[j]? = some t→args[j]? = some v→Value.okWide Try.prog W .any base t v:=hval0
 have hW':=hW
 obtain ⟨p,q,hA0,hV,rfl,hfz,hnd⟩:=hW
 have hA:DataW.TrodAll enc Try.prog W 0 (fun _=>true) true Try.f9.params.toList args.toList ds p:=hA0
 rw [Try.params9] at hA hval
 obtain ⟨v0,vs0,d0,ds0,p0,q0,ea0,rfl,rfl,h0,hA⟩:=trodAll_cons hA
 obtain ⟨v1,vs1,d1,ds1,p1,q1,rfl,rfl,rfl,h1,hA⟩:=trodAll_cons hA
 obtain ⟨rfl,rfl,rfl⟩:=trodAll_nil hA
 obtain ⟨rfl,rfl⟩:=trodVars_none hV
 have hargs:args = #[v0,v1]:=Array.toList_inj.1 ea0
 subst hargs
 obtain ⟨l0,r0,s0⟩:=trod_arg tyB24 (hval 0 24 v0 rfl rfl) h0
 obtain ⟨l1,r1,s1⟩:=trod_arg tyB3 (hval 1 3 v1 rfl rfl) h1
 obtain ⟨x0,rfl⟩:=shp24 s0
 obtain ⟨x1,rfl,b1⟩:=shp3 s1
 simp only [argV,Try.underlying24,Try.underlying3,List.headD_cons] at r0 r1
 refine ((fair_ok x0 x1).run W Tr [v0,v1] (by simp only [RL];exact ⟨_,_,rfl,r0,_,_,rfl,r1,rfl⟩)).mono fun e W' ⟨y,he,hy,hb⟩=>?_
 simp only [R] at hy
 subst hy
 exact ⟨_,he,post_law (P:=Try.prog) Try.laidOut (by kernel_rfl) (by kernel_rfl) Try.underlying4 rfl rfl hW' hb⟩
theorem shareFair_holds:Rows.ShareFairSaid :=
 OpenClaim.holds_of_wide 9 Try.f9 rfl rfl rfl rfl rfl rfl rfl ⟨rfl,rfl,rfl,rfl,rfl⟩ rfl rfl rfl rfl rfl (by kernel_rfl) Try.func9 (by kernel_rfl)
  (of_decide_eq_true (by kernel_rfl)) (by unfold Func.isWrapper;first | (rw [if_pos (by decide +kernel)];kernel_rfl) | (rw [if_neg (by decide +kernel)];exact ⟨rfl,rfl⟩))
  (fun os started H enc _=>shareFair_lifted os started H enc)
end Go.Proofs.Ythilckbkffjliaa
