/- A walk through the code of the given statement, and what it says. -/
import Derived.Test.YthilckbkffjliaaCI
import Derived.Test.YthilckbkffjliaaRows
set_option linter.all false
open Nat renaming reduceAdd→rA,reduceMul→rM,reduceSub→rS,beq_refl→nbr
namespace Go.Sx
open Go Go.RowKit
theorem ixs_v {xs:List (List SV)} {i:Int} {σ : St} {r:KT} {L:RK} {d:Option Nat} {j:Nat} {w b:Bool} (n:Nat) (row:List SV) (hl:lk j σ.fr = .v (.bool b)) (h:b=w→i=(n:Int)∧xs[n]? = some row) (hk:putK d (.ps row 0) (some (j,w)) σ r L) :
 IXS (some (j,w)) xs i d σ r L:=⟨row,imp_v hl fun e=>⟨n,(h e).1,(h e).2⟩,hk⟩
end Go.Sx
set_option maxRecDepth 100000
namespace Go.Proofs.Ythilckbkffjliaa
open Go Go.Sx
def c11:SC:=(.seq (.reg [
 o1 3 (.box (.t 0) 0 24),
 o1 5 (.box (.t 2) 0 50),
 o1 6 (.mv (.c (.bool false)))])
 (.seq (.reg [
 o1 22 (.call 34 []),
 m1 7 22])
 (.seq (.seq (.reg [
 o1 23 (.ld (.t 3) 4 true),
 m1 24 1,
 o1 25 (.call 35 [.t 23,.t 24]),
 o1 26 (.un .not (.t 25)),
 m1 27 26,
 ⟨some 28,.ld (.t 3) 4 true,some (27,false),[]⟩,
 ⟨some 29,.ld (.t 5) 8 true,some (27,false),[]⟩,
 ⟨some 30,.call 36 [.t 28,.t 29],some (27,false),[]⟩,
 ⟨some 31,.un .not (.t 30),some (27,false),[]⟩,
 o1 32 (.pick (.t 27) (.c (.bool true)) (.t 31)),
 m1 33 32,
 ⟨some 34,.mv (.t 7),some (33,false),[]⟩,
 ⟨some 35,.un .not (.t 34),some (33,false),[]⟩,
 o1 36 (.pick (.t 33) (.c (.bool true)) (.t 35))])
 (.cond (.t 36)
 (.seq (.reg [
  m1 37 7,
  m1 6 37])
  .ret)
 .skip))
 (.seq (.regd [0,1,3,4,2,5,6] [
 .op (o1 38 (.bsl 8 50 [])),
 .op (m1 39 1),
 .op (o1 41 (.ld (.t 5) 8 true)),
 .op ⟨some 42,.bsl 8 50 [.t 41],none,[3]⟩] 1 2 [
 ⟨some 40,.cln 8 64 50 (.t 38) (.t 39),none,[0,1]⟩,
 ⟨some 43,.appm 8 64 50 (.t 40) (.t 42),none,[2,4]⟩,
 ⟨some 8,.mv (.t 43),none,[0,1,2,3,4,5]⟩])
 (.seq (.gh (.reg [
 o1 45 (.ld (.t 3) 4 true),
 m1 46 1,
 o1 47 (.call 24 [.t 45,.t 46]),
 m1 44 47,
 o1 48 (.ext (.t 44) 0),
 o1 49 (.ext (.t 44) 1),
 o1 50 (.ext (.t 44) 2),
 m1 9 48,
 m1 10 49,
 m1 11 50]))
 (.seq (.gh (.reg [
 o1 52 (.ld (.t 3) 4 true),
 m1 53 8,
 o1 54 (.call 24 [.t 52,.t 53]),
 m1 51 54,
 o1 55 (.ext (.t 51) 0),
 o1 56 (.ext (.t 51) 1),
 o1 57 (.ext (.t 51) 2),
 m1 12 55,
 m1 13 56,
 m1 14 57]))
 (.seq (.seq (.reg [
 m1 58 11,
 o1 59 (.bin .neq (.t 58) (.c (.int .i64 0))),
 m1 60 59,
 ⟨some 61,.mv (.t 10),some (60,false),[]⟩,
 ⟨some 62,.len (.t 61),some (60,false),[]⟩,
 ⟨some 63,.mv (.t 9),some (60,false),[]⟩,
 ⟨some 64,.len (.t 63),some (60,false),[]⟩,
 ⟨some 65,.bin .neq (.t 62) (.t 64),some (60,false),[]⟩,
 o1 66 (.pick (.t 60) (.c (.bool true)) (.t 65))])
 (.cond (.t 66)
 (.seq (.reg [
  o1 6 (.mv (.c (.bool false)))])
  .ret)
 .skip))
 (.seq (.seq (.reg [
 m1 67 14,
 o1 68 (.bin .neq (.t 67) (.c (.int .i64 0)))])
 (.cond (.t 68)
 (.seq (.reg [
  m1 69 7,
  m1 70 69,
  ⟨some 71,.mv (.t 14),some (70,true),[]⟩,
  ⟨some 72,.bin .eql (.t 71) (.c (.int .i64 82)),some (70,true),[]⟩,
  ⟨some 73,.mv (.t 72),some (70,true),[]⟩,
  ⟨some 74,.mv (.t 14),some (73,false),[]⟩,
  ⟨some 75,.bin .eql (.t 74) (.c (.int .i64 4)),some (73,false),[]⟩,
  ⟨some 76,.mv (.t 75),some (73,false),[]⟩,
  ⟨some 77,.mv (.t 1),some (76,true),[]⟩,
  ⟨some 78,.len (.t 77),some (76,true),[]⟩,
  ⟨some 79,.bin .geq (.t 78) (.c (.int .i64 100)),some (76,true),[]⟩,
  ⟨some 80,.pick (.t 76) (.t 79) (.c (.bool false)),some (73,false),[]⟩,
  ⟨some 81,.pick (.t 73) (.c (.bool true)) (.t 80),some (70,true),[]⟩,
  o1 82 (.pick (.t 70) (.t 81) (.c (.bool false))),
  m1 6 82])
  .ret)
 .skip))
 (.seq (.seq (.reg [
 m1 83 13,
 o1 84 (.len (.t 83)),
 m1 85 12,
 o1 86 (.len (.t 85)),
 o1 87 (.bin .neq (.t 84) (.t 86)),
 m1 88 87,
 ⟨some 89,.mv (.t 12),some (88,false),[]⟩,
 ⟨some 90,.len (.t 89),some (88,false),[]⟩,
 ⟨some 91,.mv (.t 9),some (88,false),[]⟩,
 ⟨some 92,.len (.t 91),some (88,false),[]⟩,
 ⟨some 93,.bin .add (.t 92) (.c (.int .i64 1)),some (88,false),[]⟩,
 ⟨some 94,.bin .gtr (.t 90) (.t 93),some (88,false),[]⟩,
 o1 95 (.pick (.t 88) (.c (.bool true)) (.t 94)),
 m1 96 95,
 ⟨some 97,.mv (.t 12),some (96,false),[]⟩,
 ⟨some 98,.len (.t 97),some (96,false),[]⟩,
 ⟨some 99,.mv (.t 9),some (96,false),[]⟩,
 ⟨some 100,.len (.t 99),some (96,false),[]⟩,
 ⟨some 101,.bin .lss (.t 98) (.t 100),some (96,false),[]⟩,
 o1 102 (.pick (.t 96) (.c (.bool true)) (.t 101))])
 (.cond (.t 102)
 (.seq (.reg [
  o1 6 (.mv (.c (.bool false)))])
  .ret)
 .skip))
 (.seq (.seq (.reg [
 m1 103 9,
 o1 104 (.len (.t 103)),
 o1 105 (.mv (.c (.int .i64 0)))])
 (.block 0 (.loop (.seq (.reg [
  o1 106 (.bin .lss (.t 105) (.t 104))])
  (.seq (.cond (.t 106)
  .skip
  (.exit 0))
  (.seq (.block 1 (.seq (.reg [
   m1 107 105,
   m1 15 107])
   (.seq (.seq (.regd [0,1,2,3,4,5,6,7,8,9,10,11,12,13,14,15,16,17,18,19,20,21,22,23,24,25,26,27] [
   .op (m1 108 9),
   .op (m1 109 15),
   .op ⟨some 110,.ixs (.t 108) (.t 109) 8,none,[0,1]⟩,
   .op ⟨some 111,.addo (.t 110) 1,none,[2]⟩,
   .op ⟨some 112,.ld (.t 111) 1 false,none,[3]⟩,
   .op (o1 113 (.addo (.t 5) 1)),
   .op ⟨some 114,.ld (.t 113) 1 false,none,[5]⟩,
   .op ⟨some 115,.bin .gtr (.t 112) (.t 114),none,[4,6]⟩,
   .op ⟨some 116,.mv (.t 115),none,[7]⟩,
   .op ⟨some 117,.mv (.t 9),some (116,false),[8]⟩,
   .op ⟨some 118,.mv (.t 15),some (116,false),[8]⟩,
   .op ⟨some 119,.ixs (.t 117) (.t 118) 8,some (116,false),[8,9,10]⟩,
   .op ⟨some 120,.addo (.t 119) 1,some (116,false),[8,11]⟩,
   .op ⟨some 121,.ld (.t 120) 1 false,some (116,false),[8,12]⟩,
   .op ⟨some 122,.addo (.t 5) 1,some (116,false),[8]⟩,
   .op ⟨some 123,.ld (.t 122) 1 false,some (116,false),[8,14]⟩,
   .op ⟨some 124,.bin .eql (.t 121) (.t 123),some (116,false),[8,13,15]⟩,
   .op ⟨some 125,.mv (.t 124),some (116,false),[8,16]⟩,
   .op ⟨some 126,.mv (.t 9),some (125,true),[17]⟩,
   .op ⟨some 127,.mv (.t 15),some (125,true),[17]⟩,
   .op ⟨some 128,.ixs (.t 126) (.t 127) 8,some (125,true),[17,18,19]⟩,
   .op ⟨some 129,.addo (.t 128) 0,some (125,true),[17,20]⟩,
   .op ⟨some 130,.ld (.t 129) 1 false,some (125,true),[17,21]⟩,
   .op ⟨some 131,.addo (.t 5) 0,some (125,true),[17]⟩,
   .op ⟨some 132,.ld (.t 131) 1 false,some (125,true),[17,23]⟩,
   .op ⟨some 133,.bin .geq (.t 130) (.t 132),some (125,true),[17,22,24]⟩,
   .op ⟨some 134,.pick (.t 125) (.t 133) (.c (.bool false)),some (116,false),[8,17,25]⟩,
   .op ⟨some 135,.pick (.t 116) (.c (.bool true)) (.t 134),none,[8,26]⟩] 0 0 [
])
 (.cond (.t 135)
 (.exit 0)
 .skip))
 (.seq (.regd [0,1,2,3,4,5,6,7,8,9,10,11,12,13,14,15,16,17,18,19] [
 .op (m1 136 12),
 .op (m1 137 15),
 .op ⟨some 138,.ixs (.t 136) (.t 137) 8,none,[0,1]⟩,
 .op ⟨some 139,.ld (.t 138) 8 true,none,[2]⟩,
 .op (m1 140 9),
 .op (m1 141 15),
 .op ⟨some 142,.ixs (.t 140) (.t 141) 8,none,[4,5]⟩,
 .op ⟨some 143,.ld (.t 142) 8 true,none,[6]⟩,
 .op ⟨some 144,.eqs true true [1,1,1,1,1,1,1,0] (.t 139) (.t 143),none,[3,7]⟩,
 .op ⟨some 145,.mv (.t 144),none,[8]⟩,
 .op ⟨some 146,.mv (.t 13),some (145,false),[9]⟩,
 .op ⟨some 147,.mv (.t 15),some (145,false),[9]⟩,
 .op ⟨some 148,.ixs (.t 146) (.t 147) 1,some (145,false),[9,10,11]⟩,
 .op ⟨some 149,.ld (.t 148) 1 false,some (145,false),[9,12]⟩,
 .op ⟨some 150,.mv (.t 10),some (145,false),[9]⟩,
 .op ⟨some 151,.mv (.t 15),some (145,false),[9]⟩,
 .op ⟨some 152,.ixs (.t 150) (.t 151) 1,some (145,false),[9,14,15]⟩,
 .op ⟨some 153,.ld (.t 152) 1 false,some (145,false),[9,16]⟩,
 .op ⟨some 154,.bin .neq (.t 149) (.t 153),some (145,false),[9,13,17]⟩,
 .op ⟨some 155,.pick (.t 145) (.c (.bool true)) (.t 154),none,[9,18]⟩] 0 0 [
])
 (.cond (.t 155)
 (.seq (.reg [
  o1 6 (.mv (.c (.bool false)))])
  .ret)
 .skip)))))
 (.reg [
 o1 156 (.bin .add (.t 105) (.c (.int .i64 1))),
 m1 105 156])))))))
 (.seq (.reg [
 o1 158 (.ld (.t 3) 4 true),
 m1 159 1,
 o1 160 (.call 29 [.t 158,.t 159]),
 m1 157 160,
 o1 161 (.ext (.t 157) 0),
 o1 162 (.ext (.t 157) 1),
 m1 16 161,
 m1 17 162])
 (.seq (.reg [
 o1 164 (.ld (.t 3) 4 true),
 m1 165 8,
 o1 166 (.call 29 [.t 164,.t 165]),
 m1 163 166,
 o1 167 (.ext (.t 163) 0),
 o1 168 (.ext (.t 163) 1),
 m1 18 167,
 m1 19 168])
 (.seq (.seq (.reg [
 m1 169 17,
 o1 170 (.bin .neq (.t 169) (.c (.int .i64 0))),
 m1 171 170,
 ⟨some 172,.mv (.t 19),some (171,false),[]⟩,
 ⟨some 173,.bin .neq (.t 172) (.c (.int .i64 0)),some (171,false),[]⟩,
 o1 174 (.pick (.t 171) (.c (.bool true)) (.t 173)),
 m1 175 174,
 ⟨some 176,.mv (.t 16),some (175,false),[]⟩,
 ⟨some 177,.len (.t 176),some (175,false),[]⟩,
 ⟨some 178,.mv (.t 18),some (175,false),[]⟩,
 ⟨some 179,.len (.t 178),some (175,false),[]⟩,
 ⟨some 180,.bin .neq (.t 177) (.t 179),some (175,false),[]⟩,
 o1 181 (.pick (.t 175) (.c (.bool true)) (.t 180))])
 (.cond (.t 181)
 (.seq (.reg [
  o1 6 (.mv (.c (.bool false)))])
  .ret)
 .skip))
 (.seq (.seq (.reg [
 m1 182 12,
 o1 183 (.len (.t 182)),
 m1 184 9,
 o1 185 (.len (.t 184)),
 o1 186 (.bin .eql (.t 183) (.t 185))])
 (.cond (.t 186)
 (.seq (.reg [
  m1 187 7,
  m1 188 187,
  ⟨some 189,.mv (.t 16),some (188,true),[]⟩,
  ⟨some 190,.mv (.t 18),some (188,true),[]⟩,
  ⟨some 191,.call 22 [.t 189,.t 190],some (188,true),[]⟩,
  o1 192 (.pick (.t 188) (.t 191) (.c (.bool false))),
  m1 6 192])
  .ret)
 .skip))
 (.seq (.reg [
 o1 20 (.mv (.c (.int .i64 0)))])
 (.seq (.seq (.reg [
 m1 193 16,
 o1 194 (.len (.t 193)),
 o1 195 (.mv (.c (.int .i64 0)))])
 (.block 2 (.loop (.seq (.reg [
  o1 196 (.bin .lss (.t 195) (.t 194))])
  (.seq (.cond (.t 196)
  .skip
  (.exit 2))
  (.seq (.block 3 (.seq (.reg [
   m1 197 195,
   m1 21 197])
   (.regd [0,1,2,3,4,5,6,7,8,9,10,11] [
   .op (m1 198 20),
   .op (m1 199 18),
   .op (m1 200 21),
   .op ⟨some 201,.ixs (.t 199) (.t 200) 1,none,[1,2]⟩,
   .op ⟨some 202,.ld (.t 201) 1 false,none,[3]⟩,
   .op (m1 203 16),
   .op (m1 204 21),
   .op ⟨some 205,.ixs (.t 203) (.t 204) 1,none,[5,6]⟩,
   .op ⟨some 206,.ld (.t 205) 1 false,none,[7]⟩,
   .op ⟨some 207,.bin .sub (.t 202) (.t 206),none,[4,8]⟩,
   .op ⟨some 208,.bin .add (.t 198) (.t 207),none,[0,9]⟩] 0 0 [
   ⟨some 20,.mv (.t 208),none,[0,1,2,3,4,5,6,7,8,9,10]⟩])))
  (.reg [
  o1 209 (.bin .add (.t 195) (.c (.int .i64 1))),
  m1 195 209])))))))
 (.seq (.seq (.reg [
 o1 210 (.addo (.t 5) 2),
 o1 211 (.ld (.t 210) 1 false)])
 (.block 4 (.seq (.reg [
  o1 213 (.bin .eql (.t 211) (.c (.int .u8 1))),
  m1 212 213])
  (.cond (.t 212)
  (.seq (.reg [
   m1 214 7,
   m1 215 214,
   ⟨some 216,.mv (.t 20),some (215,true),[]⟩,
   ⟨some 217,.addo (.t 5) 6,some (215,true),[]⟩,
   ⟨some 218,.ld (.t 217) 1 false,some (215,true),[]⟩,
   ⟨some 219,.bin .eql (.t 216) (.t 218),some (215,true),[]⟩,
   o1 220 (.pick (.t 215) (.t 219) (.c (.bool false))),
   m1 6 220])
   .ret)
  (.seq (.reg [
   o1 222 (.bin .eql (.t 211) (.c (.int .u8 2))),
   m1 221 222])
   (.cond (.t 221)
   (.seq (.reg [
    m1 223 7,
    m1 224 223,
    ⟨some 225,.mv (.t 20),some (224,true),[]⟩,
    ⟨some 226,.addo (.t 5) 6,some (224,true),[]⟩,
    ⟨some 227,.ld (.t 226) 1 false,some (224,true),[]⟩,
    ⟨some 228,.un .neg (.t 227),some (224,true),[]⟩,
    ⟨some 229,.bin .eql (.t 225) (.t 228),some (224,true),[]⟩,
    o1 230 (.pick (.t 224) (.t 229) (.c (.bool false))),
    m1 6 230])
    .ret)
   (.seq (.reg [
    o1 232 (.bin .eql (.t 211) (.c (.int .u8 7))),
    m1 231 232])
    (.cond (.t 231)
    (.seq (.reg [
     m1 233 7,
     m1 234 233,
     ⟨some 235,.mv (.t 20),some (234,true),[]⟩,
     ⟨some 236,.bin .eql (.t 235) (.c (.int .i64 0)),some (234,true),[]⟩,
     o1 237 (.pick (.t 234) (.t 236) (.c (.bool false))),
     m1 6 237])
     .ret)
    .skip))))))))
 (.seq (.reg [
 m1 238 7,
 m1 6 238])
 .ret))))))))))))))))))
def r11:List RV:=[.tmp 6]
theorem n11:Try.f11.ntmps=239:=by kernel_rfl
theorem b11:bodyB Try.prog 11=true:=by kernel_rfl
theorem c11_ok:cmpC Try.prog c11 ((Try.f11.body).getD .skip)=true:=by kernel_rfl
theorem r11_ok:cmpR Try.prog r11 Try.f11.results.toList=true:=by kernel_rfl
theorem t11 {args:List SV} {res:SV} (ka:KFL args) (kr:KF res) (h:sx Try.prog Y0 0 c11 (st0 args 239) (retK r11 res)) (hA:Nat.ble args.length 239=true:=by rfl):Ct Try.prog 11 args res:=ct_intro Try.func11 rfl b11 c11_ok r11_ok n11 (Nat.le_of_ble_eq_true hA) ka kr h
end Go.Proofs.Ythilckbkffjliaa
set_option maxRecDepth 100000
set_option maxHeartbeats 4000000
namespace Go.Azalai
def brkF (x more:Letter):Bool:=decide (x.day > more.day) || (decide (x.day=more.day) && decide (x.id ≥ more.id))
structure LateR (p:Pact) (X Y:List Letter) (more:Letter):Prop where
 l1:Y.length≤X.length+1
 l2:X.length≤Y.length
 pre:∀ i (h:i < X.length),brkF X[i] more=false→∃ h2:i < Y.length,Y[i]=X[i]∧∃ (h3:i < (whyL p co0 Y).length) (h4:i < (whyL p co0 X).length),(whyL p co0 Y)[i]=(whyL p co0 X)[i]
 same:Y.length=X.length→Y=X
 gain:Y.length≠X.length→(more.kind=1∨more.kind=2∨more.kind=7)→gainL Y (whyL p co0 Y)=gainL X (whyL p co0 X)+gainF more 0
theorem late_ok {p:Pact} {l:List Letter} {more:Letter} (h:twoB (l ++ [more])=false):LateR p (readL p l) (readL p (l ++ [more])) more:=by
 rcases late_read (p:=p) h with e | ⟨A,B,e1,e2,h1,h2⟩
 · rw [e]
   refine ⟨by omega,by omega,fun i hi _=>⟨hi,rfl,by rw [whyL_len];exact hi,by rw [whyL_len];exact hi,rfl⟩,fun _=>rfl,fun q=>absurd rfl q⟩
 · rw [e1,e2]
   refine ⟨by simp;omega,by simp,fun i hi hb=>?_,fun q=>by simp at q,fun _ hk=>late_gain hk⟩
   have hiA:i < A.length:=by
    apply Classical.byContradiction
    intro hc
    have hB:(A ++ B)[i] ∈ B:=by
     rw [List.getElem_append_right (by omega)];exact List.getElem_mem _
    have:=h2 _ hB
    simp only [lt2,Bool.or_eq_true,Bool.and_eq_true,decide_eq_true_eq] at this
    simp only [brkF,Bool.or_eq_false_iff,Bool.and_eq_false_iff,decide_eq_false_iff_not] at hb
    omega
   refine ⟨by simp;omega,?_,by rw [whyL_len];simp;omega,by rw [whyL_len];exact hi,?_⟩
   · rw [List.getElem_append_left hiA,List.getElem_append_left hiA]
   · have hA:i < (whyL p co0 A).length:=by rw [whyL_len];exact hiA
     have q1:(whyL p co0 (A ++ more :: B))[i]'(by rw [whyL_len];simp;omega)=(whyL p co0 A)[i]:=by
      have:whyL p co0 (A ++ more :: B)=whyL p co0 A ++ whyL p (runF p co0 A) (more :: B):=whyL_app
      simp only [this];rw [List.getElem_append_left hA]
     have q2:(whyL p co0 (A ++ B))[i]'(by rw [whyL_len];exact hi)=(whyL p co0 A)[i]:=by
      have:whyL p co0 (A ++ B)=whyL p co0 A ++ whyL p (runF p co0 A) B:=whyL_app
      simp only [this];rw [List.getElem_append_left hA]
     rw [q1,q2]
end Go.Azalai
namespace Go.Proofs.Ythilckbkffjliaa
open Go Go.Sx Go.Azalai
theorem late_law (p:Pact) (l:List Letter) (x:Letter) (c:Bool):Ct Try.prog 11 [.agg (pactL p),.sl c 8 (l.map letterL),.agg (letterL x)] (B true):=by
 refine t11 (by simp [pactL,partnerL,letterL,KFR_iff,KFL,KF]) (by simp [KFL,KF]) ?_
 dsimp only [c11,r11,pactL,letterL,go_sem,rA,rM,rS]
 refine call alive_ok ?_
 dsimp only [go_sem,rA,rM,rS]
 refine call (readyA_ok p l c) ?_
 dsimp only [go_sem,rA,rM,rS]
 by_cases hr:readyF p l=true
 case neg =>
  rw [Bool.not_eq_true] at hr
  rw [hr]
  repeat (refine gb_skip (by decide) ?_;dsimp only [go_sem,rA,rM,rS])
  refine br_t rfl ?_
  dsimp only [go_sem,rA,rM,rS]
 rw [hr]
 obtain ⟨hs,hl,h0⟩:=readyF_t hr
 obtain ⟨hp,-,hok,h2⟩:=readE_0 h0
 have hro:=rletter_ok p x hs
 by_cases ho:okLetter p x=true
 case neg =>
  rw [Bool.not_eq_true] at ho
  rw [ho] at hro
  iterate 3 (first | (refine gb_run rfl ?_;dsimp only [go_sem,rA,rM,rS]) | (refine call hro ?_;dsimp only [go_sem,rA,rM,rS]))
  repeat (first | (refine gb_run rfl ?_;dsimp only [go_sem,rA,rM,rS]) | (refine call hro ?_;dsimp only [go_sem,rA,rM,rS]) | (refine gb_skip (by decide) ?_;dsimp only [go_sem,rA,rM,rS]))
  refine br_t rfl ?_
  dsimp only [go_sem,rA,rM,rS]
 rw [ho] at hro
 simp only [letterL] at hro
 repeat (first | (refine gb_run rfl ?_;dsimp only [go_sem,rA,rM,rS]) | (refine call hro ?_;dsimp only [go_sem,rA,rM,rS]))
 refine br_f rfl ?_
 dsimp only [go_sem,rA,rM,rS]
 refine ⟨by simp;omega,?_⟩
 (repeat first | dsimp only [go_sem,rA,rM,rS] | simp only [nbr])
 refine ⟨by simp [allOne,oneS,oneV],by simp;omega,?_⟩
 (repeat first | dsimp only [go_sem,rA,rM,rS] | simp only [nbr])
 have ea:l.map letterL ++ [[I x.id,I x.day,U8 x.kind,I x.who,I x.other,I x.animal,I x.rials,B x.mouth]]=(l ++ [x]).map letterL:=by rw [List.map_append];rfl
 rw [ea]
 refine gh ent_refl ?_
 (repeat first | dsimp only [go_sem,rA,rM,rS] | simp only [nbr])
 refine call (Read_ok p l hs (by omega) c) ?_
 (repeat first | dsimp only [go_sem,rA,rM,rS] | simp only [nbr])
 refine gh (ent_frz 8 2 1 rfl rfl rfl rfl) ?_
 (repeat first | dsimp only [go_sem,rA,rM,rS] | simp only [nbr])
 refine call (Read_ok p (l ++ [x]) hs (by simp;omega) false) ?_
 (repeat first | dsimp only [go_sem,rA,rM,rS] | simp only [nbr])
 have hX:=readL_ok h0
 have hrl:=readL_len (p:=p) (l:=l)
 have e1:readR p l=readL p l:=by rw [readR,if_pos h0]
 have e2:whyRR p l=whyL p co0 (readL p l):=by rw [whyRR,if_pos h0]
 have e3:settleR p l=settleF p (readL p l):=by rw [settleR,if_pos h0]
 have hwl:=whyL_len (p:=p) (l:=readL p l) (c:=co0)
 have hsl:(settleF p (readL p l)).length=p.partners.length:=hasF_len
 have hsb:=settle_bd hp hX (by omega)
 have hk:=kept hp hX
 have h8:=(okPact_all hp).2.2.2.2.2.2
 rw [e1,e2,h0]
 repeat (refine gb ?_;dsimp only [go_sem,rA,rM,rS])
 simp only [List.length_map]
 refine br_f (by simp [hwl]) ?_
 dsimp only [go_sem,rA,rM,rS]
 by_cases hf:readE p (l ++ [x])=0
 case neg =>
  refine br_t (by simpa using hf) ?_
  dsimp only [go_sem,rA,rM,rS]
  repeat (refine gb ?_;dsimp only [go_sem,rA,rM,rS])
  simp only [List.length_map,Option.some.injEq,SV.v.injEq,Value.bool.injEq]
  have hall:(l ++ [x]).all (okLetter p)=true:=by
   rw [List.all_eq_true]
   intro y hy
   rcases List.mem_append.1 hy with q | q
   · exact hok y q
   · have:y=x:=by simpa using q
     rw [this];exact ho
  have hfe:readE p (l ++ [x])=82∨(readE p (l ++ [x])=4∧l.length ≥ 100):=by
   rw [readE_of hp] at hf ⊢
   simp only [lettersE,hall] at hf ⊢
   by_cases q:(l ++ [x]).length > 100
   · right
     rw [if_pos q]
     simp at q
     exact ⟨rfl,by omega⟩
   · left
     rw [if_neg q,if_neg (by simp)] at hf ⊢
     by_cases q2:twoB (l ++ [x])=true
     · rw [if_pos q2]
     · rw [if_neg q2] at hf;exact absurd rfl hf
  rcases hfe with q | ⟨q,q2⟩
  · simp [q]
  · simp [q];omega
 refine br_f (by simpa using hf) ?_
 dsimp only [go_sem,rA,rM,rS]
 obtain ⟨-,hl2,hok2,h22⟩:=readE_0 hf
 have hL:=late_ok (p:=p) h22
 have hY:=readL_ok hf
 have f1:readR p (l ++ [x])=readL p (l ++ [x]):=by rw [readR,if_pos hf]
 have f2:whyRR p (l ++ [x])=whyL p co0 (readL p (l ++ [x])):=by rw [whyRR,if_pos hf]
 have f3:settleR p (l ++ [x])=settleF p (readL p (l ++ [x])):=by rw [settleR,if_pos hf]
 have hwl2:=whyL_len (p:=p) (l:=readL p (l ++ [x])) (c:=co0)
 have hsl2:(settleF p (readL p (l ++ [x]))).length=p.partners.length:=hasF_len
 have hrl2:=readL_len (p:=p) (l:=l ++ [x])
 have hsb2:=settle_bd hp hY (by omega)
 have hk2:=kept hp hY
 rw [f1,f2,hf]
 generalize readL p (l ++ [x])=Y at *
 generalize readL p l=X at *
 have l1:=hL.l1
 have l2:=hL.l2
 repeat (refine gb ?_;dsimp only [go_sem,rA,rM,rS])
 simp only [List.length_map]
 rw [w64_in (n:=(X.length:Int)+1) (by omega) (by omega)]
 refine br_f (by simp [hwl2];omega) ?_
 dsimp only [go_sem,rA,rM,rS]
 simp only [List.length_map]
 refine loopO (fun s:Nat=>[(105,I (s:Nat))]) (fun _=>[]) (fun s=>s≤X.length) (fun s=>X.length - s) 0 (Nat.zero_le _) ?_ ?_
 · (refine ent_id ?_ ?_ ?_ rfl rfl<;>dsimp only [pactL,partnerL,letterL,u8L,intL,id,go_sem,rA,rM,rS]<;>simp [pactL,partnerL,letterL,u8L,intL,KFR_iff,KFR_app,KFR,KFL,KF,mtL_same,mtO,nbr])
 intro k hk'
 dsimp only [go_sem,rA,rM,rS]
 by_cases hlt:k < X.length
 · refine br_t (by simpa using hlt) ?_
   dsimp only [go_sem,rA,rM,rS]
   refine ixs_map k hlt rfl ?_
   dsimp only [letterL,go_sem,rA,rM,rS]
   have hpre:=hL.pre k hlt
   repeat (refine gb ?_;dsimp only [go_sem,rA,rM,rS])
   refine ixs_v k (letterL X[k]) rfl (fun _=>⟨rfl,by simp [hlt]⟩) ?_
   dsimp only [letterL,go_sem,rA,rM,rS]
   repeat (refine gb ?_;dsimp only [go_sem,rA,rM,rS])
   refine ixs_gd k (letterL X[k]) rfl (fun _=>⟨rfl,by simp [hlt]⟩) ?_
   dsimp only [letterL,go_sem,rA,rM,rS]
   repeat (refine gb ?_;dsimp only [go_sem,rA,rM,rS])
   have hbq:(decide (X[k].day > x.day) || (X[k].day == x.day && decide (X[k].id ≥ x.id)))=brkF X[k] x:=by
    rw [Bool.eq_iff_iff];simp [brkF]
   by_cases hbk:brkF X[k] x=true
   · refine br_t (by rw [hbq];exact hbk) ?_
     dsimp only [go_sem,rA,rM,rS]
     refine call (settle_ok p l hs (by omega) c) ?_
     dsimp only [go_sem,rA,rM,rS]
     refine call (settle_ok p (l ++ [x]) hs (by simp;omega) false) ?_
     dsimp only [go_sem,rA,rM,rS]
     rw [e3,f3,h0,hf]
     repeat (refine gb ?_;dsimp only [go_sem,rA,rM,rS])
     simp only [List.length_map]
     refine br_f (by simp [hsl,hsl2]) ?_
     dsimp only [go_sem,rA,rM,rS]
     simp only [List.length_map]
     by_cases hq:Y.length=X.length
     · refine br_t (by simp [hq]) ?_
       dsimp only [go_sem,rA,rM,rS]
       have q0:=hL.same hq
       rw [q0]
       have q1:=same22_ok (settleF p X) (settleF p X) (by omega) (by omega) false false
       simp only [decide_true] at q1
       repeat (first | (refine call q1 ?_;dsimp only [go_sem,rA,rM,rS]) | (refine gb_run rfl ?_;dsimp only [go_sem,rA,rM,rS]))
       try rfl
     refine br_f (by simp;omega) ?_
     dsimp only [go_sem,rA,rM,rS]
     have hgain:=hL.gain hq
     generalize hU:settleF p X=U at *
     generalize hV:settleF p Y=V at *
     simp only [List.length_map]
     refine loopO (fun s:Nat=>[(195,I (s:Nat)),(20,I (sumL (V.take s) - sumL (U.take s)))]) (fun _=>[]) (fun s=>s≤U.length) (fun s=>U.length - s) 0 (Nat.zero_le _) ?_ ?_
     · (refine ent_id ?_ ?_ ?_ rfl rfl<;>dsimp only [pactL,partnerL,letterL,u8L,intL,sumL,id,go_sem,rA,rM,rS]<;>simp [pactL,partnerL,letterL,u8L,intL,sumL,KFR_iff,KFR_app,KFR,KFL,KF,mtL_same,mtO,nbr])
     intro j hj
     dsimp only [go_sem,rA,rM,rS]
     by_cases hlt:j < U.length
     · refine br_t (by simpa using hlt) ?_
       dsimp only [go_sem,rA,rM,rS]
       have hltV:j < V.length:=by omega
       refine ixs_map j hltV rfl ?_
       dsimp only [intL,go_sem,rA,rM,rS]
       refine ixs_map j hlt rfl ?_
       dsimp only [intL,go_sem,rA,rM,rS]
       have t1:=sumL_taken hlt
       have t2:=sumL_taken hltV
       have b1:=hsb _ (List.getElem_mem hlt)
       have b2:=hsb2 _ (List.getElem_mem hltV)
       have b3:=sumL_abs (b:=10000000000000) (l:=U.take j) fun y hy=>by have:=hsb y (List.mem_of_mem_take hy);omega
       have b4:=sumL_abs (b:=10000000000000) (l:=V.take j) fun y hy=>by have:=hsb2 y (List.mem_of_mem_take hy);omega
       have b5:(U.take j).length≤8:=by simp;omega
       have b6:(V.take j).length≤8:=by simp;omega
       rw [w64_in (n:=V[j] - U[j]) (by omega) (by omega),w64_in (n:=sumL (V.take j) - sumL (U.take j)+(V[j] - U[j])) (by omega) (by omega),w64_in (n:=(j:Int)+1) (by omega) (by omega)]
       rw [show sumL (V.take j) - sumL (U.take j)+(V[j] - U[j])=sumL (V.take (j+1)) - sumL (U.take (j+1)) from by omega]
       refine ⟨j+1,hlt,by omega,?_⟩
       (refine ent_id ?_ ?_ ?_ rfl rfl<;>dsimp only [pactL,partnerL,letterL,u8L,intL,id,go_sem,rA,rM,rS]<;>simp [pactL,partnerL,letterL,u8L,intL,KFR_iff,KFR_app,KFR,KFL,KF,mtL_same,mtO,nbr])
     refine br_f (by simpa using hlt) ?_
     dsimp only [go_sem,rA,rM,rS]
     have hje:j=U.length:=by omega
     rw [hje,List.take_length,show V.take U.length=V from by rw [show U.length=V.length from by omega,List.take_length]]
     have hsum:(x.kind=1∨x.kind=2∨x.kind=7)→sumL V - sumL U=gainF x 0:=fun hk'=>by
      have:=hgain hk'
      omega
     have hrx:x.kind=2→0≤x.rials∧x.rials≤10000000:=fun k2=>by
      have:=ho
      simp only [okLetter,k2,Bool.and_eq_true] at this;simp [inR] at this;omega
     by_cases k1:x.kind=1
     · refine br_t (by simp [k1]) ?_
       dsimp only [go_sem,rA,rM,rS]
       rw [hsum (.inl k1),show gainF x 0=x.rials from by simp [gainF,k1]]
       repeat (refine gb_run rfl ?_;dsimp only [go_sem,rA,rM,rS])
       simp
     refine br_f (by simp [k1]) ?_
     dsimp only [go_sem,rA,rM,rS]
     by_cases k2:x.kind=2
     · refine br_t (by simp [k2]) ?_
       dsimp only [go_sem,rA,rM,rS]
       have hr2:=hrx k2
       rw [hsum (.inr (.inl k2)),show gainF x 0 = -x.rials from by simp [gainF,k2]]
       repeat (refine gb_run rfl ?_;dsimp only [go_sem,rA,rM,rS])
       rw [w64_in (n:=0 - x.rials) (by omega) (by omega)]
       simp
     refine br_f (by simp [k2]) ?_
     dsimp only [go_sem,rA,rM,rS]
     by_cases k7:x.kind=7
     · refine br_t (by simp [k7]) ?_
       dsimp only [go_sem,rA,rM,rS]
       rw [hsum (.inr (.inr k7)),show gainF x 0=0 from by simp [gainF,k7]]
       repeat (refine gb_run rfl ?_;dsimp only [go_sem,rA,rM,rS])
       try rfl
     refine br_f (by simp [k7]) ?_
     dsimp only [go_sem,rA,rM,rS]
   rw [Bool.not_eq_true] at hbk
   refine br_f (by rw [hbq];exact hbk) ?_
   dsimp only [go_sem,rA,rM,rS]
   obtain ⟨h2',hYX,h3',h4',hWW⟩:=hpre hbk
   refine ixs_map k h2' rfl ?_
   dsimp only [letterL,go_sem,rA,rM,rS]
   refine ixs_map k hlt rfl ?_
   dsimp only [letterL,go_sem,rA,rM,rS]
   repeat (refine gb ?_;dsimp only [go_sem,rA,rM,rS])
   refine ixs_v k (u8L (whyL p co0 Y)[k]) rfl (fun _=>⟨rfl,by simp [h3']⟩) ?_
   dsimp only [u8L,go_sem,rA,rM,rS]
   repeat (refine gb ?_;dsimp only [go_sem,rA,rM,rS])
   refine ixs_v k (u8L (whyL p co0 X)[k]) rfl (fun _=>⟨rfl,by simp [h4']⟩) ?_
   dsimp only [u8L,go_sem,rA,rM,rS]
   repeat (refine gb ?_;dsimp only [go_sem,rA,rM,rS])
   refine br_f (by rw [hYX,hWW];simp [ngB]) ?_
   dsimp only [go_sem,rA,rM,rS]
   rw [w64_in (n:=(k:Int)+1) (by omega) (by omega)]
   refine ⟨k+1,hlt,by omega,?_⟩
   (refine ent_id ?_ ?_ ?_ rfl rfl<;>dsimp only [pactL,partnerL,letterL,u8L,intL,id,go_sem,rA,rM,rS]<;>simp [pactL,partnerL,letterL,u8L,intL,KFR_iff,KFR_app,KFR,KFL,KF,mtL_same,mtO,nbr])
 refine br_f (by simpa using hlt) ?_
 dsimp only [go_sem,rA,rM,rS]
 refine call (settle_ok p l hs (by omega) c) ?_
 dsimp only [go_sem,rA,rM,rS]
 refine call (settle_ok p (l ++ [x]) hs (by simp;omega) false) ?_
 dsimp only [go_sem,rA,rM,rS]
 rw [e3,f3,h0,hf]
 repeat (refine gb ?_;dsimp only [go_sem,rA,rM,rS])
 simp only [List.length_map]
 refine br_f (by simp [hsl,hsl2]) ?_
 dsimp only [go_sem,rA,rM,rS]
 simp only [List.length_map]
 by_cases hq:Y.length=X.length
 · refine br_t (by simp [hq]) ?_
   dsimp only [go_sem,rA,rM,rS]
   have q0:=hL.same hq
   rw [q0]
   have q1:=same22_ok (settleF p X) (settleF p X) (by omega) (by omega) false false
   simp only [decide_true] at q1
   repeat (first | (refine call q1 ?_;dsimp only [go_sem,rA,rM,rS]) | (refine gb_run rfl ?_;dsimp only [go_sem,rA,rM,rS]))
   try rfl
 refine br_f (by simp;omega) ?_
 dsimp only [go_sem,rA,rM,rS]
 have hgain:=hL.gain hq
 generalize hU:settleF p X=U at *
 generalize hV:settleF p Y=V at *
 simp only [List.length_map]
 refine loopO (fun s:Nat=>[(195,I (s:Nat)),(20,I (sumL (V.take s) - sumL (U.take s)))]) (fun _=>[]) (fun s=>s≤U.length) (fun s=>U.length - s) 0 (Nat.zero_le _) ?_ ?_
 · (refine ent_id ?_ ?_ ?_ rfl rfl<;>dsimp only [pactL,partnerL,letterL,u8L,intL,sumL,id,go_sem,rA,rM,rS]<;>simp [pactL,partnerL,letterL,u8L,intL,sumL,KFR_iff,KFR_app,KFR,KFL,KF,mtL_same,mtO,nbr])
 intro j hj
 dsimp only [go_sem,rA,rM,rS]
 by_cases hlt:j < U.length
 · refine br_t (by simpa using hlt) ?_
   dsimp only [go_sem,rA,rM,rS]
   have hltV:j < V.length:=by omega
   refine ixs_map j hltV rfl ?_
   dsimp only [intL,go_sem,rA,rM,rS]
   refine ixs_map j hlt rfl ?_
   dsimp only [intL,go_sem,rA,rM,rS]
   have t1:=sumL_taken hlt
   have t2:=sumL_taken hltV
   have b1:=hsb _ (List.getElem_mem hlt)
   have b2:=hsb2 _ (List.getElem_mem hltV)
   have b3:=sumL_abs (b:=10000000000000) (l:=U.take j) fun y hy=>by have:=hsb y (List.mem_of_mem_take hy);omega
   have b4:=sumL_abs (b:=10000000000000) (l:=V.take j) fun y hy=>by have:=hsb2 y (List.mem_of_mem_take hy);omega
   have b5:(U.take j).length≤8:=by simp;omega
   have b6:(V.take j).length≤8:=by simp;omega
   rw [w64_in (n:=V[j] - U[j]) (by omega) (by omega),w64_in (n:=sumL (V.take j) - sumL (U.take j)+(V[j] - U[j])) (by omega) (by omega),w64_in (n:=(j:Int)+1) (by omega) (by omega)]
   rw [show sumL (V.take j) - sumL (U.take j)+(V[j] - U[j])=sumL (V.take (j+1)) - sumL (U.take (j+1)) from by omega]
   refine ⟨j+1,hlt,by omega,?_⟩
   (refine ent_id ?_ ?_ ?_ rfl rfl<;>dsimp only [pactL,partnerL,letterL,u8L,intL,id,go_sem,rA,rM,rS]<;>simp [pactL,partnerL,letterL,u8L,intL,KFR_iff,KFR_app,KFR,KFL,KF,mtL_same,mtO,nbr])
 refine br_f (by simpa using hlt) ?_
 dsimp only [go_sem,rA,rM,rS]
 have hje:j=U.length:=by omega
 rw [hje,List.take_length,show V.take U.length=V from by rw [show U.length=V.length from by omega,List.take_length]]
 have hsum:(x.kind=1∨x.kind=2∨x.kind=7)→sumL V - sumL U=gainF x 0:=fun hk'=>by
  have:=hgain hk'
  omega
 have hrx:x.kind=2→0≤x.rials∧x.rials≤10000000:=fun k2=>by
  have:=ho
  simp only [okLetter,k2,Bool.and_eq_true] at this;simp [inR] at this;omega
 by_cases k1:x.kind=1
 · refine br_t (by simp [k1]) ?_
   dsimp only [go_sem,rA,rM,rS]
   rw [hsum (.inl k1),show gainF x 0=x.rials from by simp [gainF,k1]]
   repeat (refine gb_run rfl ?_;dsimp only [go_sem,rA,rM,rS])
   simp
 refine br_f (by simp [k1]) ?_
 dsimp only [go_sem,rA,rM,rS]
 by_cases k2:x.kind=2
 · refine br_t (by simp [k2]) ?_
   dsimp only [go_sem,rA,rM,rS]
   have hr2:=hrx k2
   rw [hsum (.inr (.inl k2)),show gainF x 0 = -x.rials from by simp [gainF,k2]]
   repeat (refine gb_run rfl ?_;dsimp only [go_sem,rA,rM,rS])
   rw [w64_in (n:=0 - x.rials) (by omega) (by omega)]
   simp
 refine br_f (by simp [k2]) ?_
 dsimp only [go_sem,rA,rM,rS]
 by_cases k7:x.kind=7
 · refine br_t (by simp [k7]) ?_
   dsimp only [go_sem,rA,rM,rS]
   rw [hsum (.inr (.inr k7)),show gainF x 0=0 from by simp [gainF,k7]]
   repeat (refine gb_run rfl ?_;dsimp only [go_sem,rA,rM,rS])
   try rfl
 refine br_f (by simp [k7]) ?_
 dsimp only [go_sem,rA,rM,rS]
end Go.Proofs.Ythilckbkffjliaa
set_option maxRecDepth 100000
set_option maxHeartbeats 4000000
namespace Go.Proofs.Ythilckbkffjliaa
open Go Go.Sx Go.Azalai Go.ChangeShapes Go.WideShapes Go.RowKit
theorem lift_map {α : Type} {rep:α→List SV} {q:List SV→Prop} (hq:∀ r,q r→∃ a,r=rep a):∀ {xs:List (List SV)},(∀ r ∈ xs,q r)→∃ l:List α,xs=l.map rep
 | [],_=>⟨[],rfl⟩
 | x :: xs,h=>by
  obtain ⟨a,rfl⟩:=hq x (h x (by simp))
  obtain ⟨l,rfl⟩:=lift_map (xs:=xs) hq (fun r hr=>h r (by simp [hr]))
  exact ⟨a :: l,rfl⟩
theorem shp3 {f:Nat} {l:List SV} (h:Shp Try.prog (f+1) 3 l):∃ n:Int,l=[.v (.int .i64 n)]∧(Lit.int .i64 n).wf=true:=by
 rw [Shp,Try.underlying3] at h
 exact h
theorem shp64 {f:Nat} {l:List SV} (h:Shp Try.prog (f+2) 64 l):∃ w:Partner,l=partnerL w:=by
 rw [Shp,Try.underlying64] at h
 simp only [ShpF] at h
 obtain ⟨_,_,rfl,_,h0,_,_,rfl,_,h1,_,_,rfl,_,h2,rfl⟩:=h
 obtain ⟨a0,rfl,_⟩:=shp3 (f:=f+0) h0
 obtain ⟨a1,rfl,_⟩:=shp3 (f:=f+0) h1
 obtain ⟨a2,rfl,_⟩:=shp3 (f:=f+0) h2
 exact ⟨⟨a0,a1,a2⟩,rfl⟩
theorem cells64:Try.prog.cellsOf 64=3:=by kernel_rfl
theorem shp22 {f:Nat} {l:List SV} (h:Shp Try.prog (f+3) 22 l):∃ ds:List Partner,l=[.sl false 3 (ds.map partnerL)]∧ds.length≤9223372036854775807:=by
 rw [Shp,Try.underlying22] at h
 obtain ⟨xs,rfl,hl,hx⟩:=h
 obtain ⟨ws,rfl⟩:=lift_map (rep:=partnerL) (fun r h=>shp64 (f:=f) h.2) hx
 rw [cells64]
 exact ⟨ws,rfl,by simpa using hl⟩
theorem shp24 {f:Nat} {l:List SV} (h:Shp Try.prog (f+4) 24 l):∃ w:Pact,l=pactL w:=by
 rw [Shp,Try.underlying24] at h
 simp only [ShpF] at h
 obtain ⟨_,_,rfl,_,h0,_,_,rfl,_,h1,_,_,rfl,_,h2,_,_,rfl,_,h3,rfl⟩:=h
 obtain ⟨a0,rfl,_⟩:=shp22 (f:=f+0) h0
 obtain ⟨a1,rfl,_⟩:=shp3 (f:=f+2) h1
 obtain ⟨a2,rfl,_⟩:=shp3 (f:=f+2) h2
 obtain ⟨a3,rfl,_⟩:=shp3 (f:=f+2) h3
 exact ⟨⟨a0,a1,a2,a3⟩,rfl⟩
theorem shp5 {f:Nat} {l:List SV} (h:Shp Try.prog (f+1) 5 l):∃ n:Int,l=[.v (.int .u8 n)]∧(Lit.int .u8 n).wf=true:=by
 rw [Shp,Try.underlying5] at h
 exact h
theorem shp4 {f:Nat} {l:List SV} (h:Shp Try.prog (f+1) 4 l):∃ n:Bool,l=[B n]:=by
 rw [Shp,Try.underlying4] at h
 exact h
theorem shp50 {f:Nat} {l:List SV} (h:Shp Try.prog (f+2) 50 l):∃ w:Letter,l=letterL w:=by
 rw [Shp,Try.underlying50] at h
 simp only [ShpF] at h
 obtain ⟨_,_,rfl,_,h0,_,_,rfl,_,h1,_,_,rfl,_,h2,_,_,rfl,_,h3,_,_,rfl,_,h4,_,_,rfl,_,h5,_,_,rfl,_,h6,_,_,rfl,_,h7,rfl⟩:=h
 obtain ⟨a0,rfl,_⟩:=shp3 (f:=f+0) h0
 obtain ⟨a1,rfl,_⟩:=shp3 (f:=f+0) h1
 obtain ⟨a2,rfl,_⟩:=shp5 (f:=f+0) h2
 obtain ⟨a3,rfl,_⟩:=shp3 (f:=f+0) h3
 obtain ⟨a4,rfl,_⟩:=shp3 (f:=f+0) h4
 obtain ⟨a5,rfl,_⟩:=shp3 (f:=f+0) h5
 obtain ⟨a6,rfl,_⟩:=shp3 (f:=f+0) h6
 obtain ⟨a7,rfl⟩:=shp4 (f:=f+0) h7
 exact ⟨⟨a0,a1,a2,a3,a4,a5,a6,a7⟩,rfl⟩
theorem cells50:Try.prog.cellsOf 50=8:=by kernel_rfl
theorem shp38 {f:Nat} {l:List SV} (h:Shp Try.prog (f+3) 38 l):∃ ds:List Letter,l=[.sl false 8 (ds.map letterL)]∧ds.length≤9223372036854775807:=by
 rw [Shp,Try.underlying38] at h
 obtain ⟨xs,rfl,hl,hx⟩:=h
 obtain ⟨ws,rfl⟩:=lift_map (rep:=letterL) (fun r h=>shp50 (f:=f) h.2) hx
 rw [cells50]
 exact ⟨ws,rfl,by simpa using hl⟩
theorem Try.own:ownKnob Try.prog.godebug=none:=by kernel_rfl
theorem Try.laidOut:laidOutB Try.prog=true:=by kernel_rfl
theorem tyB24:tyB Try.prog 20 24=true:=by kernel_rfl
theorem tyB38:tyB Try.prog 20 38=true:=by kernel_rfl
theorem tyB50:tyB Try.prog 20 50=true:=by kernel_rfl
theorem shareLate_lifted (os:Os) (started:os.Started) (H:Type) (enc:TypeId × Value→H) :
 ReturnsInHanded {} Try.checked os 11 .any (Rows.shareLateSpec.pre6 enc Try.prog Try.f11 Rows.shareLateRow.domain false) (Rows.shareLateSpec.post enc Try.prog Try.f11 false true false false):=by
 refine returnsInHanded_of_change (C:=Try.checked) Try.own started (by kernel_rfl) Try.func11
  (ChangeSpec.witness6 (enc:=enc) (C:=Try.checked) false ⟨#[],#[.agg #[.slice none 0 0,.int .i64 0,.int .i64 0,.int .i64 0],.slice none 0 0,.agg #[.int .i64 0,.int .i64 0,.int .u8 0,.int .i64 0,.int .i64 0,.int .i64 0,.int .i64 0,.bool false]],[]⟩ 8 (by kernel_rfl) (by kernel_rfl) (by kernel_rfl) (by kernel_rfl)) ?_
 intro W base args ds gs before hval0 hW hcnd _
 have hval:∀ (j:Nat) t v,Try.f11.params[j]? = some t→args[j]? = some v→Value.okWide Try.prog W .any base t v:=hval0
 have hW':=hW
 obtain ⟨p,q,hA0,hV,rfl,hfz,hnd⟩:=hW
 have hA:DataW.TrodAll enc Try.prog W 0 (fun _=>true) true Try.f11.params.toList args.toList ds p:=hA0
 rw [Try.params11] at hA hval
 obtain ⟨v0,vs0,d0,ds0,p0,q0,ea0,rfl,rfl,h0,hA⟩:=trodAll_cons hA
 obtain ⟨v1,vs1,d1,ds1,p1,q1,rfl,rfl,rfl,h1,hA⟩:=trodAll_cons hA
 obtain ⟨v2,vs2,d2,ds2,p2,q2,rfl,rfl,rfl,h2,hA⟩:=trodAll_cons hA
 obtain ⟨rfl,rfl,rfl⟩:=trodAll_nil hA
 obtain ⟨rfl,rfl⟩:=trodVars_none hV
 have hargs:args = #[v0,v1,v2]:=Array.toList_inj.1 ea0
 subst hargs
 obtain ⟨l0,r0,s0⟩:=trod_arg tyB24 (hval 0 24 v0 rfl rfl) h0
 obtain ⟨l1,r1,s1⟩:=trod_arg tyB38 (hval 1 38 v1 rfl rfl) h1
 obtain ⟨l2,r2,s2⟩:=trod_arg tyB50 (hval 2 50 v2 rfl rfl) h2
 obtain ⟨x0,rfl⟩:=shp24 s0
 obtain ⟨x1,rfl,b1⟩:=shp38 s1
 obtain ⟨x2,rfl⟩:=shp50 s2
 simp only [argV,Try.underlying24,Try.underlying38,Try.underlying50,List.headD_cons] at r0 r1 r2
 refine ((late_law x0 x1 x2 false).run W Tr [v0,v1,v2] (by simp only [RL];exact ⟨_,_,rfl,r0,_,_,rfl,r1,_,_,rfl,r2,rfl⟩)).mono fun e W' ⟨y,he,hy,hb⟩=>?_
 simp only [R] at hy
 subst hy
 exact ⟨_,he,post_law (P:=Try.prog) Try.laidOut (by kernel_rfl) (by kernel_rfl) Try.underlying4 rfl rfl hW' hb⟩
theorem shareLate_holds:Rows.ShareLateSaid :=
 OpenClaim.holds_of_wide 11 Try.f11 rfl rfl rfl rfl rfl rfl rfl ⟨rfl,rfl,rfl,rfl,rfl⟩ rfl rfl rfl rfl rfl (by kernel_rfl) Try.func11 (by kernel_rfl)
  (of_decide_eq_true (by kernel_rfl)) (by unfold Func.isWrapper;first | (rw [if_pos (by decide +kernel)];kernel_rfl) | (rw [if_neg (by decide +kernel)];exact ⟨rfl,rfl⟩))
  (fun os started H enc _=>shareLate_lifted os started H enc)
end Go.Proofs.Ythilckbkffjliaa
