/- A walk through the code of the given statement, and what it says. -/
import Derived.Test.YthilckbkffjliaaCI
import Derived.Test.YthilckbkffjliaaRows
set_option linter.all false
open Nat renaming reduceAdd→rA,reduceMul→rM,reduceSub→rS,beq_refl→nbr
namespace Go.Sx
open Go Go.RowKit Go.Azalai
theorem ixs_v {xs:List (List SV)} {i:Int} {σ : St} {r:KT} {L:RK} {d:Option Nat} {j:Nat} {w b:Bool} (n:Nat) (row:List SV) (hl:lk j σ.fr = .v (.bool b)) (h:b=w→i=(n:Int)∧xs[n]? = some row) (hk:putK d (.ps row 0) (some (j,w)) σ r L) :
 IXS (some (j,w)) xs i d σ r L:=⟨row,imp_v hl fun e=>⟨n,(h e).1,(h e).2⟩,hk⟩
end Go.Sx
set_option maxRecDepth 100000
namespace Go.Proofs.Ythilckbkffjliaa
open Go Go.Sx
def c15:SC:=(.seq (.reg [
 o1 4 (.box (.t 0) 0 24),
 o1 8 (.mv (.c (.bool false)))])
 (.seq (.reg [
 o1 30 (.call 34 []),
 m1 9 30])
 (.seq (.seq (.reg [
 o1 31 (.ld (.t 4) 4 true),
 m1 32 1,
 o1 33 (.call 35 [.t 31,.t 32]),
 o1 34 (.un .not (.t 33)),
 m1 35 34,
 ⟨some 36,.mv (.t 9),some (35,false),[]⟩,
 ⟨some 37,.un .not (.t 36),some (35,false),[]⟩,
 o1 38 (.pick (.t 35) (.c (.bool true)) (.t 37))])
 (.cond (.t 38)
 (.seq (.reg [
  m1 39 9,
  m1 8 39])
  .ret)
 .skip))
 (.seq (.reg [
 o1 41 (.ld (.t 4) 4 true),
 m1 42 1,
 o1 43 (.call 24 [.t 41,.t 42]),
 m1 40 43,
 o1 44 (.ext (.t 40) 0),
 o1 45 (.ext (.t 40) 1),
 o1 46 (.ext (.t 40) 2),
 m1 10 44,
 m1 11 45,
 m1 12 46])
 (.seq (.reg [
 o1 48 (.ld (.t 4) 4 true),
 m1 49 1,
 o1 50 (.call 29 [.t 48,.t 49]),
 m1 47 50,
 o1 51 (.ext (.t 47) 0),
 o1 52 (.ext (.t 47) 1),
 m1 13 51,
 m1 14 52])
 (.seq (.seq (.reg [
 m1 53 12,
 o1 54 (.bin .neq (.t 53) (.c (.int .i64 0))),
 m1 55 54,
 ⟨some 56,.mv (.t 14),some (55,false),[]⟩,
 ⟨some 57,.bin .neq (.t 56) (.c (.int .i64 0)),some (55,false),[]⟩,
 o1 58 (.pick (.t 55) (.c (.bool true)) (.t 57)),
 m1 59 58,
 ⟨some 60,.mv (.t 11),some (59,false),[]⟩,
 ⟨some 61,.len (.t 60),some (59,false),[]⟩,
 ⟨some 62,.mv (.t 10),some (59,false),[]⟩,
 ⟨some 63,.len (.t 62),some (59,false),[]⟩,
 ⟨some 64,.bin .neq (.t 61) (.t 63),some (59,false),[]⟩,
 o1 65 (.pick (.t 59) (.c (.bool true)) (.t 64)),
 m1 66 65,
 ⟨some 67,.mv (.t 13),some (66,false),[]⟩,
 ⟨some 68,.len (.t 67),some (66,false),[]⟩,
 ⟨some 69,.addo (.t 4) 0,some (66,false),[]⟩,
 ⟨some 70,.ld (.t 69) 1 false,some (66,false),[]⟩,
 ⟨some 71,.len (.t 70),some (66,false),[]⟩,
 ⟨some 72,.bin .neq (.t 68) (.t 71),some (66,false),[]⟩,
 o1 73 (.pick (.t 66) (.c (.bool true)) (.t 72))])
 (.cond (.t 73)
 (.seq (.reg [
  o1 8 (.mv (.c (.bool false)))])
  .ret)
 .skip))
 (.seq (.reg [
 o1 15 (.mv (.c (.slice none 0 0)))])
 (.seq (.reg [
 o1 74 (.raw (Go.Op.makeMap 75 Option.none) 75),
 m1 16 74])
 (.seq (.seq (.reg [
 m1 75 10,
 o1 76 (.len (.t 75)),
 o1 77 (.mv (.c (.int .i64 0)))])
 (.block 0 (.loop (.seq (.reg [
  o1 78 (.bin .lss (.t 77) (.t 76))])
  (.seq (.cond (.t 78)
  .skip
  (.exit 0))
  (.seq (.block 1 (.seq (.reg [
   m1 79 77,
   o1 80 (.ixs (.t 75) (.t 77) 8),
   o1 81 (.ld (.t 80) 8 true),
   o1 18 (.alloc [.int .i64 0,.int .i64 0,.int .u8 0,.int .i64 0,.int .i64 0,.int .i64 0,.int .i64 0,.bool false] 50),
   m1 17 79,
   ⟨none,.st (.t 18) (.t 81) 8,none,[]⟩])
   (.block 2 (.seq (.reg [
    o1 87 (.addo (.t 18) 2),
    o1 88 (.ld (.t 87) 1 false),
    o1 89 (.bin .eql (.t 88) (.c (.int .u8 7))),
    m1 86 89])
    (.cond (.t 86)
    (.gh (.regd [0,1,2,3,4,5,7,8,6,9,10,11,12] [
     .op (m1 90 16),
     .op (o1 91 (.addo (.t 18) 3)),
     .op ⟨some 92,.ld (.t 91) 1 false,none,[1]⟩,
     .op (o1 93 (.addo (.t 18) 4)),
     .op ⟨some 94,.ld (.t 93) 1 false,none,[3]⟩,
     .op ⟨some 95,.build [.int .i64 0,.int .i64 0] [(0,1,.t 92),(1,1,.t 94)],none,[2,4]⟩,
     .op (o1 97 (.addo (.t 18) 6)),
     .op ⟨some 98,.ld (.t 97) 1 false,none,[7]⟩,
     .op ⟨some 96,.rv (Go.Op.lookup 75 (Go.Operand.tmp 90) (Go.Operand.tmp 95) Bool.false) [.t 90,.t 95],none,[0,5]⟩,
     .op ⟨some 99,.bin .add (.t 96) (.t 98),none,[6,8]⟩] 0 2 [
     ⟨some 100,.rb (Go.Op.mapEntry 75 (Go.Operand.tmp 90) (Go.Operand.tmp 95)) (.t 90) [.t 95],none,[0,1,2,3,4,5,7,8]⟩,
     ⟨some 101,.ext (.t 100) 1,none,[10]⟩,
     ⟨none,.raw (Go.Op.entryStore 75 (Go.Operand.tmp 90) (Go.Operand.tmp 101) (Go.Operand.tmp 99)) 0,none,[0,1,2,3,4,5,6,7,8,9,10,11]⟩]))
    (.seq (.reg [
     o1 103 (.addo (.t 18) 2),
     o1 104 (.ld (.t 103) 1 false),
     o1 105 (.bin .eql (.t 104) (.c (.int .u8 8))),
     m1 106 105,
     ⟨some 107,.mv (.t 11),some (106,true),[]⟩,
     ⟨some 108,.mv (.t 17),some (106,true),[]⟩,
     ⟨some 109,.ixs (.t 107) (.t 108) 1,some (106,true),[]⟩,
     ⟨some 110,.ld (.t 109) 1 false,some (106,true),[]⟩,
     ⟨some 111,.bin .eql (.t 110) (.c (.int .u8 0)),some (106,true),[]⟩,
     o1 112 (.pick (.t 106) (.t 111) (.c (.bool false))),
     m1 102 112])
     (.cond (.t 102)
     (.seq (.gh (.regd [0,1,2,3,4,5,7,8,6,9,10,11,12] [
      .op (m1 113 16),
      .op (o1 114 (.addo (.t 18) 3)),
      .op ⟨some 115,.ld (.t 114) 1 false,none,[1]⟩,
      .op (o1 116 (.addo (.t 18) 4)),
      .op ⟨some 117,.ld (.t 116) 1 false,none,[3]⟩,
      .op ⟨some 118,.build [.int .i64 0,.int .i64 0] [(0,1,.t 115),(1,1,.t 117)],none,[2,4]⟩,
      .op (o1 120 (.addo (.t 18) 6)),
      .op ⟨some 121,.ld (.t 120) 1 false,none,[7]⟩,
      .op ⟨some 119,.rv (Go.Op.lookup 75 (Go.Operand.tmp 113) (Go.Operand.tmp 118) Bool.false) [.t 113,.t 118],none,[0,5]⟩,
      .op ⟨some 122,.bin .sub (.t 119) (.t 121),none,[6,8]⟩] 0 2 [
      ⟨some 123,.rb (Go.Op.mapEntry 75 (Go.Operand.tmp 113) (Go.Operand.tmp 118)) (.t 113) [.t 118],none,[0,1,2,3,4,5,7,8]⟩,
      ⟨some 124,.ext (.t 123) 1,none,[10]⟩,
      ⟨none,.raw (Go.Op.entryStore 75 (Go.Operand.tmp 113) (Go.Operand.tmp 124) (Go.Operand.tmp 122)) 0,none,[0,1,2,3,4,5,6,7,8,9,10,11]⟩]))
      (.seq (.reg [
      m1 125 16,
      o1 126 (.addo (.t 18) 3),
      o1 127 (.ld (.t 126) 1 false),
      o1 128 (.addo (.t 18) 4),
      o1 129 (.ld (.t 128) 1 false),
      o1 130 (.build [.int .i64 0,.int .i64 0] [(0,1,.t 127),(1,1,.t 129)]),
      o1 131 (.raw (Go.Op.lookup 75 (Go.Operand.tmp 125) (Go.Operand.tmp 130) Bool.false) 3),
      o1 132 (.bin .lss (.t 131) (.c (.int .i64 0)))])
      (.cond (.t 132)
      (.seq (.reg [
       o1 8 (.mv (.c (.bool false)))])
       .ret)
      .skip)))
     (.seq (.reg [
      o1 134 (.addo (.t 18) 2),
      o1 135 (.ld (.t 134) 1 false),
      o1 136 (.bin .eql (.t 135) (.c (.int .u8 8))),
      m1 133 136])
      (.cond (.t 133)
      (.seq (.regd [0,1,2,3,4,5,6,7,8,9,10,11,12,13,14,15,16] [
       .op (m1 137 11),
       .op (m1 138 17),
       .op ⟨some 139,.ixs (.t 137) (.t 138) 1,none,[0,1]⟩,
       .op ⟨some 140,.ld (.t 139) 1 false,none,[2]⟩,
       .op ⟨some 141,.bin .neq (.t 140) (.c (.int .u8 5)),none,[3]⟩,
       .op ⟨some 142,.mv (.t 141),none,[4]⟩,
       .op ⟨some 143,.mv (.t 16),some (142,false),[5]⟩,
       .op ⟨some 144,.addo (.t 18) 3,some (142,false),[5]⟩,
       .op ⟨some 145,.ld (.t 144) 1 false,some (142,false),[5,7]⟩,
       .op ⟨some 146,.addo (.t 18) 4,some (142,false),[5]⟩,
       .op ⟨some 147,.ld (.t 146) 1 false,some (142,false),[5,9]⟩,
       .op ⟨some 148,.build [.int .i64 0,.int .i64 0] [(0,1,.t 145),(1,1,.t 147)],some (142,false),[5,8,10]⟩,
       .op ⟨some 149,.rv (Go.Op.lookup 75 (Go.Operand.tmp 143) (Go.Operand.tmp 148) Bool.false) [.t 143,.t 148],some (142,false),[5,6,11]⟩,
       .op ⟨some 150,.addo (.t 18) 6,some (142,false),[5]⟩,
       .op ⟨some 151,.ld (.t 150) 1 false,some (142,false),[5,13]⟩,
       .op ⟨some 152,.bin .geq (.t 149) (.t 151),some (142,false),[5,12,14]⟩,
       .op ⟨some 153,.pick (.t 142) (.c (.bool true)) (.t 152),none,[5,15]⟩] 0 0 [
])
 (.cond (.t 153)
 (.seq (.reg [
  o1 8 (.mv (.c (.bool false)))])
  .ret)
 .skip))
 (.reg [
  m1 82 15,
  o1 83 (.ld (.t 18) 8 true),
  o1 84 (.bsl 8 50 [.t 83]),
  o1 85 (.appm 8 64 50 (.t 82) (.t 84)),
  m1 15 85]))))))))))
 (.reg [
 o1 154 (.bin .add (.t 77) (.c (.int .i64 1))),
 m1 77 154])))))))
 (.gh (.seq (.regd [0,1,2,3,4,5,6,7,8,9,10,11,12,13,14,15,16,17,18,19,20,21,22,23] [
 .op (o1 155 (.addo (.t 4) 0)),
 .op ⟨some 156,.ld (.t 155) 1 false,none,[0]⟩,
 .op (m1 157 2),
 .op ⟨some 158,.conv .i64 (.t 157),none,[2]⟩,
 .op (o1 159 (.addo (.t 4) 0)),
 .op ⟨some 160,.ld (.t 159) 1 false,none,[4]⟩,
 .op ⟨some 161,.len (.t 160),none,[5]⟩,
 .op ⟨some 162,.div .rem (.t 158) (.t 161),none,[3,6]⟩,
 .op ⟨some 163,.ixs (.t 156) (.t 162) 3,none,[1,7]⟩,
 .op ⟨some 164,.addo (.t 163) 0,none,[8]⟩,
 .op ⟨some 165,.ld (.t 164) 1 false,none,[9]⟩,
 .op (o1 166 (.addo (.t 4) 0)),
 .op ⟨some 167,.ld (.t 166) 1 false,none,[11]⟩,
 .op (m1 168 3),
 .op ⟨some 169,.conv .i64 (.t 168),none,[13]⟩,
 .op (o1 170 (.addo (.t 4) 0)),
 .op ⟨some 171,.ld (.t 170) 1 false,none,[15]⟩,
 .op ⟨some 172,.len (.t 171),none,[16]⟩,
 .op ⟨some 173,.div .rem (.t 169) (.t 172),none,[14,17]⟩,
 .op ⟨some 174,.ixs (.t 167) (.t 173) 3,none,[12,18]⟩,
 .op ⟨some 175,.addo (.t 174) 0,none,[19]⟩,
 .op ⟨some 176,.ld (.t 175) 1 false,none,[20]⟩,
 .op ⟨some 19,.mv (.t 165),none,[0,1,2,3,4,5,6,7,8,9,10]⟩,
 .op ⟨some 20,.mv (.t 176),none,[0,1,2,3,4,5,6,7,8,9,10,11,12,13,14,15,16,17,18,19,20,21,22]⟩] 0 0 [
])
 (.seq (.reg [
 o1 178 (.ld (.t 4) 4 true),
 m1 179 1,
 m1 180 19,
 m1 181 20,
 o1 182 (.call 26 [.t 178,.t 179,.t 180,.t 181]),
 m1 177 182,
 o1 183 (.ext (.t 177) 0),
 o1 184 (.ext (.t 177) 1),
 m1 21 183,
 m1 22 184])
 (.seq (.seq (.reg [
 m1 185 19,
 m1 186 20,
 o1 187 (.bin .eql (.t 185) (.t 186))])
 (.cond (.t 187)
 (.seq (.reg [
  m1 188 22,
  o1 189 (.bin .neq (.t 188) (.c (.int .i64 2))),
  m1 190 189,
  ⟨some 191,.mv (.t 21),some (190,false),[]⟩,
  ⟨some 192,.bin .neq (.t 191) (.c (.int .i64 0)),some (190,false),[]⟩,
  o1 193 (.pick (.t 190) (.c (.bool true)) (.t 192))])
  (.cond (.t 193)
  (.seq (.reg [
   o1 8 (.mv (.c (.bool false)))])
   .ret)
  .skip))
 (.seq (.reg [
  m1 194 22,
  o1 195 (.bin .neq (.t 194) (.c (.int .i64 0))),
  m1 196 195,
  ⟨some 197,.mv (.t 21),some (196,false),[]⟩,
  ⟨some 198,.mv (.t 16),some (196,false),[]⟩,
  ⟨some 199,.mv (.t 19),some (196,false),[]⟩,
  ⟨some 200,.mv (.t 20),some (196,false),[]⟩,
  ⟨some 201,.build [.int .i64 0,.int .i64 0] [(0,1,.t 199),(1,1,.t 200)],some (196,false),[]⟩,
  ⟨some 202,.raw (Go.Op.lookup 75 (Go.Operand.tmp 198) (Go.Operand.tmp 201) Bool.false) 3,some (196,false),[]⟩,
  ⟨some 203,.bin .neq (.t 197) (.t 202),some (196,false),[]⟩,
  o1 204 (.pick (.t 196) (.c (.bool true)) (.t 203))])
  (.cond (.t 204)
  (.seq (.reg [
   o1 8 (.mv (.c (.bool false)))])
   .ret)
  .skip))))
 (.seq (.reg [
 o1 206 (.ld (.t 4) 4 true),
 m1 207 15,
 o1 208 (.call 29 [.t 206,.t 207]),
 m1 205 208,
 o1 209 (.ext (.t 205) 0),
 o1 210 (.ext (.t 205) 1),
 m1 23 209,
 m1 24 210])
 (.seq (.seq (.reg [
 m1 211 24,
 o1 212 (.bin .neq (.t 211) (.c (.int .i64 0))),
 m1 213 212,
 ⟨some 214,.mv (.t 23),some (213,false),[]⟩,
 ⟨some 215,.len (.t 214),some (213,false),[]⟩,
 ⟨some 216,.mv (.t 13),some (213,false),[]⟩,
 ⟨some 217,.len (.t 216),some (213,false),[]⟩,
 ⟨some 218,.bin .neq (.t 215) (.t 217),some (213,false),[]⟩,
 o1 219 (.pick (.t 213) (.c (.bool true)) (.t 218))])
 (.cond (.t 219)
 (.seq (.reg [
  o1 8 (.mv (.c (.bool false)))])
  .ret)
 .skip))
 (.seq (.seq (.reg [
 o1 220 (.addo (.t 4) 0),
 o1 221 (.ld (.t 220) 1 false),
 o1 222 (.len (.t 221)),
 o1 223 (.mv (.c (.int .i64 0)))])
 (.block 3 (.loop (.seq (.reg [
  o1 224 (.bin .lss (.t 223) (.t 222))])
  (.seq (.cond (.t 224)
  .skip
  (.exit 3))
  (.seq (.block 4 (.seq (.reg [
   m1 225 223,
   o1 226 (.ixs (.t 221) (.t 223) 3),
   o1 227 (.ld (.t 226) 3 true),
   o1 26 (.alloc [.int .i64 0,.int .i64 0,.int .i64 0] 64),
   m1 25 225,
   ⟨none,.st (.t 26) (.t 227) 3,none,[]⟩])
   (.seq (.reg [
   m1 228 23,
   m1 229 25,
   o1 230 (.ixs (.t 228) (.t 229) 1),
   o1 231 (.ld (.t 230) 1 false),
   m1 27 231])
   (.seq (.seq (.reg [
   o1 232 (.addo (.t 4) 0),
   o1 233 (.ld (.t 232) 1 false),
   o1 234 (.len (.t 233)),
   o1 235 (.mv (.c (.int .i64 0)))])
   (.block 5 (.loop (.seq (.reg [
    o1 236 (.bin .lss (.t 235) (.t 234))])
    (.seq (.cond (.t 236)
    .skip
    (.exit 5))
    (.seq (.block 6 (.seq (.reg [
     o1 237 (.ixs (.t 233) (.t 235) 3),
     o1 238 (.ld (.t 237) 3 true),
     o1 29 (.alloc [.int .i64 0,.int .i64 0,.int .i64 0] 64),
     ⟨none,.st (.t 29) (.t 238) 3,none,[]⟩])
     (.regd [0,1,2,3,4,5,6,7,8,9,10,11,12,13,14,15,16,17] [
     .op (m1 239 27),
     .op (m1 240 16),
     .op (o1 241 (.addo (.t 29) 0)),
     .op ⟨some 242,.ld (.t 241) 1 false,none,[2]⟩,
     .op (o1 243 (.addo (.t 26) 0)),
     .op ⟨some 244,.ld (.t 243) 1 false,none,[4]⟩,
     .op ⟨some 245,.build [.int .i64 0,.int .i64 0] [(0,1,.t 242),(1,1,.t 244)],none,[3,5]⟩,
     .op ⟨some 246,.rv (Go.Op.lookup 75 (Go.Operand.tmp 240) (Go.Operand.tmp 245) Bool.false) [.t 240,.t 245],none,[1,6]⟩,
     .op (m1 247 16),
     .op (o1 248 (.addo (.t 26) 0)),
     .op ⟨some 249,.ld (.t 248) 1 false,none,[9]⟩,
     .op (o1 250 (.addo (.t 29) 0)),
     .op ⟨some 251,.ld (.t 250) 1 false,none,[11]⟩,
     .op ⟨some 252,.build [.int .i64 0,.int .i64 0] [(0,1,.t 249),(1,1,.t 251)],none,[10,12]⟩,
     .op ⟨some 253,.rv (Go.Op.lookup 75 (Go.Operand.tmp 247) (Go.Operand.tmp 252) Bool.false) [.t 247,.t 252],none,[8,13]⟩,
     .op ⟨some 254,.bin .sub (.t 246) (.t 253),none,[7,14]⟩,
     .op ⟨some 255,.bin .add (.t 239) (.t 254),none,[0,15]⟩,
     .op ⟨some 27,.mv (.t 255),none,[0,1,2,3,4,5,6,7,8,9,10,11,12,13,14,15,16]⟩] 0 0 [
])))
 (.reg [
 o1 256 (.bin .add (.t 235) (.c (.int .i64 1))),
 m1 235 256])))))))
 (.gh (.seq (.reg [
 m1 257 27,
 m1 258 13,
 m1 259 25,
 o1 260 (.ixs (.t 258) (.t 259) 1),
 o1 261 (.ld (.t 260) 1 false),
 o1 262 (.bin .neq (.t 257) (.t 261))])
 (.cond (.t 262)
 (.seq (.reg [
  o1 8 (.mv (.c (.bool false)))])
  .ret)
 .skip)))))))
 (.gh (.reg [
 o1 263 (.bin .add (.t 223) (.c (.int .i64 1))),
 m1 223 263]))))))))
 (.gh (.seq (.reg [
 m1 264 9,
 m1 8 264])
 .ret))))))))))))))))))
def r15:List RV:=[.tmp 8]
theorem n15:Try.f15.ntmps=265:=by kernel_rfl
theorem b15:bodyB Try.prog 15=true:=by kernel_rfl
theorem c15_ok:cmpC Try.prog c15 ((Try.f15.body).getD .skip)=true:=by kernel_rfl
theorem r15_ok:cmpR Try.prog r15 Try.f15.results.toList=true:=by kernel_rfl
theorem t15 {args:List SV} {res:SV} (ka:KFL args) (kr:KF res) (h:sx Try.prog Y0 0 c15 (st0 args 265) (retK r15 res)) (hA:Nat.ble args.length 265=true:=by rfl):Ct Try.prog 15 args res:=ct_intro Try.func15 rfl b15 c15_ok r15_ok n15 (Nat.le_of_ble_eq_true hA) ka kr h
end Go.Proofs.Ythilckbkffjliaa
namespace Go.Sx
open Go Go.RowKit
theorem keyArr2 {P:Program} {kt t1:TypeId} (hu:P.underlying kt=some (.array 2 t1)) (hu1:P.underlying t1=some (.int .i64)) (hs:szOf P t1=some 1) (ha:agOf P t1=some false) (hag:agOf P kt=some true) (hq:eqT P 5 kt=some [1,1]) :
 KeyT P kt (fun n:Int × Int=>.agg #[.int .i64 n.1,.int .i64 n.2]) (fun n=>.agg [.v (.int .i64 n.1),.v (.int .i64 n.2)]):=by
 have he:∀ (a b c d:Int) (w:World),(Op.equal kt (.agg #[.int .i64 a,.int .i64 b]) (.agg #[.int .i64 c,.int .i64 d])).run P w = .ok (a == c && b == d) w:=fun a b c d w=>by
  obtain ⟨ag,g1,g2,g3⟩:=eqT_run 5 kt [1,1] hq 10000 (by decide)
  rw [hag] at g1
  cases g1
  exact g3 w [.int .i64 a,.int .i64 b] [.int .i64 c,.int .i64 d] (a == c && b == d) (by simp [eqLV,eqCV,eqA,kbq])
 refine ⟨fun em k w=>?_,fun k ks ys w h=>?_,fun k=>by simp [Instr.sameBits],fun k y=>?_⟩
 · have p1:(part t1 #[Value.int .i64 k.1,.int .i64 k.2] 0).run P w = .ok (.int .i64 k.1) w:=run_part (ag:=false) ha hs _ (fun _=>by simp)
   have p2:(part t1 #[Value.int .i64 k.1,.int .i64 k.2] 1).run P w = .ok (.int .i64 k.2) w:=run_part (ag:=false) ha hs _ (fun _=>by simp)
   have q:∀ x,(Instr.checkKey em 9999 t1 (.int .i64 x)).run P w = .ok () w:=fun x=>MapKept.run_checkKey hu1 (by simp [MapKept.IsKey]) em _
   rw [show (10000:Nat)=9999+1 from rfl,Instr.checkKey]
   simp [Sem.run_bind,run_underlying hu,run_sizeOf hs,p1,p2,q,Std.Legacy.Range.forIn_eq_forIn_range',Std.Legacy.Range.size,List.range']
 · rw [run_findKey_eq w (by rw [hu])]
   have:∀ (ks:List (Int × Int)) (ys:List MapEntry) (i:Nat),ys.map (·.key)=ks.map (fun n:Int × Int=>Value.agg #[.int .i64 n.1,.int .i64 n.2])→(Instr.findAsking kt (.agg #[.int .i64 k.1,.int .i64 k.2]) ys i).run P w = .ok (fI k ks ys i) w:=by
    intro ks ys
    induction ys generalizing ks with
    | nil=>intro i h;cases ks with
     | nil=>rfl
     | cons a b=>simp at h
    | cons e ys ih=>intro i h;cases ks with
     | nil=>simp at h
     | cons a b =>
      simp only [List.map_cons,List.cons.injEq] at h
      simp only [Instr.findAsking,h.1,Sem.run_bind,he,Result.andThen_ok,fI]
      by_cases hak:a=k
      · subst hak;simp
      · have:(k.1 == a.1 && k.2 == a.2)=false:=by
         rw [Bool.eq_false_iff];intro hh
         simp only [Bool.and_eq_true,beq_iff_eq] at hh
         exact hak (Prod.ext hh.1.symm hh.2.symm)
        simp [this,hak,ih b (i+1) h.2]
   exact this ks ys 0 h
 · simp only [R,RL]
   constructor
   · rintro ⟨cs,rfl,y1,r,hcs,rfl,y2,r2,rfl,rfl,rfl⟩
     simp only [Value.agg.injEq]
     apply Array.toList_inj.1;simp [hcs]
   · rintro rfl
     exact ⟨_,rfl,_,_,rfl,rfl,_,_,rfl,rfl,rfl⟩
section
variable {P:Program} {K' V:Type} [DecidableEq K'] {key:K'→Value} {sv:K'→SV} {val:V→SV} {L:List (Nat × K' × V)} {km c:Nat} {kt et t ty:TypeId} {mx ix:Operand} {σ : St} {r:KT} {K:RK} {d:Option Nat} {k:K'}
theorem raw_get1 {v0 e:V} {z:Value} (hm:oprS σ mx = .mp km) (hh:lkh km σ.hp = .map (mpS key val L) c) (ht:P.underlying t=some (.map kt et)) (hK:KeyT P kt key sv) (hi:oprS σ ix=sv k)
 (hz:zeroOf P et=some z) (hzR:∀ w E n ok,R w E n ok (val v0) z) (hd:(mget k L).getD v0=e) (h:putK d (val e) none σ r K):RAW P d (.lookup t mx ix false) ty σ r K:=by
 refine raw_get (ok:=false) (zs:=val v0) hm hh ht hK hi hz hzR (fun v hg=>?_) (fun hg=>?_)
 · rw [hg] at hd;cases hd;exact h
 · rw [hg] at hd;cases hd;exact h
end
end Go.Sx
set_option maxRecDepth 100000
set_option maxHeartbeats 8000000
namespace Go.Azalai
open Go.Sx
structure PreD (p:Pact) (X:List Letter) (j:Nat) (L:List (Nat × (Int × Int) × Int)) (cb:Nat) (F:List Letter):Prop where
 mw:MW L cb
 db:∀ x y,(mget (x,y) L).getD 0=(runF p co0 (X.take j)).debts x y
 nn:∀ x y,0≤(runF p co0 (X.take j)).debts x y
 fw:F=(X.take j).filter fun x=>!isDebt x
theorem PreD.start (p:Pact) (X:List Letter):PreD p X 0 [] 0 []:=⟨MW.nil,fun x y=>rfl,fun x y=>by simp [runF,co0],rfl⟩
theorem get_upd2 {L:List (Nat × (Int × Int) × Int)} {D:Int→Int→Int} {a b v:Int} {c:Nat} (h:∀ x y,(mget (x,y) L).getD 0=D x y) (x y:Int):(mget (x,y) (mset c (a,b) v L)).getD 0=upd D a (upd (D a) b v) x y:=by
 rw [mget_set]
 by_cases hx:x=a
 · subst hx
   by_cases hy:y=b
   · subst hy;simp [upd]
   · rw [if_neg (by simp [hy]),h];simp [upd,hy]
 · rw [if_neg (by simp [hx]),h];simp [upd,hx]
theorem PreD.step {p:Pact} {X:List Letter} {j:Nat} {L:List (Nat × (Int × Int) × Int)} {cb:Nat} {F:List Letter} (h:PreD p X j L cb F) (hj:j < X.length) {L':List (Nat × (Int × Int) × Int)} {cb':Nat}
 (hm:MW L' cb') (hd:∀ x y,(mget (x,y) L').getD 0=owesD (runF p co0 (X.take j)).debts X[j] (stepF p (runF p co0 (X.take j)) X[j]).2 x y) (h0:∀ x y,0≤owesD (runF p co0 (X.take j)).debts X[j] (stepF p (runF p co0 (X.take j)) X[j]).2 x y) :
 PreD p X (j+1) L' cb' (F ++ if isDebt X[j]=true then [] else [X[j]]):=by
 have e:(runF p co0 (X.take (j+1))).debts=owesD (runF p co0 (X.take j)).debts X[j] (stepF p (runF p co0 (X.take j)) X[j]).2:=by rw [run_take hj];exact owes_step.1
 refine ⟨hm,fun x y=>by rw [e];exact hd x y,fun x y=>by rw [e];exact h0 x y,?_⟩
 rw [h.fw,List.take_succ_eq_append_getElem hj,List.filter_append]
 by_cases q:isDebt X[j]=true
 · simp [q]
 · simp [q]
theorem bad_two {p:Pact} {x y:Partner} (hx:x ∈ p.partners) (hy:y ∈ p.partners):badWho p x.id y.id=decide (x.id=y.id):=by
 have h1:atP p x.id=true:=by simp only [atP,List.any_eq_true,decide_eq_true_eq];exact ⟨x,hx,rfl⟩
 have h2:atP p y.id=true:=by simp only [atP,List.any_eq_true,decide_eq_true_eq];exact ⟨y,hy,rfl⟩
 simp [badWho,h1,h2]
theorem debts_at {p:Pact} {X F:List Letter} (hF:F=X.filter fun x=>!isDebt x) {i:Nat} (hi:i < p.partners.length) (h1:i < (settleF p X).length:=by omega) (h2:i < (settleF p F).length:=by omega) :
 (settleF p X)[i]=(settleF p F)[i]+sumL (p.partners.map fun y=>(runF p co0 X).debts y.id p.partners[i].id - (runF p co0 X).debts p.partners[i].id y.id):=by
 have h:=debts_has (p:=p) (X:=X) (List.getElem?_eq_getElem hi)
 rw [← hF,List.getElem?_eq_getElem h1,List.getElem?_eq_getElem h2] at h
 simpa [owedF] using h
theorem owe_sum {P:List Partner} {D:Int→Int→Int} {a v:Int} (hD:∀ x y,-10000000000≤D x y∧D x y≤10000000000) (h8:P.length≤8) (hv:-10000000000000≤v∧v≤10000000000000) :
 ∃ f:Nat→Int,f 0=v∧(∀ k (h:k < P.length),f (k+1)=f k+(D P[k].id a - D a P[k].id))∧(∀ k,-20000000000000≤f k∧f k≤20000000000000)∧f P.length=v+sumL (P.map fun y=>D y.id a - D a y.id):=by
 refine ⟨fun k=>v+sumL ((P.take k).map fun y=>D y.id a - D a y.id),by simp [sumL],fun k h=>?_,fun k=>?_,by simp⟩
 · simp only [sumL_take h];omega
 · have:=sumL_abs (b:=20000000000) (l:=(P.take k).map fun y=>D y.id a - D a y.id) fun z hz=>by
    obtain ⟨y,_,rfl⟩:=List.mem_map.1 hz
    have h1:=hD y.id a;have h2:=hD a y.id
    omega
   have hl:((P.take k).map fun y=>D y.id a - D a y.id).length≤8:=by simp;omega
   simp only
   omega
end Go.Azalai
namespace Go.Proofs.Ythilckbkffjliaa
open Go Go.Sx Go.Azalai
theorem u75:Try.prog.underlying 75=some (.map 76 3):=by kernel_rfl
theorem key76:KeyT Try.prog 76 (fun n:Int × Int=>.agg #[.int .i64 n.1,.int .i64 n.2]) (fun n=>.agg [.v (.int .i64 n.1),.v (.int .i64 n.2)]):=keyArr2 (by kernel_rfl) u3 (by kernel_rfl) (by kernel_rfl) (by kernel_rfl) (by kernel_rfl)
theorem debts_ok (p:Pact) (l:List Letter) (w v:Int) (hw:0≤w∧w < 256) (hv:0≤v∧v < 256) (c:Bool):Ct Try.prog 15 [.agg (pactL p),.sl c 8 (l.map letterL),U8 w,U8 v] (B true):=by
 refine t15 (by simp [pactL,partnerL,letterL,KFR_iff,KFL,KF]) (by simp [KFL,KF]) ?_
 obtain ⟨wn,rfl⟩:=Int.eq_ofNat_of_zero_le hw.1
 obtain ⟨vn,rfl⟩:=Int.eq_ofNat_of_zero_le hv.1
 dsimp only [c15,r15,pactL,go_sem,rA,rM,rS]
 refine call alive_ok ?_
 dsimp only [go_sem,rA,rM,rS]
 refine call (readyA_ok p l c) ?_
 dsimp only [go_sem,rA,rM,rS]
 by_cases hr:readyF p l=true
 case neg =>
  rw [Bool.not_eq_true] at hr
  rw [hr]
  repeat (refine gb_skip (by decide) ?_;dsimp only [go_sem,rA,rM,rS])
  refine br_t rfl ?_
  dsimp only [go_sem,rA,rM,rS]
 rw [hr]
 obtain ⟨hs,hl,h0⟩:=readyF_t hr
 obtain ⟨hp,-,hok,h2⟩:=readE_0 h0
 repeat (refine gb_run rfl ?_;dsimp only [go_sem,rA,rM,rS])
 refine br_f rfl ?_
 dsimp only [go_sem,rA,rM,rS]
 refine call (Read_ok p l hs (by omega) c) ?_
 dsimp only [go_sem,rA,rM,rS]
 refine call (settle_ok p l hs (by omega) c) ?_
 dsimp only [go_sem,rA,rM,rS]
 have hX:=readL_ok h0
 have hrl:=readL_len (p:=p) (l:=l)
 have e1:readR p l=readL p l:=by rw [readR,if_pos h0]
 have e2:whyRR p l=whyL p co0 (readL p l):=by rw [whyRR,if_pos h0]
 have e3:settleR p l=settleF p (readL p l):=by rw [settleR,if_pos h0]
 have e4:∀ a b,owedR p l a b=if badWho p a b=false then (runF p co0 (readL p l)).debts a b else 0:=fun a b=>by simp [owedR,h0]
 have e5:∀ a b,owedE p l a b=if badWho p a b=true then 2 else 0:=fun a b=>by simp [owedE,h0]
 have hwl:=whyL_len (p:=p) (l:=readL p l) (c:=co0)
 have hsl:(settleF p (readL p l)).length=p.partners.length:=hasF_len
 have hsb:=settle_bd hp hX (by omega)
 have hsub:=fun {few:List Letter} (h:few.Sublist (readL p l))=>read_sub h0 h
 have h8:=(okPact_all hp).2.2.2.2.2.2
 have h1p:=(okPact_all hp).2.2.2.2.2.1
 have hbd:=fun (j:Nat)=>Bd.run hp Bd.co0 (l:=(readL p l).take j) fun x hx=>hX x (List.mem_of_mem_take hx)
 rw [e1,e2,e3,h0]
 generalize readL p l=X at *
 repeat (refine gb ?_;dsimp only [go_sem,rA,rM,rS])
 simp only [List.length_map]
 refine br_f (by simp [hwl,hsl]) ?_
 dsimp only [go_sem,rA,rM,rS]
 refine raw_mkmap rfl rfl rfl ?_
 dsimp only [go_sem,rA,rM,rS]
 simp only [List.length_map]
 refine loopG (ent_nilslot 15 8 50 rfl rfl) (fun s:Nat × List (Nat × (Int × Int) × Int) × Nat × List Letter=>[(77,I (s.1:Nat)),(15,.mr 2 s.2.2.2.length)]) (fun s=>[(1,.map (mpS kP intV s.2.1) s.2.2.1),(2,.row s.2.2.2.length 8 (s.2.2.2.map letterL) 50)]) (fun s=>s.1≤X.length∧s.2.2.2.length≤s.1∧PreD p X s.1 s.2.1 s.2.2.1 s.2.2.2) (fun s=>X.length - s.1) (0,[],0,[]) ⟨Nat.zero_le _,Nat.le_refl _,PreD.start p X⟩ ?_ ?_
 · (refine ent_id ?_ ?_ ?_ rfl rfl<;>dsimp only [pactL,partnerL,letterL,u8L,intL,mpS,id,go_sem,rA,rM,rS]<;>simp [pactL,partnerL,letterL,u8L,intL,mpS,KFR_iff,KFR_app,KFR,KFL,KF,mtL_same,mtO,nbr])
 rintro ⟨j,L,cb,F⟩ ⟨hj,hF,hD⟩
 simp only at hj hF hD
 dsimp only [go_sem,rA,rM,rS]
 by_cases hlt:j < X.length
 · refine br_t (by simpa using hlt) ?_
   dsimp only [go_sem,rA,rM,rS]
   refine ixs_map j hlt rfl ?_
   dsimp only [letterL,go_sem,rA,rM,rS]
   have hx:=hX _ (List.getElem_mem hlt)
   have hjW:j < (whyL p co0 X).length:=by omega
   have hwj:=why_at (p:=p) hlt co0
   have hb:=(hbd j).bb X[j].who X[j].other
   have hjl:(X.take j).length≤100:=by simp;omega
   have hv0:(runF p co0 (X.take j)).debts X[j].who X[j].other=(mget (X[j].who,X[j].other) L).getD 0:=(hD.db _ _).symm
   have hnn:=hD.nn X[j].who X[j].other
   have hstep:=fun {L':List (Nat × (Int × Int) × Int)} {cb':Nat} hm hd h0=>PreD.step hD hlt (L':=L') (cb':=cb') hm hd h0
   have how:=(owes_step (p:=p) (c:=runF p co0 (X.take j)) (x:=X[j])).2
   have hru:isDebt X[j]=true→0≤X[j].rials∧X[j].rials≤10000000:=fun q=>by
    simp only [isDebt,decide_eq_true_eq] at q
    rcases q with k | k<;>simp only [okLetter,k,Bool.and_eq_true] at hx<;>simp [inR] at hx<;>omega
   have hdn:=hD.nn
   have hdd:=hD.db
   have hmw:=hD.mw
   generalize hcj:runF p co0 (X.take j)=cj at *
   by_cases k7:X[j].kind=7
   · have hq:isDebt X[j]=true:=by simp [isDebt,k7]
     have hri:=hru hq
     have hod:owesD cj.debts X[j] (stepF p cj X[j]).2=upd cj.debts X[j].who (upd (cj.debts X[j].who) X[j].other (cj.debts X[j].who X[j].other+X[j].rials)):=by simp only [owesD,k7,if_true]
     refine br_t (by simp [k7]) ?_
     dsimp only [go_sem,rA,rM,rS]
     refine gh (ent_pend (km:=1) (key:=kP) (val:=intV) (L:=L) (c:=cb) (k:=(X[j].who,X[j].other)) (v0:=cj.debts X[j].who X[j].other) rfl (debts_kf _)) ?_
     dsimp only [go_sem,rA,rM,rS]
     refine ⟨_,rv_getp (P:=Try.prog) (t:=75) (i:=90) (j:=95) (sv:=sP) (v:=0) hv0 rfl rfl (debts_kf _) trivial rfl u75 key76 zero3 iz_R,?_⟩
     dsimp only [intV,go_sem,rA,rM,rS]
     rw [w64_in (n:=cj.debts X[j].who X[j].other+X[j].rials) (by omega) (by omega)]
     refine ⟨1,_,_,rfl,wk_pend rfl (debts_kf _) trivial,rb_entry (P:=Try.prog) (t:=75) (i:=90) (j:=95) (sv:=sP) (v:=0) hv0 rfl rfl (debts_kf _) trivial rfl u75 key76 zero3 iz_R,?_⟩
     dsimp only [intV,go_sem,rA,rM,rS]
     refine raw_estore (key:=kP) (val:=intV) (L:=L) (k:=(X[j].who,X[j].other)) (c:=cb) (v0:=cj.debts X[j].who X[j].other) (v:=cj.debts X[j].who X[j].other+X[j].rials) rfl rfl rfl hmw rfl (fun _ _ _ e=>by cases e) ?_
     dsimp only [go_sem,rA,rM,rS]
     rw [w64_in (n:=(j:Int)+1) (by omega) (by omega)]
     have hst:=hstep (L':=mset cb (X[j].who,X[j].other) (cj.debts X[j].who X[j].other+X[j].rials) L) (cb':=mclk cb (X[j].who,X[j].other) L) (hmw.set _) (fun x y=>by rw [hod];exact get_upd2 hdd x y) (fun x y=>by
      rw [hod];simp only [upd]
      have:=hdn x y
      split
      · simp only [upd];split
        · omega
        · exact hdn _ _
      · exact this)
     rw [if_pos hq,List.append_nil] at hst
     refine ⟨(j+1,mset cb (X[j].who,X[j].other) (cj.debts X[j].who X[j].other+X[j].rials) L,mclk cb (X[j].who,X[j].other) L,F),⟨hlt,by simp only;omega,hst⟩,by simp only;omega,?_⟩
     (refine ent_id ?_ ?_ ?_ rfl rfl<;>dsimp only [pactL,partnerL,letterL,u8L,intL,intV,mpS_kf3,id,go_sem,rA,rM,rS]<;>simp [pactL,partnerL,letterL,u8L,intL,intV,mpS_kf3,KFR_iff,KFR_app,KFR,KFL,KF,mtL_same,mtO,nbr])
   refine br_f (by simp [k7]) ?_
   dsimp only [go_sem,rA,rM,rS]
   repeat (refine gb ?_;dsimp only [go_sem,rA,rM,rS])
   refine ixs_v j (u8L (whyL p co0 X)[j]) rfl (fun _=>⟨rfl,by simp [hjW]⟩) ?_
   dsimp only [u8L,go_sem,rA,rM,rS]
   repeat (refine gb ?_;dsimp only [go_sem,rA,rM,rS])
   rw [hwj]
   by_cases k8:X[j].kind=8
   · have hq:isDebt X[j]=true:=by simp [isDebt,k8]
     have hri:=hru hq
     rcases how k8 with ⟨w0,hle⟩ | ⟨w5,hgt⟩
     · have hod:owesD cj.debts X[j] (stepF p cj X[j]).2=upd cj.debts X[j].who (upd (cj.debts X[j].who) X[j].other (cj.debts X[j].who X[j].other - X[j].rials)):=by simp [owesD,k8,w0]
       refine br_t (by simp [k8,w0]) ?_
       dsimp only [go_sem,rA,rM,rS]
       refine gh (ent_pend (km:=1) (key:=kP) (val:=intV) (L:=L) (c:=cb) (k:=(X[j].who,X[j].other)) (v0:=cj.debts X[j].who X[j].other) rfl (debts_kf _)) ?_
       dsimp only [go_sem,rA,rM,rS]
       refine ⟨_,rv_getp (P:=Try.prog) (t:=75) (i:=113) (j:=118) (sv:=sP) (v:=0) hv0 rfl rfl (debts_kf _) trivial rfl u75 key76 zero3 iz_R,?_⟩
       dsimp only [intV,go_sem,rA,rM,rS]
       rw [w64_in (n:=cj.debts X[j].who X[j].other - X[j].rials) (by omega) (by omega)]
       refine ⟨1,_,_,rfl,wk_pend rfl (debts_kf _) trivial,rb_entry (P:=Try.prog) (t:=75) (i:=113) (j:=118) (sv:=sP) (v:=0) hv0 rfl rfl (debts_kf _) trivial rfl u75 key76 zero3 iz_R,?_⟩
       dsimp only [intV,go_sem,rA,rM,rS]
       refine raw_estore (key:=kP) (val:=intV) (L:=L) (k:=(X[j].who,X[j].other)) (c:=cb) (v0:=cj.debts X[j].who X[j].other) (v:=cj.debts X[j].who X[j].other - X[j].rials) rfl rfl rfl hmw rfl (fun _ _ _ e=>by cases e) ?_
       dsimp only [go_sem,rA,rM,rS]
       have hst:=hstep (L':=mset cb (X[j].who,X[j].other) (cj.debts X[j].who X[j].other - X[j].rials) L) (cb':=mclk cb (X[j].who,X[j].other) L) (hmw.set _) (fun x y=>by rw [hod];exact get_upd2 hdd x y) (fun x y=>by
        rw [hod];simp only [upd]
        have:=hdn x y
        split
        · simp only [upd];split
          · omega
          · exact hdn _ _
        · exact this)
       rw [if_pos hq,List.append_nil] at hst
       have hgl:mget (X[j].who,X[j].other) (mset cb (X[j].who,X[j].other) (cj.debts X[j].who X[j].other - X[j].rials) L)=some (cj.debts X[j].who X[j].other - X[j].rials):=by rw [mget_set,if_pos rfl]
       generalize hL1:mset cb (X[j].who,X[j].other) (cj.debts X[j].who X[j].other - X[j].rials) L=L1 at *
       refine raw_get (key:=kP) (val:=intV) (sv:=sP) (L:=L1) (k:=(X[j].who,X[j].other)) (zs:=intV 0) rfl rfl u75 key76 rfl zero3 iz_R (fun vv hg=>?_) (fun hg=>?_)
       case refine_2=>rw [hgl] at hg;cases hg
       rw [hgl] at hg
       cases hg
       dsimp only [intV,go_sem,rA,rM,rS]
       refine br_f (by simp;omega) ?_
       dsimp only [go_sem,rA,rM,rS]
       rw [w64_in (n:=(j:Int)+1) (by omega) (by omega)]
       refine ⟨(j+1,L1,mclk cb (X[j].who,X[j].other) L,F),⟨hlt,by simp only;omega,hst⟩,by simp only;omega,?_⟩
       (refine ent_id ?_ ?_ ?_ rfl rfl<;>dsimp only [pactL,partnerL,letterL,u8L,intL,intV,mpS_kf3,id,go_sem,rA,rM,rS]<;>simp [pactL,partnerL,letterL,u8L,intL,intV,mpS_kf3,KFR_iff,KFR_app,KFR,KFL,KF,mtL_same,mtO,nbr])
     · have hod:owesD cj.debts X[j] (stepF p cj X[j]).2=cj.debts:=by simp [owesD,k8,w5]
       refine br_f (by simp [k8,w5]) ?_
       dsimp only [go_sem,rA,rM,rS]
       refine br_t (by simp [k8]) ?_
       dsimp only [go_sem,rA,rM,rS]
       refine ixs_map j hjW rfl ?_
       dsimp only [u8L,go_sem,rA,rM,rS]
       rw [hwj,w5]
       repeat (refine gb_run rfl ?_;dsimp only [go_sem,rA,rM,rS])
       refine ⟨_,rv_get (P:=Try.prog) (t:=75) (i:=143) (j:=148) (ok:=false) (km:=1) (c:=cb) (key:=kP) (val:=intV) (sv:=sP) (L:=L) (k:=(X[j].who,X[j].other)) (zs:=intV 0) rfl rfl rfl u75 key76 zero3 iz_R,?_⟩
       rw [show lkS false intV (intV 0) (mget (X[j].who,X[j].other) L)=intV (cj.debts X[j].who X[j].other) from by rw [hv0];cases mget (X[j].who,X[j].other) L<;>rfl]
       dsimp only [intV,go_sem,rA,rM,rS]
       repeat (refine gb_run rfl ?_;dsimp only [go_sem,rA,rM,rS])
       refine br_f (by simp;omega) ?_
       dsimp only [go_sem,rA,rM,rS]
       rw [w64_in (n:=(j:Int)+1) (by omega) (by omega)]
       have hst:=hstep (L':=L) (cb':=cb) hmw (fun x y=>by rw [hod];exact hdd x y) (fun x y=>by rw [hod];exact hdn x y)
       rw [if_pos hq,List.append_nil] at hst
       refine ⟨(j+1,L,cb,F),⟨hlt,by simp only;omega,hst⟩,by simp only;omega,?_⟩
       (refine ent_id ?_ ?_ ?_ rfl rfl<;>dsimp only [pactL,partnerL,letterL,u8L,intL,intV,mpS_kf3,id,go_sem,rA,rM,rS]<;>simp [pactL,partnerL,letterL,u8L,intL,intV,mpS_kf3,KFR_iff,KFR_app,KFR,KFL,KF,mtL_same,mtO,nbr])
   · have hq:¬ isDebt X[j]=true:=by simp [isDebt,k7,k8]
     have hod:owesD cj.debts X[j] (stepF p cj X[j]).2=cj.debts:=by simp [owesD,k7,k8]
     refine br_f (by simp [k8]) ?_
     dsimp only [go_sem,rA,rM,rS]
     refine br_f (by simp [k8]) ?_
     (repeat first | dsimp only [go_sem,rA,rM,rS] | simp only [nbr])
     refine ⟨by simp [allOne,oneS,oneV],by simp;omega,?_⟩
     (repeat first | dsimp only [go_sem,rA,rM,rS] | simp only [nbr])
     have q1:F.map letterL ++ [[I X[j].id,I X[j].day,U8 X[j].kind,I X[j].who,I X[j].other,I X[j].animal,I X[j].rials,B X[j].mouth]]=(F ++ [X[j]]).map letterL:=by rw [List.map_append];rfl
     have hst:=hstep (L':=L) (cb':=cb) hmw (fun x y=>by rw [hod];exact hdd x y) (fun x y=>by rw [hod];exact hdn x y)
     rw [if_neg hq] at hst
     rw [q1,w64_in (n:=(j:Int)+1) (by omega) (by omega)]
     refine ⟨(j+1,L,cb,F ++ [X[j]]),⟨hlt,by simp;omega,hst⟩,by simp only;omega,?_⟩
     (refine ent_id ?_ ?_ ?_ rfl rfl<;>dsimp only [pactL,partnerL,letterL,u8L,intL,intV,mpS_kf3,id,go_sem,rA,rM,rS]<;>simp [pactL,partnerL,letterL,u8L,intL,intV,mpS_kf3,KFR_iff,KFR_app,KFR,KFL,KF,mtL_same,mtO,nbr])
 refine br_f (by simpa using hlt) ?_
 dsimp only [go_sem,rA,rM,rS]
 have hje:j=X.length:=by omega
 subst hje
 have hdd:=hD.db
 have hfw:=hD.fw
 rw [List.take_length] at hdd hfw
 refine gh (ent_frz 15 2 F.length rfl rfl rfl rfl) ?_
 dsimp only [go_sem,rA,rM,rS]
 simp only [List.length_map]
 have hpn:1≤p.partners.length:=h1p
 rw [w64_in (n:=(wn:Int)) (by omega) (by omega)]
 refine div0 (by omega) ?_
 dsimp only [divr,go_sem,rA,rM,rS]
 rw [nat_tmod]
 have hka:wn % p.partners.length < p.partners.length:=Nat.mod_lt _ (by omega)
 generalize wn % p.partners.length=ka at *
 refine ixs_map ka hka rfl ?_
 dsimp only [partnerL,go_sem,rA,rM,rS]
 try simp only [List.length_map]
 rw [w64_in (n:=(vn:Int)) (by omega) (by omega)]
 refine div0 (by omega) ?_
 dsimp only [divr,go_sem,rA,rM,rS]
 rw [nat_tmod]
 have hkb:vn % p.partners.length < p.partners.length:=Nat.mod_lt _ (by omega)
 generalize vn % p.partners.length=kb at *
 refine ixs_map kb hkb rfl ?_
 dsimp only [partnerL,go_sem,rA,rM,rS]
 have hbw:=bad_two (p:=p) (List.getElem_mem hka) (List.getElem_mem hkb)
 generalize p.partners[ka].id=A at *
 generalize p.partners[kb].id=B at *
 refine call (owed_ok p l A B hs (by omega) c) ?_
 dsimp only [go_sem,rA,rM,rS]
 rw [e4,e5,hbw]
 have hfsub:F.Sublist X:=by rw [hfw];exact List.filter_sublist
 have hfs:=hsub hfsub
 have hFX:∀ x ∈ F,okLetter p x=true:=fun x hx=>hX x (hfsub.subset hx)
 have hFl:F.length≤100:=by have:=hfsub.length_le;omega
 have hsf:=settle_bd hp hFX (by omega)
 have hfl:(settleF p F).length=p.partners.length:=hasF_len
 have hset:=fun (i:Nat) (hi:i < p.partners.length)=>debts_at (p:=p) (X:=X) (F:=F) hfw hi
 have hBX:Bd X.length (runF p co0 X):=by have:=hbd X.length;rw [List.take_length,Nat.zero_add] at this;exact this
 have hDb:∀ x y,-10000000000≤(runF p co0 X).debts x y∧(runF p co0 X).debts x y≤10000000000:=fun x y=>by
  have:=hBX.bb x y;omega
 generalize (runF p co0 X).debts=D at *
 by_cases hAB:A=B
 case' pos =>
  refine br_t (by simp [hAB]) ?_
  dsimp only [go_sem,rA,rM,rS]
  rw [show (decide (A=B))=true from by simp [hAB]]
  repeat (refine gb ?_;dsimp only [go_sem,rA,rM,rS])
  refine br_f (by simp) ?_
  dsimp only [go_sem,rA,rM,rS]
 case' neg =>
  refine br_f (by simp [hAB]) ?_
  dsimp only [go_sem,rA,rM,rS]
  rw [show (decide (A=B))=false from by simp [hAB]]
  repeat (refine gb_run rfl ?_;dsimp only [go_sem,rA,rM,rS])
  refine raw_get1 (key:=kP) (val:=intV) (sv:=sP) (L:=L) (k:=(A,B)) (v0:=(0:Int)) (e:=D A B) rfl rfl u75 key76 rfl zero3 iz_R (hdd A B) ?_
  dsimp only [intV,go_sem,rA,rM,rS]
  repeat (refine gb_run rfl ?_;dsimp only [go_sem,rA,rM,rS])
  refine br_f (by simp) ?_
  dsimp only [go_sem,rA,rM,rS]
 all_goals (
  refine call (settle_ok p F hs (by omega) false) ?_
  dsimp only [go_sem,rA,rM,rS]
  rw [settleR_of hfs,hfs.1]
  repeat (refine gb_run rfl ?_;dsimp only [go_sem,rA,rM,rS])
  try simp only [List.length_map]
  refine br_f (by simp [hsl,hfl]) ?_
  dsimp only [go_sem,rA,rM,rS]
  try simp only [List.length_map]
  refine loopO (fun s:Nat=>[(223,I (s:Nat))]) (fun _=>[]) (fun s=>s≤p.partners.length) (fun s=>p.partners.length - s) 0 (Nat.zero_le _) ?_ ?_
  · (refine ent_id ?_ ?_ ?_ rfl rfl<;>dsimp only [pactL,partnerL,letterL,u8L,intL,intV,mpS_kf3,id,go_sem,rA,rM,rS]<;>simp [pactL,partnerL,letterL,u8L,intL,intV,mpS_kf3,KFR_iff,KFR_app,KFR,KFL,KF,mtL_same,mtO,nbr])
  intro i hi
  dsimp only [go_sem,rA,rM,rS]
  by_cases hlti:i < p.partners.length
  · refine br_t (by simpa using hlti) ?_
    dsimp only [go_sem,rA,rM,rS]
    refine ixs_map i hlti rfl ?_
    dsimp only [partnerL,go_sem,rA,rM,rS]
    have hiF:i < (settleF p F).length:=by omega
    have hiX:i < (settleF p X).length:=by omega
    refine ixs_map i hiF rfl ?_
    dsimp only [intL,go_sem,rA,rM,rS]
    try simp only [List.length_map]
    have hX1:=hset i hlti
    obtain ⟨f,f0,f1,fb,fn⟩:=owe_sum (P:=p.partners) (D:=D) (a:=p.partners[i].id) (v:=(settleF p F)[i]) hDb h8 (hsf _ (List.getElem_mem hiF))
    rw [← hX1] at fn
    refine loopO (fun s:Nat=>[(235,I (s:Nat)),(27,I (f s))]) (fun _=>[]) (fun s=>s≤p.partners.length) (fun s=>p.partners.length - s) 0 (Nat.zero_le _) ?_ ?_
    · (refine ent_id ?_ ?_ ?_ rfl rfl<;>dsimp only [pactL,partnerL,letterL,u8L,intL,intV,mpS_kf3,f0,id,go_sem,rA,rM,rS]<;>simp [pactL,partnerL,letterL,u8L,intL,intV,mpS_kf3,f0,KFR_iff,KFR_app,KFR,KFL,KF,mtL_same,mtO,nbr])
    intro k hk
    dsimp only [go_sem,rA,rM,rS]
    by_cases hltk:k < p.partners.length
    · refine br_t (by simpa using hltk) ?_
      dsimp only [go_sem,rA,rM,rS]
      refine ixs_map k hltk rfl ?_
      dsimp only [partnerL,go_sem,rA,rM,rS]
      refine ⟨_,rv_get (P:=Try.prog) (t:=75) (i:=240) (j:=245) (ok:=false) (km:=1) (c:=cb) (key:=kP) (val:=intV) (sv:=sP) (L:=L) (k:=(p.partners[k].id,p.partners[i].id)) (zs:=intV 0) rfl rfl rfl u75 key76 zero3 iz_R,?_⟩
      rw [show lkS false intV (intV 0) (mget (p.partners[k].id,p.partners[i].id) L)=intV (D p.partners[k].id p.partners[i].id) from by rw [← hdd];cases mget (p.partners[k].id,p.partners[i].id) L<;>rfl]
      dsimp only [intV,go_sem,rA,rM,rS]
      refine ⟨_,rv_get (P:=Try.prog) (t:=75) (i:=247) (j:=252) (ok:=false) (km:=1) (c:=cb) (key:=kP) (val:=intV) (sv:=sP) (L:=L) (k:=(p.partners[i].id,p.partners[k].id)) (zs:=intV 0) rfl rfl rfl u75 key76 zero3 iz_R,?_⟩
      rw [show lkS false intV (intV 0) (mget (p.partners[i].id,p.partners[k].id) L)=intV (D p.partners[i].id p.partners[k].id) from by rw [← hdd];cases mget (p.partners[i].id,p.partners[k].id) L<;>rfl]
      dsimp only [intV,go_sem,rA,rM,rS]
      have d1:=hDb p.partners[k].id p.partners[i].id
      have d2:=hDb p.partners[i].id p.partners[k].id
      have d3:=fb k
      have d4:=f1 k hltk
      have d5:=fb (k+1)
      rw [w64_in (n:=D p.partners[k].id p.partners[i].id - D p.partners[i].id p.partners[k].id) (by omega) (by omega),← d4,w64_in (n:=f (k+1)) (by omega) (by omega),w64_in (n:=(k:Int)+1) (by omega) (by omega)]
      refine ⟨k+1,hltk,by omega,?_⟩
      (refine ent_id ?_ ?_ ?_ rfl rfl<;>dsimp only [pactL,partnerL,letterL,u8L,intL,intV,mpS_kf3,id,go_sem,rA,rM,rS]<;>simp [pactL,partnerL,letterL,u8L,intL,intV,mpS_kf3,KFR_iff,KFR_app,KFR,KFL,KF,mtL_same,mtO,nbr])
    refine br_f (by simpa using hltk) ?_
    dsimp only [go_sem,rA,rM,rS]
    have hke:k=p.partners.length:=by omega
    subst hke
    rw [fn]
    refine gh ent_refl ?_
    dsimp only [go_sem,rA,rM,rS]
    refine ixs_map i hiX rfl ?_
    dsimp only [intL,go_sem,rA,rM,rS]
    refine br_f (by simp) ?_
    dsimp only [go_sem,rA,rM,rS]
    refine gh ent_refl ?_
    dsimp only [go_sem,rA,rM,rS]
    rw [w64_in (n:=(i:Int)+1) (by omega) (by omega)]
    refine ⟨i+1,hlti,by omega,?_⟩
    (refine ent_id ?_ ?_ ?_ rfl rfl<;>dsimp only [pactL,partnerL,letterL,u8L,intL,intV,mpS_kf3,id,go_sem,rA,rM,rS]<;>simp [pactL,partnerL,letterL,u8L,intL,intV,mpS_kf3,KFR_iff,KFR_app,KFR,KFL,KF,mtL_same,mtO,nbr])
  refine br_f (by simpa using hlti) ?_
  dsimp only [go_sem,rA,rM,rS]
  refine gh ent_refl ?_
  dsimp only [go_sem,rA,rM,rS])
end Go.Proofs.Ythilckbkffjliaa
set_option maxRecDepth 100000
set_option maxHeartbeats 4000000
namespace Go.Proofs.Ythilckbkffjliaa
open Go Go.Sx Go.Azalai Go.ChangeShapes Go.WideShapes Go.RowKit
theorem wf8 {n:Int} (h:(Lit.int .u8 n).wf=true):0≤n∧n < 256:=by
 simp only [Lit.wf,Bool.and_eq_true,decide_eq_true_eq] at h
 have e1:IntKind.u8.min=0:=rfl
 have e2:IntKind.u8.max=255:=rfl
 omega
theorem lift_map {α : Type} {rep:α→List SV} {q:List SV→Prop} (hq:∀ r,q r→∃ a,r=rep a):∀ {xs:List (List SV)},(∀ r ∈ xs,q r)→∃ l:List α,xs=l.map rep
 | [],_=>⟨[],rfl⟩
 | x :: xs,h=>by
  obtain ⟨a,rfl⟩:=hq x (h x (by simp))
  obtain ⟨l,rfl⟩:=lift_map (xs:=xs) hq (fun r hr=>h r (by simp [hr]))
  exact ⟨a :: l,rfl⟩
theorem shp3 {f:Nat} {l:List SV} (h:Shp Try.prog (f+1) 3 l):∃ n:Int,l=[.v (.int .i64 n)]∧(Lit.int .i64 n).wf=true:=by
 rw [Shp,Try.underlying3] at h
 exact h
theorem shp64 {f:Nat} {l:List SV} (h:Shp Try.prog (f+2) 64 l):∃ w:Partner,l=partnerL w:=by
 rw [Shp,Try.underlying64] at h
 simp only [ShpF] at h
 obtain ⟨_,_,rfl,_,h0,_,_,rfl,_,h1,_,_,rfl,_,h2,rfl⟩:=h
 obtain ⟨a0,rfl,_⟩:=shp3 (f:=f+0) h0
 obtain ⟨a1,rfl,_⟩:=shp3 (f:=f+0) h1
 obtain ⟨a2,rfl,_⟩:=shp3 (f:=f+0) h2
 exact ⟨⟨a0,a1,a2⟩,rfl⟩
theorem cells64:Try.prog.cellsOf 64=3:=by kernel_rfl
theorem shp22 {f:Nat} {l:List SV} (h:Shp Try.prog (f+3) 22 l):∃ ds:List Partner,l=[.sl false 3 (ds.map partnerL)]∧ds.length≤9223372036854775807:=by
 rw [Shp,Try.underlying22] at h
 obtain ⟨xs,rfl,hl,hx⟩:=h
 obtain ⟨ws,rfl⟩:=lift_map (rep:=partnerL) (fun r h=>shp64 (f:=f) h.2) hx
 rw [cells64]
 exact ⟨ws,rfl,by simpa using hl⟩
theorem shp24 {f:Nat} {l:List SV} (h:Shp Try.prog (f+4) 24 l):∃ w:Pact,l=pactL w:=by
 rw [Shp,Try.underlying24] at h
 simp only [ShpF] at h
 obtain ⟨_,_,rfl,_,h0,_,_,rfl,_,h1,_,_,rfl,_,h2,_,_,rfl,_,h3,rfl⟩:=h
 obtain ⟨a0,rfl,_⟩:=shp22 (f:=f+0) h0
 obtain ⟨a1,rfl,_⟩:=shp3 (f:=f+2) h1
 obtain ⟨a2,rfl,_⟩:=shp3 (f:=f+2) h2
 obtain ⟨a3,rfl,_⟩:=shp3 (f:=f+2) h3
 exact ⟨⟨a0,a1,a2,a3⟩,rfl⟩
theorem shp5 {f:Nat} {l:List SV} (h:Shp Try.prog (f+1) 5 l):∃ n:Int,l=[.v (.int .u8 n)]∧(Lit.int .u8 n).wf=true:=by
 rw [Shp,Try.underlying5] at h
 exact h
theorem shp4 {f:Nat} {l:List SV} (h:Shp Try.prog (f+1) 4 l):∃ n:Bool,l=[B n]:=by
 rw [Shp,Try.underlying4] at h
 exact h
theorem shp50 {f:Nat} {l:List SV} (h:Shp Try.prog (f+2) 50 l):∃ w:Letter,l=letterL w:=by
 rw [Shp,Try.underlying50] at h
 simp only [ShpF] at h
 obtain ⟨_,_,rfl,_,h0,_,_,rfl,_,h1,_,_,rfl,_,h2,_,_,rfl,_,h3,_,_,rfl,_,h4,_,_,rfl,_,h5,_,_,rfl,_,h6,_,_,rfl,_,h7,rfl⟩:=h
 obtain ⟨a0,rfl,_⟩:=shp3 (f:=f+0) h0
 obtain ⟨a1,rfl,_⟩:=shp3 (f:=f+0) h1
 obtain ⟨a2,rfl,_⟩:=shp5 (f:=f+0) h2
 obtain ⟨a3,rfl,_⟩:=shp3 (f:=f+0) h3
 obtain ⟨a4,rfl,_⟩:=shp3 (f:=f+0) h4
 obtain ⟨a5,rfl,_⟩:=shp3 (f:=f+0) h5
 obtain ⟨a6,rfl,_⟩:=shp3 (f:=f+0) h6
 obtain ⟨a7,rfl⟩:=shp4 (f:=f+0) h7
 exact ⟨⟨a0,a1,a2,a3,a4,a5,a6,a7⟩,rfl⟩
theorem cells50:Try.prog.cellsOf 50=8:=by kernel_rfl
theorem shp38 {f:Nat} {l:List SV} (h:Shp Try.prog (f+3) 38 l):∃ ds:List Letter,l=[.sl false 8 (ds.map letterL)]∧ds.length≤9223372036854775807:=by
 rw [Shp,Try.underlying38] at h
 obtain ⟨xs,rfl,hl,hx⟩:=h
 obtain ⟨ws,rfl⟩:=lift_map (rep:=letterL) (fun r h=>shp50 (f:=f) h.2) hx
 rw [cells50]
 exact ⟨ws,rfl,by simpa using hl⟩
theorem Try.own:ownKnob Try.prog.godebug=none:=by kernel_rfl
theorem Try.laidOut:laidOutB Try.prog=true:=by kernel_rfl
theorem tyB24:tyB Try.prog 20 24=true:=by kernel_rfl
theorem tyB38:tyB Try.prog 20 38=true:=by kernel_rfl
theorem tyB5:tyB Try.prog 20 5=true:=by kernel_rfl
theorem shareDebts_lifted (os:Os) (started:os.Started) (H:Type) (enc:TypeId × Value→H) :
 ReturnsInHanded {} Try.checked os 15 .any (Rows.shareDebtsSpec.pre6 enc Try.prog Try.f15 Rows.shareDebtsRow.domain false) (Rows.shareDebtsSpec.post enc Try.prog Try.f15 false true false false):=by
 refine returnsInHanded_of_change (C:=Try.checked) Try.own started (by kernel_rfl) Try.func15
  (ChangeSpec.witness6 (enc:=enc) (C:=Try.checked) false ⟨#[],#[.agg #[.slice none 0 0,.int .i64 0,.int .i64 0,.int .i64 0],.slice none 0 0,.int .u8 0,.int .u8 0],[]⟩ 8 (by kernel_rfl) (by kernel_rfl) (by kernel_rfl) (by kernel_rfl)) ?_
 intro W base args ds gs before hval0 hW hcnd _
 have hval:∀ (j:Nat) t v,Try.f15.params[j]? = some t→args[j]? = some v→Value.okWide Try.prog W .any base t v:=hval0
 have hW':=hW
 obtain ⟨p,q,hA0,hV,rfl,hfz,hnd⟩:=hW
 have hA:DataW.TrodAll enc Try.prog W 0 (fun _=>true) true Try.f15.params.toList args.toList ds p:=hA0
 rw [Try.params15] at hA hval
 obtain ⟨v0,vs0,d0,ds0,p0,q0,ea0,rfl,rfl,h0,hA⟩:=trodAll_cons hA
 obtain ⟨v1,vs1,d1,ds1,p1,q1,rfl,rfl,rfl,h1,hA⟩:=trodAll_cons hA
 obtain ⟨v2,vs2,d2,ds2,p2,q2,rfl,rfl,rfl,h2,hA⟩:=trodAll_cons hA
 obtain ⟨v3,vs3,d3,ds3,p3,q3,rfl,rfl,rfl,h3,hA⟩:=trodAll_cons hA
 obtain ⟨rfl,rfl,rfl⟩:=trodAll_nil hA
 obtain ⟨rfl,rfl⟩:=trodVars_none hV
 have hargs:args = #[v0,v1,v2,v3]:=Array.toList_inj.1 ea0
 subst hargs
 obtain ⟨l0,r0,s0⟩:=trod_arg tyB24 (hval 0 24 v0 rfl rfl) h0
 obtain ⟨l1,r1,s1⟩:=trod_arg tyB38 (hval 1 38 v1 rfl rfl) h1
 obtain ⟨l2,r2,s2⟩:=trod_arg tyB5 (hval 2 5 v2 rfl rfl) h2
 obtain ⟨l3,r3,s3⟩:=trod_arg tyB5 (hval 3 5 v3 rfl rfl) h3
 obtain ⟨x0,rfl⟩:=shp24 s0
 obtain ⟨x1,rfl,b1⟩:=shp38 s1
 obtain ⟨x2,rfl,b2⟩:=shp5 s2
 obtain ⟨x3,rfl,b3⟩:=shp5 s3
 simp only [argV,Try.underlying24,Try.underlying38,Try.underlying5,List.headD_cons] at r0 r1 r2 r3
 refine ((debts_ok x0 x1 x2 x3 (wf8 b2) (wf8 b3) false).run W Tr [v0,v1,v2,v3] (by simp only [RL];exact ⟨_,_,rfl,r0,_,_,rfl,r1,_,_,rfl,r2,_,_,rfl,r3,rfl⟩)).mono fun e W' ⟨y,he,hy,hb⟩=>?_
 simp only [R] at hy
 subst hy
 exact ⟨_,he,post_law (P:=Try.prog) Try.laidOut (by kernel_rfl) (by kernel_rfl) Try.underlying4 rfl rfl hW' hb⟩
theorem shareDebts_holds:Rows.ShareDebtsSaid :=
 OpenClaim.holds_of_wide 15 Try.f15 rfl rfl rfl rfl rfl rfl rfl ⟨rfl,rfl,rfl,rfl,rfl⟩ rfl rfl rfl rfl rfl (by kernel_rfl) Try.func15 (by kernel_rfl)
  (of_decide_eq_true (by kernel_rfl)) (by unfold Func.isWrapper;first | (rw [if_pos (by decide +kernel)];kernel_rfl) | (rw [if_neg (by decide +kernel)];exact ⟨rfl,rfl⟩))
  (fun os started H enc _=>shareDebts_lifted os started H enc)
end Go.Proofs.Ythilckbkffjliaa
