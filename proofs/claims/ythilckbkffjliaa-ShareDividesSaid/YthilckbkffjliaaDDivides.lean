/- A walk through the code of the given statement, and what it says. -/
import Derived.Test.YthilckbkffjliaaCI
import Derived.Test.YthilckbkffjliaaRows
set_option linter.all false
open Nat renaming reduceAdd→rA,reduceMul→rM,reduceSub→rS,beq_refl→nbr
namespace Go.Sx
open Go Go.RowKit Go.Azalai
theorem dividedF_len {amount:Int} {by':List Int}:(dividedF amount by').length=by'.length:=by simp [dividedF]
end Go.Sx
set_option maxRecDepth 100000
namespace Go.Proofs.Ythilckbkffjliaa
open Go Go.Sx
def c3:SC:=(.seq (.reg [
 o1 2 (.box (.t 0) 0 24),
 o1 4 (.mv (.c (.bool false)))])
 (.seq (.seq (.reg [
 o1 10 (.ld (.t 2) 4 true),
 o1 11 (.call 16 [.t 10,.c (.slice none 0 0)])])
 (.cond (.t 11)
 (.seq (.reg [
  o1 4 (.mv (.c (.bool true)))])
  .ret)
 .skip))
 (.seq (.reg [
 o1 12 (.ld (.t 2) 4 true),
 o1 13 (.call 17 [.t 12]),
 o1 5 (.alloc [.slice none 0 0,.int .i64 0,.int .i64 0,.int .i64 0] 24),
 ⟨none,.st (.t 5) (.t 13) 4,none,[]⟩])
 (.seq (.reg [
 o1 15 (.ld (.t 5) 4 true),
 m1 16 1,
 o1 17 (.call 18 [.t 15,.t 16]),
 m1 14 17,
 o1 18 (.ext (.t 14) 0),
 o1 19 (.ext (.t 14) 1),
 m1 6 18,
 m1 7 19])
 (.seq (.reg [
 o1 21 (.ld (.t 2) 4 true),
 m1 22 1,
 o1 23 (.call 19 [.t 21,.t 22]),
 m1 20 23,
 o1 24 (.ext (.t 20) 0),
 o1 25 (.ext (.t 20) 1),
 m1 8 24,
 m1 9 25])
 (.seq (.regd [0,1,2,3,4,5,6,7,8,9,10,11,12,13,14,15,16,17,18,19,20] [
 .op (o1 26 (.ld (.t 5) 4 true)),
 .op ⟨some 27,.call 20 [.t 26],none,[0]⟩,
 .op (o1 28 (.ld (.t 2) 4 true)),
 .op ⟨some 29,.call 21 [.t 28],none,[1,2]⟩,
 .op ⟨some 30,.bin .eql (.t 27) (.t 29),none,[1,3]⟩,
 .op ⟨some 31,.mv (.t 30),none,[3,4]⟩,
 .op ⟨some 32,.mv (.t 6),some (31,true),[5]⟩,
 .op ⟨some 33,.mv (.t 8),some (31,true),[5]⟩,
 .op ⟨some 34,.call 22 [.t 32,.t 33],some (31,true),[5,6,7]⟩,
 .op ⟨some 35,.pick (.t 31) (.t 34) (.c (.bool false)),none,[5,8]⟩,
 .op ⟨some 36,.mv (.t 35),none,[8,9]⟩,
 .op ⟨some 37,.mv (.t 7),some (36,true),[10]⟩,
 .op ⟨some 38,.mv (.t 9),some (36,true),[10]⟩,
 .op ⟨some 39,.bin .eql (.t 37) (.t 38),some (36,true),[10,11,12]⟩,
 .op ⟨some 40,.pick (.t 36) (.t 39) (.c (.bool false)),none,[10,13]⟩,
 .op ⟨some 41,.mv (.t 40),none,[10,14]⟩,
 .op ⟨some 42,.ld (.t 5) 4 true,some (41,true),[15]⟩,
 .op ⟨some 43,.ld (.t 2) 4 true,some (41,true),[15]⟩,
 .op ⟨some 44,.call 23 [.t 42,.t 43],some (41,true),[15,16,17]⟩,
 .op ⟨some 45,.pick (.t 41) (.t 44) (.c (.bool false)),none,[15,18]⟩,
 .op ⟨some 4,.mv (.t 45),none,[0,1,2,3,4,5,6,7,8,9,10,11,12,13,14,15,16,17,18,19]⟩] 0 0 [
])
 .ret))))))
def r3:List RV:=[.tmp 4]
theorem n3:Try.f3.ntmps=46:=by kernel_rfl
theorem b3:bodyB Try.prog 3=true:=by kernel_rfl
theorem c3_ok:cmpC Try.prog c3 ((Try.f3.body).getD .skip)=true:=by kernel_rfl
theorem r3_ok:cmpR Try.prog r3 Try.f3.results.toList=true:=by kernel_rfl
theorem t3 {args:List SV} {res:SV} (ka:KFL args) (kr:KF res) (h:sx Try.prog Y0 0 c3 (st0 args 46) (retK r3 res)) (hA:Nat.ble args.length 46=true:=by rfl):Ct Try.prog 3 args res:=ct_intro Try.func3 rfl b3 c3_ok r3_ok n3 (Nat.le_of_ble_eq_true hA) ka kr h
def c17:SC:=(.seq (.reg [
 o1 1 (.box (.t 0) 0 24),
 o1 2 (.alloc [.slice none 0 0,.int .i64 0,.int .i64 0,.int .i64 0] 24)])
 (.seq (.reg [
 o1 3 (.bsl 3 64 []),
 o1 4 (.addo (.t 1) 0),
 o1 5 (.ld (.t 4) 1 false),
 o1 6 (.app 3 24 64 (.t 3) (.t 5)),
 o1 7 (.addo (.t 1) 0),
 ⟨none,.st (.t 7) (.t 6) 1,none,[]⟩])
 (.seq (.reg [
 o1 8 (.ld (.t 1) 4 true),
 ⟨none,.st (.t 2) (.t 8) 4,none,[]⟩])
 .ret)))
def r17:List RV:=[.cell 2 4 true]
theorem n17:Try.f17.ntmps=9:=by kernel_rfl
theorem b17:bodyB Try.prog 17=true:=by kernel_rfl
theorem c17_ok:cmpC Try.prog c17 ((Try.f17.body).getD .skip)=true:=by kernel_rfl
theorem r17_ok:cmpR Try.prog r17 Try.f17.results.toList=true:=by kernel_rfl
theorem t17 {args:List SV} {res:SV} (ka:KFL args) (kr:KF res) (h:sx Try.prog Y0 0 c17 (st0 args 9) (retK r17 res)) (hA:Nat.ble args.length 9=true:=by rfl):Ct Try.prog 17 args res:=ct_intro Try.func17 rfl b17 c17_ok r17_ok n17 (Nat.le_of_ble_eq_true hA) ka kr h
def c19:SC:=(.seq (.reg [
 o1 2 (.box (.t 0) 0 24),
 o1 4 (.mv (.c (.slice none 0 0))),
 o1 5 (.mv (.c (.int .i64 0)))])
 (.seq (.seq (.reg [
 o1 6 (.ld (.t 2) 4 true),
 o1 7 (.call 44 [.t 6]),
 o1 8 (.un .not (.t 7))])
 (.cond (.t 8)
 (.seq (.reg [
  o1 4 (.mv (.c (.slice none 0 0))),
  o1 5 (.mv (.c (.int .i64 80)))])
  .ret)
 .skip))
 (.seq (.seq (.reg [
 m1 9 1,
 o1 10 (.call 45 [.t 9,.c (.int .i64 (-10000000000)),.c (.int .i64 10000000000)]),
 o1 11 (.un .not (.t 10))])
 (.cond (.t 11)
 (.seq (.reg [
  o1 4 (.mv (.c (.slice none 0 0))),
  o1 5 (.mv (.c (.int .i64 2)))])
  .ret)
 .skip))
 (.seq (.reg [
 o1 12 (.ld (.t 2) 4 true),
 m1 13 1,
 o1 14 (.call 46 [.t 12,.t 13]),
 m1 4 14,
 o1 5 (.mv (.c (.int .i64 0)))])
 .ret))))
def r19:List RV:=[.tmp 4,.tmp 5]
theorem n19:Try.f19.ntmps=15:=by kernel_rfl
theorem b19:bodyB Try.prog 19=true:=by kernel_rfl
theorem c19_ok:cmpC Try.prog c19 ((Try.f19.body).getD .skip)=true:=by kernel_rfl
theorem r19_ok:cmpR Try.prog r19 Try.f19.results.toList=true:=by kernel_rfl
theorem t19 {args:List SV} {res:SV} (ka:KFL args) (kr:KF res) (h:sx Try.prog Y0 0 c19 (st0 args 15) (retK r19 res)) (hA:Nat.ble args.length 15=true:=by rfl):Ct Try.prog 19 args res:=ct_intro Try.func19 rfl b19 c19_ok r19_ok n19 (Nat.le_of_ble_eq_true hA) ka kr h
def c23:SC:=(.seq (.reg [
 o1 2 (.box (.t 0) 0 24),
 o1 3 (.box (.t 1) 0 24),
 o1 4 (.mv (.c (.bool false)))])
 (.seq (.seq (.reg [
 o1 6 (.addo (.t 2) 1),
 o1 7 (.ld (.t 6) 1 false),
 o1 8 (.addo (.t 3) 1),
 o1 9 (.ld (.t 8) 1 false),
 o1 10 (.bin .neq (.t 7) (.t 9)),
 m1 11 10,
 ⟨some 12,.addo (.t 2) 2,some (11,false),[]⟩,
 ⟨some 13,.ld (.t 12) 1 false,some (11,false),[]⟩,
 ⟨some 14,.addo (.t 3) 2,some (11,false),[]⟩,
 ⟨some 15,.ld (.t 14) 1 false,some (11,false),[]⟩,
 ⟨some 16,.bin .neq (.t 13) (.t 15),some (11,false),[]⟩,
 o1 17 (.pick (.t 11) (.c (.bool true)) (.t 16)),
 m1 18 17,
 ⟨some 19,.addo (.t 2) 3,some (18,false),[]⟩,
 ⟨some 20,.ld (.t 19) 1 false,some (18,false),[]⟩,
 ⟨some 21,.addo (.t 3) 3,some (18,false),[]⟩,
 ⟨some 22,.ld (.t 21) 1 false,some (18,false),[]⟩,
 ⟨some 23,.bin .neq (.t 20) (.t 22),some (18,false),[]⟩,
 o1 24 (.pick (.t 18) (.c (.bool true)) (.t 23)),
 m1 25 24,
 ⟨some 26,.addo (.t 2) 0,some (25,false),[]⟩,
 ⟨some 27,.ld (.t 26) 1 false,some (25,false),[]⟩,
 ⟨some 28,.len (.t 27),some (25,false),[]⟩,
 ⟨some 29,.addo (.t 3) 0,some (25,false),[]⟩,
 ⟨some 30,.ld (.t 29) 1 false,some (25,false),[]⟩,
 ⟨some 31,.len (.t 30),some (25,false),[]⟩,
 ⟨some 32,.bin .neq (.t 28) (.t 31),some (25,false),[]⟩,
 o1 33 (.pick (.t 25) (.c (.bool true)) (.t 32))])
 (.cond (.t 33)
 (.seq (.reg [
  o1 4 (.mv (.c (.bool false)))])
  .ret)
 .skip))
 (.seq (.seq (.reg [
 o1 5 (.mv (.c (.int .i64 0)))])
 (.block 0 (.loop (.seq (.seq (.reg [
  m1 34 5,
  o1 35 (.addo (.t 2) 0),
  o1 36 (.ld (.t 35) 1 false),
  o1 37 (.len (.t 36)),
  o1 38 (.bin .lss (.t 34) (.t 37))])
  (.cond (.t 38)
  .skip
  (.exit 0)))
  (.seq (.block 1 (.seq (.regd [0,1,2,3,4,5,6,7,8,9,10] [
   .op (o1 41 (.addo (.t 2) 0)),
   .op ⟨some 42,.ld (.t 41) 1 false,none,[0]⟩,
   .op (m1 43 5),
   .op ⟨some 44,.ixs (.t 42) (.t 43) 3,none,[1,2]⟩,
   .op ⟨some 45,.ld (.t 44) 3 true,none,[3]⟩,
   .op (o1 46 (.addo (.t 3) 0)),
   .op ⟨some 47,.ld (.t 46) 1 false,none,[5]⟩,
   .op (m1 48 5),
   .op ⟨some 49,.ixs (.t 47) (.t 48) 3,none,[6,7]⟩,
   .op ⟨some 50,.ld (.t 49) 3 true,none,[8]⟩,
   .op ⟨some 51,.eqs true true [1,1,1] (.t 45) (.t 50),none,[4,9]⟩] 0 0 [
])
 (.cond (.t 51)
 (.seq (.reg [
  o1 4 (.mv (.c (.bool false)))])
  .ret)
 .skip)))
 (.reg [
 m1 39 5,
 o1 40 (.bin .add (.t 39) (.c (.int .i64 1))),
 m1 5 40]))))))
 (.seq (.reg [
 o1 4 (.mv (.c (.bool true)))])
 .ret))))
def r23:List RV:=[.tmp 4]
theorem n23:Try.f23.ntmps=52:=by kernel_rfl
theorem b23:bodyB Try.prog 23=true:=by kernel_rfl
theorem c23_ok:cmpC Try.prog c23 ((Try.f23.body).getD .skip)=true:=by kernel_rfl
theorem r23_ok:cmpR Try.prog r23 Try.f23.results.toList=true:=by kernel_rfl
theorem t23 {args:List SV} {res:SV} (ka:KFL args) (kr:KF res) (h:sx Try.prog Y0 0 c23 (st0 args 52) (retK r23 res)) (hA:Nat.ble args.length 52=true:=by rfl):Ct Try.prog 23 args res:=ct_intro Try.func23 rfl b23 c23_ok r23_ok n23 (Nat.le_of_ble_eq_true hA) ka kr h
def c46:SC:=(.seq (.reg [
 o1 2 (.box (.t 0) 0 24),
 o1 4 (.mv (.c (.slice none 0 0)))])
 (.seq (.reg [
 o1 18 (.addo (.t 2) 0),
 o1 19 (.ld (.t 18) 1 false),
 o1 20 (.len (.t 19)),
 m1 5 20])
 (.seq (.reg [
 o1 6 (.mv (.c (.int .i64 1000))),
 o1 7 (.mv (.c (.int .i64 1)))])
 (.seq (.seq (.reg [
 m1 21 1,
 o1 22 (.bin .lss (.t 21) (.c (.int .i64 0)))])
 (.cond (.t 22)
 (.seq (.reg [
  o1 6 (.mv (.c (.int .i64 0))),
  o1 7 (.mv (.c (.int .i64 (-1))))])
  (.seq (.reg [
  o1 8 (.mv (.c (.int .i64 0)))])
  (.block 0 (.loop (.seq (.seq (.reg [
   m1 23 8,
   m1 24 5,
   o1 25 (.bin .lss (.t 23) (.t 24))])
   (.cond (.t 25)
   .skip
   (.exit 0)))
   (.seq (.block 1 (.reg [
    m1 28 6,
    o1 29 (.addo (.t 2) 0),
    o1 30 (.ld (.t 29) 1 false),
    m1 31 8,
    o1 32 (.ixs (.t 30) (.t 31) 3),
    o1 33 (.addo (.t 32) 1),
    o1 34 (.ld (.t 33) 1 false),
    o1 35 (.bin .add (.t 28) (.t 34)),
    m1 6 35]))
   (.reg [
   m1 26 8,
   o1 27 (.bin .add (.t 26) (.c (.int .i64 1))),
   m1 8 27])))))))
 .skip))
 (.seq (.reg [
 m1 36 1,
 m1 37 7,
 o1 38 (.bin .mul (.t 36) (.t 37)),
 m1 9 38])
 (.seq (.regd [0,2,1,3,4,5] [
 .op (m1 39 5),
 .op (m1 41 5)] 4 0 [
 ⟨some 40,.mks 1 8 [.int .i64 0] 3 (.t 39),none,[0]⟩,
 ⟨some 42,.mks 1 8 [.int .i64 0] 3 (.t 41),none,[2]⟩,
 ⟨some 10,.mv (.t 40),none,[0,1]⟩,
 ⟨some 11,.mv (.t 42),none,[0,1,2,3,4]⟩])
 (.seq (.reg [
 m1 43 9,
 m1 12 43])
 (.seq (.seq (.reg [
 o1 13 (.mv (.c (.int .i64 0)))])
 (.block 2 (.loop (.seq (.seq (.reg [
  m1 44 13,
  m1 45 5,
  o1 46 (.bin .lss (.t 44) (.t 45))])
  (.cond (.t 46)
  .skip
  (.exit 2)))
  (.seq (.block 3 (.seq (.reg [
   o1 49 (.addo (.t 2) 0),
   o1 50 (.ld (.t 49) 1 false),
   m1 51 13,
   o1 52 (.ixs (.t 50) (.t 51) 3),
   o1 53 (.addo (.t 52) 2),
   o1 54 (.ld (.t 53) 1 false),
   m1 14 54])
   (.seq (.seq (.reg [
   m1 55 1,
   o1 56 (.bin .lss (.t 55) (.c (.int .i64 0)))])
   (.cond (.t 56)
   (.reg [
    o1 57 (.addo (.t 2) 0),
    o1 58 (.ld (.t 57) 1 false),
    m1 59 13,
    o1 60 (.ixs (.t 58) (.t 59) 3),
    o1 61 (.addo (.t 60) 1),
    o1 62 (.ld (.t 61) 1 false),
    m1 14 62])
   .skip))
   (.seq (.regd [0,1,4,5,6,7,8,14,2,3,9,10,11,12,13,15,16,17] [
   .op (m1 63 10),
   .op (m1 64 13),
   .op (m1 67 9),
   .op (m1 68 14),
   .op ⟨some 69,.bin .mul (.t 67) (.t 68),none,[4,5]⟩,
   .op (m1 70 6),
   .op ⟨some 71,.div .quo (.t 69) (.t 70),none,[6,7]⟩,
   .op ⟨some 77,.ixs (.t 63) (.t 64) 1,none,[0,1,4,5,6,7,8]⟩,
   .hide (.t 77),
   .op (m1 65 11),
   .op (m1 66 13),
   .op (m1 72 9),
   .op (m1 73 14),
   .op ⟨some 74,.bin .mul (.t 72) (.t 73),none,[9,10]⟩,
   .op (m1 75 6),
   .op ⟨some 76,.div .rem (.t 74) (.t 75),none,[11,12]⟩] 0 1 [
   ⟨none,.st (.t 77) (.t 71) 1,none,[0,1,4,5,6,7,8,14]⟩,
   ⟨some 78,.ixs (.t 65) (.t 66) 1,none,[0,1,2,3,4,5,6,7,8,9,10,11,12,13,14,15]⟩,
   ⟨none,.st (.t 78) (.t 76) 1,none,[0,1,2,3,4,5,6,7,8,9,10,11,12,13,14,15,16]⟩])
   (.reg [
   m1 79 12,
   m1 80 10,
   m1 81 13,
   o1 82 (.ixs (.t 80) (.t 81) 1),
   o1 83 (.ld (.t 82) 1 false),
   o1 84 (.bin .sub (.t 79) (.t 83)),
   m1 12 84])))))
  (.reg [
  m1 47 13,
  o1 48 (.bin .add (.t 47) (.c (.int .i64 1))),
  m1 13 48]))))))
 (.seq (.block 4 (.loop (.seq (.seq (.reg [
  m1 85 12,
  o1 86 (.bin .gtr (.t 85) (.c (.int .i64 0)))])
  (.cond (.t 86)
  .skip
  (.exit 4)))
  (.block 5 (.seq (.reg [
   o1 15 (.mv (.c (.int .i64 0)))])
   (.seq (.seq (.reg [
   o1 16 (.mv (.c (.int .i64 1)))])
   (.block 6 (.loop (.seq (.seq (.reg [
    m1 87 16,
    m1 88 5,
    o1 89 (.bin .lss (.t 87) (.t 88))])
    (.cond (.t 89)
    .skip
    (.exit 6)))
    (.seq (.block 7 (.seq (.regd [0,1,2,3,4,5,6,7,8] [
     .op (m1 92 11),
     .op (m1 93 16),
     .op ⟨some 94,.ixs (.t 92) (.t 93) 1,none,[0,1]⟩,
     .op ⟨some 95,.ld (.t 94) 1 false,none,[2]⟩,
     .op (m1 96 11),
     .op (m1 97 15),
     .op ⟨some 98,.ixs (.t 96) (.t 97) 1,none,[4,5]⟩,
     .op ⟨some 99,.ld (.t 98) 1 false,none,[6]⟩,
     .op ⟨some 100,.bin .gtr (.t 95) (.t 99),none,[3,7]⟩] 0 0 [
])
 (.cond (.t 100)
 (.reg [
  m1 101 16,
  m1 15 101])
 .skip)))
 (.reg [
 m1 90 16,
 o1 91 (.bin .add (.t 90) (.c (.int .i64 1))),
 m1 16 91]))))))
 (.seq (.reg [
 m1 102 10,
 m1 103 15,
 o1 104 (.ixs (.t 102) (.t 103) 1),
 o1 105 (.ld (.t 104) 1 false),
 o1 106 (.bin .add (.t 105) (.c (.int .i64 1))),
 o1 107 (.ixs (.t 102) (.t 103) 1),
 ⟨none,.st (.t 107) (.t 106) 1,none,[]⟩])
 (.seq (.reg [
 m1 108 11,
 m1 109 15,
 o1 110 (.ixs (.t 108) (.t 109) 1),
 ⟨none,.st (.t 110) (.c (.int .i64 (-1))) 1,none,[]⟩])
 (.reg [
 m1 111 12,
 o1 112 (.bin .sub (.t 111) (.c (.int .i64 1))),
 m1 12 112])))))))))
 (.seq (.seq (.reg [
 o1 17 (.mv (.c (.int .i64 0)))])
 (.block 8 (.loop (.seq (.seq (.reg [
  m1 113 17,
  m1 114 5,
  o1 115 (.bin .lss (.t 113) (.t 114))])
  (.cond (.t 115)
  .skip
  (.exit 8)))
  (.seq (.block 9 (.reg [
   m1 118 10,
   m1 119 17,
   o1 120 (.ixs (.t 118) (.t 119) 1),
   o1 121 (.ld (.t 120) 1 false),
   m1 122 7,
   o1 123 (.bin .mul (.t 121) (.t 122)),
   o1 124 (.ixs (.t 118) (.t 119) 1),
   ⟨none,.st (.t 124) (.t 123) 1,none,[]⟩]))
  (.reg [
  m1 116 17,
  o1 117 (.bin .add (.t 116) (.c (.int .i64 1))),
  m1 17 117]))))))
 (.seq (.reg [
 m1 125 10,
 m1 4 125])
 .ret)))))))))))
def r46:List RV:=[.tmp 4]
theorem n46:Try.f46.ntmps=126:=by kernel_rfl
theorem b46:bodyB Try.prog 46=true:=by kernel_rfl
theorem c46_ok:cmpC Try.prog c46 ((Try.f46.body).getD .skip)=true:=by kernel_rfl
theorem r46_ok:cmpR Try.prog r46 Try.f46.results.toList=true:=by kernel_rfl
theorem t46 {args:List SV} {res:SV} (ka:KFL args) (kr:KF res) (h:sx Try.prog Y0 0 c46 (st0 args 126) (retK r46 res)) (hA:Nat.ble args.length 126=true:=by rfl):Ct Try.prog 46 args res:=ct_intro Try.func46 rfl b46 c46_ok r46_ok n46 (Nat.le_of_ble_eq_true hA) ka kr h
end Go.Proofs.Ythilckbkffjliaa
set_option maxRecDepth 100000
set_option maxHeartbeats 8000000
namespace Go.Azalai
def cuT (c:Nat→Int) (T:List Nat) (i:Nat):Int:=if i ∈ T then -1 else c i
def Fm (c:Nat→Int) (n b:Nat):Prop:=b < n∧∀ j,j < n→c j < c b∨(c j=c b∧b≤j)
theorem Fm.uniq {c:Nat→Int} {n a b:Nat} (h:Fm c n a) (h':Fm c n b):a=b:=by
 have h1:=h.2 b h'.1
 have h2:=h'.2 a h.1
 omega
theorem Fm_take {c:Nat→Int} {n:Nat} {O:List Nat} (hO:O.Perm (List.range n)) (ho:O.Pairwise fun a b=>fst' c a b=true) (hc:∀ i,0≤c i) {t:Nat} (ht:t < O.length):Fm (cuT c (O.take t)) n O[t]:=by
 have hn:O.Nodup:=hO.nodup_iff.2 List.nodup_range
 refine ⟨List.mem_range.1 (hO.mem_iff.1 (List.getElem_mem ht)),fun j hj=>?_⟩
 have e0:cuT c (O.take t) O[t]=c O[t]:=if_neg (take_no ht hn)
 rw [e0]
 by_cases hm:j ∈ O.take t
 · left
   rw [cuT,if_pos hm]
   have:=hc O[t];omega
 · rw [cuT,if_neg hm]
   obtain ⟨s,hs,rfl⟩:=List.getElem_of_mem (hO.mem_iff.2 (List.mem_range.2 hj))
   rcases Nat.lt_trichotomy s t with q | q | q
   · exact absurd (List.mem_take_iff_getElem.2 ⟨s,by omega,rfl⟩) hm
   · subst q;right;exact ⟨rfl,Nat.le_refl _⟩
   · have:=List.pairwise_iff_getElem.1 ho t s ht hs q
     simp only [fst',Bool.or_eq_true,Bool.and_eq_true,decide_eq_true_eq] at this
     omega
theorem cuT_set {c:Nat→Int} {n:Nat} {O:List Nat} {t:Nat} (ht:t < O.length):((List.range n).map (cuT c (O.take t))).set O[t] (-1)=(List.range n).map (cuT c (O.take (t+1))):=by
 have hm:∀ x,x ∈ O.take (t+1)↔x ∈ O.take t∨x=O[t]:=fun x=>by rw [List.take_succ_eq_append_getElem ht,List.mem_append,List.mem_singleton]
 apply List.ext_getElem
 · simp
 intro i h1 h2
 rw [List.getElem_set,List.getElem_map,List.getElem_map,List.getElem_range]
 by_cases e:O[t]=i
 · rw [if_pos e,cuT,if_pos ((hm i).2 (.inr e.symm))]
 · rw [if_neg e]
   unfold cuT
   by_cases q:i ∈ O.take t
   · rw [if_pos q,if_pos ((hm i).2 (.inl q))]
   · rw [if_neg q,if_neg fun z=>((hm i).1 z).elim q fun z=>e z.symm]
def upL (n k:Nat) (f:Nat→Int):List Int:=(List.range n).map fun i=>if i < k then f i else 0
theorem upL_0 {n:Nat} {f:Nat→Int}:upL n 0 f=List.replicate n 0:=by
 rw [List.eq_replicate_iff]
 refine ⟨by simp [upL],fun b hb=>?_⟩
 obtain ⟨i,_,rfl⟩:=List.mem_map.1 hb
 rw [if_neg (by omega)]
theorem upL_n {n:Nat} {f:Nat→Int}:upL n n f=(List.range n).map f:=by
 apply List.map_congr_left
 intro i hi
 rw [if_pos (List.mem_range.1 hi)]
theorem upL_set {n k:Nat} {f:Nat→Int} (hk:k < n):(upL n k f).set k (f k)=upL n (k+1) f:=by
 apply List.ext_getElem
 · simp [upL]
 intro i h1 h2
 simp only [upL,List.getElem_set,List.getElem_map,List.getElem_range]
 by_cases e:k=i
 · subst e;simp
 · rw [if_neg e]
   by_cases q:i < k
   · rw [if_pos q,if_pos (by omega)]
   · rw [if_neg q,if_neg (by omega)]
end Go.Azalai
namespace Go.Proofs.Ythilckbkffjliaa
open Go Go.Sx Go.Azalai
theorem kfr_rep {n:Nat} {x:Int}:KFR (List.replicate n [SV.v (Value.int .i64 x)]):=by
 induction n with
 | zero=>simp [KFR]
 | succ n ih=>simp [List.replicate_succ,KFR,KFL,KF,ih]
theorem rdiv_ok (p:Pact) (hp:okPact p=true) (r:Int) (hb:-10000000000≤r∧r≤10000000000):Ct Try.prog 46 [.agg (pactL p),I r] (.sl false 1 ((divideF p r).map intL)):=by
 refine t46 (by simp [pactL,partnerL,KFR_iff,KFL,KF]) (by simp [KFR_iff,intL,KFL,KF]) ?_
 have hAll:=okPact_all hp
 have h8:=hAll.2.2.2.2.2.2
 have h1p:=hAll.2.2.2.2.2.1
 have hP4:okPartners (-1) p.partners=true:=by
  simp only [okPact,Bool.and_eq_true] at hp;exact hp.1.1.2
 have hP5:=(okPartners_ids hP4).2.2
 have ez:∀ f:Nat→Int,List.replicate p.partners.length [SV.v (Value.int .i64 0)]=(upL p.partners.length 0 f).map intL:=fun f=>by rw [upL_0,List.map_replicate];rfl
 dsimp only [c46,r46,pactL,go_sem,rA,rM,rS]
 simp only [List.length_map]
 by_cases hr0:0≤r
 · refine br_f (by simp;omega) ?_
   dsimp only [go_sem,rA,rM,rS]
   obtain ⟨A,BY,hA0,hA1,hBl,hBb,hS,hBY,hav,hwv0,hfin0⟩:∃ (A:Int) (BY:List Int),0≤A∧A≤10000000000∧BY.length=p.partners.length∧(∀ x ∈ BY,0≤x∧x≤100000000)∧0 < sumL BY∧BY=p.partners.map (·.share)∧A=r∧(1000:Int)=sumL BY∧divideF p r=(dividedF A BY).map (fun x=>x * (1:Int)):=by
    refine ⟨r,p.partners.map (·.share),hr0,hb.2,by simp,fun x hx=>?_,by omega,rfl,rfl,by omega,by rw [divideF,if_pos hr0];simp⟩
    obtain ⟨y,hy,rfl⟩:=List.mem_map.1 hx
    have:=hP5 y hy;omega
   have hB0:∀ x ∈ BY,0≤x:=fun x hx=>(hBb x hx).1
   have hDv:Dvd A BY:=⟨hA0,by omega,by omega,hBb,hS⟩
   have hlf:=left_bd hA0 hB0 hS
   obtain ⟨O,hO,hof⟩:∃ O:List Nat,O.Perm (List.range BY.length)∧O.Pairwise fun a b=>fst' (cutF A BY) a b=true:=⟨_,srtF_perm,srtF_ord List.nodup_range⟩
   have hOn:O.Nodup:=hO.nodup_iff.2 List.nodup_range
   have hOl:O.length=BY.length:=by rw [hO.length_eq,List.length_range]
   rw [w64_in (n:=r * (1:Int)) (by omega) (by omega),show r * (1:Int)=A from by omega]
   have hwv:(1000:Int)=sumL BY:=hwv0
   refine ⟨p.partners.length,rfl,by omega,?_⟩
   (repeat first | dsimp only [go_sem,rA,rM,rS] | simp only [nbr])
   refine ⟨p.partners.length,rfl,by omega,?_⟩
   (repeat first | dsimp only [go_sem,rA,rM,rS] | simp only [nbr])
   refine loopO (fun s:Nat=>[(13,I (s:Nat)),(12,I (A - sumL ((List.range s).map (partF A BY))))]) (fun s=>[(1,.row 0 1 ((upL p.partners.length s (partF A BY)).map intL) 3),(2,.row 0 1 ((upL p.partners.length s (cutF A BY)).map intL) 3)]) (fun s=>s≤p.partners.length) (fun s=>p.partners.length - s) 0 (Nat.zero_le _) ?_ ?_
   · (refine ent_id ?_ ?_ ?_ rfl rfl<;>dsimp only [pactL,partnerL,intL,sumL,upL_0,kfr_rep,id,go_sem,rA,rM,rS]<;>simp [pactL,partnerL,intL,sumL,upL_0,kfr_rep,KFR_iff,KFR_app,KFR,KFL,KF,mtL_same,mtO,nbr])
   intro k hk'
   dsimp only [go_sem,rA,rM,rS]
   by_cases hlt:k < p.partners.length
   · refine br_t (by simpa using hlt) ?_
     dsimp only [go_sem,rA,rM,rS]
     refine ixs_map k hlt rfl ?_
     dsimp only [partnerL,go_sem,rA,rM,rS]
     refine br_f (by simp;omega) ?_
     dsimp only [go_sem,rA,rM,rS]
     have hkB:k < BY.length:=by omega
     have hbk:=hBb _ (List.getElem_mem hkB)
     have hbyF:byF BY k=BY[k]:=byF_get hkB
     have hbv:p.partners[k].share=byF BY k:=by rw [hbyF];simp [hBY]
     have hmul:0≤A * byF BY k∧A * byF BY k≤1000000000000000000:=by
      rw [hbyF]
      have m1:A * BY[k]≤10000000000 * BY[k]:=Int.mul_le_mul_of_nonneg_right hA1 hbk.1
      have m2:=Int.mul_nonneg hA0 hbk.1
      omega
     have hpb:0≤partF A BY k∧partF A BY k≤1000000000000000000:=by
      unfold partF
      refine ⟨Int.tdiv_nonneg hmul.1 (by omega),?_⟩
      rw [Int.tdiv_eq_ediv_of_nonneg hmul.1]
      have:=Int.ediv_le_self (sumL BY) hmul.1
      omega
     have hw0:(1000:Int)≠0:=by omega
     have hq1:(A * p.partners[k].share).tdiv (1000:Int)=partF A BY k:=by rw [hbv,hwv];rfl
     have hq2:(A * p.partners[k].share).tmod (1000:Int)=cutF A BY k:=by rw [hbv,hwv];rfl
     have hmm:0≤A * p.partners[k].share∧A * p.partners[k].share≤1000000000000000000:=by rw [hbv];exact hmul
     have hul:∀ f:Nat→Int,k < (upL p.partners.length k f).length:=fun f=>by simp [upL];exact hlt
     have hul2:∀ f:Nat→Int,k < (upL p.partners.length (k+1) f).length:=fun f=>by simp [upL];exact hlt
     rw [w64_in (n:=A * p.partners[k].share) (by omega) (by omega)]
     refine div0 hw0 ?_
     (repeat first | dsimp only [divr,go_sem,rA,rM,rS] | simp only [nbr])
     rw [hq1,w64_in (n:=partF A BY k) (by omega) (by omega)]
     refine ixrm k rfl (by rw [List.length_map];exact hul _) ?_
     (repeat first | dsimp only [go_sem,rA,rM,rS] | simp only [nbr])
     try rw [w64_in (n:=A * p.partners[k].share) (by omega) (by omega)]
     refine div0 hw0 ?_
     (repeat first | dsimp only [divr,go_sem,rA,rM,rS] | simp only [nbr])
     rw [hq2]
     refine strm (partF A BY k) (hul _) (by simp [intL]) (by simp [intL,splice]) ?_
     (repeat first | dsimp only [go_sem,rA,rM,rS] | simp only [nbr])
     refine ixrm k rfl (by rw [List.length_map];exact hul _) ?_
     (repeat first | dsimp only [go_sem,rA,rM,rS] | simp only [nbr])
     refine strm (cutF A BY k) (hul _) (by simp [intL]) (by simp [intL,splice]) ?_
     (repeat first | dsimp only [go_sem,rA,rM,rS] | simp only [nbr])
     rw [upL_set hlt,upL_set hlt]
     refine ixrm k rfl (by rw [List.length_map];exact hul2 _) ?_
     (repeat first | dsimp only [go_sem,rA,rM,rS] | simp only [nbr])
     refine ldrm (hul2 _) ?_
     (repeat first | dsimp only [intL,go_sem,rA,rM,rS] | simp only [nbr])
     have hug:(upL p.partners.length (k+1) (partF A BY))[k]'(hul2 _)=partF A BY k:=by simp [upL]
     rw [hug]
     have h3:=sumL_rs (f:=partF A BY) (n:=k)
     have h4:=part_sum hDv (k:=k+1) (by omega)
     have h5:=part_sum hDv (k:=k) (by omega)
     rw [w64_in (n:=A - sumL ((List.range k).map (partF A BY)) - partF A BY k) (by omega) (by omega),w64_in (n:=(k:Int)+1) (by omega) (by omega)]
     rw [show A - sumL ((List.range k).map (partF A BY)) - partF A BY k=A - sumL ((List.range (k+1)).map (partF A BY)) from by omega]
     refine ⟨k+1,hlt,by omega,?_⟩
     (refine ent_id ?_ ?_ ?_ rfl rfl<;>dsimp only [pactL,partnerL,intL,id,go_sem,rA,rM,rS]<;>simp [pactL,partnerL,intL,KFR_iff,KFR_app,KFR,KFL,KF,mtL_same,mtO,nbr])
   refine br_f (by simpa using hlt) ?_
   dsimp only [go_sem,rA,rM,rS]
   have hke:k=p.partners.length:=by omega
   subst hke
   have hL:A - sumL ((List.range p.partners.length).map (partF A BY))=leftF A BY:=by rw [leftF,hBl]
   rw [hL,upL_n,upL_n]
   have i1:(List.range p.partners.length).map (partF A BY)=prtL A BY (O.take 0):=by rw [List.take_zero,prtL_nil,hBl]
   have i2:(List.range p.partners.length).map (cutF A BY)=(List.range p.partners.length).map (cuT (cutF A BY) (O.take 0)):=by
    apply List.map_congr_left;intro i _;simp [cuT]
   rw [i1,i2]
   refine loopO (fun t:Nat=>[(12,I (leftF A BY - t))]) (fun t=>[(1,.row 0 1 ((prtL A BY (O.take t)).map intL) 3),(2,.row 0 1 (((List.range p.partners.length).map (cuT (cutF A BY) (O.take t))).map intL) 3)]) (fun t=>(t:Int)≤leftF A BY) (fun t=>(leftF A BY).toNat - t) 0 (by simp;omega) ?_ ?_
   · (refine ent_id ?_ ?_ ?_ rfl rfl<;>dsimp only [pactL,partnerL,intL,Int.sub_zero,id,go_sem,rA,rM,rS]<;>simp [pactL,partnerL,intL,Int.sub_zero,KFR_iff,KFR_app,KFR,KFL,KF,mtL_same,mtO,nbr])
   intro t ht
   dsimp only [go_sem,rA,rM,rS]
   by_cases hlt2:(t:Int) < leftF A BY
   · refine br_t (by simp;omega) ?_
     dsimp only [go_sem,rA,rM,rS]
     have htO:t < O.length:=by omega
     have hfm:=Fm_take (c:=cutF A BY) hO hof (fun i=>(cut_bd hA0 hB0 hS i).1) (t:=t) (by omega)
     rw [hBl] at hfm
     refine loopO (fun s:Nat × Nat=>[(16,I (s.1:Nat)),(15,I (s.2:Nat))]) (fun _=>[]) (fun s=>(1≤s.1∧s.1≤p.partners.length)∧Fm (cuT (cutF A BY) (O.take t)) s.1 s.2) (fun s=>p.partners.length - s.1) (1,0) ⟨by simp only;omega,by simp only;omega,fun j hj=>by
      have:j=0:=by simp only at hj;omega
      subst this;right;simp⟩ ?_ ?_
     · (refine ent_id ?_ ?_ ?_ rfl rfl<;>dsimp only [pactL,partnerL,intL,id,go_sem,rA,rM,rS]<;>simp [pactL,partnerL,intL,KFR_iff,KFR_app,KFR,KFL,KF,mtL_same,mtO,nbr])
     rintro ⟨i,b⟩ ⟨hi,hb⟩
     simp only at hi hb
     have hbi:=hb.1
     dsimp only [go_sem,rA,rM,rS]
     by_cases hlt3:i < p.partners.length
     · refine br_t (by simpa using hlt3) ?_
       (repeat first | dsimp only [go_sem,rA,rM,rS] | simp only [nbr])
       refine ixrm i rfl (by simpa using hlt3) ?_
       (repeat first | dsimp only [go_sem,rA,rM,rS] | simp only [nbr])
       refine ldrm (by simpa using hlt3) ?_
       (repeat first | dsimp only [intL,go_sem,rA,rM,rS] | simp only [nbr])
       refine ixrm b rfl (by simp;omega) ?_
       (repeat first | dsimp only [go_sem,rA,rM,rS] | simp only [nbr])
       refine ldrm (by simp;omega) ?_
       (repeat first | dsimp only [intL,go_sem,rA,rM,rS] | simp only [nbr])
       simp only [List.getElem_map,List.getElem_range]
       by_cases hc:cuT (cutF A BY) (O.take t) i > cuT (cutF A BY) (O.take t) b
       · refine br_t (by simpa using hc) ?_
         (repeat first | dsimp only [go_sem,rA,rM,rS] | simp only [nbr])
         rw [w64_in (n:=(i:Int)+1) (by omega) (by omega)]
         refine ⟨(i+1,i),⟨by simp only;omega,by simp only;omega,fun j hj=>?_⟩,by simp only;omega,?_⟩
         · simp only at hj ⊢
           by_cases e:j=i
           · subst e;right;exact ⟨rfl,Nat.le_refl _⟩
           · have:=hb.2 j (by omega);omega
         (refine ent_id ?_ ?_ ?_ rfl rfl<;>dsimp only [pactL,partnerL,intL,id,go_sem,rA,rM,rS]<;>simp [pactL,partnerL,intL,KFR_iff,KFR_app,KFR,KFL,KF,mtL_same,mtO,nbr])
       · refine br_f (by simpa using hc) ?_
         (repeat first | dsimp only [go_sem,rA,rM,rS] | simp only [nbr])
         rw [w64_in (n:=(i:Int)+1) (by omega) (by omega)]
         refine ⟨(i+1,b),⟨by simp only;omega,by simp only;omega,fun j hj=>?_⟩,by simp only;omega,?_⟩
         · simp only at hj ⊢
           by_cases e:j=i
           · subst e;omega
           · exact hb.2 j (by omega)
         (refine ent_id ?_ ?_ ?_ rfl rfl<;>dsimp only [pactL,partnerL,intL,id,go_sem,rA,rM,rS]<;>simp [pactL,partnerL,intL,KFR_iff,KFR_app,KFR,KFL,KF,mtL_same,mtO,nbr])
     refine br_f (by simpa using hlt3) ?_
     (repeat first | dsimp only [go_sem,rA,rM,rS] | simp only [nbr])
     have hie:i=p.partners.length:=by omega
     subst hie
     have hbO:b=O[t]:=Fm.uniq hb hfm
     have hOt:O[t] < BY.length:=by rw [← hbO,hBl];exact hbi
     refine ixrm b rfl (by simp [prtL_len];omega) ?_
     (repeat first | dsimp only [go_sem,rA,rM,rS] | simp only [nbr])
     refine ldrm (by rw [prtL_len];omega) ?_
     (repeat first | dsimp only [intL,go_sem,rA,rM,rS] | simp only [nbr])
     subst hbO
     rw [prtL_get,if_neg (take_no htO hOn),Int.add_zero]
     have hpp:=hDv.part hOt
     rw [w64_in (n:=partF A BY O[t]+1) (by omega) (by omega)]
     refine ixrm O[t] rfl (by simp [prtL_len];omega) ?_
     (repeat first | dsimp only [go_sem,rA,rM,rS] | simp only [nbr])
     refine strm (partF A BY O[t]+1) (by rw [prtL_len];omega) (by simp [intL]) (by simp [intL,splice]) ?_
     (repeat first | dsimp only [go_sem,rA,rM,rS] | simp only [nbr])
     rw [prtL_set htO hOn hOt]
     refine ixrm O[t] rfl (by simp;omega) ?_
     (repeat first | dsimp only [go_sem,rA,rM,rS] | simp only [nbr])
     refine strm (-1) (by simp;omega) (by simp [intL]) (by simp [intL,splice]) ?_
     (repeat first | dsimp only [go_sem,rA,rM,rS] | simp only [nbr])
     rw [cuT_set htO,w64_in (n:=leftF A BY - t - 1) (by omega) (by omega),show leftF A BY - (t:Int) - 1=leftF A BY - ((t+1:Nat):Int) from by omega]
     refine ⟨t+1,by omega,by omega,?_⟩
     (refine ent_id ?_ ?_ ?_ rfl rfl<;>dsimp only [pactL,partnerL,intL,id,go_sem,rA,rM,rS]<;>simp [pactL,partnerL,intL,KFR_iff,KFR_app,KFR,KFL,KF,mtL_same,mtO,nbr])
   refine br_f (by simp;omega) ?_
   dsimp only [go_sem,rA,rM,rS]
   have hte:t=(leftF A BY).toNat:=by omega
   rw [hte,prtL_done hDv hO hof]
   obtain ⟨D,hD,hDl,hDb,hfin⟩:∃ D:List Int,dividedF A BY=D∧D.length=p.partners.length∧(∀ i (hi:i < D.length),0≤D[i]∧D[i]≤A+1)∧divideF p r=D.map (fun x=>x * (1:Int)):=⟨_,rfl,by rw [dividedF_len,hBl],fun i hi=>divd_bd hA0 hB0 hS hi,hfin0⟩
   rw [hD]
   refine loopO (fun s:Nat=>[(17,I (s:Nat))]) (fun s=>[(1,.row 0 1 (((D.take s).map (fun x=>x * (1:Int)) ++ D.drop s).map intL) 3)]) (fun s=>s≤D.length) (fun s=>D.length - s) 0 (Nat.zero_le _) ?_ ?_
   · (refine ent_id ?_ ?_ ?_ rfl rfl<;>dsimp only [pactL,partnerL,intL,id,go_sem,rA,rM,rS]<;>simp [pactL,partnerL,intL,KFR_iff,KFR_app,KFR,KFL,KF,mtL_same,mtO,nbr])
   intro k hk
   dsimp only [go_sem,rA,rM,rS]
   by_cases hltk:k < D.length
   · refine br_t (by simp;omega) ?_
     (repeat first | dsimp only [go_sem,rA,rM,rS] | simp only [nbr])
     have hgl:((D.take k).map (fun x=>x * (1:Int)) ++ D.drop k).length=D.length:=by simp<;>omega
     have hg:((D.take k).map (fun x=>x * (1:Int)) ++ D.drop k)[k]'(by omega)=D[k]:=by
      rw [List.getElem_append_right (by simp;omega)]
      simp [Nat.min_eq_left (Nat.le_of_lt hltk)]
     refine ixrm k rfl (by rw [List.length_map,hgl];exact hltk) ?_
     (repeat first | dsimp only [go_sem,rA,rM,rS] | simp only [nbr])
     refine ldrm (by rw [hgl];exact hltk) ?_
     (repeat first | dsimp only [intL,go_sem,rA,rM,rS] | simp only [nbr])
     rw [hg]
     have:=hDb k hltk
     rw [w64_in (n:=D[k] * (1:Int)) (by omega) (by omega)]
     refine ixrm k rfl (by rw [List.length_map,hgl];exact hltk) ?_
     (repeat first | dsimp only [go_sem,rA,rM,rS] | simp only [nbr])
     refine strm (D[k] * (1:Int)) (by rw [hgl];exact hltk) (by simp [intL]) (by simp [intL,splice]) ?_
     (repeat first | dsimp only [go_sem,rA,rM,rS] | simp only [nbr])
     have hset:((D.take k).map (fun x=>x * (1:Int)) ++ D.drop k).set k (D[k] * (1:Int))=(D.take (k+1)).map (fun x=>x * (1:Int)) ++ D.drop (k+1):=by
      rw [List.set_append_right (h:=by simp;omega)]
      simp only [List.length_map,List.length_take,Nat.min_eq_left (Nat.le_of_lt hltk),Nat.sub_self]
      rw [List.drop_eq_getElem_cons hltk,List.set_cons_zero,List.take_succ_eq_append_getElem hltk,List.map_append,List.append_assoc]
      rfl
     rw [hset,w64_in (n:=(k:Int)+1) (by omega) (by omega)]
     have hk1:KFR (List.map intL ((D.take (k+1)).map (fun x=>x * (1:Int)) ++ D.drop (k+1))):=KFR_iff.2 fun x _=>by simp [KFL,KF,intL]
     refine ⟨k+1,hltk,by omega,?_⟩
     generalize (D.take (k+1)).map (fun x=>x * (1:Int)) ++ D.drop (k+1)=Q at *
     (refine ent_id ?_ ?_ ?_ rfl rfl<;>dsimp only [pactL,partnerL,intL,id,go_sem,rA,rM,rS]<;>simp [pactL,partnerL,intL,KFR_iff,KFR_app,KFR,KFL,KF,mtL_same,mtO,nbr])
   refine br_f (by simp;omega) ?_
   dsimp only [go_sem,rA,rM,rS]
   have hkl:k=D.length:=by omega
   rw [hkl,List.take_length,List.drop_length,List.append_nil,hfin]
 · refine br_t (by simp;omega) ?_
   dsimp only [go_sem,rA,rM,rS]
   refine loopO (fun s:Nat=>[(8,I (s:Nat)),(6,I (sumL ((p.partners.take s).map (·.put))))]) (fun _=>[]) (fun s=>s≤p.partners.length) (fun s=>p.partners.length - s) 0 (Nat.zero_le _) ?_ ?_
   · (refine ent_id ?_ ?_ ?_ rfl rfl<;>dsimp only [pactL,partnerL,intL,sumL,id,go_sem,rA,rM,rS]<;>simp [pactL,partnerL,intL,sumL,KFR_iff,KFR_app,KFR,KFL,KF,mtL_same,mtO,nbr])
   intro k hk'
   dsimp only [go_sem,rA,rM,rS]
   have hb2:=sumL_le (l:=p.partners.map (·.put)) (b:=100000000) fun x hx=>by
    obtain ⟨y,hy,rfl⟩:=List.mem_map.1 hx
    have:=hP5 y hy;omega
   simp only [List.length_map] at hb2
   by_cases hlt:k < p.partners.length
   · refine br_t (by simpa using hlt) ?_
     dsimp only [go_sem,rA,rM,rS]
     refine ixs_map k hlt rfl ?_
     dsimp only [partnerL,go_sem,rA,rM,rS]
     have hs1:=sumL_take (f:=fun x:Partner=>x.put) hlt
     have hb1:=sumL_sub0 hAll.2.2.1 (k+1)
     rw [← List.map_take] at hb1
     rw [w64_in (n:=_+p.partners[k].put) (by omega) (by omega),w64_in (n:=(k:Int)+1) (by omega) (by omega),← hs1]
     refine ⟨k+1,hlt,by omega,?_⟩
     (refine ent_id ?_ ?_ ?_ rfl rfl<;>dsimp only [pactL,partnerL,intL,id,go_sem,rA,rM,rS]<;>simp [pactL,partnerL,intL,KFR_iff,KFR_app,KFR,KFL,KF,mtL_same,mtO,nbr])
   refine br_f (by simpa using hlt) ?_
   dsimp only [go_sem,rA,rM,rS]
   have hke:k=p.partners.length:=by omega
   subst hke
   rw [List.take_length]
   obtain ⟨A,BY,hA0,hA1,hBl,hBb,hS,hBY,hav,hwv0,hfin0⟩:∃ (A:Int) (BY:List Int),0≤A∧A≤10000000000∧BY.length=p.partners.length∧(∀ x ∈ BY,0≤x∧x≤100000000)∧0 < sumL BY∧BY=p.partners.map (·.put)∧A = -r∧sumL (p.partners.map (·.put))=sumL BY∧divideF p r=(dividedF A BY).map (fun x=>x * (-1:Int)):=by
    refine ⟨-r,p.partners.map (·.put),by omega,by omega,by simp,fun x hx=>?_,by omega,rfl,rfl,rfl,by rw [divideF,if_neg hr0];apply List.map_congr_left;intro x _;omega⟩
    obtain ⟨y,hy,rfl⟩:=List.mem_map.1 hx
    have:=hP5 y hy;omega
   have hB0:∀ x ∈ BY,0≤x:=fun x hx=>(hBb x hx).1
   have hDv:Dvd A BY:=⟨hA0,by omega,by omega,hBb,hS⟩
   have hlf:=left_bd hA0 hB0 hS
   obtain ⟨O,hO,hof⟩:∃ O:List Nat,O.Perm (List.range BY.length)∧O.Pairwise fun a b=>fst' (cutF A BY) a b=true:=⟨_,srtF_perm,srtF_ord List.nodup_range⟩
   have hOn:O.Nodup:=hO.nodup_iff.2 List.nodup_range
   have hOl:O.length=BY.length:=by rw [hO.length_eq,List.length_range]
   rw [w64_in (n:=r * (-1:Int)) (by omega) (by omega),show r * (-1:Int)=A from by omega]
   have hwv:(sumL (p.partners.map (·.put)))=sumL BY:=hwv0
   refine ⟨p.partners.length,rfl,by omega,?_⟩
   (repeat first | dsimp only [go_sem,rA,rM,rS] | simp only [nbr])
   refine ⟨p.partners.length,rfl,by omega,?_⟩
   (repeat first | dsimp only [go_sem,rA,rM,rS] | simp only [nbr])
   refine loopO (fun s:Nat=>[(13,I (s:Nat)),(12,I (A - sumL ((List.range s).map (partF A BY))))]) (fun s=>[(1,.row 0 1 ((upL p.partners.length s (partF A BY)).map intL) 3),(2,.row 0 1 ((upL p.partners.length s (cutF A BY)).map intL) 3)]) (fun s=>s≤p.partners.length) (fun s=>p.partners.length - s) 0 (Nat.zero_le _) ?_ ?_
   · (refine ent_id ?_ ?_ ?_ rfl rfl<;>dsimp only [pactL,partnerL,intL,sumL,upL_0,kfr_rep,id,go_sem,rA,rM,rS]<;>simp [pactL,partnerL,intL,sumL,upL_0,kfr_rep,KFR_iff,KFR_app,KFR,KFL,KF,mtL_same,mtO,nbr])
   intro k hk'
   dsimp only [go_sem,rA,rM,rS]
   by_cases hlt:k < p.partners.length
   · refine br_t (by simpa using hlt) ?_
     dsimp only [go_sem,rA,rM,rS]
     refine ixs_map k hlt rfl ?_
     dsimp only [partnerL,go_sem,rA,rM,rS]
     refine br_t (by simp;omega) ?_
     dsimp only [go_sem,rA,rM,rS]
     refine ixs_map k hlt rfl ?_
     dsimp only [partnerL,go_sem,rA,rM,rS]
     have hkB:k < BY.length:=by omega
     have hbk:=hBb _ (List.getElem_mem hkB)
     have hbyF:byF BY k=BY[k]:=byF_get hkB
     have hbv:p.partners[k].put=byF BY k:=by rw [hbyF];simp [hBY]
     have hmul:0≤A * byF BY k∧A * byF BY k≤1000000000000000000:=by
      rw [hbyF]
      have m1:A * BY[k]≤10000000000 * BY[k]:=Int.mul_le_mul_of_nonneg_right hA1 hbk.1
      have m2:=Int.mul_nonneg hA0 hbk.1
      omega
     have hpb:0≤partF A BY k∧partF A BY k≤1000000000000000000:=by
      unfold partF
      refine ⟨Int.tdiv_nonneg hmul.1 (by omega),?_⟩
      rw [Int.tdiv_eq_ediv_of_nonneg hmul.1]
      have:=Int.ediv_le_self (sumL BY) hmul.1
      omega
     have hw0:(sumL (p.partners.map (·.put)))≠0:=by omega
     have hq1:(A * p.partners[k].put).tdiv (sumL (p.partners.map (·.put)))=partF A BY k:=by rw [hbv,hwv];rfl
     have hq2:(A * p.partners[k].put).tmod (sumL (p.partners.map (·.put)))=cutF A BY k:=by rw [hbv,hwv];rfl
     have hmm:0≤A * p.partners[k].put∧A * p.partners[k].put≤1000000000000000000:=by rw [hbv];exact hmul
     have hul:∀ f:Nat→Int,k < (upL p.partners.length k f).length:=fun f=>by simp [upL];exact hlt
     have hul2:∀ f:Nat→Int,k < (upL p.partners.length (k+1) f).length:=fun f=>by simp [upL];exact hlt
     rw [w64_in (n:=A * p.partners[k].put) (by omega) (by omega)]
     refine div0 hw0 ?_
     (repeat first | dsimp only [divr,go_sem,rA,rM,rS] | simp only [nbr])
     rw [hq1,w64_in (n:=partF A BY k) (by omega) (by omega)]
     refine ixrm k rfl (by rw [List.length_map];exact hul _) ?_
     (repeat first | dsimp only [go_sem,rA,rM,rS] | simp only [nbr])
     try rw [w64_in (n:=A * p.partners[k].put) (by omega) (by omega)]
     refine div0 hw0 ?_
     (repeat first | dsimp only [divr,go_sem,rA,rM,rS] | simp only [nbr])
     rw [hq2]
     refine strm (partF A BY k) (hul _) (by simp [intL]) (by simp [intL,splice]) ?_
     (repeat first | dsimp only [go_sem,rA,rM,rS] | simp only [nbr])
     refine ixrm k rfl (by rw [List.length_map];exact hul _) ?_
     (repeat first | dsimp only [go_sem,rA,rM,rS] | simp only [nbr])
     refine strm (cutF A BY k) (hul _) (by simp [intL]) (by simp [intL,splice]) ?_
     (repeat first | dsimp only [go_sem,rA,rM,rS] | simp only [nbr])
     rw [upL_set hlt,upL_set hlt]
     refine ixrm k rfl (by rw [List.length_map];exact hul2 _) ?_
     (repeat first | dsimp only [go_sem,rA,rM,rS] | simp only [nbr])
     refine ldrm (hul2 _) ?_
     (repeat first | dsimp only [intL,go_sem,rA,rM,rS] | simp only [nbr])
     have hug:(upL p.partners.length (k+1) (partF A BY))[k]'(hul2 _)=partF A BY k:=by simp [upL]
     rw [hug]
     have h3:=sumL_rs (f:=partF A BY) (n:=k)
     have h4:=part_sum hDv (k:=k+1) (by omega)
     have h5:=part_sum hDv (k:=k) (by omega)
     rw [w64_in (n:=A - sumL ((List.range k).map (partF A BY)) - partF A BY k) (by omega) (by omega),w64_in (n:=(k:Int)+1) (by omega) (by omega)]
     rw [show A - sumL ((List.range k).map (partF A BY)) - partF A BY k=A - sumL ((List.range (k+1)).map (partF A BY)) from by omega]
     refine ⟨k+1,hlt,by omega,?_⟩
     (refine ent_id ?_ ?_ ?_ rfl rfl<;>dsimp only [pactL,partnerL,intL,id,go_sem,rA,rM,rS]<;>simp [pactL,partnerL,intL,KFR_iff,KFR_app,KFR,KFL,KF,mtL_same,mtO,nbr])
   refine br_f (by simpa using hlt) ?_
   dsimp only [go_sem,rA,rM,rS]
   have hke:k=p.partners.length:=by omega
   subst hke
   have hL:A - sumL ((List.range p.partners.length).map (partF A BY))=leftF A BY:=by rw [leftF,hBl]
   rw [hL,upL_n,upL_n]
   have i1:(List.range p.partners.length).map (partF A BY)=prtL A BY (O.take 0):=by rw [List.take_zero,prtL_nil,hBl]
   have i2:(List.range p.partners.length).map (cutF A BY)=(List.range p.partners.length).map (cuT (cutF A BY) (O.take 0)):=by
    apply List.map_congr_left;intro i _;simp [cuT]
   rw [i1,i2]
   refine loopO (fun t:Nat=>[(12,I (leftF A BY - t))]) (fun t=>[(1,.row 0 1 ((prtL A BY (O.take t)).map intL) 3),(2,.row 0 1 (((List.range p.partners.length).map (cuT (cutF A BY) (O.take t))).map intL) 3)]) (fun t=>(t:Int)≤leftF A BY) (fun t=>(leftF A BY).toNat - t) 0 (by simp;omega) ?_ ?_
   · (refine ent_id ?_ ?_ ?_ rfl rfl<;>dsimp only [pactL,partnerL,intL,Int.sub_zero,id,go_sem,rA,rM,rS]<;>simp [pactL,partnerL,intL,Int.sub_zero,KFR_iff,KFR_app,KFR,KFL,KF,mtL_same,mtO,nbr])
   intro t ht
   dsimp only [go_sem,rA,rM,rS]
   by_cases hlt2:(t:Int) < leftF A BY
   · refine br_t (by simp;omega) ?_
     dsimp only [go_sem,rA,rM,rS]
     have htO:t < O.length:=by omega
     have hfm:=Fm_take (c:=cutF A BY) hO hof (fun i=>(cut_bd hA0 hB0 hS i).1) (t:=t) (by omega)
     rw [hBl] at hfm
     refine loopO (fun s:Nat × Nat=>[(16,I (s.1:Nat)),(15,I (s.2:Nat))]) (fun _=>[]) (fun s=>(1≤s.1∧s.1≤p.partners.length)∧Fm (cuT (cutF A BY) (O.take t)) s.1 s.2) (fun s=>p.partners.length - s.1) (1,0) ⟨by simp only;omega,by simp only;omega,fun j hj=>by
      have:j=0:=by simp only at hj;omega
      subst this;right;simp⟩ ?_ ?_
     · (refine ent_id ?_ ?_ ?_ rfl rfl<;>dsimp only [pactL,partnerL,intL,id,go_sem,rA,rM,rS]<;>simp [pactL,partnerL,intL,KFR_iff,KFR_app,KFR,KFL,KF,mtL_same,mtO,nbr])
     rintro ⟨i,b⟩ ⟨hi,hb⟩
     simp only at hi hb
     have hbi:=hb.1
     dsimp only [go_sem,rA,rM,rS]
     by_cases hlt3:i < p.partners.length
     · refine br_t (by simpa using hlt3) ?_
       (repeat first | dsimp only [go_sem,rA,rM,rS] | simp only [nbr])
       refine ixrm i rfl (by simpa using hlt3) ?_
       (repeat first | dsimp only [go_sem,rA,rM,rS] | simp only [nbr])
       refine ldrm (by simpa using hlt3) ?_
       (repeat first | dsimp only [intL,go_sem,rA,rM,rS] | simp only [nbr])
       refine ixrm b rfl (by simp;omega) ?_
       (repeat first | dsimp only [go_sem,rA,rM,rS] | simp only [nbr])
       refine ldrm (by simp;omega) ?_
       (repeat first | dsimp only [intL,go_sem,rA,rM,rS] | simp only [nbr])
       simp only [List.getElem_map,List.getElem_range]
       by_cases hc:cuT (cutF A BY) (O.take t) i > cuT (cutF A BY) (O.take t) b
       · refine br_t (by simpa using hc) ?_
         (repeat first | dsimp only [go_sem,rA,rM,rS] | simp only [nbr])
         rw [w64_in (n:=(i:Int)+1) (by omega) (by omega)]
         refine ⟨(i+1,i),⟨by simp only;omega,by simp only;omega,fun j hj=>?_⟩,by simp only;omega,?_⟩
         · simp only at hj ⊢
           by_cases e:j=i
           · subst e;right;exact ⟨rfl,Nat.le_refl _⟩
           · have:=hb.2 j (by omega);omega
         (refine ent_id ?_ ?_ ?_ rfl rfl<;>dsimp only [pactL,partnerL,intL,id,go_sem,rA,rM,rS]<;>simp [pactL,partnerL,intL,KFR_iff,KFR_app,KFR,KFL,KF,mtL_same,mtO,nbr])
       · refine br_f (by simpa using hc) ?_
         (repeat first | dsimp only [go_sem,rA,rM,rS] | simp only [nbr])
         rw [w64_in (n:=(i:Int)+1) (by omega) (by omega)]
         refine ⟨(i+1,b),⟨by simp only;omega,by simp only;omega,fun j hj=>?_⟩,by simp only;omega,?_⟩
         · simp only at hj ⊢
           by_cases e:j=i
           · subst e;omega
           · exact hb.2 j (by omega)
         (refine ent_id ?_ ?_ ?_ rfl rfl<;>dsimp only [pactL,partnerL,intL,id,go_sem,rA,rM,rS]<;>simp [pactL,partnerL,intL,KFR_iff,KFR_app,KFR,KFL,KF,mtL_same,mtO,nbr])
     refine br_f (by simpa using hlt3) ?_
     (repeat first | dsimp only [go_sem,rA,rM,rS] | simp only [nbr])
     have hie:i=p.partners.length:=by omega
     subst hie
     have hbO:b=O[t]:=Fm.uniq hb hfm
     have hOt:O[t] < BY.length:=by rw [← hbO,hBl];exact hbi
     refine ixrm b rfl (by simp [prtL_len];omega) ?_
     (repeat first | dsimp only [go_sem,rA,rM,rS] | simp only [nbr])
     refine ldrm (by rw [prtL_len];omega) ?_
     (repeat first | dsimp only [intL,go_sem,rA,rM,rS] | simp only [nbr])
     subst hbO
     rw [prtL_get,if_neg (take_no htO hOn),Int.add_zero]
     have hpp:=hDv.part hOt
     rw [w64_in (n:=partF A BY O[t]+1) (by omega) (by omega)]
     refine ixrm O[t] rfl (by simp [prtL_len];omega) ?_
     (repeat first | dsimp only [go_sem,rA,rM,rS] | simp only [nbr])
     refine strm (partF A BY O[t]+1) (by rw [prtL_len];omega) (by simp [intL]) (by simp [intL,splice]) ?_
     (repeat first | dsimp only [go_sem,rA,rM,rS] | simp only [nbr])
     rw [prtL_set htO hOn hOt]
     refine ixrm O[t] rfl (by simp;omega) ?_
     (repeat first | dsimp only [go_sem,rA,rM,rS] | simp only [nbr])
     refine strm (-1) (by simp;omega) (by simp [intL]) (by simp [intL,splice]) ?_
     (repeat first | dsimp only [go_sem,rA,rM,rS] | simp only [nbr])
     rw [cuT_set htO,w64_in (n:=leftF A BY - t - 1) (by omega) (by omega),show leftF A BY - (t:Int) - 1=leftF A BY - ((t+1:Nat):Int) from by omega]
     refine ⟨t+1,by omega,by omega,?_⟩
     (refine ent_id ?_ ?_ ?_ rfl rfl<;>dsimp only [pactL,partnerL,intL,id,go_sem,rA,rM,rS]<;>simp [pactL,partnerL,intL,KFR_iff,KFR_app,KFR,KFL,KF,mtL_same,mtO,nbr])
   refine br_f (by simp;omega) ?_
   dsimp only [go_sem,rA,rM,rS]
   have hte:t=(leftF A BY).toNat:=by omega
   rw [hte,prtL_done hDv hO hof]
   obtain ⟨D,hD,hDl,hDb,hfin⟩:∃ D:List Int,dividedF A BY=D∧D.length=p.partners.length∧(∀ i (hi:i < D.length),0≤D[i]∧D[i]≤A+1)∧divideF p r=D.map (fun x=>x * (-1:Int)):=⟨_,rfl,by rw [dividedF_len,hBl],fun i hi=>divd_bd hA0 hB0 hS hi,hfin0⟩
   rw [hD]
   refine loopO (fun s:Nat=>[(17,I (s:Nat))]) (fun s=>[(1,.row 0 1 (((D.take s).map (fun x=>x * (-1:Int)) ++ D.drop s).map intL) 3)]) (fun s=>s≤D.length) (fun s=>D.length - s) 0 (Nat.zero_le _) ?_ ?_
   · (refine ent_id ?_ ?_ ?_ rfl rfl<;>dsimp only [pactL,partnerL,intL,id,go_sem,rA,rM,rS]<;>simp [pactL,partnerL,intL,KFR_iff,KFR_app,KFR,KFL,KF,mtL_same,mtO,nbr])
   intro k hk
   dsimp only [go_sem,rA,rM,rS]
   by_cases hltk:k < D.length
   · refine br_t (by simp;omega) ?_
     (repeat first | dsimp only [go_sem,rA,rM,rS] | simp only [nbr])
     have hgl:((D.take k).map (fun x=>x * (-1:Int)) ++ D.drop k).length=D.length:=by simp<;>omega
     have hg:((D.take k).map (fun x=>x * (-1:Int)) ++ D.drop k)[k]'(by omega)=D[k]:=by
      rw [List.getElem_append_right (by simp;omega)]
      simp [Nat.min_eq_left (Nat.le_of_lt hltk)]
     refine ixrm k rfl (by rw [List.length_map,hgl];exact hltk) ?_
     (repeat first | dsimp only [go_sem,rA,rM,rS] | simp only [nbr])
     refine ldrm (by rw [hgl];exact hltk) ?_
     (repeat first | dsimp only [intL,go_sem,rA,rM,rS] | simp only [nbr])
     rw [hg]
     have:=hDb k hltk
     rw [w64_in (n:=D[k] * (-1:Int)) (by omega) (by omega)]
     refine ixrm k rfl (by rw [List.length_map,hgl];exact hltk) ?_
     (repeat first | dsimp only [go_sem,rA,rM,rS] | simp only [nbr])
     refine strm (D[k] * (-1:Int)) (by rw [hgl];exact hltk) (by simp [intL]) (by simp [intL,splice]) ?_
     (repeat first | dsimp only [go_sem,rA,rM,rS] | simp only [nbr])
     have hset:((D.take k).map (fun x=>x * (-1:Int)) ++ D.drop k).set k (D[k] * (-1:Int))=(D.take (k+1)).map (fun x=>x * (-1:Int)) ++ D.drop (k+1):=by
      rw [List.set_append_right (h:=by simp;omega)]
      simp only [List.length_map,List.length_take,Nat.min_eq_left (Nat.le_of_lt hltk),Nat.sub_self]
      rw [List.drop_eq_getElem_cons hltk,List.set_cons_zero,List.take_succ_eq_append_getElem hltk,List.map_append,List.append_assoc]
      rfl
     rw [hset,w64_in (n:=(k:Int)+1) (by omega) (by omega)]
     have hk1:KFR (List.map intL ((D.take (k+1)).map (fun x=>x * (-1:Int)) ++ D.drop (k+1))):=KFR_iff.2 fun x _=>by simp [KFL,KF,intL]
     refine ⟨k+1,hltk,by omega,?_⟩
     generalize (D.take (k+1)).map (fun x=>x * (-1:Int)) ++ D.drop (k+1)=Q at *
     (refine ent_id ?_ ?_ ?_ rfl rfl<;>dsimp only [pactL,partnerL,intL,id,go_sem,rA,rM,rS]<;>simp [pactL,partnerL,intL,KFR_iff,KFR_app,KFR,KFL,KF,mtL_same,mtO,nbr])
   refine br_f (by simp;omega) ?_
   dsimp only [go_sem,rA,rM,rS]
   have hkl:k=D.length:=by omega
   rw [hkl,List.take_length,List.drop_length,List.append_nil,hfin]
end Go.Proofs.Ythilckbkffjliaa
set_option maxRecDepth 100000
set_option maxHeartbeats 4000000
namespace Go.Proofs.Ythilckbkffjliaa
open Go Go.Sx Go.Azalai
theorem twin_ok (p:Pact) (hs:smallP p):Ct Try.prog 17 [.agg (pactL p)] (.agg (pactL p)):=by
 have hs':p.partners.length≤1000:=hs
 refine t17 (by simp [pactL,partnerL,KFR_iff,KFL,KF]) (by simp [pactL,partnerL,KFR_iff,KFL,KF]) ?_
 dsimp only [c17,r17,pactL,go_sem,rA,rM,rS]
 refine app0 (by simp;omega) ?_
 dsimp only [go_sem,rA,rM,rS]
 try simp
theorem samepact_ok (p:Pact) (hs:smallP p):Ct Try.prog 23 [.agg (pactL p),.agg (pactL p)] (B true):=by
 have hs':p.partners.length≤1000:=hs
 refine t23 (by simp [pactL,partnerL,KFR_iff,KFL,KF]) (by simp [KFL,KF]) ?_
 dsimp only [c23,r23,pactL,go_sem,rA,rM,rS]
 repeat (refine gb ?_;dsimp only [go_sem,rA,rM,rS])
 refine br_f (by simp) ?_
 dsimp only [go_sem,rA,rM,rS]
 refine loopO (fun s:Nat=>[(5,I (s:Nat))]) (fun _=>[]) (fun s=>s≤p.partners.length) (fun s=>p.partners.length - s) 0 (Nat.zero_le _) ?_ ?_
 · (refine ent_id ?_ ?_ ?_ rfl rfl<;>dsimp only [pactL,partnerL,id,go_sem,rA,rM,rS]<;>simp [pactL,partnerL,KFR_iff,KFR_app,KFR,KFL,KF,mtL_same,mtO,nbr])
 intro k hk
 dsimp only [go_sem,rA,rM,rS]
 simp only [List.length_map]
 by_cases hlt:k < p.partners.length
 · refine br_t (by simpa using hlt) ?_
   dsimp only [go_sem,rA,rM,rS]
   refine ixs_map k hlt rfl ?_
   dsimp only [partnerL,go_sem,rA,rM,rS]
   refine ixs_map k hlt rfl ?_
   dsimp only [partnerL,go_sem,rA,rM,rS]
   refine br_f (by simp [ngB]) ?_
   dsimp only [go_sem,rA,rM,rS]
   rw [w64_in (n:=(k:Int)+1) (by omega) (by omega)]
   refine ⟨k+1,hlt,by omega,?_⟩
   (refine ent_id ?_ ?_ ?_ rfl rfl<;>dsimp only [pactL,partnerL,id,go_sem,rA,rM,rS]<;>simp [pactL,partnerL,KFR_iff,KFR_app,KFR,KFL,KF,mtL_same,mtO,nbr])
 refine br_f (by simpa using hlt) ?_
 dsimp only [go_sem,rA,rM,rS]
def divV (p:Pact) (r:Int):SV:=if okPact p=true∧inR (-10000000000) 10000000000 r=true then .sl false 1 ((divideF p r).map intL) else .v (.slice none 0 0)
def divE (p:Pact) (r:Int):Int:=if okPact p=true then (if inR (-10000000000) 10000000000 r=true then 0 else 2) else 80
theorem divV_kf (p:Pact) (r:Int):KF (divV p r):=by unfold divV;split<;>simp [KF,KFR_iff,intL,KFL]
theorem rDivide_ok (p:Pact) (r:Int) (hs:smallP p):Ct Try.prog 19 [.agg (pactL p),I r] (.tup [divV p r,I (divE p r)]):=by
 refine t19 (by simp [pactL,partnerL,letterL,KFR_iff,KFL,KF]) ⟨divV_kf p r,by simp [KF],trivial⟩ ?_
 dsimp only [c19,r19,pactL,go_sem,rA,rM,rS]
 refine call (rpact_ok p hs) ?_
 dsimp only [go_sem,rA,rM,rS]
 by_cases hp:okPact p=true
 case neg =>
  refine br_t (by simpa using hp) ?_
  dsimp only [go_sem,rA,rM,rS]
  simp [divV,divE,hp]
 refine br_f (by simpa using hp) ?_
 dsimp only [go_sem,rA,rM,rS]
 refine call (within_ok _ _ _) ?_
 dsimp only [go_sem,rA,rM,rS]
 by_cases hr:inR (-10000000000) 10000000000 r=true
 case neg =>
  refine br_t (by simpa using hr) ?_
  dsimp only [go_sem,rA,rM,rS]
  simp [divV,divE,hp,hr]
 refine br_f (by simpa using hr) ?_
 dsimp only [go_sem,rA,rM,rS]
 have hb:=hr
 simp only [inR,decide_eq_true_eq] at hb
 refine call (rdiv_ok p hp r hb) ?_
 dsimp only [go_sem,rA,rM,rS]
 simp [divV,divE,hp,hr]
theorem same22_nil:Ct Try.prog 22 [.v (.slice none 0 0),.v (.slice none 0 0)] (B true) :=
 (same22_ok [] [] (by simp) (by simp) false false).args (by simp [KFL,KF]) (weak_cons weak_nil (weak_cons weak_nil rl_rfl))
theorem divides_ok (p:Pact) (r:Int):Ct Try.prog 3 [.agg (pactL p),I r] (B true):=by
 refine t3 (by simp [pactL,partnerL,KFR_iff,KFL,KF]) (by simp [KFL,KF]) ?_
 dsimp only [c3,r3,pactL,go_sem,rA,rM,rS]
 have hgr:=(great_ok p [] true).args (args0:=[.agg (pactL p),.v (.slice none 0 0)]) (by simp [pactL,partnerL,KFR_iff,KFL,KF]) (weak_cons Weak.rfl (weak_cons weak_nil rl_rfl))
 simp only [pactL] at hgr
 refine call hgr ?_
 dsimp only [go_sem,rA,rM,rS]
 by_cases hg:greatF p []=true
 · refine br_t hg ?_
   dsimp only [go_sem,rA,rM,rS]
 rw [Bool.not_eq_true] at hg
 refine br_f hg ?_
 dsimp only [go_sem,rA,rM,rS]
 have hs:smallP p:=by
  simp only [greatF,Bool.or_eq_false_iff,decide_eq_false_iff_not] at hg
  show p.partners.length≤1000;omega
 have hs':p.partners.length≤1000:=hs
 have htw:=twin_ok p hs
 simp only [pactL] at htw
 refine call htw ?_
 dsimp only [go_sem,rA,rM,rS]
 have hd1:Ct Try.prog 18 [.agg (pactL p),I r] (.tup [divV p r,I (divE p r)]):=Divide_ok p r hs
 have hd2:=rDivide_ok p r hs
 have hc1:=check_ok p hs
 have hc2:=rcheck_ok p hs
 have hsp:=samepact_ok p hs
 have hq:Ct Try.prog 22 [divV p r,divV p r] (B true):=by
  unfold divV
  split
  · have:=same22_ok (divideF p r) (divideF p r) (by rw [divideF_len];omega) (by rw [divideF_len];omega) false false
    simpa using this
  · exact same22_nil
 simp only [pactL] at hd1 hd2 hc1 hc2 hsp
 have hdv:(∃ d:List Int,divV p r = .sl false 1 (d.map intL))∨divV p r = .v (.slice none 0 0):=by
  unfold divV;split
  · exact .inl ⟨_,rfl⟩
  · exact .inr rfl
 clear hgr htw
 rcases hdv with ⟨d,hdv⟩ | hdv
 all_goals (
  rw [hdv] at hd1 hd2 hq
  refine call hd1 ?_
  dsimp only [go_sem,rA,rM,rS]
  refine call hd2 ?_
  dsimp only [go_sem,rA,rM,rS]
  refine call hc1 ?_
  dsimp only [go_sem,rA,rM,rS]
  refine call hc2 ?_
  dsimp only [go_sem,rA,rM,rS]
  repeat (first | (refine gb ?_;dsimp only [go_sem,rA,rM,rS]) | (refine call hq ?_;dsimp only [go_sem,rA,rM,rS]) | (refine call hsp ?_;dsimp only [go_sem,rA,rM,rS]))
  simp)
end Go.Proofs.Ythilckbkffjliaa
set_option maxRecDepth 100000
set_option maxHeartbeats 4000000
namespace Go.Proofs.Ythilckbkffjliaa
open Go Go.Sx Go.Azalai Go.ChangeShapes Go.WideShapes Go.RowKit
theorem lift_map {α : Type} {rep:α→List SV} {q:List SV→Prop} (hq:∀ r,q r→∃ a,r=rep a):∀ {xs:List (List SV)},(∀ r ∈ xs,q r)→∃ l:List α,xs=l.map rep
 | [],_=>⟨[],rfl⟩
 | x :: xs,h=>by
  obtain ⟨a,rfl⟩:=hq x (h x (by simp))
  obtain ⟨l,rfl⟩:=lift_map (xs:=xs) hq (fun r hr=>h r (by simp [hr]))
  exact ⟨a :: l,rfl⟩
theorem shp3 {f:Nat} {l:List SV} (h:Shp Try.prog (f+1) 3 l):∃ n:Int,l=[.v (.int .i64 n)]∧(Lit.int .i64 n).wf=true:=by
 rw [Shp,Try.underlying3] at h
 exact h
theorem shp64 {f:Nat} {l:List SV} (h:Shp Try.prog (f+2) 64 l):∃ w:Partner,l=partnerL w:=by
 rw [Shp,Try.underlying64] at h
 simp only [ShpF] at h
 obtain ⟨_,_,rfl,_,h0,_,_,rfl,_,h1,_,_,rfl,_,h2,rfl⟩:=h
 obtain ⟨a0,rfl,_⟩:=shp3 (f:=f+0) h0
 obtain ⟨a1,rfl,_⟩:=shp3 (f:=f+0) h1
 obtain ⟨a2,rfl,_⟩:=shp3 (f:=f+0) h2
 exact ⟨⟨a0,a1,a2⟩,rfl⟩
theorem cells64:Try.prog.cellsOf 64=3:=by kernel_rfl
theorem shp22 {f:Nat} {l:List SV} (h:Shp Try.prog (f+3) 22 l):∃ ds:List Partner,l=[.sl false 3 (ds.map partnerL)]∧ds.length≤9223372036854775807:=by
 rw [Shp,Try.underlying22] at h
 obtain ⟨xs,rfl,hl,hx⟩:=h
 obtain ⟨ws,rfl⟩:=lift_map (rep:=partnerL) (fun r h=>shp64 (f:=f) h.2) hx
 rw [cells64]
 exact ⟨ws,rfl,by simpa using hl⟩
theorem shp24 {f:Nat} {l:List SV} (h:Shp Try.prog (f+4) 24 l):∃ w:Pact,l=pactL w:=by
 rw [Shp,Try.underlying24] at h
 simp only [ShpF] at h
 obtain ⟨_,_,rfl,_,h0,_,_,rfl,_,h1,_,_,rfl,_,h2,_,_,rfl,_,h3,rfl⟩:=h
 obtain ⟨a0,rfl,_⟩:=shp22 (f:=f+0) h0
 obtain ⟨a1,rfl,_⟩:=shp3 (f:=f+2) h1
 obtain ⟨a2,rfl,_⟩:=shp3 (f:=f+2) h2
 obtain ⟨a3,rfl,_⟩:=shp3 (f:=f+2) h3
 exact ⟨⟨a0,a1,a2,a3⟩,rfl⟩
theorem Try.own:ownKnob Try.prog.godebug=none:=by kernel_rfl
theorem Try.laidOut:laidOutB Try.prog=true:=by kernel_rfl
theorem tyB24:tyB Try.prog 20 24=true:=by kernel_rfl
theorem tyB3:tyB Try.prog 20 3=true:=by kernel_rfl
theorem shareDivides_lifted (os:Os) (started:os.Started) (H:Type) (enc:TypeId × Value→H) :
 ReturnsInHanded {} Try.checked os 3 .any (Rows.shareDividesSpec.pre6 enc Try.prog Try.f3 Rows.shareDividesRow.domain false) (Rows.shareDividesSpec.post enc Try.prog Try.f3 false true false false):=by
 refine returnsInHanded_of_change (C:=Try.checked) Try.own started (by kernel_rfl) Try.func3
  (ChangeSpec.witness6 (enc:=enc) (C:=Try.checked) false ⟨#[],#[.agg #[.slice none 0 0,.int .i64 0,.int .i64 0,.int .i64 0],.int .i64 0],[]⟩ 8 (by kernel_rfl) (by kernel_rfl) (by kernel_rfl) (by kernel_rfl)) ?_
 intro W base args ds gs before hval0 hW hcnd _
 have hval:∀ (j:Nat) t v,Try.f3.params[j]? = some t→args[j]? = some v→Value.okWide Try.prog W .any base t v:=hval0
 have hW':=hW
 obtain ⟨p,q,hA0,hV,rfl,hfz,hnd⟩:=hW
 have hA:DataW.TrodAll enc Try.prog W 0 (fun _=>true) true Try.f3.params.toList args.toList ds p:=hA0
 rw [Try.params3] at hA hval
 obtain ⟨v0,vs0,d0,ds0,p0,q0,ea0,rfl,rfl,h0,hA⟩:=trodAll_cons hA
 obtain ⟨v1,vs1,d1,ds1,p1,q1,rfl,rfl,rfl,h1,hA⟩:=trodAll_cons hA
 obtain ⟨rfl,rfl,rfl⟩:=trodAll_nil hA
 obtain ⟨rfl,rfl⟩:=trodVars_none hV
 have hargs:args = #[v0,v1]:=Array.toList_inj.1 ea0
 subst hargs
 obtain ⟨l0,r0,s0⟩:=trod_arg tyB24 (hval 0 24 v0 rfl rfl) h0
 obtain ⟨l1,r1,s1⟩:=trod_arg tyB3 (hval 1 3 v1 rfl rfl) h1
 obtain ⟨x0,rfl⟩:=shp24 s0
 obtain ⟨x1,rfl,b1⟩:=shp3 s1
 simp only [argV,Try.underlying24,Try.underlying3,List.headD_cons] at r0 r1
 refine ((divides_ok x0 x1).run W Tr [v0,v1] (by simp only [RL];exact ⟨_,_,rfl,r0,_,_,rfl,r1,rfl⟩)).mono fun e W' ⟨y,he,hy,hb⟩=>?_
 simp only [R] at hy
 subst hy
 exact ⟨_,he,post_law (P:=Try.prog) Try.laidOut (by kernel_rfl) (by kernel_rfl) Try.underlying4 rfl rfl hW' hb⟩
theorem shareDivides_holds:Rows.ShareDividesSaid :=
 OpenClaim.holds_of_wide 3 Try.f3 rfl rfl rfl rfl rfl rfl rfl ⟨rfl,rfl,rfl,rfl,rfl⟩ rfl rfl rfl rfl rfl (by kernel_rfl) Try.func3 (by kernel_rfl)
  (of_decide_eq_true (by kernel_rfl)) (by unfold Func.isWrapper;first | (rw [if_pos (by decide +kernel)];kernel_rfl) | (rw [if_neg (by decide +kernel)];exact ⟨rfl,rfl⟩))
  (fun os started H enc _=>shareDivides_lifted os started H enc)
end Go.Proofs.Ythilckbkffjliaa
