/- Walks and plain laws that lead to the given statement, part 6 of 9. -/
import Derived.Test.YtiigiflofnjilaaGreatQE
import Derived.Test.YtiigiflofnjilaaGreatProg
set_option maxRecDepth 100000
set_option maxHeartbeats 4000000
set_option linter.all false
open Nat renaming reduceAdd->rA,reduceMul->rM,reduceSub->rS,beq_refl->nbr
namespace Go.Proofs.YtiigiflofnjilaaGreat
open Go Go.Sx
def c46:SC:=(.seq (.reg [
 o1 1 (.box (.t 0) 0 25),
 o1 2 (.mv (.c (.bool false)))])
 (.seq (.seq (.reg [
 o1 4 (.addo (.t 1) 0),
 o1 5 (.ld (.t 4) 1 false),
 o1 6 (.len (.t 5)),
 o1 7 (.bin .gtr (.t 6) (.c (.int .i64 20))),
 m1 8 7,
 ⟨some 9,.addo (.t 1) 1,some (8,false),[]⟩,
 ⟨some 10,.ld (.t 9) 1 false,some (8,false),[]⟩,
 ⟨some 11,.len (.t 10),some (8,false),[]⟩,
 ⟨some 12,.bin .gtr (.t 11) (.c (.int .i64 40)),some (8,false),[]⟩,
 o1 13 (.pick (.t 8) (.c (.bool true)) (.t 12))])
 (.cond (.t 13)
 (.seq (.reg [
  o1 2 (.mv (.c (.bool true)))])
  .ret)
 .skip))
 (.seq (.seq (.reg [
 o1 3 (.mv (.c (.int .i64 0)))])
 (.block 0 (.loop (.seq (.seq (.reg [
  m1 14 3,
  o1 15 (.addo (.t 1) 1),
  o1 16 (.ld (.t 15) 1 false),
  o1 17 (.len (.t 16)),
  o1 18 (.bin .lss (.t 14) (.t 17))])
  (.cond (.t 18)
  .skip
  (.exit 0)))
  (.seq (.block 1 (.seq (.reg [
   o1 21 (.addo (.t 1) 1),
   o1 22 (.ld (.t 21) 1 false),
   m1 23 3,
   o1 24 (.ixs (.t 22) (.t 23) 5),
   o1 25 (.addo (.t 24) 4),
   o1 26 (.ld (.t 25) 1 false),
   o1 27 (.len (.t 26)),
   o1 28 (.bin .gtr (.t 27) (.c (.int .i64 20)))])
   (.cond (.t 28)
   (.seq (.reg [
    o1 2 (.mv (.c (.bool true)))])
    .ret)
   .skip)))
  (.reg [
  m1 19 3,
  o1 20 (.bin .add (.t 19) (.c (.int .i64 1))),
  m1 3 20]))))))
 (.seq (.reg [
 o1 2 (.mv (.c (.bool false)))])
 .ret))))
def r46:List RV:=[.tmp 2]
theorem t46:Qt1 Tryz.prog 46 c46 r46 29:=ZT Tryz.func46 rfl (by kernel_rfl) (by kernel_rfl) (by kernel_rfl) (by kernel_rfl)
def c42:SC:=(.seq (.reg [
 o1 4 (.box (.t 0) 0 25),
 o1 8 (.alloc [.int .i64 0,.int .i64 0] 27),
 o1 9 (.mv (.c (.int .i64 0))),
 o1 10 (.mv (.c (.int .i64 0)))])
 (.seq (.seq (.reg [
 o1 20 (.ld (.t 4) 2 true),
 o1 21 (.call 85 [.t 20]),
 m1 11 21])
 (.block 0 (.seq (.reg [
  m1 23 11,
  o1 24 (.bin .neq (.t 23) (.c (.int .i64 0))),
  m1 22 24])
  (.cond (.t 22)
  (.seq (.reg [
   o1 25 (.ld (.t 8) 2 true),
   m1 26 11,
   ⟨none,.st (.t 8) (.t 25) 2,none,[]⟩,
   o1 9 (.mv (.c (.int .i64 0))),
   m1 10 26])
   .ret)
  (.seq (.reg [
   o1 28 (.addo (.t 4) 0),
   o1 29 (.ld (.t 28) 1 false),
   o1 30 (.len (.t 29)),
   o1 31 (.bin .sub (.t 30) (.c (.int .i64 1))),
   m1 32 1,
   o1 33 (.bsl 1 3 [.t 32]),
   o1 34 (.call 76 [.c (.int .i64 0),.t 31,.t 33]),
   o1 35 (.un .not (.t 34)),
   m1 36 35,
   ⟨some 37,.mv (.t 3),some (36,false),[]⟩,
   ⟨some 38,.bsl 1 3 [.t 37],some (36,false),[]⟩,
   ⟨some 39,.call 76 [.c (.int .i64 0),.c (.int .i64 100000),.t 38],some (36,false),[]⟩,
   ⟨some 40,.un .not (.t 39),some (36,false),[]⟩,
   o1 41 (.pick (.t 36) (.c (.bool true)) (.t 40)),
   m1 27 41])
   (.cond (.t 27)
   (.seq (.reg [
    o1 42 (.ld (.t 8) 2 true),
    ⟨none,.st (.t 8) (.t 42) 2,none,[]⟩,
    o1 9 (.mv (.c (.int .i64 0))),
    o1 10 (.mv (.c (.int .i64 2)))])
    .ret)
   (.seq (.reg [
    m1 44 2,
    o1 45 (.len (.t 44)),
    o1 46 (.bin .gtr (.t 45) (.c (.int .i64 200))),
    m1 43 46])
    (.cond (.t 43)
    (.seq (.reg [
     o1 47 (.ld (.t 8) 2 true),
     ⟨none,.st (.t 8) (.t 47) 2,none,[]⟩,
     o1 9 (.mv (.c (.int .i64 0))),
     o1 10 (.mv (.c (.int .i64 4)))])
     .ret)
    .skip))))))))
 (.seq (.reg [
 o1 12 (.mv (.c (.int .i64 0)))])
 (.seq (.seq (.reg [
 m1 48 2,
 o1 49 (.len (.t 48)),
 o1 50 (.mv (.c (.int .i64 0)))])
 (.block 1 (.loop (.seq (.reg [
  o1 51 (.bin .lss (.t 50) (.t 49))])
  (.seq (.cond (.t 51)
  .skip
  (.exit 1))
  (.seq (.block 2 (.seq (.reg [
   o1 52 (.ixs (.t 48) (.t 50) 3),
   o1 53 (.ld (.t 52) 3 true),
   o1 14 (.alloc [.int .i64 0,.int .i64 0,.int .i64 0] 111),
   ⟨none,.st (.t 14) (.t 53) 3,none,[]⟩])
   (.seq (.seq (.reg [
   o1 54 (.addo (.t 4) 0),
   o1 55 (.ld (.t 54) 1 false),
   o1 56 (.len (.t 55)),
   o1 57 (.bin .sub (.t 56) (.c (.int .i64 1))),
   o1 58 (.addo (.t 14) 0),
   o1 59 (.ld (.t 58) 1 false),
   o1 60 (.bsl 1 3 [.t 59]),
   o1 61 (.call 76 [.c (.int .i64 0),.t 57,.t 60]),
   o1 62 (.un .not (.t 61)),
   m1 63 62,
   ⟨some 64,.mv (.t 12),some (63,false),[]⟩,
   ⟨some 65,.addo (.t 14) 1,some (63,false),[]⟩,
   ⟨some 66,.ld (.t 65) 1 false,some (63,false),[]⟩,
   ⟨some 67,.bsl 1 3 [.t 66],some (63,false),[]⟩,
   ⟨some 68,.call 76 [.t 64,.c (.int .i64 100000),.t 67],some (63,false),[]⟩,
   ⟨some 69,.un .not (.t 68),some (63,false),[]⟩,
   o1 70 (.pick (.t 63) (.c (.bool true)) (.t 69)),
   m1 71 70,
   ⟨some 72,.addo (.t 14) 2,some (71,false),[]⟩,
   ⟨some 73,.ld (.t 72) 1 false,some (71,false),[]⟩,
   ⟨some 74,.bsl 1 3 [.t 73],some (71,false),[]⟩,
   ⟨some 75,.call 76 [.c (.int .i64 0),.c (.int .i64 1000000000),.t 74],some (71,false),[]⟩,
   ⟨some 76,.un .not (.t 75),some (71,false),[]⟩,
   o1 77 (.pick (.t 71) (.c (.bool true)) (.t 76))])
   (.cond (.t 77)
   (.seq (.reg [
    o1 78 (.ld (.t 8) 2 true),
    ⟨none,.st (.t 8) (.t 78) 2,none,[]⟩,
    o1 9 (.mv (.c (.int .i64 0))),
    o1 10 (.mv (.c (.int .i64 32)))])
    .ret)
   .skip))
   (.reg [
   o1 79 (.addo (.t 14) 1),
   o1 80 (.ld (.t 79) 1 false),
   m1 12 80]))))
  (.reg [
  o1 81 (.bin .add (.t 50) (.c (.int .i64 1))),
  m1 50 81])))))))
 (.seq (.reg [
 o1 82 (.addo (.t 4) 0),
 o1 83 (.ld (.t 82) 1 false),
 m1 84 1,
 o1 85 (.ixs (.t 83) (.t 84) 9),
 o1 86 (.ld (.t 85) 9 true),
 o1 15 (.alloc zv7 88),
 ⟨none,.st (.t 15) (.t 86) 9,none,[]⟩])
 (.seq (.reg [
 o1 87 (.addo (.t 15) 6),
 o1 88 (.ld (.t 87) 2 true),
 o1 16 (.alloc [.int .i64 0,.int .i64 0] 27),
 ⟨none,.st (.t 16) (.t 88) 2,none,[]⟩,
 o1 17 (.mv (.c (.int .i64 (-1))))])
 (.seq (.seq (.reg [
 m1 89 2,
 o1 90 (.len (.t 89)),
 o1 91 (.mv (.c (.int .i64 0)))])
 (.block 3 (.loop (.seq (.reg [
  o1 92 (.bin .lss (.t 91) (.t 90))])
  (.seq (.cond (.t 92)
  .skip
  (.exit 3))
  (.seq (.block 4 (.seq (.reg [
   m1 93 91,
   o1 94 (.ixs (.t 89) (.t 91) 3),
   o1 95 (.ld (.t 94) 3 true),
   o1 19 (.alloc [.int .i64 0,.int .i64 0,.int .i64 0] 111),
   m1 18 93,
   ⟨none,.st (.t 19) (.t 95) 3,none,[]⟩])
   (.seq (.seq (.reg [
   o1 96 (.addo (.t 19) 0),
   o1 97 (.ld (.t 96) 1 false),
   m1 98 1,
   o1 99 (.bin .neq (.t 97) (.t 98)),
   m1 100 99,
   ⟨some 101,.addo (.t 19) 1,some (100,false),[]⟩,
   ⟨some 102,.ld (.t 101) 1 false,some (100,false),[]⟩,
   ⟨some 103,.mv (.t 3),some (100,false),[]⟩,
   ⟨some 104,.bin .geq (.t 102) (.t 103),some (100,false),[]⟩,
   o1 105 (.pick (.t 100) (.c (.bool true)) (.t 104))])
   (.cond (.t 105)
   (.exit 4)
   .skip))
   (.seq (.reg [
   o1 106 (.ld (.t 15) 9 true),
   o1 107 (.ld (.t 16) 2 true),
   o1 108 (.addo (.t 19) 1),
   o1 109 (.ld (.t 108) 1 false),
   m1 110 17,
   o1 111 (.bin .sub (.t 109) (.t 110)),
   o1 112 (.call 86 [.t 106,.t 107,.t 111]),
   ⟨none,.st (.t 16) (.t 112) 2,none,[]⟩])
   (.seq (.reg [
   o1 113 (.addo (.t 19) 1),
   o1 114 (.ld (.t 113) 1 false),
   m1 17 114])
   (.seq (.seq (.reg [
   o1 115 (.addo (.t 16) 1),
   o1 116 (.ld (.t 115) 1 false),
   o1 117 (.addo (.t 19) 2),
   o1 118 (.ld (.t 117) 1 false),
   o1 119 (.bin .lss (.t 116) (.t 118))])
   (.cond (.t 119)
   (.seq (.reg [
    o1 120 (.ld (.t 8) 2 true),
    m1 121 18,
    ⟨none,.st (.t 8) (.t 120) 2,none,[]⟩,
    m1 9 121,
    o1 10 (.mv (.c (.int .i64 33)))])
    .ret)
   .skip))
   (.reg [
   o1 122 (.addo (.t 16) 0),
   o1 123 (.ld (.t 122) 1 false),
   o1 124 (.addo (.t 19) 2),
   o1 125 (.ld (.t 124) 1 false),
   o1 126 (.bin .sub (.t 123) (.t 125)),
   o1 127 (.mm true [.c (.int .i64 0),.t 126]),
   o1 128 (.addo (.t 16) 1),
   o1 129 (.ld (.t 128) 1 false),
   o1 130 (.addo (.t 19) 2),
   o1 131 (.ld (.t 130) 1 false),
   o1 132 (.bin .sub (.t 129) (.t 131)),
   o1 133 (.build [.int .i64 0,.int .i64 0] [(0,1,.t 127),(1,1,.t 132)]),
   ⟨none,.st (.t 16) (.t 133) 2,none,[]⟩])))))))
  (.reg [
  o1 134 (.bin .add (.t 91) (.c (.int .i64 1))),
  m1 91 134])))))))
 (.seq (.reg [
 o1 135 (.ld (.t 15) 9 true),
 o1 136 (.ld (.t 16) 2 true),
 m1 137 3,
 o1 138 (.bin .sub (.t 137) (.c (.int .i64 1))),
 m1 139 17,
 o1 140 (.bin .sub (.t 138) (.t 139)),
 o1 141 (.call 86 [.t 135,.t 136,.t 140]),
 ⟨none,.st (.t 8) (.t 141) 2,none,[]⟩,
 o1 9 (.mv (.c (.int .i64 0))),
 o1 10 (.mv (.c (.int .i64 0)))])
 .ret))))))))
def r42:List RV:=[.cell 8 2 true,.tmp 9,.tmp 10]
theorem t42:Qt1 Tryz.prog 42 c42 r42 142:=ZT Tryz.func42 rfl (by kernel_rfl) (by kernel_rfl) (by kernel_rfl) (by kernel_rfl)
def c108:SC:=(.seq (.reg [
 o1 4 (.box (.t 0) 0 25),
 o1 8 (.alloc [.int .i64 0,.int .i64 0] 27),
 o1 9 (.mv (.c (.int .i64 0))),
 o1 10 (.mv (.c (.int .i64 0)))])
 (.seq (.seq (.reg [
 o1 16 (.ld (.t 4) 2 true),
 o1 17 (.call 136 [.t 16]),
 o1 18 (.un .not (.t 17))])
 (.cond (.t 18)
 (.seq (.reg [
  o1 19 (.build [.int .i64 0,.int .i64 0] []),
  ⟨none,.st (.t 8) (.t 19) 2,none,[]⟩,
  o1 9 (.mv (.c (.int .i64 0))),
  o1 10 (.mv (.c (.int .i64 30)))])
  .ret)
 .skip))
 (.seq (.seq (.reg [
 m1 20 1,
 o1 21 (.addo (.t 4) 0),
 o1 22 (.ld (.t 21) 1 false),
 o1 23 (.len (.t 22)),
 o1 24 (.bin .sub (.t 23) (.c (.int .i64 1))),
 o1 25 (.call 88 [.t 20,.c (.int .i64 0),.t 24]),
 o1 26 (.un .not (.t 25)),
 m1 27 26,
 ⟨some 28,.mv (.t 3),some (27,false),[]⟩,
 ⟨some 29,.call 88 [.t 28,.c (.int .i64 0),.c (.int .i64 100000)],some (27,false),[]⟩,
 ⟨some 30,.un .not (.t 29),some (27,false),[]⟩,
 o1 31 (.pick (.t 27) (.c (.bool true)) (.t 30))])
 (.cond (.t 31)
 (.seq (.reg [
  o1 32 (.build [.int .i64 0,.int .i64 0] []),
  ⟨none,.st (.t 8) (.t 32) 2,none,[]⟩,
  o1 9 (.mv (.c (.int .i64 0))),
  o1 10 (.mv (.c (.int .i64 2)))])
  .ret)
 .skip))
 (.seq (.seq (.reg [
 m1 33 2,
 o1 34 (.len (.t 33)),
 o1 35 (.bin .gtr (.t 34) (.c (.int .i64 200)))])
 (.cond (.t 35)
 (.seq (.reg [
  o1 36 (.build [.int .i64 0,.int .i64 0] []),
  ⟨none,.st (.t 8) (.t 36) 2,none,[]⟩,
  o1 9 (.mv (.c (.int .i64 0))),
  o1 10 (.mv (.c (.int .i64 4)))])
  .ret)
 .skip))
 (.seq (.seq (.reg [
 o1 37 (.ld (.t 4) 2 true),
 m1 38 2,
 o1 39 (.call 45 [.t 37,.t 38]),
 o1 40 (.un .not (.t 39))])
 (.cond (.t 40)
 (.seq (.reg [
  o1 41 (.build [.int .i64 0,.int .i64 0] []),
  ⟨none,.st (.t 8) (.t 41) 2,none,[]⟩,
  o1 9 (.mv (.c (.int .i64 0))),
  o1 10 (.mv (.c (.int .i64 32)))])
  .ret)
 .skip))
 (.seq (.reg [
 o1 42 (.addo (.t 4) 0),
 o1 43 (.ld (.t 42) 1 false),
 m1 44 1,
 o1 45 (.ixs (.t 43) (.t 44) 9),
 o1 46 (.ld (.t 45) 9 true),
 o1 11 (.alloc zv7 88),
 ⟨none,.st (.t 11) (.t 46) 9,none,[]⟩])
 (.seq (.reg [
 o1 47 (.addo (.t 11) 6),
 o1 48 (.ld (.t 47) 2 true),
 o1 12 (.alloc [.int .i64 0,.int .i64 0] 27),
 ⟨none,.st (.t 12) (.t 48) 2,none,[]⟩,
 o1 13 (.mv (.c (.int .i64 0)))])
 (.seq (.seq (.reg [
 o1 14 (.mv (.c (.int .i64 0)))])
 (.block 0 (.loop (.seq (.seq (.reg [
  m1 49 14,
  m1 50 2,
  o1 51 (.len (.t 50)),
  o1 52 (.bin .lss (.t 49) (.t 51))])
  (.cond (.t 52)
  .skip
  (.exit 0)))
  (.seq (.block 1 (.seq (.reg [
   m1 55 2,
   m1 56 14,
   o1 57 (.ixs (.t 55) (.t 56) 3),
   o1 58 (.ld (.t 57) 3 true),
   o1 15 (.alloc [.int .i64 0,.int .i64 0,.int .i64 0] 111),
   ⟨none,.st (.t 15) (.t 58) 3,none,[]⟩])
   (.seq (.seq (.reg [
   o1 59 (.addo (.t 15) 0),
   o1 60 (.ld (.t 59) 1 false),
   m1 61 1,
   o1 62 (.bin .neq (.t 60) (.t 61)),
   m1 63 62,
   ⟨some 64,.addo (.t 15) 1,some (63,false),[]⟩,
   ⟨some 65,.ld (.t 64) 1 false,some (63,false),[]⟩,
   ⟨some 66,.mv (.t 3),some (63,false),[]⟩,
   ⟨some 67,.bin .geq (.t 65) (.t 66),some (63,false),[]⟩,
   o1 68 (.pick (.t 63) (.c (.bool true)) (.t 67))])
   (.cond (.t 68)
   (.exit 1)
   .skip))
   (.seq (.reg [
   o1 69 (.ld (.t 11) 9 true),
   o1 70 (.ld (.t 12) 2 true),
   o1 71 (.addo (.t 15) 1),
   o1 72 (.ld (.t 71) 1 false),
   o1 73 (.bin .add (.t 72) (.c (.int .i64 1))),
   m1 74 13,
   o1 75 (.bin .sub (.t 73) (.t 74)),
   o1 76 (.call 152 [.t 69,.t 70,.t 75]),
   ⟨none,.st (.t 12) (.t 76) 2,none,[]⟩])
   (.seq (.reg [
   o1 77 (.addo (.t 15) 1),
   o1 78 (.ld (.t 77) 1 false),
   o1 79 (.bin .add (.t 78) (.c (.int .i64 1))),
   m1 13 79])
   (.seq (.seq (.reg [
   o1 80 (.addo (.t 15) 2),
   o1 81 (.ld (.t 80) 1 false),
   o1 82 (.addo (.t 12) 1),
   o1 83 (.ld (.t 82) 1 false),
   o1 84 (.bin .gtr (.t 81) (.t 83))])
   (.cond (.t 84)
   (.seq (.reg [
    o1 85 (.build [.int .i64 0,.int .i64 0] []),
    m1 86 14,
    ⟨none,.st (.t 8) (.t 85) 2,none,[]⟩,
    m1 9 86,
    o1 10 (.mv (.c (.int .i64 33)))])
    .ret)
   .skip))
   (.reg [
   o1 87 (.addo (.t 12) 0),
   o1 88 (.ld (.t 87) 1 false),
   o1 89 (.addo (.t 15) 2),
   o1 90 (.ld (.t 89) 1 false),
   o1 91 (.bin .sub (.t 88) (.t 90)),
   o1 92 (.mm true [.c (.int .i64 0),.t 91]),
   o1 93 (.addo (.t 12) 1),
   o1 94 (.ld (.t 93) 1 false),
   o1 95 (.addo (.t 15) 2),
   o1 96 (.ld (.t 95) 1 false),
   o1 97 (.bin .sub (.t 94) (.t 96)),
   o1 98 (.build [.int .i64 0,.int .i64 0] [(0,1,.t 92),(1,1,.t 97)]),
   ⟨none,.st (.t 12) (.t 98) 2,none,[]⟩])))))))
  (.reg [
  m1 53 14,
  o1 54 (.bin .add (.t 53) (.c (.int .i64 1))),
  m1 14 54]))))))
 (.seq (.reg [
 o1 99 (.ld (.t 11) 9 true),
 o1 100 (.ld (.t 12) 2 true),
 m1 101 3,
 m1 102 13,
 o1 103 (.bin .sub (.t 101) (.t 102)),
 o1 104 (.call 152 [.t 99,.t 100,.t 103]),
 ⟨none,.st (.t 8) (.t 104) 2,none,[]⟩,
 o1 9 (.mv (.c (.int .i64 0))),
 o1 10 (.mv (.c (.int .i64 0)))])
 .ret)))))))))
def r108:List RV:=[.cell 8 2 true,.tmp 9,.tmp 10]
theorem t108:Qt1 Tryz.prog 108 c108 r108 105:=ZT Tryz.func108 rfl (by kernel_rfl) (by kernel_rfl) (by kernel_rfl) (by kernel_rfl)
def c85:SC:=(.seq (.reg [
 o1 1 (.box (.t 0) 0 25),
 o1 2 (.mv (.c (.int .i64 0)))])
 (.seq (.reg [
 o1 5 (.addo (.t 1) 0),
 o1 6 (.ld (.t 5) 1 false),
 o1 7 (.call 129 [.t 6,.f 130]),
 o1 8 (.un .not (.t 7)),
 m1 3 8])
 (.seq (.reg [
 o1 9 (.addo (.t 1) 1),
 o1 10 (.ld (.t 9) 1 false),
 o1 11 (.mkf 133 [.t 1]),
 o1 12 (.call 132 [.t 10,.t 11]),
 o1 13 (.un .not (.t 12)),
 m1 4 13])
 (.seq (.seq (.reg [
 o1 14 (.addo (.t 1) 0),
 o1 15 (.ld (.t 14) 1 false),
 o1 16 (.len (.t 15)),
 o1 17 (.bsl 1 3 [.t 16]),
 o1 18 (.call 76 [.c (.int .i64 1),.c (.int .i64 12),.t 17]),
 o1 19 (.un .not (.t 18)),
 m1 20 19,
 ⟨some 21,.addo (.t 1) 1,some (20,false),[]⟩,
 ⟨some 22,.ld (.t 21) 1 false,some (20,false),[]⟩,
 ⟨some 23,.len (.t 22),some (20,false),[]⟩,
 ⟨some 24,.bin .gtr (.t 23) (.c (.int .i64 24)),some (20,false),[]⟩,
 o1 25 (.pick (.t 20) (.c (.bool true)) (.t 24)),
 m1 26 25,
 ⟨some 27,.mv (.t 3),some (26,false),[]⟩,
 ⟨some 28,.un .not (.t 27),some (26,false),[]⟩,
 o1 29 (.pick (.t 26) (.c (.bool true)) (.t 28)),
 m1 30 29,
 ⟨some 31,.mv (.t 4),some (30,false),[]⟩,
 ⟨some 32,.un .not (.t 31),some (30,false),[]⟩,
 o1 33 (.pick (.t 30) (.c (.bool true)) (.t 32))])
 (.cond (.t 33)
 (.seq (.reg [
  o1 2 (.mv (.c (.int .i64 30)))])
  .ret)
 .skip))
 (.seq (.reg [
 o1 2 (.mv (.c (.int .i64 0)))])
 .ret)))))
def r85:List RV:=[.tmp 2]
theorem t85:Qt1 Tryz.prog 85 c85 r85 34:=ZT Tryz.func85 rfl (by kernel_rfl) (by kernel_rfl) (by kernel_rfl) (by kernel_rfl)
def c45:SC:=(.seq (.reg [
 o1 2 (.box (.t 0) 0 25),
 o1 4 (.mv (.c (.bool false)))])
 (.seq (.seq (.reg [
 o1 5 (.mv (.c (.int .i64 0)))])
 (.block 0 (.loop (.seq (.seq (.reg [
  m1 7 5,
  m1 8 1,
  o1 9 (.len (.t 8)),
  o1 10 (.bin .lss (.t 7) (.t 9))])
  (.cond (.t 10)
  .skip
  (.exit 0)))
  (.seq (.block 1 (.seq (.reg [
   m1 13 1,
   m1 14 5,
   o1 15 (.ixs (.t 13) (.t 14) 3),
   o1 16 (.ld (.t 15) 3 true),
   o1 6 (.alloc [.int .i64 0,.int .i64 0,.int .i64 0] 111),
   ⟨none,.st (.t 6) (.t 16) 3,none,[]⟩])
   (.seq (.regd [0,1,2,3,4,5,6,7,8,9,10,11,12,13,14,15,16,17,18,19,20,21,22,23,24,25,26,27,28,29,30,31,32,33,34] [
   .op (o1 17 (.addo (.t 6) 0)),
   .op ⟨some 18,.ld (.t 17) 1 false,none,[0]⟩,
   .op (o1 19 (.addo (.t 2) 0)),
   .op ⟨some 20,.ld (.t 19) 1 false,none,[2]⟩,
   .op ⟨some 21,.len (.t 20),none,[3]⟩,
   .op ⟨some 22,.bin .sub (.t 21) (.c (.int .i64 1)),none,[4]⟩,
   .op ⟨some 23,.call 88 [.t 18,.c (.int .i64 0),.t 22],none,[1,5]⟩,
   .op ⟨some 24,.un .not (.t 23),none,[6]⟩,
   .op ⟨some 25,.mv (.t 24),none,[6,7]⟩,
   .op ⟨some 26,.addo (.t 6) 1,some (25,false),[8]⟩,
   .op ⟨some 27,.ld (.t 26) 1 false,some (25,false),[8,9]⟩,
   .op ⟨some 28,.call 88 [.t 27,.c (.int .i64 0),.c (.int .i64 100000)],some (25,false),[8,10]⟩,
   .op ⟨some 29,.un .not (.t 28),some (25,false),[8,11]⟩,
   .op ⟨some 30,.pick (.t 25) (.c (.bool true)) (.t 29),none,[8,12]⟩,
   .op ⟨some 31,.mv (.t 30),none,[11,13]⟩,
   .op ⟨some 32,.addo (.t 6) 2,some (31,false),[14]⟩,
   .op ⟨some 33,.ld (.t 32) 1 false,some (31,false),[14,15]⟩,
   .op ⟨some 34,.call 88 [.t 33,.c (.int .i64 0),.c (.int .i64 1000000000)],some (31,false),[14,16]⟩,
   .op ⟨some 35,.un .not (.t 34),some (31,false),[14,17]⟩,
   .op ⟨some 36,.pick (.t 31) (.c (.bool true)) (.t 35),none,[14,18]⟩,
   .op ⟨some 37,.mv (.t 36),none,[17,19]⟩,
   .op ⟨some 38,.mv (.t 5),some (37,false),[20]⟩,
   .op ⟨some 39,.bin .gtr (.t 38) (.c (.int .i64 0)),some (37,false),[20,21]⟩,
   .op ⟨some 40,.mv (.t 39),some (37,false),[20,22]⟩,
   .op ⟨some 41,.addo (.t 6) 1,some (40,true),[23]⟩,
   .op ⟨some 42,.ld (.t 41) 1 false,some (40,true),[23,24]⟩,
   .op ⟨some 43,.mv (.t 1),some (40,true),[23]⟩,
   .op ⟨some 44,.mv (.t 5),some (40,true),[23]⟩,
   .op ⟨some 45,.bin .sub (.t 44) (.c (.int .i64 1)),some (40,true),[23,27]⟩,
   .op ⟨some 46,.ixs (.t 43) (.t 45) 3,some (40,true),[23,26,28]⟩,
   .op ⟨some 47,.addo (.t 46) 1,some (40,true),[23,29]⟩,
   .op ⟨some 48,.ld (.t 47) 1 false,some (40,true),[23,30]⟩,
   .op ⟨some 49,.bin .lss (.t 42) (.t 48),some (40,true),[23,25,31]⟩,
   .op ⟨some 50,.pick (.t 40) (.t 49) (.c (.bool false)),some (37,false),[20,23,32]⟩,
   .op ⟨some 51,.pick (.t 37) (.c (.bool true)) (.t 50),none,[20,33]⟩] 0 0 [
])
 (.cond (.t 51)
 (.seq (.reg [
  o1 4 (.mv (.c (.bool false)))])
  .ret)
 .skip))))
 (.reg [
 m1 11 5,
 o1 12 (.bin .add (.t 11) (.c (.int .i64 1))),
 m1 5 12]))))))
 (.seq (.reg [
 o1 4 (.mv (.c (.bool true)))])
 .ret)))
def r45:List RV:=[.tmp 4]
theorem t45:Qt1 Tryz.prog 45 c45 r45 52:=ZT Tryz.func45 rfl (by kernel_rfl) (by kernel_rfl) (by kernel_rfl) (by kernel_rfl)
def c76:SC:=(.seq (.reg [
 o1 3 (.box (.t 0) 0 3),
 o1 4 (.box (.t 1) 0 3),
 o1 6 (.mv (.c (.bool false)))])
 (.seq (.reg [
 m1 7 2,
 o1 8 (.mkf 121 [.t 3,.t 4]),
 o1 9 (.call 98 [.t 7,.t 8]),
 o1 10 (.un .not (.t 9)),
 m1 6 10])
 .ret))
def r76:List RV:=[.tmp 6]
theorem t76:Qt1 Tryz.prog 76 c76 r76 11:=ZT Tryz.func76 rfl (by kernel_rfl) (by kernel_rfl) (by kernel_rfl) (by kernel_rfl)
def c86:SC:=(.seq (.reg [
 o1 3 (.box (.t 0) 0 88),
 o1 4 (.box (.t 1) 0 27),
 o1 6 (.alloc [.int .i64 0,.int .i64 0] 27)])
 (.seq (.reg [
 o1 7 (.addo (.t 3) 5),
 o1 8 (.ld (.t 7) 1 false),
 o1 9 (.addo (.t 4) 0),
 o1 10 (.ld (.t 9) 1 false),
 m1 11 2,
 o1 12 (.addo (.t 3) 3),
 o1 13 (.addo (.t 12) 0),
 o1 14 (.ld (.t 13) 1 false),
 o1 15 (.bin .mul (.t 11) (.t 14)),
 o1 16 (.bin .add (.t 10) (.t 15)),
 o1 17 (.mm false [.t 8,.t 16]),
 o1 18 (.addo (.t 3) 5),
 o1 19 (.ld (.t 18) 1 false),
 o1 20 (.addo (.t 4) 1),
 o1 21 (.ld (.t 20) 1 false),
 m1 22 2,
 o1 23 (.addo (.t 3) 3),
 o1 24 (.addo (.t 23) 1),
 o1 25 (.ld (.t 24) 1 false),
 o1 26 (.bin .mul (.t 22) (.t 25)),
 o1 27 (.bin .add (.t 21) (.t 26)),
 o1 28 (.mm false [.t 19,.t 27]),
 o1 29 (.build [.int .i64 0,.int .i64 0] [(0,1,.t 17),(1,1,.t 28)]),
 ⟨none,.st (.t 6) (.t 29) 2,none,[]⟩])
 .ret))
def r86:List RV:=[.cell 6 2 true]
theorem t86:Qt1 Tryz.prog 86 c86 r86 30:=ZT Tryz.func86 rfl (by kernel_rfl) (by kernel_rfl) (by kernel_rfl) (by kernel_rfl)
def c136:SC:=(.seq (.reg [
 o1 1 (.box (.t 0) 0 25),
 o1 2 (.mv (.c (.bool false)))])
 (.seq (.seq (.reg [
 o1 10 (.addo (.t 1) 0),
 o1 11 (.ld (.t 10) 1 false),
 o1 12 (.len (.t 11)),
 o1 13 (.call 88 [.t 12,.c (.int .i64 1),.c (.int .i64 12)]),
 o1 14 (.un .not (.t 13)),
 m1 15 14,
 ⟨some 16,.addo (.t 1) 1,some (15,false),[]⟩,
 ⟨some 17,.ld (.t 16) 1 false,some (15,false),[]⟩,
 ⟨some 18,.len (.t 17),some (15,false),[]⟩,
 ⟨some 19,.bin .gtr (.t 18) (.c (.int .i64 24)),some (15,false),[]⟩,
 o1 20 (.pick (.t 15) (.c (.bool true)) (.t 19))])
 (.cond (.t 20)
 (.seq (.reg [
  o1 2 (.mv (.c (.bool false)))])
  .ret)
 .skip))
 (.seq (.seq (.reg [
 o1 3 (.mv (.c (.int .i64 0)))])
 (.block 0 (.loop (.seq (.seq (.reg [
  m1 21 3,
  o1 22 (.addo (.t 1) 0),
  o1 23 (.ld (.t 22) 1 false),
  o1 24 (.len (.t 23)),
  o1 25 (.bin .lss (.t 21) (.t 24))])
  (.cond (.t 25)
  .skip
  (.exit 0)))
  (.seq (.block 1 (.seq (.reg [
   o1 28 (.addo (.t 1) 0),
   o1 29 (.ld (.t 28) 1 false),
   m1 30 3,
   o1 31 (.ixs (.t 29) (.t 30) 9),
   o1 32 (.ld (.t 31) 9 true),
   o1 4 (.alloc zv7 88),
   ⟨none,.st (.t 4) (.t 32) 9,none,[]⟩])
   (.seq (.reg [
   o1 33 (.addo (.t 4) 0),
   o1 34 (.ld (.t 33) 1 false),
   o1 35 (.call 88 [.t 34,.c (.int .i64 (-10000000)),.c (.int .i64 10000000)]),
   o1 36 (.un .not (.t 35)),
   m1 37 36,
   ⟨some 38,.addo (.t 4) 1,some (37,false),[]⟩,
   ⟨some 39,.ld (.t 38) 1 false,some (37,false),[]⟩,
   ⟨some 40,.call 88 [.t 39,.c (.int .i64 (-10000000)),.c (.int .i64 10000000)],some (37,false),[]⟩,
   ⟨some 41,.un .not (.t 40),some (37,false),[]⟩,
   o1 42 (.pick (.t 37) (.c (.bool true)) (.t 41)),
   m1 43 42,
   ⟨some 44,.addo (.t 4) 2,some (43,false),[]⟩,
   ⟨some 45,.ld (.t 44) 1 false,some (43,false),[]⟩,
   ⟨some 46,.call 88 [.t 45,.c (.int .i64 0),.c (.int .i64 200)],some (43,false),[]⟩,
   ⟨some 47,.un .not (.t 46),some (43,false),[]⟩,
   o1 48 (.pick (.t 43) (.c (.bool true)) (.t 47)),
   m1 49 48,
   ⟨some 50,.addo (.t 4) 3,some (49,false),[]⟩,
   ⟨some 51,.ld (.t 50) 2 true,some (49,false),[]⟩,
   ⟨some 52,.call 137 [.t 51,.c (.int .i64 0),.c (.int .i64 10000000)],some (49,false),[]⟩,
   ⟨some 53,.un .not (.t 52),some (49,false),[]⟩,
   o1 54 (.pick (.t 49) (.c (.bool true)) (.t 53)),
   m1 55 54,
   ⟨some 56,.addo (.t 4) 5,some (55,false),[]⟩,
   ⟨some 57,.ld (.t 56) 1 false,some (55,false),[]⟩,
   ⟨some 58,.call 88 [.t 57,.c (.int .i64 0),.c (.int .i64 1000000000)],some (55,false),[]⟩,
   ⟨some 59,.un .not (.t 58),some (55,false),[]⟩,
   o1 60 (.pick (.t 55) (.c (.bool true)) (.t 59)),
   m1 61 60,
   ⟨some 62,.addo (.t 4) 6,some (61,false),[]⟩,
   ⟨some 63,.ld (.t 62) 2 true,some (61,false),[]⟩,
   ⟨some 64,.addo (.t 4) 5,some (61,false),[]⟩,
   ⟨some 65,.ld (.t 64) 1 false,some (61,false),[]⟩,
   ⟨some 66,.call 137 [.t 63,.c (.int .i64 0),.t 65],some (61,false),[]⟩,
   ⟨some 67,.un .not (.t 66),some (61,false),[]⟩,
   o1 68 (.pick (.t 61) (.c (.bool true)) (.t 67)),
   m1 69 68,
   ⟨some 70,.addo (.t 4) 8,some (69,false),[]⟩,
   ⟨some 71,.ld (.t 70) 1 false,some (69,false),[]⟩,
   ⟨some 72,.call 88 [.t 71,.c (.int .i64 0),.c (.int .i64 9999)],some (69,false),[]⟩,
   ⟨some 73,.un .not (.t 72),some (69,false),[]⟩,
   o1 74 (.pick (.t 69) (.c (.bool true)) (.t 73))])
   (.cond (.t 74)
   (.seq (.reg [
    o1 2 (.mv (.c (.bool false)))])
    .ret)
   .skip))))
  (.reg [
  m1 26 3,
  o1 27 (.bin .add (.t 26) (.c (.int .i64 1))),
  m1 3 27]))))))
 (.seq (.seq (.reg [
 o1 5 (.mv (.c (.int .i64 0)))])
 (.block 2 (.loop (.seq (.seq (.reg [
  m1 75 5,
  o1 76 (.addo (.t 1) 1),
  o1 77 (.ld (.t 76) 1 false),
  o1 78 (.len (.t 77)),
  o1 79 (.bin .lss (.t 75) (.t 78))])
  (.cond (.t 79)
  .skip
  (.exit 2)))
  (.seq (.block 3 (.seq (.reg [
   o1 82 (.addo (.t 1) 1),
   o1 83 (.ld (.t 82) 1 false),
   m1 84 5,
   o1 85 (.ixs (.t 83) (.t 84) 5),
   o1 86 (.ld (.t 85) 5 true),
   o1 6 (.alloc zv8 83),
   ⟨none,.st (.t 6) (.t 86) 5,none,[]⟩])
   (.seq (.seq (.reg [
   o1 87 (.addo (.t 6) 0),
   o1 88 (.ld (.t 87) 1 false),
   o1 89 (.addo (.t 1) 0),
   o1 90 (.ld (.t 89) 1 false),
   o1 91 (.len (.t 90)),
   o1 92 (.bin .sub (.t 91) (.c (.int .i64 1))),
   o1 93 (.call 88 [.t 88,.c (.int .i64 0),.t 92]),
   o1 94 (.un .not (.t 93)),
   m1 95 94,
   ⟨some 96,.addo (.t 6) 1,some (95,false),[]⟩,
   ⟨some 97,.ld (.t 96) 1 false,some (95,false),[]⟩,
   ⟨some 98,.addo (.t 1) 0,some (95,false),[]⟩,
   ⟨some 99,.ld (.t 98) 1 false,some (95,false),[]⟩,
   ⟨some 100,.len (.t 99),some (95,false),[]⟩,
   ⟨some 101,.bin .sub (.t 100) (.c (.int .i64 1)),some (95,false),[]⟩,
   ⟨some 102,.call 88 [.t 97,.c (.int .i64 0),.t 101],some (95,false),[]⟩,
   ⟨some 103,.un .not (.t 102),some (95,false),[]⟩,
   o1 104 (.pick (.t 95) (.c (.bool true)) (.t 103)),
   m1 105 104,
   ⟨some 106,.addo (.t 6) 0,some (105,false),[]⟩,
   ⟨some 107,.ld (.t 106) 1 false,some (105,false),[]⟩,
   ⟨some 108,.addo (.t 6) 1,some (105,false),[]⟩,
   ⟨some 109,.ld (.t 108) 1 false,some (105,false),[]⟩,
   ⟨some 110,.bin .eql (.t 107) (.t 109),some (105,false),[]⟩,
   o1 111 (.pick (.t 105) (.c (.bool true)) (.t 110)),
   m1 112 111,
   ⟨some 113,.addo (.t 6) 2,some (112,false),[]⟩,
   ⟨some 114,.ld (.t 113) 2 true,some (112,false),[]⟩,
   ⟨some 115,.call 137 [.t 114,.c (.int .i64 1),.c (.int .i64 1000000)],some (112,false),[]⟩,
   ⟨some 116,.un .not (.t 115),some (112,false),[]⟩,
   o1 117 (.pick (.t 112) (.c (.bool true)) (.t 116)),
   m1 118 117,
   ⟨some 119,.addo (.t 6) 4,some (118,false),[]⟩,
   ⟨some 120,.ld (.t 119) 1 false,some (118,false),[]⟩,
   ⟨some 121,.len (.t 120),some (118,false),[]⟩,
   ⟨some 122,.bin .gtr (.t 121) (.c (.int .i64 6)),some (118,false),[]⟩,
   o1 123 (.pick (.t 118) (.c (.bool true)) (.t 122))])
   (.cond (.t 123)
   (.seq (.reg [
    o1 2 (.mv (.c (.bool false)))])
    .ret)
   .skip))
   (.seq (.reg [
   o1 7 (.mv (.c (.int .i64 (-1))))])
   (.seq (.reg [
   o1 8 (.mv (.c (.int .i64 0)))])
   (.block 4 (.loop (.seq (.seq (.reg [
    m1 124 8,
    o1 125 (.addo (.t 6) 4),
    o1 126 (.ld (.t 125) 1 false),
    o1 127 (.len (.t 126)),
    o1 128 (.bin .lss (.t 124) (.t 127))])
    (.cond (.t 128)
    .skip
    (.exit 4)))
    (.seq (.block 5 (.seq (.reg [
     o1 131 (.addo (.t 6) 4),
     o1 132 (.ld (.t 131) 1 false),
     m1 133 8,
     o1 134 (.ixs (.t 132) (.t 133) 4),
     o1 135 (.ld (.t 134) 4 true),
     o1 9 (.alloc [.int .i64 0,.int .i64 0,.int .i64 0,.int .i64 0] 85),
     ⟨none,.st (.t 9) (.t 135) 4,none,[]⟩])
     (.seq (.seq (.reg [
     o1 136 (.addo (.t 9) 0),
     o1 137 (.ld (.t 136) 2 true),
     o1 138 (.call 137 [.t 137,.c (.int .i64 0),.c (.int .i64 100000)]),
     o1 139 (.un .not (.t 138)),
     m1 140 139,
     ⟨some 141,.addo (.t 9) 2,some (140,false),[]⟩,
     ⟨some 142,.ld (.t 141) 2 true,some (140,false),[]⟩,
     ⟨some 143,.call 137 [.t 142,.c (.int .i64 0),.c (.int .i64 100000)],some (140,false),[]⟩,
     ⟨some 144,.un .not (.t 143),some (140,false),[]⟩,
     o1 145 (.pick (.t 140) (.c (.bool true)) (.t 144)),
     m1 146 145,
     ⟨some 147,.addo (.t 9) 0,some (146,false),[]⟩,
     ⟨some 148,.addo (.t 147) 0,some (146,false),[]⟩,
     ⟨some 149,.ld (.t 148) 1 false,some (146,false),[]⟩,
     ⟨some 150,.addo (.t 9) 2,some (146,false),[]⟩,
     ⟨some 151,.addo (.t 150) 1,some (146,false),[]⟩,
     ⟨some 152,.ld (.t 151) 1 false,some (146,false),[]⟩,
     ⟨some 153,.bin .gtr (.t 149) (.t 152),some (146,false),[]⟩,
     o1 154 (.pick (.t 146) (.c (.bool true)) (.t 153)),
     m1 155 154,
     ⟨some 156,.addo (.t 9) 0,some (155,false),[]⟩,
     ⟨some 157,.addo (.t 156) 0,some (155,false),[]⟩,
     ⟨some 158,.ld (.t 157) 1 false,some (155,false),[]⟩,
     ⟨some 159,.mv (.t 7),some (155,false),[]⟩,
     ⟨some 160,.bin .leq (.t 158) (.t 159),some (155,false),[]⟩,
     o1 161 (.pick (.t 155) (.c (.bool true)) (.t 160))])
     (.cond (.t 161)
     (.seq (.reg [
      o1 2 (.mv (.c (.bool false)))])
      .ret)
     .skip))
     (.reg [
     o1 162 (.addo (.t 9) 2),
     o1 163 (.addo (.t 162) 1),
     o1 164 (.ld (.t 163) 1 false),
     m1 7 164]))))
    (.reg [
    m1 129 8,
    o1 130 (.bin .add (.t 129) (.c (.int .i64 1))),
    m1 8 130]))))))))))
  (.reg [
  m1 80 5,
  o1 81 (.bin .add (.t 80) (.c (.int .i64 1))),
  m1 5 81]))))))
 (.seq (.reg [
 o1 2 (.mv (.c (.bool true)))])
 .ret)))))
def r136:List RV:=[.tmp 2]
theorem t136:Qt1 Tryz.prog 136 c136 r136 165:=ZT Tryz.func136 rfl (by kernel_rfl) (by kernel_rfl) (by kernel_rfl) (by kernel_rfl)
def c88:SC:=(.seq (.reg [
 o1 6 (.mv (.c (.bool false)))])
 (.seq (.reg [
 m1 7 0,
 m1 8 1,
 o1 9 (.bin .geq (.t 7) (.t 8)),
 m1 10 9,
 ⟨some 11,.mv (.t 0),some (10,true),[]⟩,
 ⟨some 12,.mv (.t 2),some (10,true),[]⟩,
 ⟨some 13,.bin .leq (.t 11) (.t 12),some (10,true),[]⟩,
 o1 14 (.pick (.t 10) (.t 13) (.c (.bool false))),
 m1 6 14])
 .ret))
def r88:List RV:=[.tmp 6]
theorem t88:Qt1 Tryz.prog 88 c88 r88 15:=ZT Tryz.func88 rfl (by kernel_rfl) (by kernel_rfl) (by kernel_rfl) (by kernel_rfl)
def c152:SC:=(.seq (.reg [
 o1 3 (.box (.t 0) 0 88),
 o1 4 (.box (.t 1) 0 27),
 o1 6 (.alloc [.int .i64 0,.int .i64 0] 27)])
 (.seq (.reg [
 o1 7 (.addo (.t 3) 5),
 o1 8 (.ld (.t 7) 1 false),
 o1 9 (.addo (.t 4) 0),
 o1 10 (.ld (.t 9) 1 false),
 m1 11 2,
 o1 12 (.addo (.t 3) 3),
 o1 13 (.addo (.t 12) 0),
 o1 14 (.ld (.t 13) 1 false),
 o1 15 (.bin .mul (.t 11) (.t 14)),
 o1 16 (.bin .add (.t 10) (.t 15)),
 o1 17 (.mm false [.t 8,.t 16]),
 o1 18 (.addo (.t 3) 5),
 o1 19 (.ld (.t 18) 1 false),
 o1 20 (.addo (.t 4) 1),
 o1 21 (.ld (.t 20) 1 false),
 m1 22 2,
 o1 23 (.addo (.t 3) 3),
 o1 24 (.addo (.t 23) 1),
 o1 25 (.ld (.t 24) 1 false),
 o1 26 (.bin .mul (.t 22) (.t 25)),
 o1 27 (.bin .add (.t 21) (.t 26)),
 o1 28 (.mm false [.t 19,.t 27]),
 o1 29 (.build [.int .i64 0,.int .i64 0] [(0,1,.t 17),(1,1,.t 28)]),
 ⟨none,.st (.t 6) (.t 29) 2,none,[]⟩])
 .ret))
def r152:List RV:=[.cell 6 2 true]
theorem t152:Qt1 Tryz.prog 152 c152 r152 30:=ZT Tryz.func152 rfl (by kernel_rfl) (by kernel_rfl) (by kernel_rfl) (by kernel_rfl)
def c129:SC:=(.seq (.reg [
 o1 4 (.mv (.c (.bool false)))])
 (.seq (.reg [
 m1 5 0,
 m1 6 1,
 o1 7 (.call 161 [.t 5,.t 6]),
 o1 8 (.bin .geq (.t 7) (.c (.int .i64 0))),
 m1 4 8])
 .ret))
def r129:List RV:=[.tmp 4]
theorem t129:Qt1 Tryz.prog 129 c129 r129 9:=ZT Tryz.func129 rfl (by kernel_rfl) (by kernel_rfl) (by kernel_rfl) (by kernel_rfl)
def c130:SC:=(.seq (.reg [
 o1 1 (.box (.t 0) 0 88),
 o1 2 (.mv (.c (.bool false)))])
 (.seq (.reg [
 o1 3 (.ld (.t 1) 9 true),
 o1 4 (.call 131 [.t 3]),
 o1 5 (.un .not (.t 4)),
 m1 2 5])
 .ret))
def r130:List RV:=[.tmp 2]
theorem t130:Qt1 Tryz.prog 130 c130 r130 6:=ZT Tryz.func130 rfl (by kernel_rfl) (by kernel_rfl) (by kernel_rfl) (by kernel_rfl)
def c131:SC:=(.seq (.reg [
 o1 1 (.box (.t 0) 0 88),
 o1 2 (.mv (.c (.bool false)))])
 (.seq (.reg [
 o1 3 (.addo (.t 1) 0),
 o1 4 (.ld (.t 3) 1 false),
 o1 5 (.addo (.t 1) 1),
 o1 6 (.ld (.t 5) 1 false),
 o1 7 (.bsl 1 3 [.t 4,.t 6]),
 o1 8 (.call 76 [.c (.int .i64 (-10000000)),.c (.int .i64 10000000),.t 7]),
 m1 9 8,
 ⟨some 10,.addo (.t 1) 2,some (9,true),[]⟩,
 ⟨some 11,.ld (.t 10) 1 false,some (9,true),[]⟩,
 ⟨some 12,.bsl 1 3 [.t 11],some (9,true),[]⟩,
 ⟨some 13,.call 76 [.c (.int .i64 0),.c (.int .i64 200),.t 12],some (9,true),[]⟩,
 o1 14 (.pick (.t 9) (.t 13) (.c (.bool false))),
 m1 15 14,
 ⟨some 16,.addo (.t 1) 3,some (15,true),[]⟩,
 ⟨some 17,.ld (.t 16) 2 true,some (15,true),[]⟩,
 ⟨some 18,.bsl 2 27 [.t 17],some (15,true),[]⟩,
 ⟨some 19,.call 120 [.c (.int .i64 0),.c (.int .i64 10000000),.t 18],some (15,true),[]⟩,
 o1 20 (.pick (.t 15) (.t 19) (.c (.bool false))),
 m1 21 20,
 ⟨some 22,.addo (.t 1) 5,some (21,true),[]⟩,
 ⟨some 23,.ld (.t 22) 1 false,some (21,true),[]⟩,
 ⟨some 24,.bsl 1 3 [.t 23],some (21,true),[]⟩,
 ⟨some 25,.call 76 [.c (.int .i64 0),.c (.int .i64 1000000000),.t 24],some (21,true),[]⟩,
 o1 26 (.pick (.t 21) (.t 25) (.c (.bool false))),
 m1 27 26,
 ⟨some 28,.addo (.t 1) 5,some (27,true),[]⟩,
 ⟨some 29,.ld (.t 28) 1 false,some (27,true),[]⟩,
 ⟨some 30,.addo (.t 1) 6,some (27,true),[]⟩,
 ⟨some 31,.ld (.t 30) 2 true,some (27,true),[]⟩,
 ⟨some 32,.bsl 2 27 [.t 31],some (27,true),[]⟩,
 ⟨some 33,.call 120 [.c (.int .i64 0),.t 29,.t 32],some (27,true),[]⟩,
 o1 34 (.pick (.t 27) (.t 33) (.c (.bool false))),
 m1 35 34,
 ⟨some 36,.addo (.t 1) 8,some (35,true),[]⟩,
 ⟨some 37,.ld (.t 36) 1 false,some (35,true),[]⟩,
 ⟨some 38,.bsl 1 3 [.t 37],some (35,true),[]⟩,
 ⟨some 39,.call 76 [.c (.int .i64 0),.c (.int .i64 9999),.t 38],some (35,true),[]⟩,
 o1 40 (.pick (.t 35) (.t 39) (.c (.bool false))),
 m1 2 40])
 .ret))
def r131:List RV:=[.tmp 2]
theorem t131:Qt1 Tryz.prog 131 c131 r131 41:=ZT Tryz.func131 rfl (by kernel_rfl) (by kernel_rfl) (by kernel_rfl) (by kernel_rfl)
def c132:SC:=(.seq (.reg [
 o1 4 (.mv (.c (.bool false)))])
 (.seq (.reg [
 m1 5 0,
 m1 6 1,
 o1 7 (.call 162 [.t 5,.t 6]),
 o1 8 (.bin .geq (.t 7) (.c (.int .i64 0))),
 m1 4 8])
 .ret))
def r132:List RV:=[.tmp 4]
theorem t132:Qt1 Tryz.prog 132 c132 r132 9:=ZT Tryz.func132 rfl (by kernel_rfl) (by kernel_rfl) (by kernel_rfl) (by kernel_rfl)
def c133:SC:=(.seq (.reg [
 o1 2 (.box (.t 0) 0 83),
 o1 3 (.mv (.c (.bool false)))])
 (.seq (.reg [
 o1 4 (.ld (.t 2) 5 true),
 o1 5 (.addo (.t 1) 0),
 o1 6 (.ld (.t 5) 1 false),
 o1 7 (.len (.t 6)),
 o1 8 (.call 134 [.t 4,.t 7]),
 o1 9 (.un .not (.t 8)),
 m1 3 9])
 .ret))
def r133:List RV:=[.tmp 3]
theorem t133:Qt1 Tryz.prog 133 c133 r133 10:=ZT Tryz.func133 rfl (by kernel_rfl) (by kernel_rfl) (by kernel_rfl) (by kernel_rfl)
def c134:SC:=(.seq (.reg [
 o1 2 (.box (.t 0) 0 83),
 o1 4 (.mv (.c (.bool false)))])
 (.seq (.seq (.reg [
 m1 8 1,
 o1 9 (.bin .sub (.t 8) (.c (.int .i64 1))),
 o1 10 (.addo (.t 2) 0),
 o1 11 (.ld (.t 10) 1 false),
 o1 12 (.addo (.t 2) 1),
 o1 13 (.ld (.t 12) 1 false),
 o1 14 (.bsl 1 3 [.t 11,.t 13]),
 o1 15 (.call 76 [.c (.int .i64 0),.t 9,.t 14]),
 o1 16 (.un .not (.t 15)),
 m1 17 16,
 ⟨some 18,.addo (.t 2) 0,some (17,false),[]⟩,
 ⟨some 19,.ld (.t 18) 1 false,some (17,false),[]⟩,
 ⟨some 20,.addo (.t 2) 1,some (17,false),[]⟩,
 ⟨some 21,.ld (.t 20) 1 false,some (17,false),[]⟩,
 ⟨some 22,.bin .eql (.t 19) (.t 21),some (17,false),[]⟩,
 o1 23 (.pick (.t 17) (.c (.bool true)) (.t 22)),
 m1 24 23,
 ⟨some 25,.addo (.t 2) 2,some (24,false),[]⟩,
 ⟨some 26,.ld (.t 25) 2 true,some (24,false),[]⟩,
 ⟨some 27,.bsl 2 27 [.t 26],some (24,false),[]⟩,
 ⟨some 28,.call 120 [.c (.int .i64 1),.c (.int .i64 1000000),.t 27],some (24,false),[]⟩,
 ⟨some 29,.un .not (.t 28),some (24,false),[]⟩,
 o1 30 (.pick (.t 24) (.c (.bool true)) (.t 29)),
 m1 31 30,
 ⟨some 32,.addo (.t 2) 4,some (31,false),[]⟩,
 ⟨some 33,.ld (.t 32) 1 false,some (31,false),[]⟩,
 ⟨some 34,.len (.t 33),some (31,false),[]⟩,
 ⟨some 35,.bin .gtr (.t 34) (.c (.int .i64 6)),some (31,false),[]⟩,
 o1 36 (.pick (.t 31) (.c (.bool true)) (.t 35))])
 (.cond (.t 36)
 (.seq (.reg [
  o1 4 (.mv (.c (.bool false)))])
  .ret)
 .skip))
 (.seq (.reg [
 o1 5 (.mv (.c (.int .i64 0)))])
 (.seq (.seq (.reg [
 o1 37 (.addo (.t 2) 4),
 o1 38 (.ld (.t 37) 1 false),
 o1 39 (.len (.t 38)),
 o1 40 (.mv (.c (.int .i64 0)))])
 (.block 0 (.loop (.seq (.reg [
  o1 41 (.bin .lss (.t 40) (.t 39))])
  (.seq (.cond (.t 41)
  .skip
  (.exit 0))
  (.seq (.block 1 (.seq (.reg [
   o1 42 (.ixs (.t 38) (.t 40) 4),
   o1 43 (.ld (.t 42) 4 true),
   o1 7 (.alloc [.int .i64 0,.int .i64 0,.int .i64 0,.int .i64 0] 85),
   ⟨none,.st (.t 7) (.t 43) 4,none,[]⟩])
   (.seq (.seq (.reg [
   o1 44 (.addo (.t 7) 0),
   o1 45 (.ld (.t 44) 2 true),
   o1 46 (.addo (.t 7) 2),
   o1 47 (.ld (.t 46) 2 true),
   o1 48 (.bsl 2 27 [.t 45,.t 47]),
   o1 49 (.call 120 [.c (.int .i64 0),.c (.int .i64 100000),.t 48]),
   o1 50 (.un .not (.t 49)),
   m1 51 50,
   ⟨some 52,.mv (.t 5),some (51,false),[]⟩,
   ⟨some 53,.addo (.t 7) 2,some (51,false),[]⟩,
   ⟨some 54,.addo (.t 53) 1,some (51,false),[]⟩,
   ⟨some 55,.ld (.t 54) 1 false,some (51,false),[]⟩,
   ⟨some 56,.addo (.t 7) 0,some (51,false),[]⟩,
   ⟨some 57,.addo (.t 56) 0,some (51,false),[]⟩,
   ⟨some 58,.ld (.t 57) 1 false,some (51,false),[]⟩,
   ⟨some 59,.bsl 1 3 [.t 58],some (51,false),[]⟩,
   ⟨some 60,.call 76 [.t 52,.t 55,.t 59],some (51,false),[]⟩,
   ⟨some 61,.un .not (.t 60),some (51,false),[]⟩,
   o1 62 (.pick (.t 51) (.c (.bool true)) (.t 61))])
   (.cond (.t 62)
   (.seq (.reg [
    o1 4 (.mv (.c (.bool false)))])
    .ret)
   .skip))
   (.reg [
   o1 63 (.addo (.t 7) 2),
   o1 64 (.addo (.t 63) 1),
   o1 65 (.ld (.t 64) 1 false),
   o1 66 (.bin .add (.t 65) (.c (.int .i64 1))),
   m1 5 66]))))
  (.reg [
  o1 67 (.bin .add (.t 40) (.c (.int .i64 1))),
  m1 40 67])))))))
 (.seq (.reg [
 o1 4 (.mv (.c (.bool true)))])
 .ret)))))
def r134:List RV:=[.tmp 4]
theorem t134:Qt1 Tryz.prog 134 c134 r134 68:=ZT Tryz.func134 rfl (by kernel_rfl) (by kernel_rfl) (by kernel_rfl) (by kernel_rfl)
def c98:SC:=(.seq (.reg [
 o1 4 (.mv (.c (.bool false)))])
 (.seq (.reg [
 m1 5 0,
 m1 6 1,
 o1 7 (.call 141 [.t 5,.t 6]),
 o1 8 (.bin .geq (.t 7) (.c (.int .i64 0))),
 m1 4 8])
 .ret))
def r98:List RV:=[.tmp 4]
theorem t98:Qt1 Tryz.prog 98 c98 r98 9:=ZT Tryz.func98 rfl (by kernel_rfl) (by kernel_rfl) (by kernel_rfl) (by kernel_rfl)
def c121:SC:=(.seq (.reg [
 o1 4 (.mv (.c (.bool false)))])
 (.seq (.reg [
 m1 5 0,
 o1 6 (.ld (.t 1) 1 false),
 o1 7 (.bin .lss (.t 5) (.t 6)),
 m1 8 7,
 ⟨some 9,.mv (.t 0),some (8,false),[]⟩,
 ⟨some 10,.ld (.t 2) 1 false,some (8,false),[]⟩,
 ⟨some 11,.bin .gtr (.t 9) (.t 10),some (8,false),[]⟩,
 o1 12 (.pick (.t 8) (.c (.bool true)) (.t 11)),
 m1 4 12])
 .ret))
def r121:List RV:=[.tmp 4]
theorem t121:Qt1 Tryz.prog 121 c121 r121 13:=ZT Tryz.func121 rfl (by kernel_rfl) (by kernel_rfl) (by kernel_rfl) (by kernel_rfl)
def c137:SC:=(.seq (.reg [
 o1 3 (.box (.t 0) 0 27),
 o1 6 (.mv (.c (.bool false)))])
 (.seq (.reg [
 o1 7 (.addo (.t 3) 0),
 o1 8 (.ld (.t 7) 1 false),
 m1 9 1,
 o1 10 (.addo (.t 3) 1),
 o1 11 (.ld (.t 10) 1 false),
 o1 12 (.call 88 [.t 8,.t 9,.t 11]),
 m1 13 12,
 ⟨some 14,.addo (.t 3) 1,some (13,true),[]⟩,
 ⟨some 15,.ld (.t 14) 1 false,some (13,true),[]⟩,
 ⟨some 16,.mv (.t 2),some (13,true),[]⟩,
 ⟨some 17,.bin .leq (.t 15) (.t 16),some (13,true),[]⟩,
 o1 18 (.pick (.t 13) (.t 17) (.c (.bool false))),
 m1 6 18])
 .ret))
def r137:List RV:=[.tmp 6]
theorem t137:Qt1 Tryz.prog 137 c137 r137 19:=ZT Tryz.func137 rfl (by kernel_rfl) (by kernel_rfl) (by kernel_rfl) (by kernel_rfl)
def c120:SC:=(.seq (.reg [
 o1 3 (.box (.t 0) 0 3),
 o1 4 (.box (.t 1) 0 3),
 o1 6 (.mv (.c (.bool false)))])
 (.seq (.reg [
 m1 7 2,
 o1 8 (.mkf 158 [.t 3,.t 4]),
 o1 9 (.call 102 [.t 7,.t 8]),
 o1 10 (.un .not (.t 9)),
 m1 6 10])
 .ret))
def r120:List RV:=[.tmp 6]
theorem t120:Qt1 Tryz.prog 120 c120 r120 11:=ZT Tryz.func120 rfl (by kernel_rfl) (by kernel_rfl) (by kernel_rfl) (by kernel_rfl)
def c161:SC:=(.seq (.reg [
 o1 4 (.mv (.c (.int .i64 0)))])
 (.seq (.seq (.reg [
 m1 6 0,
 o1 7 (.len (.t 6)),
 o1 8 (.mv (.c (.int .i64 0)))])
 (.block 0 (.loop (.seq (.reg [
  o1 9 (.bin .lss (.t 8) (.t 7))])
  (.seq (.cond (.t 9)
  .skip
  (.exit 0))
  (.seq (.block 1 (.seq (.reg [
   m1 10 8,
   m1 5 10])
   (.seq (.reg [
   m1 11 1,
   m1 12 0,
   m1 13 5,
   o1 14 (.ixs (.t 12) (.t 13) 9),
   o1 15 (.ld (.t 14) 9 true),
   o1 16 (.calv (.t 11) [.t 15])])
   (.cond (.t 16)
   (.seq (.reg [
    m1 17 5,
    m1 4 17])
    .ret)
   .skip))))
  (.reg [
  o1 18 (.bin .add (.t 8) (.c (.int .i64 1))),
  m1 8 18])))))))
 (.seq (.reg [
 o1 4 (.mv (.c (.int .i64 (-1))))])
 .ret)))
def r161:List RV:=[.tmp 4]
theorem t161:Qt1 Tryz.prog 161 c161 r161 19:=ZT Tryz.func161 rfl (by kernel_rfl) (by kernel_rfl) (by kernel_rfl) (by kernel_rfl)
def c162:SC:=(.seq (.reg [
 o1 4 (.mv (.c (.int .i64 0)))])
 (.seq (.seq (.reg [
 m1 6 0,
 o1 7 (.len (.t 6)),
 o1 8 (.mv (.c (.int .i64 0)))])
 (.block 0 (.loop (.seq (.reg [
  o1 9 (.bin .lss (.t 8) (.t 7))])
  (.seq (.cond (.t 9)
  .skip
  (.exit 0))
  (.seq (.block 1 (.seq (.reg [
   m1 10 8,
   m1 5 10])
   (.seq (.reg [
   m1 11 1,
   m1 12 0,
   m1 13 5,
   o1 14 (.ixs (.t 12) (.t 13) 5),
   o1 15 (.ld (.t 14) 5 true),
   o1 16 (.calv (.t 11) [.t 15])])
   (.cond (.t 16)
   (.seq (.reg [
    m1 17 5,
    m1 4 17])
    .ret)
   .skip))))
  (.reg [
  o1 18 (.bin .add (.t 8) (.c (.int .i64 1))),
  m1 8 18])))))))
 (.seq (.reg [
 o1 4 (.mv (.c (.int .i64 (-1))))])
 .ret)))
def r162:List RV:=[.tmp 4]
theorem t162:Qt1 Tryz.prog 162 c162 r162 19:=ZT Tryz.func162 rfl (by kernel_rfl) (by kernel_rfl) (by kernel_rfl) (by kernel_rfl)
def c141:SC:=(.seq (.reg [
 o1 4 (.mv (.c (.int .i64 0)))])
 (.seq (.seq (.reg [
 m1 6 0,
 o1 7 (.len (.t 6)),
 o1 8 (.mv (.c (.int .i64 0)))])
 (.block 0 (.loop (.seq (.reg [
  o1 9 (.bin .lss (.t 8) (.t 7))])
  (.seq (.cond (.t 9)
  .skip
  (.exit 0))
  (.seq (.block 1 (.seq (.reg [
   m1 10 8,
   m1 5 10])
   (.seq (.reg [
   m1 11 1,
   m1 12 0,
   m1 13 5,
   o1 14 (.ixs (.t 12) (.t 13) 1),
   o1 15 (.ld (.t 14) 1 false),
   o1 16 (.calv (.t 11) [.t 15])])
   (.cond (.t 16)
   (.seq (.reg [
    m1 17 5,
    m1 4 17])
    .ret)
   .skip))))
  (.reg [
  o1 18 (.bin .add (.t 8) (.c (.int .i64 1))),
  m1 8 18])))))))
 (.seq (.reg [
 o1 4 (.mv (.c (.int .i64 (-1))))])
 .ret)))
def r141:List RV:=[.tmp 4]
theorem t141:Qt1 Tryz.prog 141 c141 r141 19:=ZT Tryz.func141 rfl (by kernel_rfl) (by kernel_rfl) (by kernel_rfl) (by kernel_rfl)
def c102:SC:=(.seq (.reg [
 o1 4 (.mv (.c (.bool false)))])
 (.seq (.reg [
 m1 5 0,
 m1 6 1,
 o1 7 (.call 143 [.t 5,.t 6]),
 o1 8 (.bin .geq (.t 7) (.c (.int .i64 0))),
 m1 4 8])
 .ret))
def r102:List RV:=[.tmp 4]
theorem t102:Qt1 Tryz.prog 102 c102 r102 9:=ZT Tryz.func102 rfl (by kernel_rfl) (by kernel_rfl) (by kernel_rfl) (by kernel_rfl)
def c158:SC:=(.seq (.reg [
 o1 3 (.box (.t 0) 0 27),
 o1 4 (.mv (.c (.bool false)))])
 (.seq (.reg [
 o1 5 (.addo (.t 3) 0),
 o1 6 (.ld (.t 5) 1 false),
 o1 7 (.addo (.t 3) 1),
 o1 8 (.ld (.t 7) 1 false),
 o1 9 (.bin .gtr (.t 6) (.t 8)),
 m1 10 9,
 ⟨some 11,.ld (.t 1) 1 false,some (10,false),[]⟩,
 ⟨some 12,.ld (.t 2) 1 false,some (10,false),[]⟩,
 ⟨some 13,.addo (.t 3) 0,some (10,false),[]⟩,
 ⟨some 14,.ld (.t 13) 1 false,some (10,false),[]⟩,
 ⟨some 15,.addo (.t 3) 1,some (10,false),[]⟩,
 ⟨some 16,.ld (.t 15) 1 false,some (10,false),[]⟩,
 ⟨some 17,.bsl 1 3 [.t 14,.t 16],some (10,false),[]⟩,
 ⟨some 18,.call 76 [.t 11,.t 12,.t 17],some (10,false),[]⟩,
 ⟨some 19,.un .not (.t 18),some (10,false),[]⟩,
 o1 20 (.pick (.t 10) (.c (.bool true)) (.t 19)),
 m1 4 20])
 .ret))
def r158:List RV:=[.tmp 4]
theorem t158:Qt1 Tryz.prog 158 c158 r158 21:=ZT Tryz.func158 rfl (by kernel_rfl) (by kernel_rfl) (by kernel_rfl) (by kernel_rfl)
def c143:SC:=(.seq (.reg [
 o1 4 (.mv (.c (.int .i64 0)))])
 (.seq (.seq (.reg [
 m1 6 0,
 o1 7 (.len (.t 6)),
 o1 8 (.mv (.c (.int .i64 0)))])
 (.block 0 (.loop (.seq (.reg [
  o1 9 (.bin .lss (.t 8) (.t 7))])
  (.seq (.cond (.t 9)
  .skip
  (.exit 0))
  (.seq (.block 1 (.seq (.reg [
   m1 10 8,
   m1 5 10])
   (.seq (.reg [
   m1 11 1,
   m1 12 0,
   m1 13 5,
   o1 14 (.ixs (.t 12) (.t 13) 2),
   o1 15 (.ld (.t 14) 2 true),
   o1 16 (.calv (.t 11) [.t 15])])
   (.cond (.t 16)
   (.seq (.reg [
    m1 17 5,
    m1 4 17])
    .ret)
   .skip))))
  (.reg [
  o1 18 (.bin .add (.t 8) (.c (.int .i64 1))),
  m1 8 18])))))))
 (.seq (.reg [
 o1 4 (.mv (.c (.int .i64 (-1))))])
 .ret)))
def r143:List RV:=[.tmp 4]
theorem t143:Qt1 Tryz.prog 143 c143 r143 19:=ZT Tryz.func143 rfl (by kernel_rfl) (by kernel_rfl) (by kernel_rfl) (by kernel_rfl)
def c39:SC:=(.seq (.reg [
 o1 3 (.box (.t 0) 0 25),
 o1 5 (.box (.t 2) 0 27),
 o1 6 (.alloc [.int .i64 0,.int .i64 0] 27),
 o1 7 (.mv (.c (.int .i64 0)))])
 (.seq (.reg [
 o1 11 (.ld (.t 3) 2 true),
 o1 12 (.ld (.t 5) 2 true),
 o1 13 (.call 75 [.t 11,.t 12]),
 m1 10 13,
 o1 14 (.ext (.t 10) 0),
 o1 15 (.ext (.t 10) 1),
 o1 8 (.alloc [.slice none 0 0,.slice none 0 0,.int .i64 0,.int .i64 0] 160),
 ⟨none,.st (.t 8) (.t 14) 4,none,[]⟩,
 m1 9 15])
 (.seq (.block 0 (.seq (.reg [
  m1 17 9,
  o1 18 (.bin .neq (.t 17) (.c (.int .i64 0))),
  m1 16 18])
  (.cond (.t 16)
  (.seq (.reg [
   o1 19 (.build [.int .i64 0,.int .i64 0] []),
   m1 20 9,
   ⟨none,.st (.t 6) (.t 19) 2,none,[]⟩,
   m1 7 20])
   .ret)
  (.seq (.reg [
   o1 22 (.addo (.t 3) 1),
   o1 23 (.ld (.t 22) 1 false),
   o1 24 (.len (.t 23)),
   o1 25 (.bin .sub (.t 24) (.c (.int .i64 1))),
   m1 26 1,
   o1 27 (.bsl 1 3 [.t 26]),
   o1 28 (.call 76 [.c (.int .i64 0),.t 25,.t 27]),
   o1 29 (.un .not (.t 28)),
   m1 21 29])
   (.cond (.t 21)
   (.seq (.reg [
    o1 30 (.build [.int .i64 0,.int .i64 0] []),
    ⟨none,.st (.t 6) (.t 30) 2,none,[]⟩,
    o1 7 (.mv (.c (.int .i64 2)))])
    .ret)
   .skip)))))
 (.seq (.reg [
 o1 31 (.ld (.t 8) 4 true),
 m1 32 1,
 o1 33 (.call 82 [.t 31,.t 32]),
 o1 34 (.call 80 [.t 33]),
 ⟨none,.st (.t 6) (.t 34) 2,none,[]⟩,
 o1 7 (.mv (.c (.int .i64 0)))])
 .ret))))
def r39:List RV:=[.cell 6 2 true,.tmp 7]
theorem t39:Qt1 Tryz.prog 39 c39 r39 35:=ZT Tryz.func39 rfl (by kernel_rfl) (by kernel_rfl) (by kernel_rfl) (by kernel_rfl)
def c106:SC:=(.seq (.reg [
 o1 3 (.box (.t 0) 0 25),
 o1 5 (.box (.t 2) 0 27),
 o1 6 (.alloc [.int .i64 0,.int .i64 0] 27),
 o1 7 (.mv (.c (.int .i64 0)))])
 (.seq (.seq (.reg [
 o1 9 (.ld (.t 3) 2 true),
 o1 10 (.ld (.t 5) 2 true),
 o1 11 (.call 115 [.t 9,.t 10]),
 m1 8 11])
 (.seq (.reg [
 m1 12 8,
 o1 13 (.bin .neq (.t 12) (.c (.int .i64 0)))])
 (.cond (.t 13)
 (.seq (.reg [
  o1 14 (.build [.int .i64 0,.int .i64 0] []),
  m1 15 8,
  ⟨none,.st (.t 6) (.t 14) 2,none,[]⟩,
  m1 7 15])
  .ret)
 .skip)))
 (.seq (.seq (.reg [
 m1 16 1,
 o1 17 (.addo (.t 3) 1),
 o1 18 (.ld (.t 17) 1 false),
 o1 19 (.len (.t 18)),
 o1 20 (.bin .sub (.t 19) (.c (.int .i64 1))),
 o1 21 (.call 88 [.t 16,.c (.int .i64 0),.t 20]),
 o1 22 (.un .not (.t 21))])
 (.cond (.t 22)
 (.seq (.reg [
  o1 23 (.build [.int .i64 0,.int .i64 0] []),
  ⟨none,.st (.t 6) (.t 23) 2,none,[]⟩,
  o1 7 (.mv (.c (.int .i64 2)))])
  .ret)
 .skip))
 (.seq (.regd [0,1,2,3,4,5,6,7,8] [
 .op (o1 24 (.addo (.t 3) 1)),
 .op ⟨some 25,.ld (.t 24) 1 false,none,[0]⟩,
 .op (m1 26 1),
 .op ⟨some 27,.ixs (.t 25) (.t 26) 5,none,[1,2]⟩,
 .op ⟨some 28,.ld (.t 27) 5 true,none,[3]⟩,
 .op (o1 29 (.ld (.t 5) 2 true)),
 .op ⟨some 30,.call 149 [.t 28,.t 29],none,[4,5]⟩] 0 2 [
 ⟨none,.st (.t 6) (.t 30) 2,none,[0,1,2,3,4,5,6]⟩,
 ⟨some 7,.mv (.c (.int .i64 0)),none,[0,1,2,3,4,5,6,7]⟩])
 .ret))))
def r106:List RV:=[.cell 6 2 true,.tmp 7]
theorem t106:Qt1 Tryz.prog 106 c106 r106 31:=ZT Tryz.func106 rfl (by kernel_rfl) (by kernel_rfl) (by kernel_rfl) (by kernel_rfl)
def c93:SC:=(.seq (.reg [
 o1 1 (.box (.t 0) 0 25),
 o1 2 (.mv (.c (.int .i64 0)))])
 (.seq (.seq (.reg [
 o1 3 (.ld (.t 1) 2 true),
 o1 4 (.call 136 [.t 3]),
 o1 5 (.un .not (.t 4))])
 (.cond (.t 5)
 (.seq (.reg [
  o1 2 (.mv (.c (.int .i64 30)))])
  .ret)
 .skip))
 (.seq (.reg [
 o1 2 (.mv (.c (.int .i64 0)))])
 .ret)))
def r93:List RV:=[.tmp 2]
theorem t93:Qt1 Tryz.prog 93 c93 r93 6:=ZT Tryz.func93 rfl (by kernel_rfl) (by kernel_rfl) (by kernel_rfl) (by kernel_rfl)
def c75:SC:=(.seq (.reg [
 o1 2 (.box (.t 0) 0 25),
 o1 3 (.box (.t 1) 0 27),
 o1 4 (.alloc [.slice none 0 0,.slice none 0 0,.int .i64 0,.int .i64 0] 160),
 o1 5 (.mv (.c (.int .i64 0)))])
 (.seq (.seq (.reg [
 o1 7 (.ld (.t 2) 2 true),
 o1 8 (.call 85 [.t 7]),
 m1 6 8])
 (.seq (.reg [
 m1 9 6,
 o1 10 (.bin .neq (.t 9) (.c (.int .i64 0)))])
 (.cond (.t 10)
 (.seq (.reg [
  o1 11 (.build [.slice none 0 0,.slice none 0 0,.int .i64 0,.int .i64 0] []),
  m1 12 6,
  ⟨none,.st (.t 4) (.t 11) 4,none,[]⟩,
  m1 5 12])
  .ret)
 .skip)))
 (.seq (.seq (.reg [
 o1 13 (.ld (.t 3) 2 true),
 o1 14 (.bsl 2 27 [.t 13]),
 o1 15 (.call 120 [.c (.int .i64 1),.c (.int .i64 100000),.t 14]),
 o1 16 (.un .not (.t 15))])
 (.cond (.t 16)
 (.seq (.reg [
  o1 17 (.build [.slice none 0 0,.slice none 0 0,.int .i64 0,.int .i64 0] []),
  ⟨none,.st (.t 4) (.t 17) 4,none,[]⟩,
  o1 5 (.mv (.c (.int .i64 31)))])
  .ret)
 .skip))
 (.seq (.reg [
 o1 18 (.ld (.t 2) 2 true),
 o1 19 (.ld (.t 3) 2 true),
 o1 20 (.build [.slice none 0 0,.slice none 0 0,.int .i64 0,.int .i64 0] [(0,2,.t 18),(2,2,.t 19)]),
 ⟨none,.st (.t 4) (.t 20) 4,none,[]⟩,
 o1 5 (.mv (.c (.int .i64 0)))])
 .ret))))
def r75:List RV:=[.cell 4 4 true,.tmp 5]
theorem t75:Qt1 Tryz.prog 75 c75 r75 21:=ZT Tryz.func75 rfl (by kernel_rfl) (by kernel_rfl) (by kernel_rfl) (by kernel_rfl)
def c82:SC:=(.seq (.reg [
 o1 2 (.box (.t 0) 0 160),
 o1 4 (.alloc [.int .i64 0,.int .i64 0] 165)])
 (.seq (.reg [
 o1 6 (.addo (.t 2) 0),
 o1 7 (.addo (.t 6) 1),
 o1 8 (.ld (.t 7) 1 false),
 m1 9 1,
 o1 10 (.ixs (.t 8) (.t 9) 5),
 o1 11 (.addo (.t 10) 2),
 o1 12 (.ld (.t 11) 2 true),
 o1 5 (.alloc [.int .i64 0,.int .i64 0] 27),
 ⟨none,.st (.t 5) (.t 12) 2,none,[]⟩])
 (.seq (.regd [0,1,2,3,4,5,6,7,8,9,10,11,12,13,14,15,16,17,18,19,20,21,22,23] [
 .op (o1 13 (.addo (.t 5) 0)),
 .op ⟨some 14,.ld (.t 13) 1 false,none,[0]⟩,
 .op (o1 15 (.addo (.t 2) 2)),
 .op ⟨some 16,.addo (.t 15) 1,none,[2]⟩,
 .op ⟨some 17,.ld (.t 16) 1 false,none,[3]⟩,
 .op ⟨some 18,.bin .add (.t 14) (.t 17),none,[1,4]⟩,
 .op ⟨some 19,.bin .sub (.t 18) (.c (.int .i64 1)),none,[5]⟩,
 .op (o1 20 (.addo (.t 2) 2)),
 .op ⟨some 21,.addo (.t 20) 1,none,[7]⟩,
 .op ⟨some 22,.ld (.t 21) 1 false,none,[8]⟩,
 .op ⟨some 23,.div .quo (.t 19) (.t 22),none,[6,9]⟩,
 .op (o1 24 (.addo (.t 5) 1)),
 .op ⟨some 25,.ld (.t 24) 1 false,none,[11]⟩,
 .op (o1 26 (.addo (.t 2) 2)),
 .op ⟨some 27,.addo (.t 26) 0,none,[13]⟩,
 .op ⟨some 28,.ld (.t 27) 1 false,none,[14]⟩,
 .op ⟨some 29,.bin .add (.t 25) (.t 28),none,[12,15]⟩,
 .op ⟨some 30,.bin .sub (.t 29) (.c (.int .i64 1)),none,[16]⟩,
 .op (o1 31 (.addo (.t 2) 2)),
 .op ⟨some 32,.addo (.t 31) 0,none,[18]⟩,
 .op ⟨some 33,.ld (.t 32) 1 false,none,[19]⟩,
 .op ⟨some 34,.div .quo (.t 30) (.t 33),none,[17,20]⟩,
 .op ⟨some 35,.build [.int .i64 0,.int .i64 0] [(0,1,.t 23),(1,1,.t 34)],none,[10,21]⟩] 0 1 [
 ⟨none,.st (.t 4) (.t 35) 2,none,[0,1,2,3,4,5,6,7,8,9,10,11,12,13,14,15,16,17,18,19,20,21,22]⟩])
 .ret)))
def r82:List RV:=[.cell 4 2 true]
theorem t82:Qt1 Tryz.prog 82 c82 r82 36:=ZT Tryz.func82 rfl (by kernel_rfl) (by kernel_rfl) (by kernel_rfl) (by kernel_rfl)
def c80:SC:=(.seq (.reg [
 o1 1 (.box (.t 0) 0 165),
 o1 2 (.alloc [.int .i64 0,.int .i64 0] 27)])
 (.seq (.reg [
 o1 3 (.ixa (.t 1) (.c (.int .i64 0)) 2 1),
 o1 4 (.ld (.t 3) 1 false),
 o1 5 (.ixa (.t 1) (.c (.int .i64 1)) 2 1),
 o1 6 (.ld (.t 5) 1 false),
 o1 7 (.build [.int .i64 0,.int .i64 0] [(0,1,.t 4),(1,1,.t 6)]),
 ⟨none,.st (.t 2) (.t 7) 2,none,[]⟩])
 .ret))
def r80:List RV:=[.cell 2 2 true]
theorem t80:Qt1 Tryz.prog 80 c80 r80 8:=ZT Tryz.func80 rfl (by kernel_rfl) (by kernel_rfl) (by kernel_rfl) (by kernel_rfl)
def c115:SC:=(.seq (.reg [
 o1 2 (.box (.t 0) 0 25),
 o1 3 (.box (.t 1) 0 27),
 o1 4 (.mv (.c (.int .i64 0)))])
 (.seq (.seq (.reg [
 o1 5 (.ld (.t 2) 2 true),
 o1 6 (.call 136 [.t 5]),
 o1 7 (.un .not (.t 6))])
 (.cond (.t 7)
 (.seq (.reg [
  o1 4 (.mv (.c (.int .i64 30)))])
  .ret)
 .skip))
 (.seq (.seq (.reg [
 o1 8 (.ld (.t 3) 2 true),
 o1 9 (.call 94 [.t 8]),
 o1 10 (.un .not (.t 9))])
 (.cond (.t 10)
 (.seq (.reg [
  o1 4 (.mv (.c (.int .i64 31)))])
  .ret)
 .skip))
 (.seq (.reg [
 o1 4 (.mv (.c (.int .i64 0)))])
 .ret))))
def r115:List RV:=[.tmp 4]
theorem t115:Qt1 Tryz.prog 115 c115 r115 11:=ZT Tryz.func115 rfl (by kernel_rfl) (by kernel_rfl) (by kernel_rfl) (by kernel_rfl)
def c149:SC:=(.seq (.reg [
 o1 2 (.box (.t 0) 0 83),
 o1 3 (.box (.t 1) 0 27),
 o1 4 (.alloc [.int .i64 0,.int .i64 0] 27)])
 (.seq (.regd [0,1,2,3,4,5,6,7,8,9,10,11,12,13,14,15,16,17,18,19,20,21] [
 .op (o1 5 (.addo (.t 2) 2)),
 .op ⟨some 6,.addo (.t 5) 0,none,[0]⟩,
 .op ⟨some 7,.ld (.t 6) 1 false,none,[1]⟩,
 .op (o1 8 (.addo (.t 3) 1)),
 .op ⟨some 9,.ld (.t 8) 1 false,none,[3]⟩,
 .op ⟨some 10,.bin .add (.t 7) (.t 9),none,[2,4]⟩,
 .op ⟨some 11,.bin .sub (.t 10) (.c (.int .i64 1)),none,[5]⟩,
 .op (o1 12 (.addo (.t 3) 1)),
 .op ⟨some 13,.ld (.t 12) 1 false,none,[7]⟩,
 .op ⟨some 14,.div .quo (.t 11) (.t 13),none,[6,8]⟩,
 .op (o1 15 (.addo (.t 2) 2)),
 .op ⟨some 16,.addo (.t 15) 1,none,[10]⟩,
 .op ⟨some 17,.ld (.t 16) 1 false,none,[11]⟩,
 .op (o1 18 (.addo (.t 3) 0)),
 .op ⟨some 19,.ld (.t 18) 1 false,none,[13]⟩,
 .op ⟨some 20,.bin .add (.t 17) (.t 19),none,[12,14]⟩,
 .op ⟨some 21,.bin .sub (.t 20) (.c (.int .i64 1)),none,[15]⟩,
 .op (o1 22 (.addo (.t 3) 0)),
 .op ⟨some 23,.ld (.t 22) 1 false,none,[17]⟩,
 .op ⟨some 24,.div .quo (.t 21) (.t 23),none,[16,18]⟩,
 .op ⟨some 25,.build [.int .i64 0,.int .i64 0] [(0,1,.t 14),(1,1,.t 24)],none,[9,19]⟩] 0 1 [
 ⟨none,.st (.t 4) (.t 25) 2,none,[0,1,2,3,4,5,6,7,8,9,10,11,12,13,14,15,16,17,18,19,20]⟩])
 .ret))
def r149:List RV:=[.cell 4 2 true]
theorem t149:Qt1 Tryz.prog 149 c149 r149 26:=ZT Tryz.func149 rfl (by kernel_rfl) (by kernel_rfl) (by kernel_rfl) (by kernel_rfl)
def c78:SC:=(.seq (.reg [
 o1 3 (.box (.t 0) 0 160),
 o1 5 (.box (.t 2) 0 165),
 o1 6 (.alloc [.int .i64 0,.int .i64 0] 165)])
 (.seq (.reg [
 o1 15 (.ld (.t 3) 4 true),
 m1 16 1,
 o1 17 (.call 82 [.t 15,.t 16]),
 o1 7 (.alloc [.int .i64 0,.int .i64 0] 165),
 ⟨none,.st (.t 7) (.t 17) 2,none,[]⟩])
 (.seq (.reg [
 o1 18 (.build [.int .i64 0,.int .i64 0] [(0,1,.c (.int .i64 100001)),(1,1,.c (.int .i64 100001))]),
 o1 8 (.alloc [.int .i64 0,.int .i64 0] 165),
 ⟨none,.st (.t 8) (.t 18) 2,none,[]⟩])
 (.seq (.seq (.reg [
 o1 19 (.addo (.t 3) 0),
 o1 20 (.addo (.t 19) 1),
 o1 21 (.ld (.t 20) 1 false),
 m1 22 1,
 o1 23 (.ixs (.t 21) (.t 22) 5),
 o1 24 (.addo (.t 23) 4),
 o1 25 (.ld (.t 24) 1 false),
 o1 26 (.len (.t 25)),
 o1 27 (.mv (.c (.int .i64 0)))])
 (.block 0 (.loop (.seq (.reg [
  o1 28 (.bin .lss (.t 27) (.t 26))])
  (.seq (.cond (.t 28)
  .skip
  (.exit 0))
  (.seq (.block 1 (.seq (.reg [
   o1 29 (.ixs (.t 25) (.t 27) 4),
   o1 30 (.ld (.t 29) 4 true),
   o1 10 (.alloc [.int .i64 0,.int .i64 0,.int .i64 0,.int .i64 0] 85),
   ⟨none,.st (.t 10) (.t 30) 4,none,[]⟩])
   (.seq (.regd [0,1,2,3,4,5,6,7,8,9,10,11,12,13,14,15,16,17] [
   .op (o1 31 (.addo (.t 10) 0)),
   .op ⟨some 32,.addo (.t 31) 0,none,[0]⟩,
   .op ⟨some 33,.ld (.t 32) 1 false,none,[1]⟩,
   .op (o1 34 (.addo (.t 10) 0)),
   .op ⟨some 35,.addo (.t 34) 1,none,[3]⟩,
   .op ⟨some 36,.ld (.t 35) 1 false,none,[4]⟩,
   .op ⟨some 37,.build [.int .i64 0,.int .i64 0] [(0,1,.t 33),(1,1,.t 36)],none,[2,5]⟩,
   .op (o1 38 (.addo (.t 10) 2)),
   .op ⟨some 39,.addo (.t 38) 1,none,[7]⟩,
   .op ⟨some 40,.ld (.t 39) 1 false,none,[8]⟩,
   .op (o1 41 (.addo (.t 10) 2)),
   .op ⟨some 42,.addo (.t 41) 0,none,[10]⟩,
   .op ⟨some 43,.ld (.t 42) 1 false,none,[11]⟩,
   .op ⟨some 44,.build [.int .i64 0,.int .i64 0] [(0,1,.t 40),(1,1,.t 43)],none,[9,12]⟩] 2 2 [
   o1 11 (.alloc [.int .i64 0,.int .i64 0] 165),
   o1 12 (.alloc [.int .i64 0,.int .i64 0] 165),
   ⟨none,.st (.t 11) (.t 37) 2,none,[0,1,2,3,4,5,6,14,15]⟩,
   ⟨none,.st (.t 12) (.t 44) 2,none,[0,1,2,3,4,5,6,7,8,9,10,11,12,13,14,15,16]⟩])
   (.seq (.reg [
   o1 45 (.mv (.c (.int .i64 0)))])
   (.block 2 (.loop (.seq (.reg [
    o1 46 (.bin .lss (.t 45) (.c (.int .i64 2)))])
    (.seq (.cond (.t 46)
    .skip
    (.exit 2))
    (.seq (.block 3 (.seq (.reg [
     m1 47 45,
     m1 13 47])
     (.seq (.regd [0,1,2,3,4,5,6,7] [
     .op (m1 48 13),
     .op ⟨some 49,.ixa (.t 5) (.t 48) 2 1,none,[0]⟩,
     .op ⟨some 50,.ld (.t 49) 1 false,none,[1]⟩,
     .op (m1 51 13),
     .op ⟨some 52,.ixa (.t 11) (.t 51) 2 1,none,[3]⟩,
     .op ⟨some 53,.ld (.t 52) 1 false,none,[4]⟩,
     .op ⟨some 54,.mm true [.t 50,.t 53],none,[2,5]⟩,
     .op ⟨some 14,.mv (.t 54),none,[0,1,2,3,4,5,6]⟩] 0 0 [
])
 (.seq (.regd [0,1,2,3,4,5,6,7,8,9] [
 .op (m1 55 14),
 .op (m1 56 13),
 .op ⟨some 57,.ixa (.t 7) (.t 56) 2 1,none,[1]⟩,
 .op ⟨some 58,.ld (.t 57) 1 false,none,[2]⟩,
 .op ⟨some 59,.bin .add (.t 55) (.t 58),none,[0,3]⟩,
 .op ⟨some 60,.bin .sub (.t 59) (.c (.int .i64 1)),none,[4]⟩,
 .op (m1 61 13),
 .op ⟨some 62,.ixa (.t 12) (.t 61) 2 1,none,[6]⟩,
 .op ⟨some 63,.ld (.t 62) 1 false,none,[7]⟩,
 .op ⟨some 64,.bin .leq (.t 60) (.t 63),none,[5,8]⟩] 0 0 [
])
 (.cond (.t 64)
 (.reg [
  m1 65 13,
  m1 66 13,
  o1 67 (.ixa (.t 8) (.t 66) 2 1),
  o1 68 (.ld (.t 67) 1 false),
  m1 69 14,
  o1 70 (.bsl 1 3 [.t 68,.t 69]),
  o1 71 (.call 122 [.t 70]),
  o1 72 (.ixa (.t 8) (.t 65) 2 1),
  ⟨none,.st (.t 72) (.t 71) 1,none,[]⟩])
 .skip)))))
 (.reg [
 o1 73 (.bin .add (.t 45) (.c (.int .i64 1))),
 m1 45 73]))))))))))
 (.reg [
 o1 74 (.bin .add (.t 27) (.c (.int .i64 1))),
 m1 27 74])))))))
 (.seq (.reg [
 o1 75 (.ld (.t 8) 2 true),
 ⟨none,.st (.t 6) (.t 75) 2,none,[]⟩])
 .ret)))))
def r78:List RV:=[.cell 6 2 true]
theorem t78:Qt1 Tryz.prog 78 c78 r78 76:=ZT Tryz.func78 rfl (by kernel_rfl) (by kernel_rfl) (by kernel_rfl) (by kernel_rfl)
def c145:SC:=(.seq (.reg [
 o1 3 (.box (.t 0) 0 83),
 o1 5 (.box (.t 2) 0 27),
 o1 6 (.mv (.c (.int .i64 0)))])
 (.seq (.seq (.reg [
 o1 7 (.mv (.c (.int .i64 0)))])
 (.block 0 (.loop (.seq (.seq (.reg [
  m1 9 7,
  o1 10 (.addo (.t 3) 4),
  o1 11 (.ld (.t 10) 1 false),
  o1 12 (.len (.t 11)),
  o1 13 (.bin .lss (.t 9) (.t 12))])
  (.cond (.t 13)
  .skip
  (.exit 0)))
  (.seq (.block 1 (.seq (.reg [
   m1 16 1,
   o1 17 (.addo (.t 3) 4),
   o1 18 (.ld (.t 17) 1 false),
   m1 19 7,
   o1 20 (.ixs (.t 18) (.t 19) 4),
   o1 21 (.addo (.t 20) 0),
   o1 22 (.addo (.t 21) 0),
   o1 23 (.ld (.t 22) 1 false),
   o1 24 (.mm true [.t 16,.t 23]),
   m1 8 24])
   (.seq (.regd [0,1,2,3,4,5,6,7,8,9,10,11,12,13,14] [
   .op (m1 25 8),
   .op (o1 26 (.ld (.t 3) 5 true)),
   .op (o1 27 (.ld (.t 5) 2 true)),
   .op ⟨some 28,.call 149 [.t 26,.t 27],none,[1,2]⟩,
   .op ⟨some 29,.fld (.t 28) 0 1 false,none,[3]⟩,
   .op ⟨some 30,.bin .add (.t 25) (.t 29),none,[0,4]⟩,
   .op ⟨some 31,.bin .sub (.t 30) (.c (.int .i64 1)),none,[5]⟩,
   .op (o1 32 (.addo (.t 3) 4)),
   .op ⟨some 33,.ld (.t 32) 1 false,none,[7]⟩,
   .op (m1 34 7),
   .op ⟨some 35,.ixs (.t 33) (.t 34) 4,none,[8,9]⟩,
   .op ⟨some 36,.addo (.t 35) 2,none,[10]⟩,
   .op ⟨some 37,.addo (.t 36) 1,none,[11]⟩,
   .op ⟨some 38,.ld (.t 37) 1 false,none,[12]⟩,
   .op ⟨some 39,.bin .leq (.t 31) (.t 38),none,[6,13]⟩] 0 0 [
])
 (.cond (.t 39)
 (.seq (.reg [
  m1 40 8,
  m1 6 40])
  .ret)
 .skip))))
 (.reg [
 m1 14 7,
 o1 15 (.bin .add (.t 14) (.c (.int .i64 1))),
 m1 7 15]))))))
 (.seq (.reg [
 o1 6 (.mv (.c (.int .i64 100001)))])
 .ret)))
def r145:List RV:=[.tmp 6]
theorem t145:Qt1 Tryz.prog 145 c145 r145 41:=ZT Tryz.func145 rfl (by kernel_rfl) (by kernel_rfl) (by kernel_rfl) (by kernel_rfl)
def c146:SC:=(.seq (.reg [
 o1 3 (.box (.t 0) 0 83),
 o1 5 (.box (.t 2) 0 27),
 o1 6 (.mv (.c (.int .i64 0)))])
 (.seq (.seq (.reg [
 o1 7 (.mv (.c (.int .i64 0)))])
 (.block 0 (.loop (.seq (.seq (.reg [
  m1 9 7,
  o1 10 (.addo (.t 3) 4),
  o1 11 (.ld (.t 10) 1 false),
  o1 12 (.len (.t 11)),
  o1 13 (.bin .lss (.t 9) (.t 12))])
  (.cond (.t 13)
  .skip
  (.exit 0)))
  (.seq (.block 1 (.seq (.reg [
   m1 16 1,
   o1 17 (.addo (.t 3) 4),
   o1 18 (.ld (.t 17) 1 false),
   m1 19 7,
   o1 20 (.ixs (.t 18) (.t 19) 4),
   o1 21 (.addo (.t 20) 0),
   o1 22 (.addo (.t 21) 1),
   o1 23 (.ld (.t 22) 1 false),
   o1 24 (.mm true [.t 16,.t 23]),
   m1 8 24])
   (.seq (.regd [0,1,2,3,4,5,6,7,8,9,10,11,12,13,14] [
   .op (m1 25 8),
   .op (o1 26 (.ld (.t 3) 5 true)),
   .op (o1 27 (.ld (.t 5) 2 true)),
   .op ⟨some 28,.call 149 [.t 26,.t 27],none,[1,2]⟩,
   .op ⟨some 29,.fld (.t 28) 1 1 false,none,[3]⟩,
   .op ⟨some 30,.bin .add (.t 25) (.t 29),none,[0,4]⟩,
   .op ⟨some 31,.bin .sub (.t 30) (.c (.int .i64 1)),none,[5]⟩,
   .op (o1 32 (.addo (.t 3) 4)),
   .op ⟨some 33,.ld (.t 32) 1 false,none,[7]⟩,
   .op (m1 34 7),
   .op ⟨some 35,.ixs (.t 33) (.t 34) 4,none,[8,9]⟩,
   .op ⟨some 36,.addo (.t 35) 2,none,[10]⟩,
   .op ⟨some 37,.addo (.t 36) 0,none,[11]⟩,
   .op ⟨some 38,.ld (.t 37) 1 false,none,[12]⟩,
   .op ⟨some 39,.bin .leq (.t 31) (.t 38),none,[6,13]⟩] 0 0 [
])
 (.cond (.t 39)
 (.seq (.reg [
  m1 40 8,
  m1 6 40])
  .ret)
 .skip))))
 (.reg [
 m1 14 7,
 o1 15 (.bin .add (.t 14) (.c (.int .i64 1))),
 m1 7 15]))))))
 (.seq (.reg [
 o1 6 (.mv (.c (.int .i64 100001)))])
 .ret)))
def r146:List RV:=[.tmp 6]
theorem t146:Qt1 Tryz.prog 146 c146 r146 41:=ZT Tryz.func146 rfl (by kernel_rfl) (by kernel_rfl) (by kernel_rfl) (by kernel_rfl)
def c94:SC:=(.seq (.reg [
 o1 1 (.box (.t 0) 0 27),
 o1 2 (.mv (.c (.bool false)))])
 (.seq (.reg [
 o1 3 (.ld (.t 1) 2 true),
 o1 4 (.call 137 [.t 3,.c (.int .i64 1),.c (.int .i64 100000)]),
 m1 2 4])
 .ret))
def r94:List RV:=[.tmp 2]
theorem t94:Qt1 Tryz.prog 94 c94 r94 5:=ZT Tryz.func94 rfl (by kernel_rfl) (by kernel_rfl) (by kernel_rfl) (by kernel_rfl)
def c122:SC:=(.seq (.reg [
 o1 2 (.mv (.c (.int .i64 0)))])
 (.seq (.reg [
 m1 3 0,
 o1 4 (.bsl 1 3 [.c (.int .i64 100001)]),
 o1 5 (.app 1 8 3 (.t 3) (.t 4)),
 o1 6 (.call 71 [.t 5]),
 m1 2 6])
 .ret))
def r122:List RV:=[.tmp 2]
theorem t122:Qt1 Tryz.prog 122 c122 r122 7:=ZT Tryz.func122 rfl (by kernel_rfl) (by kernel_rfl) (by kernel_rfl) (by kernel_rfl)
def c71:SC:=(.seq (.reg [
 o1 2 (.mv (.c (.int .i64 0)))])
 (.seq (.seq (.reg [
 m1 5 0,
 o1 6 (.len (.t 5)),
 o1 7 (.bin .lss (.t 6) (.c (.int .i64 1)))])
 (.cond (.t 7)
 (.reg [
  o1 8 (.raw (Go.Op.makeInterface 9 (Go.Operand.const (Go.Value.string { data:=#[115,108,105,99,101,115,46,77,105,110,58,32,101,109,112,116,121,32,108,105,115,116] }))) 20),
  ⟨none,.raw (Go.Op.panic (Go.Operand.tmp 8)) 0,none,[]⟩])
 .skip))
 (.seq (.reg [
 m1 9 0,
 o1 10 (.ixs (.t 9) (.c (.int .i64 0)) 1),
 o1 11 (.ld (.t 10) 1 false),
 m1 3 11])
 (.seq (.seq (.reg [
 o1 4 (.mv (.c (.int .i64 1)))])
 (.block 0 (.loop (.seq (.seq (.reg [
  m1 12 4,
  m1 13 0,
  o1 14 (.len (.t 13)),
  o1 15 (.bin .lss (.t 12) (.t 14))])
  (.cond (.t 15)
  .skip
  (.exit 0)))
  (.seq (.block 1 (.reg [
   m1 18 3,
   m1 19 0,
   m1 20 4,
   o1 21 (.ixs (.t 19) (.t 20) 1),
   o1 22 (.ld (.t 21) 1 false),
   o1 23 (.mm false [.t 18,.t 22]),
   m1 3 23]))
  (.reg [
  m1 16 4,
  o1 17 (.bin .add (.t 16) (.c (.int .i64 1))),
  m1 4 17]))))))
 (.seq (.reg [
 m1 24 3,
 m1 2 24])
 .ret)))))
def r71:List RV:=[.tmp 2]
theorem t71:Qt1 Tryz.prog 71 c71 r71 25:=ZT Tryz.func71 rfl (by kernel_rfl) (by kernel_rfl) (by kernel_rfl) (by kernel_rfl)
end Go.Proofs.YtiigiflofnjilaaGreat
namespace Go.Azalai
structure Span where
 lo:Int
 hi:Int
deriving DecidableEq
structure Well where
 x:Int
 y:Int
 depth:Int
 yld:Span
 room:Int
 has:Span
 owner:Int
deriving DecidableEq
structure Gate where
 opens:Span
 shuts:Span
deriving DecidableEq
structure Leg where
 a:Int
 b:Int
 long:Span
 gates:List Gate
deriving DecidableEq
structure Land where
 wells:List Well
 legs:List Leg
deriving DecidableEq
structure Draw where
 well:Int
 day:Int
 water:Int
deriving DecidableEq
def inR (lo hi n:Int):Bool:=decide (lo<=n/\n<=hi)
def Z0 (lo hi:Int) (s:Span):Bool:=decide (lo<=s.lo/\s.lo<=s.hi/\s.hi<=hi)
def Yx (w:Well):Bool :=
 inR (-10000000) 10000000 w.x && inR (-10000000) 10000000 w.y && inR 0 200 w.depth && Z0 0 10000000 w.yld && inR 0 1000000000 w.room && Z0 0 w.room w.has && inR 0 9999 w.owner
def Yn (next:Int):List Gate->Bool
 | []=>true
 | g :: r=>Z0 0 100000 g.opens && Z0 0 100000 g.shuts && inR next g.shuts.hi g.opens.lo && Yn (g.shuts.hi+1) r
def XX (n:Int) (x:Leg):Bool :=
 inR 0 (n - 1) x.a && inR 0 (n - 1) x.b && x.a != x.b && Z0 1 1000000 x.long && decide (x.gates.length<=6) && Yn 0 x.gates
def ZS (l:Land):Bool :=
 inR 1 12 l.wells.length && decide (l.legs.length<=24) && l.wells.all Yx && l.legs.all (XX l.wells.length)
def XQ {α : Type} (g:α->Bool):List α->Nat->Int
 | [],_=>-1
 | x :: l,k=>if g x then k else XQ g l (k+1)
theorem Zdc {α : Type} (g:α->Bool):∀ (l:List α) (k:Nat),decide (XQ g l k ≥ 0)=l.any g
 | [],k=>by simp [XQ]
 | x :: l,k=>by
  simp only [XQ,List.any_cons]
  by_cases hg:g x=true
  . simp [hg]
  . simpa [hg] using Zdc g l (k+1)
def YN (w:Well) (has:Span) (days:Int):Span:=⟨min w.room (has.lo+days * w.yld.lo),min w.room (has.hi+days * w.yld.hi)⟩
def YW (n last:Int):List Draw->Bool
 | []=>true
 | x :: r=>inR 0 (n - 1) x.well && inR last 100000 x.day && inR 0 1000000000 x.water && YW n x.day r
def X8 (w:Well) (well day:Int) (now:Span) (evening:Int) (i:Nat):List Draw->Span × Int × Int
 | []=>(YN w now (day - 1 - evening),0,0)
 | x :: r =>
  if (x.well != well || decide (x.day ≥ day))=true then X8 w well day now evening (i+1) r
  else
   let f:=YN w now (x.day - evening)
   if f.hi < x.water then (⟨0,0⟩,i,33) else X8 w well day ⟨max 0 (f.lo - x.water),f.hi - x.water⟩ x.day (i+1) r
def Xg (l:Land) (well:Int) (draws:List Draw) (day:Int):Span × Int × Int :=
 if ZS l=false then (⟨0,0⟩,0,30)
 else if (inR 0 (l.wells.length - 1) well && inR 0 100000 day)=false then (⟨0,0⟩,0,2)
 else if draws.length > 200 then (⟨0,0⟩,0,4)
 else if YW l.wells.length 0 draws=false then (⟨0,0⟩,0,32)
 else match l.wells[well.toNat]? with
  | some w=>X8 w well day w.has (-1) 0 draws
  | none=>(⟨0,0⟩,0,0)
def XM (l:Land):Prop:=l.wells.length<=1000/\l.legs.length<=1000/\∀ x ∈ l.legs,x.gates.length<=1000
def Zah (l:Land):Bool:=decide (l.wells.length > 20) || decide (l.legs.length > 40) || l.legs.any fun x=>decide (x.gates.length > 20)
theorem Zay {l:Land} (h:ZS l=true):∀ w ∈ l.wells,Yx w=true:=by
 simp only [ZS,Bool.and_eq_true,List.all_eq_true] at h;exact h.1.2
theorem V6 {l:Land} (h:ZS l=true):1<=l.wells.length/\l.wells.length<=12/\l.legs.length<=24:=by
 simp only [ZS,Bool.and_eq_true,inR,decide_eq_true_eq] at h;omega
theorem Vo {n:Int}:∀ {l:List Draw} {last:Int},YW n last l=true->0<=last->∀ x ∈ l,0<=x.day/\x.day<=100000/\0<=x.water/\x.water<=1000000000
 | [],_,_,_,x,h=>by simp at h
 | y :: l,last,h,h0,x,hx=>by
  simp only [YW,Bool.and_eq_true,inR,decide_eq_true_eq] at h
  rcases List.mem_cons.1 hx with rfl | hx
  . omega
  . exact Vo h.2 (by omega) x hx
end Go.Azalai
namespace Go.Proofs.YtiigiflofnjilaaGreat
open Go Go.Sx Go.Azalai
def Zo (n:Int):List SV:=[I n]
def Zc (s:Span):List SV:=[I s.lo,I s.hi]
def Zh (g:Gate):List SV:=[I g.opens.lo,I g.opens.hi,I g.shuts.lo,I g.shuts.hi]
def Zf (w:Well):List SV:=[I w.x,I w.y,I w.depth,I w.yld.lo,I w.yld.hi,I w.room,I w.has.lo,I w.has.hi,I w.owner]
def Zl (x:Leg):List SV:=[I x.a,I x.b,I x.long.lo,I x.long.hi,.sl false 4 (x.gates.map Zh)]
def ZH (l:Land):List SV:=[.sl false 9 (l.wells.map Zf),.sl false 5 (l.legs.map Zl)]
def Zz (d:Draw):List SV:=[I d.well,I d.day,I d.water]
theorem Wc {α : Type} (g:α->Bool) (l:List α):decide (XQ g l 0 ≥ 0)=l.any g:=Zdc g l 0
theorem Zjn (h:Nat) (caps:List SV) (hk:KFL caps) (g:Int->Bool) (l:List Int) (hg:∀ x ∈ l,Ct Tryz.prog h (I x :: caps) (B (g x))) (hl:l.length < 4611686018427387904) {c:Bool} :
 Ct Tryz.prog 141 [.sl c 1 (l.map Zo),.cl h caps] (I (XQ g l 0)):=by
 refine t141.1 ⟨by simp [KF,Za,KFL,Zo],hk,trivial⟩ (by simp [KF]) ?_
 dsimp only [c141,r141,go_sem,rA,rM,rS]
 refine YV (fun k:Nat=>[(8,I k)]) (fun _=>[]) (fun k=>k<=l.length/\XQ g (l.drop k) k=XQ g l 0) (fun k=>l.length - k) 0 ⟨Nat.zero_le _,rfl⟩ ?_ ?_
 . (refine Zk ?_ ?_ ?_ rfl rfl<;>dsimp only [Zo,hk,id,go_sem,rA,rM,rS]<;>simp [Zo,hk,Za,Zi,KFR,KFL,KF,Zd,mtO,nbr])
 . intro k ⟨hk',hi⟩
   dsimp only [go_sem,rA,rM,rS]
   refine br ?_ ?_
   . intro hlt
     have hlt:k < l.length:=by simpa using hlt
     dsimp only [go_sem,rA,rM,rS]
     refine Zm k hlt rfl ?_
     dsimp only [Zo,go_sem,rA,rM,rS]
     refine call (hg l[k] (List.getElem_mem _)) ?_
     dsimp only [go_sem,rA,rM,rS]
     refine br ?_ ?_
     . intro hgx
       dsimp only [go_sem,rA,rM,rS]
       rw [<- hi,List.drop_eq_getElem_cons hlt]
       simp [XQ,hgx]
     . intro hgx
       dsimp only [go_sem,rA,rM,rS]
       refine ⟨k+1,⟨by omega,?_⟩,by omega,?_⟩
       . rw [<- hi,List.drop_eq_getElem_cons hlt];simp [XQ,hgx]
       . rw [Ze (by omega) (by omega)]
         (refine Zk ?_ ?_ ?_ rfl rfl<;>dsimp only [Zo,hk,id,go_sem,rA,rM,rS]<;>simp [Zo,hk,Za,Zi,KFR,KFL,KF,Zd,mtO,nbr])
   . intro hlt
     have hlt:k=l.length:=by simp at hlt;omega
     dsimp only [go_sem,rA,rM,rS]
     rw [<- hi,hlt];simp [XQ]
theorem Zu8 (h:Nat) (caps:List SV) (hk:KFL caps) (g:Int->Bool) (l:List Int) (hg:∀ x ∈ l,Ct Tryz.prog h (I x :: caps) (B (g x))) (hl:l.length < 4611686018427387904) {c:Bool} :
 Ct Tryz.prog 98 [.sl c 1 (l.map Zo),.cl h caps] (B (l.any g)):=by
 refine t98.1 ⟨by simp [KF,Za,KFL,Zo],hk,trivial⟩ (by simp [KF]) ?_
 dsimp only [c98,r98,go_sem,rA,rM,rS]
 refine call (Zjn h caps hk g l hg hl) ?_
 dsimp only [go_sem,rA,rM,rS]
 rw [Wc]
theorem idx95 (h:Nat) (caps:List SV) (hk:KFL caps) (g:Well->Bool) (l:List Well) (hg:∀ x ∈ l,Ct Tryz.prog h (.agg (Zf x) :: caps) (B (g x))) (hl:l.length < 4611686018427387904) {c:Bool} :
 Ct Tryz.prog 161 [.sl c 9 (l.map Zf),.cl h caps] (I (XQ g l 0)):=by
 refine t161.1 ⟨by simp [KF,Za,KFL,Zf],hk,trivial⟩ (by simp [KF]) ?_
 dsimp only [c161,r161,go_sem,rA,rM,rS]
 refine YV (fun k:Nat=>[(8,I k)]) (fun _=>[]) (fun k=>k<=l.length/\XQ g (l.drop k) k=XQ g l 0) (fun k=>l.length - k) 0 ⟨Nat.zero_le _,rfl⟩ ?_ ?_
 . (refine Zk ?_ ?_ ?_ rfl rfl<;>dsimp only [Zf,hk,id,go_sem,rA,rM,rS]<;>simp [Zf,hk,Za,Zi,KFR,KFL,KF,Zd,mtO,nbr])
 . intro k ⟨hk',hi⟩
   dsimp only [go_sem,rA,rM,rS]
   refine br ?_ ?_
   . intro hlt
     have hlt:k < l.length:=by simpa using hlt
     dsimp only [go_sem,rA,rM,rS]
     refine Zm k hlt rfl ?_
     dsimp only [Zf,go_sem,rA,rM,rS]
     refine call (hg l[k] (List.getElem_mem _)) ?_
     dsimp only [go_sem,rA,rM,rS]
     refine br ?_ ?_
     . intro hgx
       dsimp only [go_sem,rA,rM,rS]
       rw [<- hi,List.drop_eq_getElem_cons hlt]
       simp [XQ,hgx]
     . intro hgx
       dsimp only [go_sem,rA,rM,rS]
       refine ⟨k+1,⟨by omega,?_⟩,by omega,?_⟩
       . rw [<- hi,List.drop_eq_getElem_cons hlt];simp [XQ,hgx]
       . rw [Ze (by omega) (by omega)]
         (refine Zk ?_ ?_ ?_ rfl rfl<;>dsimp only [Zf,hk,id,go_sem,rA,rM,rS]<;>simp [Zf,hk,Za,Zi,KFR,KFL,KF,Zd,mtO,nbr])
   . intro hlt
     have hlt:k=l.length:=by simp at hlt;omega
     dsimp only [go_sem,rA,rM,rS]
     rw [<- hi,hlt];simp [XQ]
theorem con71 (h:Nat) (caps:List SV) (hk:KFL caps) (g:Well->Bool) (l:List Well) (hg:∀ x ∈ l,Ct Tryz.prog h (.agg (Zf x) :: caps) (B (g x))) (hl:l.length < 4611686018427387904) {c:Bool} :
 Ct Tryz.prog 129 [.sl c 9 (l.map Zf),.cl h caps] (B (l.any g)):=by
 refine t129.1 ⟨by simp [KF,Za,KFL,Zf],hk,trivial⟩ (by simp [KF]) ?_
 dsimp only [c129,r129,go_sem,rA,rM,rS]
 refine call (idx95 h caps hk g l hg hl) ?_
 dsimp only [go_sem,rA,rM,rS]
 rw [Wc]
theorem idx96 (h:Nat) (caps:List SV) (hk:KFL caps) (g:Leg->Bool) (l:List Leg) (hg:∀ x ∈ l,Ct Tryz.prog h (.agg (Zl x) :: caps) (B (g x))) (hl:l.length < 4611686018427387904) {c:Bool} :
 Ct Tryz.prog 162 [.sl c 5 (l.map Zl),.cl h caps] (I (XQ g l 0)):=by
 refine t162.1 ⟨by simp [KF,Za,KFL,Zl,Zh],hk,trivial⟩ (by simp [KF]) ?_
 dsimp only [c162,r162,go_sem,rA,rM,rS]
 refine YV (fun k:Nat=>[(8,I k)]) (fun _=>[]) (fun k=>k<=l.length/\XQ g (l.drop k) k=XQ g l 0) (fun k=>l.length - k) 0 ⟨Nat.zero_le _,rfl⟩ ?_ ?_
 . (refine Zk ?_ ?_ ?_ rfl rfl<;>dsimp only [Zl,Zh,hk,id,go_sem,rA,rM,rS]<;>simp [Zl,Zh,hk,Za,Zi,KFR,KFL,KF,Zd,mtO,nbr])
 . intro k ⟨hk',hi⟩
   dsimp only [go_sem,rA,rM,rS]
   refine br ?_ ?_
   . intro hlt
     have hlt:k < l.length:=by simpa using hlt
     dsimp only [go_sem,rA,rM,rS]
     refine Zm k hlt rfl ?_
     dsimp only [Zl,go_sem,rA,rM,rS]
     refine call (hg l[k] (List.getElem_mem _)) ?_
     dsimp only [go_sem,rA,rM,rS]
     refine br ?_ ?_
     . intro hgx
       dsimp only [go_sem,rA,rM,rS]
       rw [<- hi,List.drop_eq_getElem_cons hlt]
       simp [XQ,hgx]
     . intro hgx
       dsimp only [go_sem,rA,rM,rS]
       refine ⟨k+1,⟨by omega,?_⟩,by omega,?_⟩
       . rw [<- hi,List.drop_eq_getElem_cons hlt];simp [XQ,hgx]
       . rw [Ze (by omega) (by omega)]
         (refine Zk ?_ ?_ ?_ rfl rfl<;>dsimp only [Zl,Zh,hk,id,go_sem,rA,rM,rS]<;>simp [Zl,Zh,hk,Za,Zi,KFR,KFL,KF,Zd,mtO,nbr])
   . intro hlt
     have hlt:k=l.length:=by simp at hlt;omega
     dsimp only [go_sem,rA,rM,rS]
     rw [<- hi,hlt];simp [XQ]
theorem con74 (h:Nat) (caps:List SV) (hk:KFL caps) (g:Leg->Bool) (l:List Leg) (hg:∀ x ∈ l,Ct Tryz.prog h (.agg (Zl x) :: caps) (B (g x))) (hl:l.length < 4611686018427387904) {c:Bool} :
 Ct Tryz.prog 132 [.sl c 5 (l.map Zl),.cl h caps] (B (l.any g)):=by
 refine t132.1 ⟨by simp [KF,Za,KFL,Zl,Zh],hk,trivial⟩ (by simp [KF]) ?_
 dsimp only [c132,r132,go_sem,rA,rM,rS]
 refine call (idx96 h caps hk g l hg hl) ?_
 dsimp only [go_sem,rA,rM,rS]
 rw [Wc]
theorem ZuM (h:Nat) (caps:List SV) (hk:KFL caps) (g:Span->Bool) (l:List Span) (hg:∀ x ∈ l,Ct Tryz.prog h (.agg (Zc x) :: caps) (B (g x))) (hl:l.length < 4611686018427387904) {c:Bool} :
 Ct Tryz.prog 143 [.sl c 2 (l.map Zc),.cl h caps] (I (XQ g l 0)):=by
 refine t143.1 ⟨by simp [KF,Za,KFL,Zc],hk,trivial⟩ (by simp [KF]) ?_
 dsimp only [c143,r143,go_sem,rA,rM,rS]
 refine YV (fun k:Nat=>[(8,I k)]) (fun _=>[]) (fun k=>k<=l.length/\XQ g (l.drop k) k=XQ g l 0) (fun k=>l.length - k) 0 ⟨Nat.zero_le _,rfl⟩ ?_ ?_
 . (refine Zk ?_ ?_ ?_ rfl rfl<;>dsimp only [Zc,hk,id,go_sem,rA,rM,rS]<;>simp [Zc,hk,Za,Zi,KFR,KFL,KF,Zd,mtO,nbr])
 . intro k ⟨hk',hi⟩
   dsimp only [go_sem,rA,rM,rS]
   refine br ?_ ?_
   . intro hlt
     have hlt:k < l.length:=by simpa using hlt
     dsimp only [go_sem,rA,rM,rS]
     refine Zm k hlt rfl ?_
     dsimp only [Zc,go_sem,rA,rM,rS]
     refine call (hg l[k] (List.getElem_mem _)) ?_
     dsimp only [go_sem,rA,rM,rS]
     refine br ?_ ?_
     . intro hgx
       dsimp only [go_sem,rA,rM,rS]
       rw [<- hi,List.drop_eq_getElem_cons hlt]
       simp [XQ,hgx]
     . intro hgx
       dsimp only [go_sem,rA,rM,rS]
       refine ⟨k+1,⟨by omega,?_⟩,by omega,?_⟩
       . rw [<- hi,List.drop_eq_getElem_cons hlt];simp [XQ,hgx]
       . rw [Ze (by omega) (by omega)]
         (refine Zk ?_ ?_ ?_ rfl rfl<;>dsimp only [Zc,hk,id,go_sem,rA,rM,rS]<;>simp [Zc,hk,Za,Zi,KFR,KFL,KF,Zd,mtO,nbr])
   . intro hlt
     have hlt:k=l.length:=by simp at hlt;omega
     dsimp only [go_sem,rA,rM,rS]
     rw [<- hi,hlt];simp [XQ]
theorem Zpe (h:Nat) (caps:List SV) (hk:KFL caps) (g:Span->Bool) (l:List Span) (hg:∀ x ∈ l,Ct Tryz.prog h (.agg (Zc x) :: caps) (B (g x))) (hl:l.length < 4611686018427387904) {c:Bool} :
 Ct Tryz.prog 102 [.sl c 2 (l.map Zc),.cl h caps] (B (l.any g)):=by
 refine t102.1 ⟨by simp [KF,Za,KFL,Zc],hk,trivial⟩ (by simp [KF]) ?_
 dsimp only [c102,r102,go_sem,rA,rM,rS]
 refine call (ZuM h caps hk g l hg hl) ?_
 dsimp only [go_sem,rA,rM,rS]
 rw [Wc]
theorem Z7 (n lo hi:Int):Ct Tryz.prog 88 [I n,I lo,I hi] (B (inR lo hi n)):=by
 refine t88.1 (by simp [KFL,KF]) (by simp [KFL,KF]) ?_
 dsimp only [c88,r88,go_sem,rA,rM,rS]
 refine gb ?_;dsimp only [go_sem,rA,rM,rS]
 refine gb ?_;dsimp only [go_sem,rA,rM,rS]
 refine gb ?_;dsimp only [go_sem,rA,rM,rS]
 simp [inR]
theorem ZA (s:Span) (lo hi:Int):Ct Tryz.prog 137 [.agg (Zc s),I lo,I hi] (B (Z0 lo hi s)):=by
 refine t137.1 (by simp [Zc,KFL,KF]) (by simp [KFL,KF]) ?_
 dsimp only [c137,r137,Zc,go_sem,rA,rM,rS]
 refine call (Z7 _ _ _) ?_
 dsimp only [go_sem,rA,rM,rS]
 repeat (refine gb ?_;dsimp only [go_sem,rA,rM,rS])
 (simp only [Z0,inR,Option.some.injEq,SV.v.injEq,Value.bool.injEq]<;>grind)
theorem ZbX (lo hi x:Int):Ct Tryz.prog 121 [I x,.ps [I lo] 0,.ps [I hi] 0] (B (!inR lo hi x)):=by
 refine t121.1 (by simp [KFL,KF]) (by simp [KFL,KF]) ?_
 dsimp only [c121,r121,go_sem,rA,rM,rS]
 repeat (refine gb ?_;dsimp only [go_sem,rA,rM,rS])
 (simp only [inR,Option.some.injEq,SV.v.injEq,Value.bool.injEq]<;>grind)
theorem VB (lo hi:Int) (l:List Int) (hl:l.length < 4611686018427387904) (c:Bool):Ct Tryz.prog 76 [I lo,I hi,.sl c 1 (l.map Zo)] (B (l.all (inR lo hi))):=by
 refine t76.1 (by simp [Za,Zo,KFL,KF]) (by simp [KFL,KF]) ?_
 dsimp only [c76,r76,go_sem,rA,rM,rS]
 refine ZcA (by simp [FLT]) (res:=B (l.any fun x=>!inR lo hi x)) ?_ ?_
 . dsimp only [go_sem,rA,rM,rS]
   exact Zu8 121 [.ps [I lo] 0,.ps [I hi] 0] (by simp [KFL,KF]) (fun x=>!inR lo hi x) l (fun x _=>ZbX lo hi x) hl
 . dsimp only [go_sem,rA,rM,rS]
   simp [List.all_eq_not_any_not]
theorem Ua (lo hi a:Int) (c:Bool):Ct Tryz.prog 76 [I lo,I hi,.sl c 1 [[I a]]] (B (inR lo hi a)):=by
 have:=VB lo hi [a] (by simp) c
 simpa [Zo] using this
theorem ZfL (lo hi a b:Int) (c:Bool):Ct Tryz.prog 76 [I lo,I hi,.sl c 1 [[I a],[I b]]] (B (inR lo hi a && inR lo hi b)):=by
 have:=VB lo hi [a,b] (by simp) c
 simpa [Zo] using this
theorem Vi (lo hi:Int) (s:Span):Ct Tryz.prog 158 [.agg (Zc s),.ps [I lo] 0,.ps [I hi] 0] (B (!Z0 lo hi s)):=by
 refine t158.1 (by simp [Zc,KFL,KF]) (by simp [KFL,KF]) ?_
 dsimp only [c158,r158,Zc,go_sem,rA,rM,rS]
 repeat (first | (refine gb ?_;dsimp only [go_sem,rA,rM,rS]) | (refine call (ZfL _ _ _ _ _) ?_;dsimp only [go_sem,rA,rM,rS]))
 (simp only [Z0,inR,Option.some.injEq,SV.v.injEq,Value.bool.injEq]<;>grind)
theorem Y1 (lo hi:Int) (l:List Span) (hl:l.length < 4611686018427387904) (c:Bool):Ct Tryz.prog 120 [I lo,I hi,.sl c 2 (l.map Zc)] (B (l.all (Z0 lo hi))):=by
 refine t120.1 (by simp [Za,Zc,KFL,KF]) (by simp [KFL,KF]) ?_
 dsimp only [c120,r120,go_sem,rA,rM,rS]
 refine ZcA (by simp [FLT]) (res:=B (l.any fun x=>!Z0 lo hi x)) ?_ ?_
 . dsimp only [go_sem,rA,rM,rS]
   exact Zpe 158 [.ps [I lo] 0,.ps [I hi] 0] (by simp [KFL,KF]) (fun x=>!Z0 lo hi x) l (fun x _=>Vi lo hi x) hl
 . dsimp only [go_sem,rA,rM,rS]
   simp [List.all_eq_not_any_not]
theorem YS (lo hi:Int) (s:Span) (c:Bool):Ct Tryz.prog 120 [I lo,I hi,.sl c 2 [[I s.lo,I s.hi]]] (B (Z0 lo hi s)):=by
 have:=Y1 lo hi [s] (by simp) c
 simpa [Zc] using this
theorem ZbR (lo hi:Int) (s t:Span) (c:Bool):Ct Tryz.prog 120 [I lo,I hi,.sl c 2 [[I s.lo,I s.hi],[I t.lo,I t.hi]]] (B (Z0 lo hi s && Z0 lo hi t)):=by
 have:=Y1 lo hi [s,t] (by simp) c
 simpa [Zc] using this
theorem Zvp (w:Well):Ct Tryz.prog 131 [.agg (Zf w)] (B (Yx w)):=by
 refine t131.1 (by simp [Zf,KFL,KF]) (by simp [KFL,KF]) ?_
 dsimp only [c131,r131,Zf,go_sem,rA,rM,rS]
 repeat (first | (refine gb ?_;dsimp only [go_sem,rA,rM,rS]) | (refine call (Ua _ _ _ _) ?_;dsimp only [go_sem,rA,rM,rS]) | (refine call (ZfL _ _ _ _ _) ?_;dsimp only [go_sem,rA,rM,rS]) | (refine call (YS _ _ w.yld _) ?_;dsimp only [go_sem,rA,rM,rS]) | (refine call (YS _ _ w.has _) ?_;dsimp only [go_sem,rA,rM,rS]))
 simp [Yx,Bool.and_assoc]
theorem Zf5 (x:Leg) (n:Int) (h0:0<=n) (h1:n<=1000) (hg:x.gates.length < 4611686018427387904):Ct Tryz.prog 134 [.agg (Zl x),I n] (B (XX n x)):=by
 have hw:IntKind.i64.wrap (n - 1)=n - 1:=Ze (by omega) (by omega)
 refine t134.1 (by simp [Zl,Za,Zh,KFL,KF]) (by simp [KFL,KF]) ?_
 dsimp only [c134,r134,Zl,hw,go_sem,rA,rM,rS]
 simp only [hw]
 repeat (first | (refine gb ?_;dsimp only [go_sem,rA,rM,rS]) | (refine call (ZfL _ _ _ _ _) ?_;dsimp only [go_sem,rA,rM,rS]) | (refine call (YS _ _ x.long _) ?_;dsimp only [go_sem,rA,rM,rS]))
 simp only [List.length_map]
 refine br ?_ ?_
 . intro h
   dsimp only [go_sem,rA,rM,rS]
   (simp only [XX,Option.some.injEq,SV.v.injEq,Value.bool.injEq]<;>grind)
 . intro h
   dsimp only [go_sem,rA,rM,rS]
   have hh:XX n x=Yn 0 x.gates:=by simp only [XX];grind
   rw [hh]
   refine YV (fun s:Nat × Int=>[(40,I s.1),(5,I s.2)]) (fun _=>[]) (fun s=>s.1<=x.gates.length/\Yn s.2 (x.gates.drop s.1)=Yn 0 x.gates) (fun s=>x.gates.length - s.1) (0,0) ⟨Nat.zero_le _,rfl⟩ ?_ ?_
   . (refine Zk ?_ ?_ ?_ rfl rfl<;>dsimp only [Zh,id,go_sem,rA,rM,rS]<;>simp [Zh,Za,Zi,KFR,KFL,KF,Zd,mtO,nbr])
   . rintro ⟨k,next⟩ ⟨hk,hi⟩
     dsimp only [go_sem,rA,rM,rS]
     refine br ?_ ?_
     . intro hlt
       have hlt:k < x.gates.length:=by simpa using hlt
       dsimp only [go_sem,rA,rM,rS]
       refine Zm k hlt rfl ?_
       dsimp only [Zh,go_sem,rA,rM,rS]
       repeat (first | (refine gb ?_;dsimp only [go_sem,rA,rM,rS]) | (refine call (ZbR _ _ x.gates[k].opens x.gates[k].shuts _) ?_;dsimp only [go_sem,rA,rM,rS]) | (refine call (Ua _ _ _ _) ?_;dsimp only [go_sem,rA,rM,rS]))
       have hd:x.gates.drop k=x.gates[k] :: x.gates.drop (k+1):=List.drop_eq_getElem_cons hlt
       refine br ?_ ?_
       . intro hb
         dsimp only [go_sem,rA,rM,rS]
         rw [<- hi,hd]
         (simp only [Yn,Option.some.injEq,SV.v.injEq,Value.bool.injEq]<;>grind)
       . intro hb
         dsimp only [go_sem,rA,rM,rS]
         have hs:Z0 0 100000 x.gates[k].shuts=true:=by grind
         simp only [Z0,decide_eq_true_eq] at hs
         rw [Ze (n:=x.gates[k].shuts.hi+1) (by omega) (by omega),Ze (n:=(k:Int)+1) (by omega) (by omega)]
         refine ⟨(k+1,x.gates[k].shuts.hi+1),⟨hlt,?_⟩,by simp only;omega,?_⟩
         . rw [<- hi,hd];simp only [Yn];grind
         . (refine Zk ?_ ?_ ?_ rfl rfl<;>dsimp only [Zh,id,go_sem,rA,rM,rS]<;>simp [Zh,Za,Zi,KFR,KFL,KF,Zd,mtO,nbr])
     . intro hlt
       have hlt:k=x.gates.length:=by simp at hlt;omega
       dsimp only [go_sem,rA,rM,rS]
       rw [<- hi,hlt];simp [Yn]
theorem ZrI (l:Land) (x:Leg) (hs:XM l) (hx:x ∈ l.legs):Ct Tryz.prog 133 [.agg (Zl x),.ps (ZH l) 0] (B (!XX l.wells.length x)):=by
 have hg:=hs.2.2 x hx
 refine t133.1 (by simp [Zl,ZH,Zf,Zh,Za,KFL,KF]) (by simp [KFL,KF]) ?_
 dsimp only [c133,r133,Zl,ZH,go_sem,rA,rM,rS]
 simp only [List.length_map]
 refine call (Zf5 x l.wells.length (by omega) (by have:=hs.1;omega) (by omega)) ?_
 dsimp only [go_sem,rA,rM,rS]
theorem Zl3 (w:Well):Ct Tryz.prog 130 [.agg (Zf w)] (B (!Yx w)):=by
 refine t130.1 (by simp [Zf,KFL,KF]) (by simp [KFL,KF]) ?_
 dsimp only [c130,r130,Zf,go_sem,rA,rM,rS]
 refine call (Zvp w) ?_
 dsimp only [go_sem,rA,rM,rS]
theorem ZbV (l:Land) (hs:XM l):Ct Tryz.prog 85 [.agg (ZH l)] (I (if ZS l=true then 0 else 30)):=by
 refine t85.1 (by simp [ZH,Zf,Zl,Zh,Za,KFL,KF]) (by simp [KFL,KF]) ?_
 dsimp only [c85,r85,ZH,go_sem,rA,rM,rS]
 refine call (con71 130 [] (by simp [KFL]) (fun w=>!Yx w) l.wells (fun w _=>Zl3 w) (by have:=hs.1;omega)) ?_
 dsimp only [go_sem,rA,rM,rS]
 refine ZcA (res:=B (l.legs.any fun x=>!XX l.wells.length x)) (by simp [FLT]) ?_ ?_
 . dsimp only [go_sem,rA,rM,rS]
   exact con74 133 [.ps (ZH l) 0] (by simp [ZH,Zf,Zl,Zh,Za,KFL,KF]) (fun x=>!XX l.wells.length x) l.legs (fun x hx=>ZrI l x hs hx) (by have:=hs.2.1;omega)
 dsimp only [go_sem,rA,rM,rS]
 repeat (first | (refine gb ?_;dsimp only [go_sem,rA,rM,rS]) | (refine call (Ua _ _ _ _) ?_;dsimp only [go_sem,rA,rM,rS]))
 simp only [List.length_map]
 have key:ZS l = !(!inR 1 12 l.wells.length || decide ((l.legs.length:Int) > 24) || !(!l.wells.any fun w=>!Yx w) || !(!l.legs.any fun x=>!XX l.wells.length x)):=by
  simp only [ZS,List.all_eq_not_any_not];grind
 rw [key]
 refine br ?_ ?_
 . intro h
   dsimp only [go_sem,rA,rM,rS]
   rw [h];rfl
 . intro h
   dsimp only [go_sem,rA,rM,rS]
   rw [h];rfl
theorem ZaU {w:Well} {s:Span} {n:Int} (hw:Yx w=true) (h1:0<=s.lo) (h2:s.lo<=w.room) (h3:0<=s.hi) (h4:s.hi<=w.room) (h5:-200000<=n) (h6:n<=200000) :
 IntKind.i64.wrap (s.lo+IntKind.i64.wrap (n * w.yld.lo))=s.lo+n * w.yld.lo/\IntKind.i64.wrap (s.hi+IntKind.i64.wrap (n * w.yld.hi))=s.hi+n * w.yld.hi:=by
 simp only [Yx,Z0,inR,Bool.and_eq_true,decide_eq_true_eq] at hw
 have key:∀ y:Int,0<=y->y<=10000000->-2000000000000<=n * y/\n * y<=2000000000000:=fun y a b=>by
  constructor
  . have:=Int.mul_le_mul_of_nonneg_right h5 a;omega
  . have:=Int.mul_le_mul_of_nonneg_right h6 a;omega
 have k1:=key w.yld.lo (by omega) (by omega)
 have k2:=key w.yld.hi (by omega) (by omega)
 rw [Ze (n:=n * w.yld.lo) (by omega) (by omega),Ze (n:=n * w.yld.hi) (by omega) (by omega),Ze (by omega) (by omega),Ze (by omega) (by omega)]
 exact ⟨rfl,rfl⟩
theorem ZcN {w:Well} {s:Span} {n:Int} (hw:Yx w=true) (h1:0<=s.lo) (h2:s.lo<=w.room) (h3:0<=s.hi) (h4:s.hi<=w.room) (h5:-200000<=n) (h6:n<=200000):-2000000000000<=(YN w s n).lo:=by
 simp only [Yx,Z0,inR,Bool.and_eq_true,decide_eq_true_eq] at hw
 have k1:-2000000000000<=n * w.yld.lo:=by
  have:=Int.mul_le_mul_of_nonneg_right h5 (show 0<=w.yld.lo by omega);omega
 simp only [YN];omega
theorem Zco (w:Well) (s:Span) (n:Int) (hw:Yx w=true) (h1:0<=s.lo) (h2:s.lo<=w.room) (h3:0<=s.hi) (h4:s.hi<=w.room) (h5:-200000<=n) (h6:n<=200000) :
 Ct Tryz.prog 86 [.agg (Zf w),.agg (Zc s),I n] (.agg (Zc (YN w s n))):=by
 obtain ⟨k1,k2⟩:=ZaU hw h1 h2 h3 h4 h5 h6
 refine t86.1 (by simp [Zf,Zc,KFL,KF]) (by simp [Zc,KFL,KF]) ?_
 dsimp only [c86,r86,Zf,Zc,go_sem,rA,rM,rS]
 simp only [k1,k2,YN]
theorem Zbs (w:Well) (s:Span) (n:Int) (hw:Yx w=true) (h1:0<=s.lo) (h2:s.lo<=w.room) (h3:0<=s.hi) (h4:s.hi<=w.room) (h5:-200000<=n) (h6:n<=200000) :
 Ct Tryz.prog 152 [.agg (Zf w),.agg (Zc s),I n] (.agg (Zc (YN w s n))):=by
 obtain ⟨k1,k2⟩:=ZaU hw h1 h2 h3 h4 h5 h6
 refine t152.1 (by simp [Zf,Zc,KFL,KF]) (by simp [Zc,KFL,KF]) ?_
 dsimp only [c152,r152,Zf,Zc,go_sem,rA,rM,rS]
 simp only [k1,k2,YN]
def Zdb (r:Span × Int × Int):SV:=.tup [.agg (Zc r.1),I r.2.1,I r.2.2]
theorem Zd9 {l:Land} {well:Int} (h:inR 0 (l.wells.length - 1) well=true):∃ (k:Nat) (hk:k < l.wells.length),well=(k:Int)/\l.wells[well.toNat]? = some l.wells[k]:=by
 simp only [inR,decide_eq_true_eq] at h
 refine ⟨well.toNat,by omega,by omega,?_⟩
 rw [List.getElem?_eq_getElem (by omega)]
theorem Zn4 (l:Land) (hs:XM l) (well day:Int) (draws:List Draw) (hd:draws.length<=1000) :
 Ct Tryz.prog 42 [.agg (ZH l),I well,.sl false 3 (draws.map Zz),I day] (Zdb (Xg l well draws day)):=by
 have hw1:IntKind.i64.wrap ((l.wells.length:Int) - 1)=(l.wells.length:Int) - 1:=Ze (by omega) (by have:=hs.1;omega)
 refine t42.1 (by simp [ZH,Zf,Zl,Zh,Zz,Za,KFL,KF]) (by simp [Zdb,Zc,KFL,KF]) ?_
 dsimp only [c42,r42,ZH,go_sem,rA,rM,rS]
 refine call (ZbV l hs) ?_
 dsimp only [go_sem,rA,rM,rS]
 by_cases ho:ZS l=true
 case neg =>
  rw [if_neg ho]
  refine Zr rfl ?_
  dsimp only [go_sem,rA,rM,rS]
  simp [Xg,ho,Zdb,Zc]
 rw [if_pos ho]
 refine Zs rfl ?_
 dsimp only [go_sem,rA,rM,rS]
 simp only [List.length_map,hw1]
 repeat (first | (refine gb ?_;dsimp only [go_sem,rA,rM,rS]) | (refine call (Ua _ _ _ _) ?_;dsimp only [go_sem,rA,rM,rS]))
 by_cases ha:(inR 0 (l.wells.length - 1) well && inR 0 100000 day)=true
 case neg =>
  refine Zr (by grind) ?_
  dsimp only [go_sem,rA,rM,rS]
  simp [Xg,ho,Zdb,Zc,ha]
 refine Zs (by grind) ?_
 dsimp only [go_sem,rA,rM,rS]
 by_cases hm:draws.length > 200
 case pos =>
  refine Zr (by simp;omega) ?_
  dsimp only [go_sem,rA,rM,rS]
  simp [Xg,ho,Zdb,Zc,ha,hm]
 refine Zs (by simp;omega) ?_
 dsimp only [go_sem,rA,rM,rS]
 refine YV (fun s:Nat × Int=>[(50,I s.1),(12,I s.2)]) (fun _=>[]) (fun s=>s.1<=draws.length/\YW l.wells.length s.2 (draws.drop s.1)=YW l.wells.length 0 draws) (fun s=>draws.length - s.1) (0,0) ⟨Nat.zero_le _,rfl⟩ ?_ ?_
 . (refine Zk ?_ ?_ ?_ rfl rfl<;>dsimp only [Zh,Zf,Zl,Zz,id,go_sem,rA,rM,rS]<;>simp [Zh,Zf,Zl,Zz,Za,Zi,KFR,KFL,KF,Zd,mtO,nbr])
 . rintro ⟨k,last⟩ ⟨hk,hi⟩
   simp only at hk hi
   dsimp only [go_sem,rA,rM,rS]
   by_cases hlt:k < draws.length
   . refine Zr (by simpa using hlt) ?_
     dsimp only [go_sem,rA,rM,rS]
     refine Zm k hlt rfl ?_
     dsimp only [Zz,go_sem,rA,rM,rS]
     simp only [List.length_map,hw1]
     repeat (first | (refine gb ?_;dsimp only [go_sem,rA,rM,rS]) | (refine call (Ua _ _ _ _) ?_;dsimp only [go_sem,rA,rM,rS]))
     have hdr:draws.drop k=draws[k] :: draws.drop (k+1):=List.drop_eq_getElem_cons hlt
     rw [hdr] at hi
     simp only [YW] at hi
     refine br ?_ ?_
     . intro h
       dsimp only [go_sem,rA,rM,rS]
       have:YW l.wells.length 0 draws=false:=by rw [<- hi];grind
       simp [Xg,ho,Zdb,Zc,ha,hm,this]
     . intro h
       dsimp only [go_sem,rA,rM,rS]
       rw [Ze (n:=(k:Int)+1) (by omega) (by omega)]
       refine ⟨(k+1,draws[k].day),⟨hlt,?_⟩,by simp only;omega,?_⟩
       . simp only;grind
       . (refine Zk ?_ ?_ ?_ rfl rfl<;>dsimp only [Zh,Zf,Zl,Zz,id,go_sem,rA,rM,rS]<;>simp [Zh,Zf,Zl,Zz,Za,Zi,KFR,KFL,KF,Zd,mtO,nbr])
   . refine Zs (by simp;omega) ?_
     dsimp only [go_sem,rA,rM,rS]
     have hk':k=draws.length:=by omega
     subst hk'
     simp only [List.drop_length,YW] at hi
     obtain ⟨kw,hkw,rfl,hget⟩:=Zd9 (Bool.and_eq_true_iff.1 ha).1
     refine Zm kw hkw rfl ?_
     dsimp only [Zf,go_sem,rA,rM,rS]
     have hwf:Xg l kw draws day=X8 l.wells[kw] kw day l.wells[kw].has (-1) 0 draws:=by
      simp only [Xg,ho,ha,hm,<- hi,hget];simp
     rw [hwf]
     have hok:=Zay ho l.wells[kw] (List.getElem_mem _)
     have hmem:=Vo hi.symm (Int.le_refl _)
     have hday:0<=day/\day<=100000:=by simp only [inR,Bool.and_eq_true,decide_eq_true_eq] at ha;omega
     have hroom:0<=l.wells[kw].has.lo/\l.wells[kw].has.lo<=l.wells[kw].room/\0<=l.wells[kw].has.hi/\l.wells[kw].has.hi<=l.wells[kw].room/\l.wells[kw].room<=1000000000:=by
      simp only [Yx,Z0,inR,Bool.and_eq_true,decide_eq_true_eq] at hok;omega
     have hroom2:∀ x:Int,x<=l.wells[kw].room->x<=1000000000:=fun x h=>by omega
     refine YV (fun s:Nat × Span × Int=>[(91,I s.1),(17,I s.2.2)]) (fun s=>[(3,.cells (Zc s.2.1) 27)])
      (fun s=>s.1<=draws.length/\X8 l.wells[kw] kw day s.2.1 s.2.2 s.1 (draws.drop s.1)=X8 l.wells[kw] kw day l.wells[kw].has (-1) 0 draws /\
       0<=s.2.1.lo/\s.2.1.lo<=l.wells[kw].room/\0<=s.2.1.hi/\s.2.1.hi<=l.wells[kw].room/\-1<=s.2.2/\s.2.2<=100000) (fun s=>draws.length - s.1) (0,l.wells[kw].has,-1)
      ⟨Nat.zero_le _,rfl,hroom.1,hroom.2.1,hroom.2.2.1,hroom.2.2.2.1,by simp,by simp⟩ ?_ ?_
     . (refine Zk ?_ ?_ ?_ rfl rfl<;>dsimp only [Zh,Zf,Zl,Zz,Zc,id,go_sem,rA,rM,rS]<;>simp [Zh,Zf,Zl,Zz,Zc,Za,Zi,KFR,KFL,KF,Zd,mtO,nbr])
     . rintro ⟨k,now,ev⟩ ⟨hk2,hi2,n1,n2,n3,n4,e1,e2⟩
       simp only at hk2 hi2 n1 n2 n3 n4 e1 e2
       dsimp only [Zc,go_sem,rA,rM,rS]
       by_cases hlt2:k < draws.length
       . refine Zr (by simpa using hlt2) ?_
         dsimp only [go_sem,rA,rM,rS]
         refine Zm k hlt2 rfl ?_
         dsimp only [Zz,go_sem,rA,rM,rS]
         repeat (first | (refine gb ?_;dsimp only [go_sem,rA,rM,rS]))
         have hx:=hmem draws[k] (List.getElem_mem _)
         have hdr:draws.drop k=draws[k] :: draws.drop (k+1):=List.drop_eq_getElem_cons hlt2
         rw [hdr] at hi2
         simp only [X8] at hi2
         by_cases hc:(draws[k].well != (kw:Int) || decide (draws[k].day ≥ day))=true
         . refine Zr hc ?_
           dsimp only [go_sem,rA,rM,rS]
           rw [if_pos hc] at hi2
           rw [Ze (n:=(k:Int)+1) (by omega) (by omega)]
           refine ⟨(k+1,now,ev),⟨hlt2,hi2,n1,n2,n3,n4,e1,e2⟩,by simp only;omega,?_⟩
           (refine Zk ?_ ?_ ?_ rfl rfl<;>dsimp only [Zh,Zf,Zl,Zz,Zc,id,go_sem,rA,rM,rS]<;>simp [Zh,Zf,Zl,Zz,Zc,Za,Zi,KFR,KFL,KF,Zd,mtO,nbr])
         . refine Zs (by simpa using hc) ?_
           rw [if_neg hc] at hi2
           dsimp only [go_sem,rA,rM,rS]
           rw [Ze (n:=draws[k].day - ev) (by omega) (by omega)]
           refine call (Zco l.wells[kw] now (draws[k].day - ev) hok n1 n2 n3 n4 (by omega) (by omega)) ?_
           dsimp only [Zc,go_sem,rA,rM,rS]
           have hbig:-2000000000000<=(YN l.wells[kw] now (draws[k].day - ev)).lo:=ZcN hok n1 n2 n3 n4 (by omega) (by omega)
           have hf2:(YN l.wells[kw] now (draws[k].day - ev)).hi<=l.wells[kw].room:=by simp only [YN];omega
           have hf1:(YN l.wells[kw] now (draws[k].day - ev)).lo<=l.wells[kw].room:=by simp only [YN];omega
           generalize hF:YN l.wells[kw] now (draws[k].day - ev)=F at *
           by_cases hdry:F.hi < draws[k].water
           . refine Zr (by simpa using hdry) ?_
             dsimp only [go_sem,rA,rM,rS]
             rw [if_pos hdry] at hi2
             rw [<- hi2];rfl
           . refine Zs (by simpa using hdry) ?_
             dsimp only [go_sem,rA,rM,rS]
             rw [if_neg hdry] at hi2
             rw [Ze (n:=F.lo - draws[k].water) (by omega) (by omega),Ze (n:=F.hi - draws[k].water) (by omega) (by omega),Ze (n:=(k:Int)+1) (by omega) (by omega)]
             refine ⟨(k+1,⟨max 0 (F.lo - draws[k].water),F.hi - draws[k].water⟩,draws[k].day),⟨hlt2,hi2,by simp only;omega,by simp only;omega,by simp only;omega,by simp only;omega,by simp only;omega,by simp only;omega⟩,by simp only;omega,?_⟩
             (refine Zk ?_ ?_ ?_ rfl rfl<;>dsimp only [Zh,Zf,Zl,Zz,Zc,id,go_sem,rA,rM,rS]<;>simp [Zh,Zf,Zl,Zz,Zc,Za,Zi,KFR,KFL,KF,Zd,mtO,nbr])
       . refine Zs (by simp;omega) ?_
         dsimp only [go_sem,rA,rM,rS]
         rw [Ze (n:=day - 1) (by omega) (by omega),Ze (n:=day - 1 - ev) (by omega) (by omega)]
         refine call (Zco l.wells[kw] now (day - 1 - ev) hok n1 n2 n3 n4 (by omega) (by omega)) ?_
         dsimp only [Zc,go_sem,rA,rM,rS]
         have hk':k=draws.length:=by omega
         subst hk'
         simp only [List.drop_length,X8] at hi2
         rw [<- hi2];rfl
end Go.Proofs.YtiigiflofnjilaaGreat
namespace Go.Azalai
structure Breed where
 full:Int
 fed:Int
 rest:Span
 heat:Span
 toil:Span
 burn:Span
 rub:Span
 milk:Span
 heal:Int
 strong:Span
deriving DecidableEq
structure Camel where
 water:Span
 fat:Span
 sore:Span
 milks:Bool
deriving DecidableEq
structure March where
 hours:Int
 load:Int
 heat:Span
 grass:Span
 drinks:Span
deriving DecidableEq
def Zv (b:Breed):Bool :=
 inR 1 1000000 b.full && inR 1 1000000 b.fed && inR 0 1000 b.heal && Z0 0 1000000 b.strong && Z0 0 100000 b.rest && Z0 0 100000 b.heat && Z0 0 100000 b.toil && Z0 0 100000 b.burn && Z0 0 100000 b.rub && Z0 0 100000 b.milk
def Zu (b:Breed) (c:Camel):Bool:=Z0 0 b.full c.water && Z0 0 b.fed c.fat && Z0 0 1000 c.sore
def ZR (m:March):Bool:=inR 0 24 m.hours && inR 0 1000000 m.load && Z0 0 60 m.heat && Z0 0 1000000 m.grass && Z0 0 1000000 m.drinks
def Zue (b:Breed):Int:=if Zv b=true then 0 else 10
def Ub (b:Breed) (c:Camel):Int:=if Zv b=false then 10 else if Zu b c=false then 11 else 0
def upF (a b:Int):Int:=(a+b - 1).tdiv b
def Xx:Span:=⟨0,0⟩
def UM (b:Breed) (c:Camel):Span :=
 ⟨min 1000 (min ((2000 * c.water.lo).tdiv b.full) (min ((2000 * c.fat.lo).tdiv b.fed) (1000 - c.sore.hi))),min 1000 (min (upF (2000 * c.water.hi) b.full) (min (upF (2000 * c.fat.hi) b.fed) (1000 - c.sore.lo)))⟩
def Zpn (b:Breed) (c:Camel):Span:=⟨(b.strong.lo * (UM b c).lo).tdiv 1000,upF (b.strong.hi * (UM b c).hi) 1000⟩
def Yb (m:March):Int:=m.hours * (100000+m.load)
def XL (b:Breed) (milks:Bool) (m:March):Span :=
 ⟨b.rest.lo+b.heat.lo * max 0 (m.heat.lo - 20)+(b.toil.lo * Yb m).tdiv 100000+(if milks then b.milk.lo else 0),b.rest.hi+b.heat.hi * max 0 (m.heat.hi - 20)+upF (b.toil.hi * Yb m) 100000+(if milks then b.milk.hi else 0)⟩
def X5 (b:Breed) (m:March):Span:=⟨(b.burn.lo * Yb m).tdiv 100000,upF (b.burn.hi * Yb m) 100000⟩
theorem YT {a A d:Int} (h0:0<=a) (h1:a<=A) (hd:1<=d):0<=a.tdiv d/\a.tdiv d<=A :=
 ⟨Int.tdiv_nonneg h0 (by omega),Int.le_trans (Int.tdiv_le_self d h0) h1⟩
theorem ZdE {a A d:Int} (h0:0<=a) (h1:a<=A) (hd:1<=d):0<=upF a d/\upF a d<=A+d:=by
 have:=YT (a:=a+d - 1) (A:=A+d) (d:=d) (by omega) (by omega) hd
 exact this
end Go.Azalai
namespace Go.Proofs.YtiigiflofnjilaaGreat.Cm
open Go Go.Sx Go.Azalai
def breedL (b:Breed):List SV:=[I b.full,I b.fed,I b.rest.lo,I b.rest.hi,I b.heat.lo,I b.heat.hi,I b.toil.lo,I b.toil.hi,I b.burn.lo,I b.burn.hi,I b.rub.lo,I b.rub.hi,I b.milk.lo,I b.milk.hi,I b.heal,I b.strong.lo,I b.strong.hi]
def camelL (c:Camel):List SV:=[I c.water.lo,I c.water.hi,I c.fat.lo,I c.fat.hi,I c.sore.lo,I c.sore.hi,B c.milks]
def Yg (b:Breed) (c:Camel):List SV:=[I b.full,I b.fed,I b.rest.lo,I b.rest.hi,I b.heat.lo,I b.heat.hi,I b.toil.lo,I b.toil.hi,I b.burn.lo,I b.burn.hi,I b.rub.lo,I b.rub.hi,I b.milk.lo,I b.milk.hi,I b.heal,I b.strong.lo,I b.strong.hi,I c.water.lo,I c.water.hi,I c.fat.lo,I c.fat.hi,I c.sore.lo,I c.sore.hi,B c.milks]
def ZY (m:March):List SV:=[I m.hours,I m.load,I m.heat.lo,I m.heat.hi,I m.grass.lo,I m.grass.hi,I m.drinks.lo,I m.drinks.hi]
theorem Wc {α : Type} (g:α->Bool) (l:List α):decide (XQ g l 0 ≥ 0)=l.any g:=Zdc g l 0
theorem Zjn (h:Nat) (caps:List SV) (hk:KFL caps) (g:Int->Bool) (l:List Int) (hg:∀ x ∈ l,Ct Tryz.prog h (I x :: caps) (B (g x))) (hl:l.length < 4611686018427387904) {c:Bool} :
 Ct Tryz.prog 141 [.sl c 1 (l.map Zo),.cl h caps] (I (XQ g l 0)):=by
 refine t141.1 ⟨by simp [KF,Za,KFL,Zo],hk,trivial⟩ (by simp [KF]) ?_
 dsimp only [c141,r141,go_sem,rA,rM,rS]
 refine YV (fun k:Nat=>[(8,I k)]) (fun _=>[]) (fun k=>k<=l.length/\XQ g (l.drop k) k=XQ g l 0) (fun k=>l.length - k) 0 ⟨Nat.zero_le _,rfl⟩ ?_ ?_
 . (refine Zk ?_ ?_ ?_ rfl rfl<;>dsimp only [Zo,hk,id,go_sem,rA,rM,rS]<;>simp [Zo,hk,Za,Zi,KFR,KFL,KF,Zd,mtO,nbr])
 . intro k ⟨hk',hi⟩
   dsimp only [go_sem,rA,rM,rS]
   refine br ?_ ?_
   . intro hlt
     have hlt:k < l.length:=by simpa using hlt
     dsimp only [go_sem,rA,rM,rS]
     refine Zm k hlt rfl ?_
     dsimp only [Zo,go_sem,rA,rM,rS]
     refine call (hg l[k] (List.getElem_mem _)) ?_
     dsimp only [go_sem,rA,rM,rS]
     refine br ?_ ?_
     . intro hgx
       dsimp only [go_sem,rA,rM,rS]
       rw [<- hi,List.drop_eq_getElem_cons hlt]
       simp [XQ,hgx]
     . intro hgx
       dsimp only [go_sem,rA,rM,rS]
       refine ⟨k+1,⟨by omega,?_⟩,by omega,?_⟩
       . rw [<- hi,List.drop_eq_getElem_cons hlt];simp [XQ,hgx]
       . rw [Ze (by omega) (by omega)]
         (refine Zk ?_ ?_ ?_ rfl rfl<;>dsimp only [Zo,hk,id,go_sem,rA,rM,rS]<;>simp [Zo,hk,Za,Zi,KFR,KFL,KF,Zd,mtO,nbr])
   . intro hlt
     have hlt:k=l.length:=by simp at hlt;omega
     dsimp only [go_sem,rA,rM,rS]
     rw [<- hi,hlt];simp [XQ]
theorem con91 (h:Nat) (caps:List SV) (hk:KFL caps) (g:Int->Bool) (l:List Int) (hg:∀ x ∈ l,Ct Tryz.prog h (I x :: caps) (B (g x))) (hl:l.length < 4611686018427387904) {c:Bool} :
 Ct Tryz.prog 98 [.sl c 1 (l.map Zo),.cl h caps] (B (l.any g)):=by
 refine t98.1 ⟨by simp [KF,Za,KFL,Zo],hk,trivial⟩ (by simp [KF]) ?_
 dsimp only [c98,r98,go_sem,rA,rM,rS]
 refine call (Zjn h caps hk g l hg hl) ?_
 dsimp only [go_sem,rA,rM,rS]
 rw [Wc]
theorem Zuo (h:Nat) (caps:List SV) (hk:KFL caps) (g:Span->Bool) (l:List Span) (hg:∀ x ∈ l,Ct Tryz.prog h (.agg (Zc x) :: caps) (B (g x))) (hl:l.length < 4611686018427387904) {c:Bool} :
 Ct Tryz.prog 143 [.sl c 2 (l.map Zc),.cl h caps] (I (XQ g l 0)):=by
 refine t143.1 ⟨by simp [KF,Za,KFL,Zc],hk,trivial⟩ (by simp [KF]) ?_
 dsimp only [c143,r143,go_sem,rA,rM,rS]
 refine YV (fun k:Nat=>[(8,I k)]) (fun _=>[]) (fun k=>k<=l.length/\XQ g (l.drop k) k=XQ g l 0) (fun k=>l.length - k) 0 ⟨Nat.zero_le _,rfl⟩ ?_ ?_
 . (refine Zk ?_ ?_ ?_ rfl rfl<;>dsimp only [Zc,hk,id,go_sem,rA,rM,rS]<;>simp [Zc,hk,Za,Zi,KFR,KFL,KF,Zd,mtO,nbr])
 . intro k ⟨hk',hi⟩
   dsimp only [go_sem,rA,rM,rS]
   refine br ?_ ?_
   . intro hlt
     have hlt:k < l.length:=by simpa using hlt
     dsimp only [go_sem,rA,rM,rS]
     refine Zm k hlt rfl ?_
     dsimp only [Zc,go_sem,rA,rM,rS]
     refine call (hg l[k] (List.getElem_mem _)) ?_
     dsimp only [go_sem,rA,rM,rS]
     refine br ?_ ?_
     . intro hgx
       dsimp only [go_sem,rA,rM,rS]
       rw [<- hi,List.drop_eq_getElem_cons hlt]
       simp [XQ,hgx]
     . intro hgx
       dsimp only [go_sem,rA,rM,rS]
       refine ⟨k+1,⟨by omega,?_⟩,by omega,?_⟩
       . rw [<- hi,List.drop_eq_getElem_cons hlt];simp [XQ,hgx]
       . rw [Ze (by omega) (by omega)]
         (refine Zk ?_ ?_ ?_ rfl rfl<;>dsimp only [Zc,hk,id,go_sem,rA,rM,rS]<;>simp [Zc,hk,Za,Zi,KFR,KFL,KF,Zd,mtO,nbr])
   . intro hlt
     have hlt:k=l.length:=by simp at hlt;omega
     dsimp only [go_sem,rA,rM,rS]
     rw [<- hi,hlt];simp [XQ]
theorem con93 (h:Nat) (caps:List SV) (hk:KFL caps) (g:Span->Bool) (l:List Span) (hg:∀ x ∈ l,Ct Tryz.prog h (.agg (Zc x) :: caps) (B (g x))) (hl:l.length < 4611686018427387904) {c:Bool} :
 Ct Tryz.prog 102 [.sl c 2 (l.map Zc),.cl h caps] (B (l.any g)):=by
 refine t102.1 ⟨by simp [KF,Za,KFL,Zc],hk,trivial⟩ (by simp [KF]) ?_
 dsimp only [c102,r102,go_sem,rA,rM,rS]
 refine call (Zuo h caps hk g l hg hl) ?_
 dsimp only [go_sem,rA,rM,rS]
 rw [Wc]
theorem Z7 (n lo hi:Int):Ct Tryz.prog 165 [I n,I lo,I hi] (B (inR lo hi n)):=by
 refine t165.1 (by simp [KFL,KF]) (by simp [KFL,KF]) ?_
 dsimp only [c165,r165,go_sem,rA,rM,rS]
 refine gb ?_;dsimp only [go_sem,rA,rM,rS]
 refine gb ?_;dsimp only [go_sem,rA,rM,rS]
 refine gb ?_;dsimp only [go_sem,rA,rM,rS]
 simp [inR]
theorem ZA (s:Span) (lo hi:Int):Ct Tryz.prog 166 [.agg (Zc s),I lo,I hi] (B (Z0 lo hi s)):=by
 refine t166.1 (by simp [Zc,KFL,KF]) (by simp [KFL,KF]) ?_
 dsimp only [c166,r166,Zc,go_sem,rA,rM,rS]
 refine call (Z7 _ _ _) ?_
 dsimp only [go_sem,rA,rM,rS]
 repeat (refine gb ?_;dsimp only [go_sem,rA,rM,rS])
 (simp only [Z0,inR,Option.some.injEq,SV.v.injEq,Value.bool.injEq]<;>grind)
theorem ZbX (lo hi x:Int):Ct Tryz.prog 160 [I x,.ps [I lo] 0,.ps [I hi] 0] (B (!inR lo hi x)):=by
 refine t160.1 (by simp [KFL,KF]) (by simp [KFL,KF]) ?_
 dsimp only [c160,r160,go_sem,rA,rM,rS]
 repeat (refine gb ?_;dsimp only [go_sem,rA,rM,rS])
 (simp only [inR,Option.some.injEq,SV.v.injEq,Value.bool.injEq]<;>grind)
theorem VB (lo hi:Int) (l:List Int) (hl:l.length < 4611686018427387904) (c:Bool):Ct Tryz.prog 125 [I lo,I hi,.sl c 1 (l.map Zo)] (B (l.all (inR lo hi))):=by
 refine t125.1 (by simp [Za,Zo,KFL,KF]) (by simp [KFL,KF]) ?_
 dsimp only [c125,r125,go_sem,rA,rM,rS]
 refine ZcA (by simp [FLT]) (res:=B (l.any fun x=>!inR lo hi x)) ?_ ?_
 . dsimp only [go_sem,rA,rM,rS]
   exact con91 160 [.ps [I lo] 0,.ps [I hi] 0] (by simp [KFL,KF]) (fun x=>!inR lo hi x) l (fun x _=>ZbX lo hi x) hl
 . dsimp only [go_sem,rA,rM,rS]
   simp [List.all_eq_not_any_not]
theorem Ua (lo hi a:Int) (c:Bool):Ct Tryz.prog 125 [I lo,I hi,.sl c 1 [[I a]]] (B (inR lo hi a)):=by
 have:=VB lo hi [a] (by simp) c
 simpa [Zo] using this
theorem ZfL (lo hi a b:Int) (c:Bool):Ct Tryz.prog 125 [I lo,I hi,.sl c 1 [[I a],[I b]]] (B (inR lo hi a && inR lo hi b)):=by
 have:=VB lo hi [a,b] (by simp) c
 simpa [Zo] using this
theorem Vi (lo hi:Int) (s:Span):Ct Tryz.prog 142 [.agg (Zc s),.ps [I lo] 0,.ps [I hi] 0] (B (!Z0 lo hi s)):=by
 refine t142.1 (by simp [Zc,KFL,KF]) (by simp [KFL,KF]) ?_
 dsimp only [c142,r142,Zc,go_sem,rA,rM,rS]
 repeat (first | (refine gb ?_;dsimp only [go_sem,rA,rM,rS]) | (refine call (ZfL _ _ _ _ _) ?_;dsimp only [go_sem,rA,rM,rS]))
 (simp only [Z0,inR,Option.some.injEq,SV.v.injEq,Value.bool.injEq]<;>grind)
theorem Y1 (lo hi:Int) (l:List Span) (hl:l.length < 4611686018427387904) (c:Bool):Ct Tryz.prog 101 [I lo,I hi,.sl c 2 (l.map Zc)] (B (l.all (Z0 lo hi))):=by
 refine t101.1 (by simp [Za,Zc,KFL,KF]) (by simp [KFL,KF]) ?_
 dsimp only [c101,r101,go_sem,rA,rM,rS]
 refine ZcA (by simp [FLT]) (res:=B (l.any fun x=>!Z0 lo hi x)) ?_ ?_
 . dsimp only [go_sem,rA,rM,rS]
   exact con93 142 [.ps [I lo] 0,.ps [I hi] 0] (by simp [KFL,KF]) (fun x=>!Z0 lo hi x) l (fun x _=>Vi lo hi x) hl
 . dsimp only [go_sem,rA,rM,rS]
   simp [List.all_eq_not_any_not]
theorem YS (lo hi:Int) (s:Span) (c:Bool):Ct Tryz.prog 101 [I lo,I hi,.sl c 2 [[I s.lo,I s.hi]]] (B (Z0 lo hi s)):=by
 have:=Y1 lo hi [s] (by simp) c
 simpa [Zc] using this
theorem ZbR (lo hi:Int) (s t:Span) (c:Bool):Ct Tryz.prog 101 [I lo,I hi,.sl c 2 [[I s.lo,I s.hi],[I t.lo,I t.hi]]] (B (Z0 lo hi s && Z0 lo hi t)):=by
 have:=Y1 lo hi [s,t] (by simp) c
 simpa [Zc] using this
theorem ZnD (lo hi:Int) (a b c d e f:Span) (k:Bool):Ct Tryz.prog 101 [I lo,I hi,.sl k 2 [[I a.lo,I a.hi],[I b.lo,I b.hi],[I c.lo,I c.hi],[I d.lo,I d.hi],[I e.lo,I e.hi],[I f.lo,I f.hi]]]
 (B (Z0 lo hi a && (Z0 lo hi b && (Z0 lo hi c && (Z0 lo hi d && (Z0 lo hi e && Z0 lo hi f)))))):=by
 have:=Y1 lo hi [a,b,c,d,e,f] (by simp) k
 simpa [Zc] using this
theorem ZbL (b:Breed):Ct Tryz.prog 100 [.agg (breedL b)] (I (Zue b)):=by
 refine t100.1 (by simp [breedL,KFL,KF]) (by simp [KFL,KF]) ?_
 dsimp only [c100,r100,breedL,go_sem,rA,rM,rS]
 repeat (first | (refine gb ?_;dsimp only [go_sem,rA,rM,rS]) | (refine call (Ua _ _ _ _) ?_;dsimp only [go_sem,rA,rM,rS]) | (refine call (ZfL _ _ _ _ _) ?_;dsimp only [go_sem,rA,rM,rS]) | (refine call (ZnD _ _ b.rest b.heat b.toil b.burn b.rub b.milk _) ?_;dsimp only [go_sem,rA,rM,rS]) | (refine call (YS _ _ b.strong _) ?_;dsimp only [go_sem,rA,rM,rS]))
 refine br ?_ ?_
 . intro h
   dsimp only [go_sem,rA,rM,rS]
   have:Zv b=false:=by simp only [Zv];grind
   simp [Zue,this]
 . intro h
   dsimp only [go_sem,rA,rM,rS]
   have:Zv b=true:=by simp only [Zv];grind
   simp [Zue,this]
theorem Zi1 (b:Breed):Ct Tryz.prog 138 [.agg (breedL b)] (B (Zv b)):=by
 refine t138.1 (by simp [breedL,KFL,KF]) (by simp [KFL,KF]) ?_
 dsimp only [c138,r138,breedL,go_sem,rA,rM,rS]
 repeat (first | (refine gb ?_;dsimp only [go_sem,rA,rM,rS]) | (refine call (Z7 _ _ _) ?_;dsimp only [go_sem,rA,rM,rS]) | (refine call (ZA b.strong _ _) ?_;dsimp only [go_sem,rA,rM,rS]))
 refine br ?_ ?_
 . intro h
   dsimp only [go_sem,rA,rM,rS]
   have:Zv b=false:=by simp only [Zv];grind
   simp [this]
 . intro h
   dsimp only [go_sem,rA,rM,rS]
   repeat (first | (refine gb ?_;dsimp only [go_sem,rA,rM,rS]) | (refine call (ZA b.rest _ _) ?_;dsimp only [go_sem,rA,rM,rS]) | (refine call (ZA b.heat _ _) ?_;dsimp only [go_sem,rA,rM,rS]) | (refine call (ZA b.toil _ _) ?_;dsimp only [go_sem,rA,rM,rS]) | (refine call (ZA b.burn _ _) ?_;dsimp only [go_sem,rA,rM,rS]) | (refine call (ZA b.rub _ _) ?_;dsimp only [go_sem,rA,rM,rS]) | (refine call (ZA b.milk _ _) ?_;dsimp only [go_sem,rA,rM,rS]))
   (simp only [Zv,Option.some.injEq,SV.v.injEq,Value.bool.injEq]<;>grind)
theorem checkCamel_ok (b:Breed) (c:Camel):Ct Tryz.prog 54 [.agg (breedL b),.agg (camelL c)] (I (Ub b c)):=by
 refine t54.1 (by simp [breedL,camelL,KFL,KF]) (by simp [KFL,KF]) ?_
 dsimp only [c54,r54,breedL,camelL,go_sem,rA,rM,rS]
 refine call (ZbL b) ?_
 dsimp only [go_sem,rA,rM,rS]
 by_cases hb:Zv b=true
 case neg =>
  refine Zr (by simp [Zue,hb]) ?_
  dsimp only [go_sem,rA,rM,rS]
  simp [Zue,Ub,hb]
 refine Zs (by simp [Zue,hb]) ?_
 dsimp only [go_sem,rA,rM,rS]
 repeat (first | (refine gb ?_;dsimp only [go_sem,rA,rM,rS]) | (refine call (YS _ _ c.water _) ?_;dsimp only [go_sem,rA,rM,rS]) | (refine call (YS _ _ c.fat _) ?_;dsimp only [go_sem,rA,rM,rS]) | (refine call (YS _ _ c.sore _) ?_;dsimp only [go_sem,rA,rM,rS]))
 refine br ?_ ?_
 . intro h
   dsimp only [go_sem,rA,rM,rS]
   have:Zu b c=false:=by simp only [Zu];grind
   simp [Ub,this,hb]
 . intro h
   dsimp only [go_sem,rA,rM,rS]
   have:Zu b c=true:=by simp only [Zu];grind
   simp [Ub,this,hb]
theorem Zia (b:Breed) (c:Camel):Ct Tryz.prog 139 [.agg (breedL b),.agg (camelL c)] (B (Zu b c)):=by
 refine t139.1 (by simp [breedL,camelL,KFL,KF]) (by simp [KFL,KF]) ?_
 dsimp only [c139,r139,breedL,camelL,go_sem,rA,rM,rS]
 repeat (first | (refine gb ?_;dsimp only [go_sem,rA,rM,rS]) | (refine call (ZA c.water _ _) ?_;dsimp only [go_sem,rA,rM,rS]) | (refine call (ZA c.fat _ _) ?_;dsimp only [go_sem,rA,rM,rS]) | (refine call (ZA c.sore _ _) ?_;dsimp only [go_sem,rA,rM,rS]))
 (simp only [Zu,Option.some.injEq,SV.v.injEq,Value.bool.injEq]<;>grind)
theorem checkCamelR_ok (b:Breed) (c:Camel):Ct Tryz.prog 95 [.agg (breedL b),.agg (camelL c)] (I (Ub b c)):=by
 refine t95.1 (by simp [breedL,camelL,KFL,KF]) (by simp [KFL,KF]) ?_
 dsimp only [c95,r95,breedL,camelL,go_sem,rA,rM,rS]
 refine call (Zi1 b) ?_
 dsimp only [go_sem,rA,rM,rS]
 by_cases hb:Zv b=true
 case neg =>
  refine Zr (by simp [hb]) ?_
  dsimp only [go_sem,rA,rM,rS]
  simp [Ub,hb]
 refine Zs (by simp [hb]) ?_
 dsimp only [go_sem,rA,rM,rS]
 refine call (Zia b c) ?_
 dsimp only [go_sem,rA,rM,rS]
 refine br ?_ ?_
 . intro h
   dsimp only [go_sem,rA,rM,rS]
   have:Zu b c=false:=by simpa using h
   simp [Ub,this,hb]
 . intro h
   dsimp only [go_sem,rA,rM,rS]
   have:Zu b c=true:=by simpa using h
   simp [Ub,this,hb]
theorem Zjb (m:March):Ct Tryz.prog 169 [.agg (ZY m)] (B (ZR m)):=by
 refine t169.1 (by simp [ZY,KFL,KF]) (by simp [KFL,KF]) ?_
 dsimp only [c169,r169,ZY,go_sem,rA,rM,rS]
 repeat (first | (refine gb ?_;dsimp only [go_sem,rA,rM,rS]) | (refine call (Z7 _ _ _) ?_;dsimp only [go_sem,rA,rM,rS]) | (refine call (ZA m.heat _ _) ?_;dsimp only [go_sem,rA,rM,rS]) | (refine call (ZA m.grass _ _) ?_;dsimp only [go_sem,rA,rM,rS]) | (refine call (ZA m.drinks _ _) ?_;dsimp only [go_sem,rA,rM,rS]))
 (simp only [ZR,Option.some.injEq,SV.v.injEq,Value.bool.injEq]<;>grind)
theorem ZcY (l:List March) (hl:l.length < 4611686018427387904) (c:Bool):Ct Tryz.prog 83 [.sl c 8 (l.map ZY)] (I (if l.all ZR=true then 0 else 12)):=by
 refine t83.1 (by simp [ZY,Za,KFL,KF]) (by simp [KFL,KF]) ?_
 dsimp only [c83,r83,go_sem,rA,rM,rS]
 refine YV (fun k:Nat=>[(7,I k)]) (fun _=>[]) (fun k=>k<=l.length/\(l.drop k).all ZR=l.all ZR) (fun k=>l.length - k) 0 ⟨Nat.zero_le _,rfl⟩ ?_ ?_
 . (refine Zk ?_ ?_ ?_ rfl rfl<;>dsimp only [ZY,id,go_sem,rA,rM,rS]<;>simp [ZY,Za,Zi,KFR,KFL,KF,Zd,mtO,nbr])
 intro k ⟨hk,hi⟩
 dsimp only [go_sem,rA,rM,rS]
 by_cases hlt:k < l.length
 . refine Zr (by simpa using hlt) ?_
   dsimp only [go_sem,rA,rM,rS]
   refine Zm k hlt rfl ?_
   dsimp only [ZY,go_sem,rA,rM,rS]
   repeat (first | (refine gb ?_;dsimp only [go_sem,rA,rM,rS]) | (refine call (Ua _ _ _ _) ?_;dsimp only [go_sem,rA,rM,rS]) | (refine call (YS _ _ l[k].heat _) ?_;dsimp only [go_sem,rA,rM,rS]) | (refine call (ZbR _ _ l[k].grass l[k].drinks _) ?_;dsimp only [go_sem,rA,rM,rS]))
   rw [List.drop_eq_getElem_cons hlt,List.all_cons] at hi
   refine br ?_ ?_
   . intro h
     dsimp only [go_sem,rA,rM,rS]
     have:ZR l[k]=false:=by simp only [ZR];grind
     rw [<- hi,this];rfl
   . intro h
     dsimp only [go_sem,rA,rM,rS]
     have:ZR l[k]=true:=by simp only [ZR];grind
     rw [this,Bool.true_and] at hi
     rw [Ze (n:=(k:Int)+1) (by omega) (by omega)]
     refine ⟨k+1,⟨hlt,hi⟩,by omega,?_⟩
     (refine Zk ?_ ?_ ?_ rfl rfl<;>dsimp only [ZY,id,go_sem,rA,rM,rS]<;>simp [ZY,Za,Zi,KFR,KFL,KF,Zd,mtO,nbr])
 . refine Zs (by simp;omega) ?_
   dsimp only [go_sem,rA,rM,rS]
   have hke:k=l.length:=by omega
   subst hke
   rw [List.drop_length] at hi
   rw [<- hi];rfl
theorem Zhp (m:March) (c:Bool):Ct Tryz.prog 83 [.sl c 8 [ZY m]] (I (if ZR m=true then 0 else 12)):=by
 have:=ZcY [m] (by simp) c
 simpa using this
theorem Zh3 {a b A:Int} (h0:0<=a) (h1:a<=A) (hA:A<=1000000000000000) (hb:1<=b) (hb2:b<=1000000000) :
 IntKind.i64.wrap (a+b)=a+b/\IntKind.i64.wrap (a+b - 1)=a+b - 1/\IntKind.i64.wrap ((a+b - 1).tdiv b)=upF a b:=by
 have:=ZdE h0 h1 hb
 refine ⟨Ze (by omega) (by omega),Ze (by omega) (by omega),?_⟩
 unfold upF at *
 exact Ze (by omega) (by omega)
theorem ZdK (a b:Int) (h0:0<=a) (h1:a<=1000000000000000) (hb:1<=b) (hb2:b<=1000000000):Ct Tryz.prog 124 [I a,I b] (I (upF a b)):=by
 obtain ⟨q1,q2,q3⟩:=Zh3 h0 h1 (Int.le_refl _) hb hb2
 refine t124.1 (by simp [KFL,KF]) (by simp [KFL,KF]) ?_
 dsimp only [c124,r124,go_sem,rA,rM,rS]
 simp only [q1,q2]
 refine ZcI (by omega) ?_
 dsimp only [go_sem,rA,rM,rS]
 rw [q3]
theorem Uo (a b:Int) (h0:0<=a) (h1:a<=1000000000000000) (hb:1<=b) (hb2:b<=1000000000):Ct Tryz.prog 148 [I a,I b] (I (upF a b)):=by
 obtain ⟨q1,q2,q3⟩:=Zh3 h0 h1 (Int.le_refl _) hb hb2
 refine t148.1 (by simp [KFL,KF]) (by simp [KFL,KF]) ?_
 dsimp only [c148,r148,go_sem,rA,rM,rS]
 simp only [q1,q2]
 refine ZcI (by omega) ?_
 dsimp only [go_sem,rA,rM,rS]
 rw [q3]
def scl (s:Span) (b n:Int):Span:=⟨(s.lo * n).tdiv b,upF (s.hi * n) b⟩
theorem ZdP (s:Span) (b n A:Int) (c:Bool) (h1:0<=s.lo) (h2:s.lo<=s.hi) (h3:0<=n) (h4:s.hi * n<=100000000000000) (hb:1<=b) (hb2:b<=1000000000) :
 Ct Tryz.prog 128 [.agg (Zc s),I b,.sl c 1 [[I n]]] (.agg (Zc (scl s b n))):=by
 have k1:0<=s.lo * n:=Int.mul_nonneg h1 h3
 have k2:s.lo * n<=s.hi * n:=Int.mul_le_mul_of_nonneg_right h2 h3
 refine t128.1 (by simp [Zc,KFR,KFL,KF]) (by simp [Zc,KFL,KF]) ?_
 dsimp only [c128,r128,Zc,go_sem,rA,rM,rS]
 refine Xa 2 ?_
 dsimp only [Zb,go_sem,rA,rM,rS]
 refine Zr (by decide) ?_
 dsimp only [Zb,go_sem,rA,rM,rS]
 refine ixs 0 [I n] rfl rfl ?_
 dsimp only [Zb,go_sem,rA,rM,rS]
 refine Zs (by decide) ?_
 dsimp only [go_sem,rA,rM,rS]
 rw [Ze (n:=s.lo * n) (by omega) (by omega),Ze (n:=s.hi * n) (by omega) (by omega)]
 refine ZcI (by omega) ?_
 dsimp only [go_sem,rA,rM,rS]
 refine call (ZdK _ _ (by omega) (by omega) hb hb2) ?_
 dsimp only [go_sem,rA,rM,rS]
 have:=YT k1 (Int.le_trans k2 h4) hb
 rw [Ze (n:=(s.lo * n).tdiv b) (by omega) (by omega)]
 rfl
theorem Uc (s:Span) (b n m A:Int) (c:Bool) (h1:0<=s.lo) (h2:s.lo<=s.hi) (h3:0<=n) (h3':0<=m) (h4:s.hi * n<=100000000000000) (h5:s.hi * n * m<=100000000000000) (hb:1<=b) (hb2:b<=1000000000) :
 Ct Tryz.prog 128 [.agg (Zc s),I b,.sl c 1 [[I n],[I m]]] (.agg (Zc ⟨(s.lo * n * m).tdiv b,upF (s.hi * n * m) b⟩)):=by
 have k1:0<=s.lo * n:=Int.mul_nonneg h1 h3
 have k2:s.lo * n<=s.hi * n:=Int.mul_le_mul_of_nonneg_right h2 h3
 have k3:0<=s.lo * n * m:=Int.mul_nonneg k1 h3'
 have k4:s.lo * n * m<=s.hi * n * m:=Int.mul_le_mul_of_nonneg_right k2 h3'
 refine t128.1 (by simp [Zc,KFR,KFL,KF]) (by simp [Zc,KFL,KF]) ?_
 dsimp only [c128,r128,Zc,go_sem,rA,rM,rS]
 refine Xa 3 ?_
 dsimp only [Zb,go_sem,rA,rM,rS]
 refine Zr (by decide) ?_
 dsimp only [Zb,go_sem,rA,rM,rS]
 refine ixs 0 [I n] rfl rfl ?_
 dsimp only [Zb,go_sem,rA,rM,rS]
 refine Zr (by decide) ?_
 dsimp only [Zb,go_sem,rA,rM,rS]
 refine ixs 1 [I m] rfl rfl ?_
 dsimp only [Zb,go_sem,rA,rM,rS]
 refine Zs (by decide) ?_
 dsimp only [go_sem,rA,rM,rS]
 rw [Ze (n:=s.lo * n) (by omega) (by omega),Ze (n:=s.hi * n) (by omega) (by omega),Ze (n:=s.lo * n * m) (by omega) (by omega),Ze (n:=s.hi * n * m) (by omega) (by omega)]
 refine ZcI (by omega) ?_
 dsimp only [go_sem,rA,rM,rS]
 refine call (ZdK _ _ (by omega) (by omega) hb hb2) ?_
 dsimp only [go_sem,rA,rM,rS]
 have:=YT k3 (Int.le_trans k4 h5) hb
 rw [Ze (n:=(s.lo * n * m).tdiv b) (by omega) (by omega)]
def bdS (A:Int) (s:Span):Prop:=0<=s.lo/\s.lo<=A/\0<=s.hi/\s.hi<=A
theorem Vw (s t:Span) (c:Bool) (h1:bdS 1000000000000000 s) (h2:bdS 1000000000000000 t):Ct Tryz.prog 127 [.sl c 2 [[I s.lo,I s.hi],[I t.lo,I t.hi]]] (.agg (Zc ⟨s.lo+t.lo,s.hi+t.hi⟩)):=by
 unfold bdS at h1 h2
 refine t127.1 (by simp [KFR,KFL,KF]) (by simp [Zc,KFL,KF]) ?_
 dsimp only [c127,r127,Zc,go_sem,rA,rM,rS]
 refine Xa 3 ?_
 dsimp only [Zb,go_sem,rA,rM,rS]
 refine Zr (by decide) ?_
 dsimp only [Zb,go_sem,rA,rM,rS]
 refine ixs 0 [I s.lo,I s.hi] rfl rfl ?_
 dsimp only [Zb,go_sem,rA,rM,rS]
 refine Zr (by decide) ?_
 dsimp only [Zb,go_sem,rA,rM,rS]
 refine ixs 1 [I t.lo,I t.hi] rfl rfl ?_
 dsimp only [Zb,go_sem,rA,rM,rS]
 refine Zs (by decide) ?_
 dsimp only [go_sem,rA,rM,rS]
 simp only [Int.zero_add]
 rw [Ze (n:=s.lo) (by omega) (by omega),Ze (n:=s.hi) (by omega) (by omega),Ze (n:=s.lo+t.lo) (by omega) (by omega),Ze (n:=s.hi+t.hi) (by omega) (by omega)]
theorem plus3 (s t u:Span) (c:Bool) (h1:bdS 1000000000000000 s) (h2:bdS 1000000000000000 t) (h3:bdS 1000000000000000 u):Ct Tryz.prog 127 [.sl c 2 [[I s.lo,I s.hi],[I t.lo,I t.hi],[I u.lo,I u.hi]]] (.agg (Zc ⟨s.lo+t.lo+u.lo,s.hi+t.hi+u.hi⟩)):=by
 unfold bdS at h1 h2 h3
 refine t127.1 (by simp [KFR,KFL,KF]) (by simp [Zc,KFL,KF]) ?_
 dsimp only [c127,r127,Zc,go_sem,rA,rM,rS]
 refine Xa 4 ?_
 dsimp only [Zb,go_sem,rA,rM,rS]
 refine Zr (by decide) ?_
 dsimp only [Zb,go_sem,rA,rM,rS]
 refine ixs 0 [I s.lo,I s.hi] rfl rfl ?_
 dsimp only [Zb,go_sem,rA,rM,rS]
 refine Zr (by decide) ?_
 dsimp only [Zb,go_sem,rA,rM,rS]
 refine ixs 1 [I t.lo,I t.hi] rfl rfl ?_
 dsimp only [Zb,go_sem,rA,rM,rS]
 refine Zr (by decide) ?_
 dsimp only [Zb,go_sem,rA,rM,rS]
 refine ixs 2 [I u.lo,I u.hi] rfl rfl ?_
 dsimp only [Zb,go_sem,rA,rM,rS]
 refine Zs (by decide) ?_
 dsimp only [go_sem,rA,rM,rS]
 simp only [Int.zero_add]
 rw [Ze (n:=s.lo) (by omega) (by omega),Ze (n:=s.hi) (by omega) (by omega),Ze (n:=s.lo+t.lo) (by omega) (by omega),Ze (n:=s.hi+t.hi) (by omega) (by omega),Ze (n:=s.lo+t.lo+u.lo) (by omega) (by omega),Ze (n:=s.hi+t.hi+u.hi) (by omega) (by omega)]
theorem Zq8 (n:Int) (s:Span) (h1:0<=n) (h2:n<=1000000) (h3:bdS 1000000 s):Ct Tryz.prog 159 [I n,.agg (Zc s)] (.agg (Zc ⟨n - s.hi,n - s.lo⟩)):=by
 unfold bdS at h3
 refine t159.1 (by simp [Zc,KFL,KF]) (by simp [Zc,KFL,KF]) ?_
 dsimp only [c159,r159,Zc,go_sem,rA,rM,rS]
 rw [Ze (n:=n - s.hi) (by omega) (by omega),Ze (n:=n - s.lo) (by omega) (by omega)]
theorem breed_bd {b:Breed} (h:Zv b=true):1<=b.full/\b.full<=1000000/\1<=b.fed/\b.fed<=1000000/\0<=b.heal/\b.heal<=1000/\(0<=b.strong.lo/\b.strong.lo<=b.strong.hi/\b.strong.hi<=1000000)/\(0<=b.rest.lo/\b.rest.lo<=b.rest.hi/\b.rest.hi<=100000) /\
 (0<=b.heat.lo/\b.heat.lo<=b.heat.hi/\b.heat.hi<=100000)/\(0<=b.toil.lo/\b.toil.lo<=b.toil.hi/\b.toil.hi<=100000)/\(0<=b.burn.lo/\b.burn.lo<=b.burn.hi/\b.burn.hi<=100000)/\(0<=b.rub.lo/\b.rub.lo<=b.rub.hi/\b.rub.hi<=100000)/\(0<=b.milk.lo/\b.milk.lo<=b.milk.hi/\b.milk.hi<=100000):=by
 simp only [Zv,Z0,inR,Bool.and_eq_true,decide_eq_true_eq] at h;omega
theorem camel_bd {b:Breed} {c:Camel} (hb:Zv b=true) (h:Zu b c=true):(0<=c.water.lo/\c.water.lo<=c.water.hi/\c.water.hi<=b.full)/\(0<=c.fat.lo/\c.fat.lo<=c.fat.hi/\c.fat.hi<=b.fed)/\(0<=c.sore.lo/\c.sore.lo<=c.sore.hi/\c.sore.hi<=1000):=by
 simp only [Zu,Z0,Bool.and_eq_true,decide_eq_true_eq] at h;omega
theorem march_bd {m:March} (h:ZR m=true):0<=m.hours/\m.hours<=24/\0<=m.load/\m.load<=1000000/\(0<=m.heat.lo/\m.heat.lo<=m.heat.hi/\m.heat.hi<=60)/\(0<=m.grass.lo/\m.grass.lo<=m.grass.hi/\m.grass.hi<=1000000)/\(0<=m.drinks.lo/\m.drinks.lo<=m.drinks.hi/\m.drinks.hi<=1000000):=by
 simp only [ZR,Z0,inR,Bool.and_eq_true,decide_eq_true_eq] at h;omega
theorem ZvD (b:Breed) (c:Camel) (hb:Zv b=true) (hc:Zu b c=true):Ct Tryz.prog 123 [.agg (Yg b c)] (.agg (Zc (UM b c))):=by
 obtain ⟨b1,b2,b3,b4,_⟩:=breed_bd hb
 obtain ⟨⟨w1,w2,w3⟩,⟨f1,f2,f3⟩,⟨s1,s2,s3⟩⟩:=camel_bd hb hc
 refine t123.1 (by simp [Yg,KFL,KF]) (by simp [Zc,KFL,KF]) ?_
 dsimp only [c123,r123,Yg,go_sem,rA,rM,rS]
 refine call (Uc c.water b.full 2 1000 0 true w1 w2 (by omega) (by omega) (by omega) (by omega) b1 (by omega)) ?_
 dsimp only [Zc,go_sem,rA,rM,rS]
 refine call (Uc c.fat b.fed 2 1000 0 true f1 f2 (by omega) (by omega) (by omega) (by omega) b3 (by omega)) ?_
 dsimp only [Zc,go_sem,rA,rM,rS]
 refine call (Zq8 1000 c.sore (by omega) (by omega) ⟨by omega,by omega,by omega,by omega⟩) ?_
 dsimp only [Zc,go_sem,rA,rM,rS]
 refine Xa 4 ?_
 dsimp only [Zb,go_sem,rA,rM,rS]
 refine Zr (by decide) ?_
 dsimp only [Zb,go_sem,rA,rM,rS]
 refine ixa 0 rfl (by decide) ?_
 dsimp only [Zb,go_sem,rA,rM,rS]
 refine Zr (by decide) ?_
 dsimp only [Zb,go_sem,rA,rM,rS]
 refine ixa 1 rfl (by decide) ?_
 dsimp only [Zb,go_sem,rA,rM,rS]
 refine Zr (by decide) ?_
 dsimp only [Zb,go_sem,rA,rM,rS]
 refine ixa 2 rfl (by decide) ?_
 dsimp only [Zb,go_sem,rA,rM,rS]
 refine Zs (by decide) ?_
 dsimp only [go_sem,rA,rM,rS]
 have e1:c.water.lo * 2 * 1000=2000 * c.water.lo:=by omega
 have e2:c.water.hi * 2 * 1000=2000 * c.water.hi:=by omega
 have e3:c.fat.lo * 2 * 1000=2000 * c.fat.lo:=by omega
 have e4:c.fat.hi * 2 * 1000=2000 * c.fat.hi:=by omega
 simp only [e1,e2,e3,e4,UM,Int.min_assoc]
theorem ZpU (b:Breed) (c:Camel) (hb:Zv b=true) (hc:Zu b c=true):Ct Tryz.prog 168 [.agg (breedL b),.agg (camelL c)] (.agg (Zc (UM b c))):=by
 obtain ⟨b1,b2,b3,b4,_⟩:=breed_bd hb
 obtain ⟨⟨w1,w2,w3⟩,⟨f1,f2,f3⟩,⟨s1,s2,s3⟩⟩:=camel_bd hb hc
 refine t168.1 (by simp [breedL,camelL,KFL,KF]) (by simp [Zc,KFL,KF]) ?_
 dsimp only [c168,r168,breedL,camelL,Zc,go_sem,rA,rM,rS]
 rw [Ze (n:=2000 * c.water.lo) (by omega) (by omega)]
 refine ZcI (by omega) ?_
 dsimp only [go_sem,rA,rM,rS]
 rw [Ze (n:=2000 * c.fat.lo) (by omega) (by omega)]
 refine ZcI (by omega) ?_
 dsimp only [go_sem,rA,rM,rS]
 rw [Ze (n:=2000 * c.water.hi) (by omega) (by omega)]
 refine call (Uo _ _ (by omega) (by omega) (by omega) (by omega)) ?_
 dsimp only [go_sem,rA,rM,rS]
 rw [Ze (n:=2000 * c.fat.hi) (by omega) (by omega)]
 refine call (Uo _ _ (by omega) (by omega) (by omega) (by omega)) ?_
 dsimp only [go_sem,rA,rM,rS]
 have d1:=YT (a:=2000 * c.water.lo) (A:=2000000000) (d:=b.full) (by omega) (by omega) b1
 have d2:=YT (a:=2000 * c.fat.lo) (A:=2000000000) (d:=b.fed) (by omega) (by omega) b3
 rw [Ze (n:=1000 - c.sore.hi) (by omega) (by omega),Ze (n:=1000 - c.sore.lo) (by omega) (by omega),Ze (n:=(2000 * c.water.lo).tdiv b.full) (by omega) (by omega),Ze (n:=(2000 * c.fat.lo).tdiv b.fed) (by omega) (by omega)]
 simp only [UM,Int.min_assoc]
theorem ZpG {b:Breed} {c:Camel} (hb:Zv b=true) (hc:Zu b c=true):0<=(UM b c).lo/\(UM b c).lo<=1000/\0<=(UM b c).hi/\(UM b c).hi<=1000:=by
 obtain ⟨b1,b2,b3,b4,_⟩:=breed_bd hb
 obtain ⟨⟨w1,w2,w3⟩,⟨f1,f2,f3⟩,⟨s1,s2,s3⟩⟩:=camel_bd hb hc
 have d1:=YT (a:=2000 * c.water.lo) (A:=2000000000) (d:=b.full) (by omega) (by omega) b1
 have d2:=YT (a:=2000 * c.fat.lo) (A:=2000000000) (d:=b.fed) (by omega) (by omega) b3
 have d3:=ZdE (a:=2000 * c.water.hi) (A:=2000000000) (d:=b.full) (by omega) (by omega) b1
 have d4:=ZdE (a:=2000 * c.fat.hi) (A:=2000000000) (d:=b.fed) (by omega) (by omega) b3
 simp only [UM];omega
theorem ZuV (b:Breed) (c:Camel) (hb:Zv b=true) (hc:Zu b c=true):Ct Tryz.prog 81 [.agg (Yg b c)] (.agg (Zc (Zpn b c))):=by
 obtain ⟨b1,b2,b3,b4,_,_,⟨g1,g2,g3⟩,_⟩:=breed_bd hb
 obtain ⟨q1,q2,q3,q4⟩:=ZpG hb hc
 have k1:=XA (a:=b.strong.lo) (A:=1000000) (b:=(UM b c).lo) (B:=1000) (by omega) (by omega) q1 q2
 have k2:=XA (a:=b.strong.hi) (A:=1000000) (b:=(UM b c).hi) (B:=1000) (by omega) (by omega) q3 q4
 refine t81.1 (by simp [Yg,KFL,KF]) (by simp [Zc,KFL,KF]) ?_
 dsimp only [c81,r81,Yg,go_sem,rA,rM,rS]
 refine call (ZvD b c hb hc) ?_
 dsimp only [Zc,go_sem,rA,rM,rS]
 rw [Ze (n:=b.strong.lo * (UM b c).lo) (by omega) (by omega)]
 refine ZcI (by omega) ?_
 dsimp only [go_sem,rA,rM,rS]
 rw [Ze (n:=b.strong.hi * (UM b c).hi) (by omega) (by omega)]
 refine call (ZdK _ _ (by omega) (by omega) (by omega) (by omega)) ?_
 dsimp only [go_sem,rA,rM,rS]
 have d1:=YT (a:=b.strong.lo * (UM b c).lo) (d:=1000) k1.1 k1.2 (by omega)
 rw [Ze (n:=(b.strong.lo * (UM b c).lo).tdiv 1000) (by omega) (by omega)]
 rfl
def sres (b:Breed) (c:Camel) (s:Span):SV:=.tup [.agg (Zc (if Ub b c=0 then s else Xx)),I (Ub b c)]
theorem errC_0 {b:Breed} {c:Camel}:Ub b c=0↔Zv b=true/\Zu b c=true:=by
 simp only [Ub];cases Zv b<;>cases Zu b c<;>simp
theorem carries_ok (b:Breed) (c:Camel):Ct Tryz.prog 37 [.agg (breedL b),.agg (camelL c)] (sres b c (Zpn b c)):=by
 refine t37.1 (by simp [breedL,camelL,KFL,KF]) (by simp [sres,Zc,KFL,KF]) ?_
 dsimp only [c37,r37,breedL,camelL,go_sem,rA,rM,rS]
 refine call (checkCamel_ok b c) ?_
 dsimp only [go_sem,rA,rM,rS]
 by_cases h:Ub b c=0
 case neg =>
  refine Zr (by simpa using h) ?_
  dsimp only [sres,Zc,go_sem,rA,rM,rS]
  rw [if_neg h];rfl
 refine Zs (by simpa using h) ?_
 obtain ⟨hb,hc⟩:=errC_0.1 h
 dsimp only [go_sem,rA,rM,rS]
 refine call (ZuV b c hb hc) ?_
 dsimp only [Zc,sres,go_sem,rA,rM,rS]
 rw [if_pos h,h]
theorem Zdg (b:Breed) (c:Camel):Ct Tryz.prog 147 [.agg (breedL b),.agg (camelL c)] (sres b c (UM b c)):=by
 refine t147.1 (by simp [breedL,camelL,KFL,KF]) (by simp [sres,Zc,KFL,KF]) ?_
 dsimp only [c147,r147,breedL,camelL,go_sem,rA,rM,rS]
 refine call (checkCamelR_ok b c) ?_
 dsimp only [go_sem,rA,rM,rS]
 by_cases h:Ub b c=0
 case neg =>
  refine Zr (by simpa using h) ?_
  dsimp only [sres,Zc,go_sem,rA,rM,rS]
  rw [if_neg h];rfl
 refine Zs (by simpa using h) ?_
 obtain ⟨hb,hc⟩:=errC_0.1 h
 dsimp only [go_sem,rA,rM,rS]
 refine call (ZpU b c hb hc) ?_
 dsimp only [Zc,sres,go_sem,rA,rM,rS]
 rw [if_pos h,h]
theorem carriesR_ok (b:Breed) (c:Camel):Ct Tryz.prog 105 [.agg (breedL b),.agg (camelL c)] (sres b c (Zpn b c)):=by
 refine t105.1 (by simp [breedL,camelL,KFL,KF]) (by simp [sres,Zc,KFL,KF]) ?_
 dsimp only [c105,r105,breedL,camelL,go_sem,rA,rM,rS]
 refine call (Zdg b c) ?_
 dsimp only [sres,Zc,go_sem,rA,rM,rS]
 by_cases h:Ub b c=0
 case neg =>
  refine Zr (by simpa using h) ?_
  dsimp only [go_sem,rA,rM,rS]
  rw [if_neg h];rfl
 refine Zs (by simpa using h) ?_
 obtain ⟨hb,hc⟩:=errC_0.1 h
 obtain ⟨b1,b2,b3,b4,_,_,⟨g1,g2,g3⟩,_⟩:=breed_bd hb
 obtain ⟨q1,q2,q3,q4⟩:=ZpG hb hc
 have k1:=XA (a:=b.strong.lo) (A:=1000000) (b:=(UM b c).lo) (B:=1000) (by omega) (by omega) q1 q2
 have k2:=XA (a:=b.strong.hi) (A:=1000000) (b:=(UM b c).hi) (B:=1000) (by omega) (by omega) q3 q4
 dsimp only [go_sem,rA,rM,rS]
 rw [if_pos h]
 rw [Ze (n:=b.strong.lo * (UM b c).lo) (by omega) (by omega)]
 refine ZcI (by omega) ?_
 dsimp only [go_sem,rA,rM,rS]
 rw [Ze (n:=b.strong.hi * (UM b c).hi) (by omega) (by omega)]
 refine call (Uo _ _ (by omega) (by omega) (by omega) (by omega)) ?_
 dsimp only [go_sem,rA,rM,rS]
 have d1:=YT (a:=b.strong.lo * (UM b c).lo) (d:=1000) k1.1 k1.2 (by omega)
 rw [Ze (n:=(b.strong.lo * (UM b c).lo).tdiv 1000) (by omega) (by omega),if_pos h,h]
 rfl
theorem work_bd {m:March} (h:ZR m=true):0<=Yb m/\Yb m<=26400000:=by
 obtain ⟨h1,h2,h3,h4,_⟩:=march_bd h
 have:=XA (a:=m.hours) (A:=24) (b:=100000+m.load) (B:=1100000) h1 h2 (by omega) (by omega)
 exact this
theorem toil_bd {m:March} {x:Int} (h:ZR m=true) (h0:0<=x) (h1:x<=100000):0<=x * Yb m/\x * Yb m<=2640000000000:=by
 obtain ⟨w1,w2⟩:=work_bd h
 exact XA h0 h1 w1 w2
theorem heat_bd {x y:Int} (h0:0<=x) (h1:x<=100000) (h2:0<=y) (h3:y<=60):0<=x * max 0 (y - 20)/\x * max 0 (y - 20)<=4000000 :=
 XA h0 h1 (B:=40) (by omega) (by omega)
theorem ZiZ (b:Breed) (k:Bool) (m:March) (hb:Zv b=true) (hm:ZR m=true):Ct Tryz.prog 126 [.agg (breedL b),B k,.agg (ZY m)] (.agg [I (XL b k m).lo,I (XL b k m).hi,I (X5 b m).lo,I (X5 b m).hi]):=by
 obtain ⟨_,_,_,_,_,_,_,⟨r1,r2,r3⟩,⟨a1,a2,a3⟩,⟨t1,t2,t3⟩,⟨u1,u2,u3⟩,_,⟨k1,k2,k3⟩⟩:=breed_bd hb
 obtain ⟨m1,m2,m3,m4,⟨g1,g2,g3⟩,_⟩:=march_bd hm
 have w0:=work_bd hm
 have e1:=heat_bd (x:=b.heat.lo) (y:=m.heat.lo) (by omega) (by omega) (by omega) (by omega)
 have e2:=heat_bd (x:=b.heat.hi) (y:=m.heat.hi) (by omega) (by omega) (by omega) (by omega)
 have f1:=toil_bd (x:=b.toil.lo) hm (by omega) (by omega)
 have f2:=toil_bd (x:=b.toil.hi) hm (by omega) (by omega)
 have f3:=toil_bd (x:=b.burn.lo) hm (by omega) (by omega)
 have f4:=toil_bd (x:=b.burn.hi) hm (by omega) (by omega)
 have d1:=YT f1.1 f1.2 (d:=100000) (by omega)
 have d2:=ZdE f2.1 f2.2 (d:=100000) (by omega)
 have hw:IntKind.i64.wrap (m.hours * IntKind.i64.wrap (100000+m.load))=Yb m:=by
  rw [Ze (n:=100000+m.load) (by omega) (by omega)]
  unfold Yb at *
  exact Ze (by omega) (by omega)
 refine t126.1 (by simp [breedL,ZY,KFL,KF]) (by simp [KFL,KF]) ?_
 dsimp only [c126,r126,breedL,ZY,go_sem,rA,rM,rS]
 rw [hw,Ze (n:=m.heat.lo - 20) (by omega) (by omega),Ze (n:=m.heat.hi - 20) (by omega) (by omega),Ze (n:=b.heat.lo * max 0 (m.heat.lo - 20)) (by omega) (by omega),Ze (n:=b.heat.hi * max 0 (m.heat.hi - 20)) (by omega) (by omega)]
 refine call (ZdP b.toil 100000 (Yb m) 0 true t1 t2 w0.1 (by omega) (by omega) (by omega)) ?_
 dsimp only [Zc,go_sem,rA,rM,rS]
 refine call (plus3 b.rest ⟨b.heat.lo * max 0 (m.heat.lo - 20),b.heat.hi * max 0 (m.heat.hi - 20)⟩ (scl b.toil 100000 (Yb m)) true ⟨by omega,by omega,by omega,by omega⟩ ⟨e1.1,by simp only;omega,e2.1,by simp only;omega⟩
  ⟨d1.1,by simp only [scl];omega,d2.1,by simp only [scl];omega⟩) ?_
 dsimp only [Zc,go_sem,rA,rM,rS]
 refine br ?_ ?_
 . intro hk
   dsimp only [go_sem,rA,rM,rS]
   refine call (Vw ⟨b.rest.lo+b.heat.lo * max 0 (m.heat.lo - 20)+(scl b.toil 100000 (Yb m)).lo,b.rest.hi+b.heat.hi * max 0 (m.heat.hi - 20)+(scl b.toil 100000 (Yb m)).hi⟩ b.milk true
    ⟨by simp only [scl];omega,by simp only [scl];omega,by simp only [scl];omega,by simp only [scl];omega⟩ ⟨by omega,by omega,by omega,by omega⟩) ?_
   dsimp only [Zc,go_sem,rA,rM,rS]
   refine call (ZdP b.burn 100000 (Yb m) 0 true u1 u2 w0.1 (by omega) (by omega) (by omega)) ?_
   dsimp only [Zc,go_sem,rA,rM,rS]
   simp only [XL,X5,hk,scl,if_true]
 . intro hk
   dsimp only [go_sem,rA,rM,rS]
   refine call (ZdP b.burn 100000 (Yb m) 0 true u1 u2 w0.1 (by omega) (by omega) (by omega)) ?_
   dsimp only [Zc,go_sem,rA,rM,rS]
   simp only [XL,X5,hk,scl,Bool.false_eq_true,if_false,Int.add_zero]
theorem ZkM (b:Breed) (k:Bool) (m:March) (hb:Zv b=true) (hm:ZR m=true):Ct Tryz.prog 175 [.agg (breedL b),B k,.agg (ZY m)] (.tup [.agg (Zc (XL b k m)),.agg (Zc (X5 b m))]):=by
 obtain ⟨_,_,_,_,_,_,_,⟨r1,r2,r3⟩,⟨a1,a2,a3⟩,⟨t1,t2,t3⟩,⟨u1,u2,u3⟩,_,⟨k1,k2,k3⟩⟩:=breed_bd hb
 obtain ⟨m1,m2,m3,m4,⟨g1,g2,g3⟩,_⟩:=march_bd hm
 have w0:=work_bd hm
 have e1:=heat_bd (x:=b.heat.lo) (y:=m.heat.lo) (by omega) (by omega) (by omega) (by omega)
 have e2:=heat_bd (x:=b.heat.hi) (y:=m.heat.hi) (by omega) (by omega) (by omega) (by omega)
 have f1:=toil_bd (x:=b.toil.lo) hm (by omega) (by omega)
 have f2:=toil_bd (x:=b.toil.hi) hm (by omega) (by omega)
 have f3:=toil_bd (x:=b.burn.lo) hm (by omega) (by omega)
 have f4:=toil_bd (x:=b.burn.hi) hm (by omega) (by omega)
 have d1:=YT f1.1 f1.2 (d:=100000) (by omega)
 have d2:=ZdE f2.1 f2.2 (d:=100000) (by omega)
 have d3:=YT f3.1 f3.2 (d:=100000) (by omega)
 have hw:IntKind.i64.wrap (m.hours * IntKind.i64.wrap (100000+m.load))=Yb m:=by
  rw [Ze (n:=100000+m.load) (by omega) (by omega)]
  unfold Yb at *
  exact Ze (by omega) (by omega)
 refine t175.1 (by simp [breedL,ZY,KFL,KF]) (by simp [Zc,KFL,KF]) ?_
 dsimp only [c175,r175,breedL,ZY,Zc,go_sem,rA,rM,rS]
 rw [hw]
 simp (disch:=omega) only [Ze]
 refine ZcI (by omega) ?_
 dsimp only [go_sem,rA,rM,rS]
 simp (disch:=omega) only [Ze]
 refine call (Uo _ _ (by omega) (by omega) (by omega) (by omega)) ?_
 dsimp only [go_sem,rA,rM,rS]
 simp (disch:=omega) only [Ze]
 refine br ?_ ?_
 . intro hk
   dsimp only [go_sem,rA,rM,rS]
   simp (disch:=omega) only [Ze]
   refine call (Uo _ _ (by omega) (by omega) (by omega) (by omega)) ?_
   dsimp only [go_sem,rA,rM,rS]
   refine ZcI (by omega) ?_
   dsimp only [go_sem,rA,rM,rS]
   simp (disch:=omega) only [Ze]
   simp only [XL,X5,hk,if_true]
 . intro hk
   dsimp only [go_sem,rA,rM,rS]
   simp (disch:=omega) only [Ze]
   refine call (Uo _ _ (by omega) (by omega) (by omega) (by omega)) ?_
   dsimp only [go_sem,rA,rM,rS]
   refine ZcI (by omega) ?_
   dsimp only [go_sem,rA,rM,rS]
   simp (disch:=omega) only [Ze]
   simp only [XL,X5,hk,Bool.false_eq_true,if_false,Int.add_zero]
end Go.Proofs.YtiigiflofnjilaaGreat.Cm
namespace Go.Azalai
end Go.Azalai
namespace Go.Proofs.YtiigiflofnjilaaGreat.Cm
open Go Go.Sx Go.Azalai
end Go.Proofs.YtiigiflofnjilaaGreat.Cm
namespace Go.Azalai
def Yf:Camel:=⟨⟨0,0⟩,⟨0,0⟩,⟨0,0⟩,false⟩
def Vx (most:Int) (has cost gets:Span):Span:=⟨min most (max 0 (has.lo - cost.hi)+gets.lo),min most (has.hi - cost.lo+gets.hi)⟩
def VJ (b:Breed) (s:Span) (m:March):Span :=
 if m.hours=0 then ⟨max 0 (s.lo - b.heal),max 0 (s.hi - b.heal)⟩
 else ⟨min 1000 (s.lo+(b.rub.lo * (m.hours * m.load)).tdiv 1000000),min 1000 (s.hi+upF (b.rub.hi * (m.hours * m.load)) 1000000)⟩
def Z9 (b:Breed) (c:Camel) (m:March):Camel × Int :=
 let w:=XL b c.milks m
 let f:=X5 b m
 if c.water.hi < w.lo\/c.fat.hi < f.lo then (Yf,2)
 else (⟨Vx b.full c.water w m.drinks,Vx b.fed c.fat f m.grass,VJ b c.sore m,c.milks⟩,if c.water.lo ≥ w.hi/\c.fat.lo ≥ f.hi then 0 else 1)
theorem UN {b:Breed} {k:Bool} {m:March} (hb:Zv b=true) (hm:ZR m=true):0<=(XL b k m).lo/\(XL b k m).lo<=1000000000/\0<=(XL b k m).hi/\(XL b k m).hi<=1000000000:=by
 have h:=Go.Proofs.YtiigiflofnjilaaGreat.Cm.breed_bd hb
 have h2:=Go.Proofs.YtiigiflofnjilaaGreat.Cm.march_bd hm
 have q1:=Go.Proofs.YtiigiflofnjilaaGreat.Cm.toil_bd (x:=b.toil.lo) hm (by omega) (by omega)
 have q2:=Go.Proofs.YtiigiflofnjilaaGreat.Cm.toil_bd (x:=b.toil.hi) hm (by omega) (by omega)
 have q3:=Go.Proofs.YtiigiflofnjilaaGreat.Cm.heat_bd (x:=b.heat.lo) (y:=m.heat.lo) (by omega) (by omega) (by omega) (by omega)
 have q4:=Go.Proofs.YtiigiflofnjilaaGreat.Cm.heat_bd (x:=b.heat.hi) (y:=m.heat.hi) (by omega) (by omega) (by omega) (by omega)
 have r1:0<=(b.toil.lo * Yb m).tdiv 100000/\(b.toil.lo * Yb m).tdiv 100000<=26400000:=by
  rw [Int.tdiv_eq_ediv_of_nonneg q1.1];omega
 have r2:0<=upF (b.toil.hi * Yb m) 100000/\upF (b.toil.hi * Yb m) 100000<=26400001:=by
  unfold upF;rw [Int.tdiv_eq_ediv_of_nonneg (by omega)];omega
 simp only [XL]
 cases k<;>simp<;>omega
theorem UJ {b:Breed} {m:March} (hb:Zv b=true) (hm:ZR m=true):0<=(X5 b m).lo/\(X5 b m).lo<=1000000000/\0<=(X5 b m).hi/\(X5 b m).hi<=1000000000:=by
 have h:=Go.Proofs.YtiigiflofnjilaaGreat.Cm.breed_bd hb
 have q1:=Go.Proofs.YtiigiflofnjilaaGreat.Cm.toil_bd (x:=b.burn.lo) hm (by omega) (by omega)
 have q2:=Go.Proofs.YtiigiflofnjilaaGreat.Cm.toil_bd (x:=b.burn.hi) hm (by omega) (by omega)
 have r1:0<=(b.burn.lo * Yb m).tdiv 100000/\(b.burn.lo * Yb m).tdiv 100000<=26400000:=by
  rw [Int.tdiv_eq_ediv_of_nonneg q1.1];omega
 have r2:0<=upF (b.burn.hi * Yb m) 100000/\upF (b.burn.hi * Yb m) 100000<=26400001:=by
  unfold upF;rw [Int.tdiv_eq_ediv_of_nonneg (by omega)];omega
 simp only [X5]
 omega
end Go.Azalai
namespace Go.Proofs.YtiigiflofnjilaaGreat.Cm
open Go Go.Sx Go.Azalai
theorem Zji (b:Breed) (c:Camel) (m:March) (hb:Zv b=true) (hc:Zu b c=true) (hm:ZR m=true) :
 Ct Tryz.prog 170 [.agg (breedL b),.agg (camelL c),.agg (ZY m)] (.tup [.agg (camelL (Z9 b c m).1),I (Z9 b c m).2]):=by
 have h1:=breed_bd hb
 have h2:=camel_bd hb hc
 have h3:=march_bd hm
 have w1:=UN (k:=c.milks) hb hm
 have w2:=UJ hb hm
 refine t170.1 (by simp [breedL,camelL,ZY,KFL,KF]) (by simp [camelL,KFL,KF]) ?_
 dsimp only [c170,r170,breedL,camelL,ZY,go_sem,rA,rM,rS]
 refine call (ZkM b c.milks m hb hm) ?_
 dsimp only [Zc,go_sem,rA,rM,rS]
 have k0:=XA (a:=m.hours) (b:=m.load) (A:=24) (B:=1000000) (by omega) (by omega) (by omega) (by omega)
 have k1:=XA (a:=b.rub.lo) (b:=m.hours * m.load) (A:=100000) (B:=24000000) (by omega) (by omega) (by omega) (by omega)
 have k2:=XA (a:=b.rub.hi) (b:=m.hours * m.load) (A:=100000) (B:=24000000) (by omega) (by omega) (by omega) (by omega)
 have k3:=YT k1.1 k1.2 (d:=1000000) (by omega)
 have k4:=ZdE k2.1 k2.2 (d:=1000000) (by omega)
 generalize hW:XL b c.milks m=W at w1
 generalize hF:X5 b m=F at w2
 repeat (refine gb ?_;dsimp only [go_sem,rA,rM,rS])
 by_cases hd:c.water.hi < W.lo\/c.fat.hi < F.lo
 case pos =>
  refine Zr (by grind) ?_
  dsimp only [go_sem,rA,rM,rS]
  simp [Z9,hW,hF,hd,Yf,camelL]
 refine Zs (by grind) ?_
 dsimp only [go_sem,rA,rM,rS]
 repeat (refine gb ?_;dsimp only [go_sem,rA,rM,rS])
 refine br ?_ ?_
 . intro hk
   dsimp only [go_sem,rA,rM,rS]
   simp (disch:=omega) only [Ze]
   refine ZcI (by omega) ?_
   dsimp only [go_sem,rA,rM,rS]
   simp (disch:=omega) only [Ze]
   refine call (Uo _ _ (by omega) (by omega) (by omega) (by omega)) ?_
   dsimp only [go_sem,rA,rM,rS]
   simp (disch:=omega) only [Ze]
   refine br ?_ ?_
   . intro hz
     dsimp only [go_sem,rA,rM,rS]
     simp (disch:=omega) only [Ze]
     have e:(if c.water.lo ≥ W.hi/\c.fat.lo ≥ F.hi then (0:Int) else 1)=0:=if_pos (by grind)
     have hz':m.hours=0:=by simpa using hz
     simp only [Z9,hW,hF,if_neg hd,Vx,VJ,camelL,e,if_pos hz']
   . intro hz
     dsimp only [go_sem,rA,rM,rS]
     have e:(if c.water.lo ≥ W.hi/\c.fat.lo ≥ F.hi then (0:Int) else 1)=0:=if_pos (by grind)
     have hz':¬ m.hours=0:=by simpa using hz
     simp only [Z9,hW,hF,if_neg hd,Vx,VJ,camelL,e,if_neg hz']
 . intro hk
   dsimp only [go_sem,rA,rM,rS]
   simp (disch:=omega) only [Ze]
   refine ZcI (by omega) ?_
   dsimp only [go_sem,rA,rM,rS]
   simp (disch:=omega) only [Ze]
   refine call (Uo _ _ (by omega) (by omega) (by omega) (by omega)) ?_
   dsimp only [go_sem,rA,rM,rS]
   simp (disch:=omega) only [Ze]
   refine br ?_ ?_
   . intro hz
     dsimp only [go_sem,rA,rM,rS]
     simp (disch:=omega) only [Ze]
     have e:(if c.water.lo ≥ W.hi/\c.fat.lo ≥ F.hi then (0:Int) else 1)=1:=if_neg (by grind)
     have hz':m.hours=0:=by simpa using hz
     simp only [Z9,hW,hF,if_neg hd,Vx,VJ,camelL,e,if_pos hz']
   . intro hz
     dsimp only [go_sem,rA,rM,rS]
     have e:(if c.water.lo ≥ W.hi/\c.fat.lo ≥ F.hi then (0:Int) else 1)=1:=if_neg (by grind)
     have hz':¬ m.hours=0:=by simpa using hz
     simp only [Z9,hW,hF,if_neg hd,Vx,VJ,camelL,e,if_neg hz']
theorem ZuC (b:Breed) (c:Camel) (m:March) (hb:Zv b=true) (hc:Zu b c=true) (hm:ZR m=true) (hd:(Z9 b c m).2≠2) :
 Ct Tryz.prog 84 [.agg (Yg b c),.agg (ZY m)] (.tup [.agg (Yg b (Z9 b c m).1),.v (.int .u8 (Z9 b c m).2)]):=by
 have h1:=breed_bd hb
 have h2:=camel_bd hb hc
 have h3:=march_bd hm
 have w1:=UN (k:=c.milks) hb hm
 have w2:=UJ hb hm
 have k0:=XA (a:=m.hours) (b:=m.load) (A:=24) (B:=1000000) (by omega) (by omega) (by omega) (by omega)
 have k1:=XA (a:=b.rub.lo) (b:=m.hours * m.load) (A:=100000) (B:=24000000) (by omega) (by omega) (by omega) (by omega)
 have k2:=XA (a:=b.rub.hi) (b:=m.hours * m.load) (A:=100000) (B:=24000000) (by omega) (by omega) (by omega) (by omega)
 have k3:=YT k1.1 k1.2 (d:=1000000) (by omega)
 have k4:=ZdE k2.1 k2.2 (d:=1000000) (by omega)
 refine t84.1 (by simp [Yg,ZY,KFL,KF]) (by simp [Yg,KFL,KF]) ?_
 dsimp only [c84,r84,Yg,ZY,go_sem,rA,rM,rS]
 refine call (ZiZ b c.milks m hb hm) ?_
 dsimp only [go_sem,rA,rM,rS]
 generalize hW:XL b c.milks m=W at w1
 generalize hF:X5 b m=F at w2
 have hd':W.lo<=c.water.hi/\F.lo<=c.fat.hi:=by
  by_cases h:c.water.hi < W.lo\/c.fat.hi < F.lo
  . exact absurd (by simp only [Z9,hW,hF,if_pos h]) hd
  . omega
 clear hd
 have k5:=XA (a:=b.rub.hi) (b:=m.hours) (A:=100000) (B:=24) (by omega) (by omega) (by omega) (by omega)
 have k6:b.rub.hi * m.hours * m.load<=100000000000000:=by rw [Int.mul_assoc];omega
 have hd0:¬ (c.water.hi < W.lo\/c.fat.hi < F.lo):=by omega
 by_cases hp:c.water.lo < W.hi<;>by_cases hq:c.fat.lo < F.hi
 . refine Xa 3 ?_
   dsimp only [Zb,go_sem,rA,rM,rS]
   refine Zr (by decide) ?_
   dsimp only [Zb,go_sem,rA,rM,rS]
   repeat (first | (refine ixa 0 rfl (by decide) ?_;dsimp only [Zb,go_sem,rA,rM,rS]) | (refine Zs (by simp;omega) ?_;dsimp only [Zb,go_sem,rA,rM,rS]) | (refine Zr (by simp;omega) ?_;dsimp only [Zb,go_sem,rA,rM,rS]))
   simp (disch:=omega) only [Ze]
   refine call (Vw ⟨max 0 (c.water.lo - W.hi),c.water.hi - W.lo⟩ m.drinks _ (by unfold bdS;simp only;omega) (by unfold bdS;omega)) ?_
   dsimp only [Zb,Zc,go_sem,rA,rM,rS]
   repeat (first | (refine ixa 0 rfl (by decide) ?_;dsimp only [Zb,go_sem,rA,rM,rS]) | (refine Zs (by simp;omega) ?_;dsimp only [Zb,go_sem,rA,rM,rS]) | (refine Zr (by simp;omega) ?_;dsimp only [Zb,go_sem,rA,rM,rS]))
   simp (disch:=omega) only [Ze]
   refine Zr (by decide) ?_
   dsimp only [Zb,go_sem,rA,rM,rS]
   repeat (first | (refine ixa 1 rfl (by decide) ?_;dsimp only [Zb,go_sem,rA,rM,rS]) | (refine Zs (by simp;omega) ?_;dsimp only [Zb,go_sem,rA,rM,rS]) | (refine Zr (by simp;omega) ?_;dsimp only [Zb,go_sem,rA,rM,rS]))
   simp (disch:=omega) only [Ze]
   refine call (Vw ⟨max 0 (c.fat.lo - F.hi),c.fat.hi - F.lo⟩ m.grass _ (by unfold bdS;simp only;omega) (by unfold bdS;omega)) ?_
   dsimp only [Zb,Zc,go_sem,rA,rM,rS]
   repeat (first | (refine ixa 1 rfl (by decide) ?_;dsimp only [Zb,go_sem,rA,rM,rS]) | (refine Zs (by simp;omega) ?_;dsimp only [Zb,go_sem,rA,rM,rS]) | (refine Zr (by simp;omega) ?_;dsimp only [Zb,go_sem,rA,rM,rS]))
   refine Zs (by decide) ?_
   dsimp only [go_sem,rA,rM,rS]
   have e:(if c.water.lo ≥ W.hi/\c.fat.lo ≥ F.hi then (0:Int) else 1)=1:=if_neg (by omega)
   by_cases hz:m.hours=0
   . refine Zr (by simpa using hz) ?_
     dsimp only [go_sem,rA,rM,rS]
     simp (disch:=omega) only [Ze]
     simp only [Z9,hW,hF,if_neg hd0,Vx,VJ,Yg,e,if_pos hz]
   . refine Zs (by simpa using hz) ?_
     dsimp only [go_sem,rA,rM,rS]
     refine call (Uc b.rub 1000000 m.hours m.load 0 _ (by omega) (by omega) (by omega) (by omega) (by omega) k6 (by omega) (by omega)) ?_
     dsimp only [Zc,go_sem,rA,rM,rS]
     simp only [Int.mul_assoc]
     refine call (Vw c.sore ⟨(b.rub.lo * (m.hours * m.load)).tdiv 1000000,upF (b.rub.hi * (m.hours * m.load)) 1000000⟩ _ (by unfold bdS;omega) (by unfold bdS;simp only;omega)) ?_
     dsimp only [Zc,go_sem,rA,rM,rS]
     simp only [Z9,hW,hF,if_neg hd0,Vx,VJ,Yg,e,if_neg hz]
 . refine Xa 3 ?_
   dsimp only [Zb,go_sem,rA,rM,rS]
   refine Zr (by decide) ?_
   dsimp only [Zb,go_sem,rA,rM,rS]
   repeat (first | (refine ixa 0 rfl (by decide) ?_;dsimp only [Zb,go_sem,rA,rM,rS]) | (refine Zs (by simp;omega) ?_;dsimp only [Zb,go_sem,rA,rM,rS]) | (refine Zr (by simp;omega) ?_;dsimp only [Zb,go_sem,rA,rM,rS]))
   simp (disch:=omega) only [Ze]
   refine call (Vw ⟨max 0 (c.water.lo - W.hi),c.water.hi - W.lo⟩ m.drinks _ (by unfold bdS;simp only;omega) (by unfold bdS;omega)) ?_
   dsimp only [Zb,Zc,go_sem,rA,rM,rS]
   repeat (first | (refine ixa 0 rfl (by decide) ?_;dsimp only [Zb,go_sem,rA,rM,rS]) | (refine Zs (by simp;omega) ?_;dsimp only [Zb,go_sem,rA,rM,rS]) | (refine Zr (by simp;omega) ?_;dsimp only [Zb,go_sem,rA,rM,rS]))
   simp (disch:=omega) only [Ze]
   refine Zr (by decide) ?_
   dsimp only [Zb,go_sem,rA,rM,rS]
   repeat (first | (refine ixa 1 rfl (by decide) ?_;dsimp only [Zb,go_sem,rA,rM,rS]) | (refine Zs (by simp;omega) ?_;dsimp only [Zb,go_sem,rA,rM,rS]) | (refine Zr (by simp;omega) ?_;dsimp only [Zb,go_sem,rA,rM,rS]))
   simp (disch:=omega) only [Ze]
   refine call (Vw ⟨max 0 (c.fat.lo - F.hi),c.fat.hi - F.lo⟩ m.grass _ (by unfold bdS;simp only;omega) (by unfold bdS;omega)) ?_
   dsimp only [Zb,Zc,go_sem,rA,rM,rS]
   repeat (first | (refine ixa 1 rfl (by decide) ?_;dsimp only [Zb,go_sem,rA,rM,rS]) | (refine Zs (by simp;omega) ?_;dsimp only [Zb,go_sem,rA,rM,rS]) | (refine Zr (by simp;omega) ?_;dsimp only [Zb,go_sem,rA,rM,rS]))
   refine Zs (by decide) ?_
   dsimp only [go_sem,rA,rM,rS]
   have e:(if c.water.lo ≥ W.hi/\c.fat.lo ≥ F.hi then (0:Int) else 1)=1:=if_neg (by omega)
   by_cases hz:m.hours=0
   . refine Zr (by simpa using hz) ?_
     dsimp only [go_sem,rA,rM,rS]
     simp (disch:=omega) only [Ze]
     simp only [Z9,hW,hF,if_neg hd0,Vx,VJ,Yg,e,if_pos hz]
   . refine Zs (by simpa using hz) ?_
     dsimp only [go_sem,rA,rM,rS]
     refine call (Uc b.rub 1000000 m.hours m.load 0 _ (by omega) (by omega) (by omega) (by omega) (by omega) k6 (by omega) (by omega)) ?_
     dsimp only [Zc,go_sem,rA,rM,rS]
     simp only [Int.mul_assoc]
     refine call (Vw c.sore ⟨(b.rub.lo * (m.hours * m.load)).tdiv 1000000,upF (b.rub.hi * (m.hours * m.load)) 1000000⟩ _ (by unfold bdS;omega) (by unfold bdS;simp only;omega)) ?_
     dsimp only [Zc,go_sem,rA,rM,rS]
     simp only [Z9,hW,hF,if_neg hd0,Vx,VJ,Yg,e,if_neg hz]
 . refine Xa 3 ?_
   dsimp only [Zb,go_sem,rA,rM,rS]
   refine Zr (by decide) ?_
   dsimp only [Zb,go_sem,rA,rM,rS]
   repeat (first | (refine ixa 0 rfl (by decide) ?_;dsimp only [Zb,go_sem,rA,rM,rS]) | (refine Zs (by simp;omega) ?_;dsimp only [Zb,go_sem,rA,rM,rS]) | (refine Zr (by simp;omega) ?_;dsimp only [Zb,go_sem,rA,rM,rS]))
   simp (disch:=omega) only [Ze]
   refine call (Vw ⟨max 0 (c.water.lo - W.hi),c.water.hi - W.lo⟩ m.drinks _ (by unfold bdS;simp only;omega) (by unfold bdS;omega)) ?_
   dsimp only [Zb,Zc,go_sem,rA,rM,rS]
   repeat (first | (refine ixa 0 rfl (by decide) ?_;dsimp only [Zb,go_sem,rA,rM,rS]) | (refine Zs (by simp;omega) ?_;dsimp only [Zb,go_sem,rA,rM,rS]) | (refine Zr (by simp;omega) ?_;dsimp only [Zb,go_sem,rA,rM,rS]))
   simp (disch:=omega) only [Ze]
   refine Zr (by decide) ?_
   dsimp only [Zb,go_sem,rA,rM,rS]
   repeat (first | (refine ixa 1 rfl (by decide) ?_;dsimp only [Zb,go_sem,rA,rM,rS]) | (refine Zs (by simp;omega) ?_;dsimp only [Zb,go_sem,rA,rM,rS]) | (refine Zr (by simp;omega) ?_;dsimp only [Zb,go_sem,rA,rM,rS]))
   simp (disch:=omega) only [Ze]
   refine call (Vw ⟨max 0 (c.fat.lo - F.hi),c.fat.hi - F.lo⟩ m.grass _ (by unfold bdS;simp only;omega) (by unfold bdS;omega)) ?_
   dsimp only [Zb,Zc,go_sem,rA,rM,rS]
   repeat (first | (refine ixa 1 rfl (by decide) ?_;dsimp only [Zb,go_sem,rA,rM,rS]) | (refine Zs (by simp;omega) ?_;dsimp only [Zb,go_sem,rA,rM,rS]) | (refine Zr (by simp;omega) ?_;dsimp only [Zb,go_sem,rA,rM,rS]))
   refine Zs (by decide) ?_
   dsimp only [go_sem,rA,rM,rS]
   have e:(if c.water.lo ≥ W.hi/\c.fat.lo ≥ F.hi then (0:Int) else 1)=1:=if_neg (by omega)
   by_cases hz:m.hours=0
   . refine Zr (by simpa using hz) ?_
     dsimp only [go_sem,rA,rM,rS]
     simp (disch:=omega) only [Ze]
     simp only [Z9,hW,hF,if_neg hd0,Vx,VJ,Yg,e,if_pos hz]
   . refine Zs (by simpa using hz) ?_
     dsimp only [go_sem,rA,rM,rS]
     refine call (Uc b.rub 1000000 m.hours m.load 0 _ (by omega) (by omega) (by omega) (by omega) (by omega) k6 (by omega) (by omega)) ?_
     dsimp only [Zc,go_sem,rA,rM,rS]
     simp only [Int.mul_assoc]
     refine call (Vw c.sore ⟨(b.rub.lo * (m.hours * m.load)).tdiv 1000000,upF (b.rub.hi * (m.hours * m.load)) 1000000⟩ _ (by unfold bdS;omega) (by unfold bdS;simp only;omega)) ?_
     dsimp only [Zc,go_sem,rA,rM,rS]
     simp only [Z9,hW,hF,if_neg hd0,Vx,VJ,Yg,e,if_neg hz]
 . refine Xa 3 ?_
   dsimp only [Zb,go_sem,rA,rM,rS]
   refine Zr (by decide) ?_
   dsimp only [Zb,go_sem,rA,rM,rS]
   repeat (first | (refine ixa 0 rfl (by decide) ?_;dsimp only [Zb,go_sem,rA,rM,rS]) | (refine Zs (by simp;omega) ?_;dsimp only [Zb,go_sem,rA,rM,rS]) | (refine Zr (by simp;omega) ?_;dsimp only [Zb,go_sem,rA,rM,rS]))
   simp (disch:=omega) only [Ze]
   refine call (Vw ⟨max 0 (c.water.lo - W.hi),c.water.hi - W.lo⟩ m.drinks _ (by unfold bdS;simp only;omega) (by unfold bdS;omega)) ?_
   dsimp only [Zb,Zc,go_sem,rA,rM,rS]
   repeat (first | (refine ixa 0 rfl (by decide) ?_;dsimp only [Zb,go_sem,rA,rM,rS]) | (refine Zs (by simp;omega) ?_;dsimp only [Zb,go_sem,rA,rM,rS]) | (refine Zr (by simp;omega) ?_;dsimp only [Zb,go_sem,rA,rM,rS]))
   simp (disch:=omega) only [Ze]
   refine Zr (by decide) ?_
   dsimp only [Zb,go_sem,rA,rM,rS]
   repeat (first | (refine ixa 1 rfl (by decide) ?_;dsimp only [Zb,go_sem,rA,rM,rS]) | (refine Zs (by simp;omega) ?_;dsimp only [Zb,go_sem,rA,rM,rS]) | (refine Zr (by simp;omega) ?_;dsimp only [Zb,go_sem,rA,rM,rS]))
   simp (disch:=omega) only [Ze]
   refine call (Vw ⟨max 0 (c.fat.lo - F.hi),c.fat.hi - F.lo⟩ m.grass _ (by unfold bdS;simp only;omega) (by unfold bdS;omega)) ?_
   dsimp only [Zb,Zc,go_sem,rA,rM,rS]
   repeat (first | (refine ixa 1 rfl (by decide) ?_;dsimp only [Zb,go_sem,rA,rM,rS]) | (refine Zs (by simp;omega) ?_;dsimp only [Zb,go_sem,rA,rM,rS]) | (refine Zr (by simp;omega) ?_;dsimp only [Zb,go_sem,rA,rM,rS]))
   refine Zs (by decide) ?_
   dsimp only [go_sem,rA,rM,rS]
   have e:(if c.water.lo ≥ W.hi/\c.fat.lo ≥ F.hi then (0:Int) else 1)=0:=if_pos (by omega)
   by_cases hz:m.hours=0
   . refine Zr (by simpa using hz) ?_
     dsimp only [go_sem,rA,rM,rS]
     simp (disch:=omega) only [Ze]
     simp only [Z9,hW,hF,if_neg hd0,Vx,VJ,Yg,e,if_pos hz]
   . refine Zs (by simpa using hz) ?_
     dsimp only [go_sem,rA,rM,rS]
     refine call (Uc b.rub 1000000 m.hours m.load 0 _ (by omega) (by omega) (by omega) (by omega) (by omega) k6 (by omega) (by omega)) ?_
     dsimp only [Zc,go_sem,rA,rM,rS]
     simp only [Int.mul_assoc]
     refine call (Vw c.sore ⟨(b.rub.lo * (m.hours * m.load)).tdiv 1000000,upF (b.rub.hi * (m.hours * m.load)) 1000000⟩ _ (by unfold bdS;omega) (by unfold bdS;simp only;omega)) ?_
     dsimp only [Zc,go_sem,rA,rM,rS]
     simp only [Z9,hW,hF,if_neg hd0,Vx,VJ,Yg,e,if_neg hz]
end Go.Proofs.YtiigiflofnjilaaGreat.Cm
namespace Go.Azalai
theorem ZdN {x y d:Int} (hd:1<=d) (h0:0<=x) (h:x<=y):x.tdiv d<=upF y d:=by
 unfold upF
 rw [Int.tdiv_eq_ediv_of_nonneg h0,Int.tdiv_eq_ediv_of_nonneg (by omega)]
 exact Int.ediv_le_ediv (by omega) (by omega)
theorem ZlO {b:Breed} {k:Bool} {m:March} (hb:Zv b=true) (hm:ZR m=true):(XL b k m).lo<=(XL b k m).hi:=by
 have h:=Go.Proofs.YtiigiflofnjilaaGreat.Cm.breed_bd hb
 have h2:=Go.Proofs.YtiigiflofnjilaaGreat.Cm.march_bd hm
 have hw:=Go.Proofs.YtiigiflofnjilaaGreat.Cm.work_bd hm
 have q1:(b.toil.lo * Yb m).tdiv 100000<=upF (b.toil.hi * Yb m) 100000:=ZdN (by omega) (Int.mul_nonneg (by omega) hw.1) (Int.mul_le_mul_of_nonneg_right (by omega) hw.1)
 have q2:b.heat.lo * max 0 (m.heat.lo - 20)<=b.heat.hi * max 0 (m.heat.hi - 20):=Int.mul_le_mul (by omega) (by omega) (by omega) (by omega)
 simp only [XL]
 cases k<;>simp<;>omega
theorem Zm2 {b:Breed} {m:March} (hb:Zv b=true) (hm:ZR m=true):(X5 b m).lo<=(X5 b m).hi:=by
 have h:=Go.Proofs.YtiigiflofnjilaaGreat.Cm.breed_bd hb
 have hw:=Go.Proofs.YtiigiflofnjilaaGreat.Cm.work_bd hm
 exact ZdN (by omega) (Int.mul_nonneg (by omega) hw.1) (Int.mul_le_mul_of_nonneg_right (by omega) hw.1)
theorem after_ok {b:Breed} {c:Camel} {m:March} (hb:Zv b=true) (hc:Zu b c=true) (hm:ZR m=true) (hd:(Z9 b c m).2≠2):Zu b (Z9 b c m).1=true:=by
 have h1:=Go.Proofs.YtiigiflofnjilaaGreat.Cm.breed_bd hb
 have h2:=Go.Proofs.YtiigiflofnjilaaGreat.Cm.camel_bd hb hc
 have h3:=Go.Proofs.YtiigiflofnjilaaGreat.Cm.march_bd hm
 have w1:=UN (k:=c.milks) hb hm
 have w2:=UJ hb hm
 have hlo:(XL b c.milks m).lo<=(XL b c.milks m).hi:=ZlO hb hm
 have hlf:(X5 b m).lo<=(X5 b m).hi:=Zm2 hb hm
 have hr:(b.rub.lo * (m.hours * m.load)).tdiv 1000000<=upF (b.rub.hi * (m.hours * m.load)) 1000000 :=
  ZdN (by omega) (Int.mul_nonneg (by omega) (Int.mul_nonneg (by omega) (by omega))) (Int.mul_le_mul_of_nonneg_right (by omega) (Int.mul_nonneg (by omega) (by omega)))
 have hr0:0<=(b.rub.lo * (m.hours * m.load)).tdiv 1000000 :=
  Int.tdiv_nonneg (Int.mul_nonneg (by omega) (Int.mul_nonneg (by omega) (by omega))) (by omega)
 unfold Z9 at hd ⊢
 simp only at hd ⊢
 split at hd
 . exact absurd rfl hd
 . rename_i h
   rw [if_neg h]
   simp only [Zu,Z0,Vx,VJ,Bool.and_eq_true,decide_eq_true_eq]
   by_cases hz:m.hours=0
   . simp only [if_pos hz,Bool.and_eq_true,decide_eq_true_eq]
     refine ⟨⟨decide_eq_true ⟨by omega,by omega,by omega⟩,decide_eq_true ⟨by omega,by omega,by omega⟩⟩,by omega,by omega,by omega⟩
   . simp only [if_neg hz,Bool.and_eq_true,decide_eq_true_eq]
     refine ⟨⟨decide_eq_true ⟨by omega,by omega,by omega⟩,decide_eq_true ⟨by omega,by omega,by omega⟩⟩,by omega,by omega,by omega⟩
end Go.Azalai
namespace Go.Proofs.YtiigiflofnjilaaGreat.Cm
open Go Go.Sx Go.Azalai
end Go.Proofs.YtiigiflofnjilaaGreat.Cm
namespace Go.Azalai
end Go.Azalai
namespace Go.Proofs.YtiigiflofnjilaaGreat.Cm
open Go Go.Sx Go.Azalai
theorem ZnN (b:Breed) (c:Camel) (m:March) (hb:Zv b=true) (hc:Zu b c=true) (hm:ZR m=true) (hd:(Z9 b c m).2=2) :
 Ct Tryz.prog 84 [.agg (Yg b c),.agg (ZY m)] (.tup [.agg (Yg ⟨0,0,⟨0,0⟩,⟨0,0⟩,⟨0,0⟩,⟨0,0⟩,⟨0,0⟩,⟨0,0⟩,0,⟨0,0⟩⟩ Yf),.v (.int .u8 2)]):=by
 have h1:=breed_bd hb
 have h2:=camel_bd hb hc
 have h3:=march_bd hm
 have w1:=UN (k:=c.milks) hb hm
 have w2:=UJ hb hm
 refine t84.1 (by simp [Yg,ZY,KFL,KF]) (by simp [Yg,Yf,KFL,KF]) ?_
 dsimp only [c84,r84,Yg,ZY,go_sem,rA,rM,rS]
 refine call (ZiZ b c.milks m hb hm) ?_
 dsimp only [go_sem,rA,rM,rS]
 generalize hW:XL b c.milks m=W at w1
 generalize hF:X5 b m=F at w2
 have hd':c.water.hi < W.lo\/c.fat.hi < F.lo:=by
  by_cases h:c.water.hi < W.lo\/c.fat.hi < F.lo
  . exact h
  . simp only [Z9,hW,hF,if_neg h] at hd
    split at hd<;>cases hd
 by_cases hw:c.water.hi < W.lo
 . refine Xa 3 ?_
   dsimp only [Zb,go_sem,rA,rM,rS]
   refine Zr (by decide) ?_
   dsimp only [Zb,go_sem,rA,rM,rS]
   repeat (first | (refine ixa 0 rfl (by decide) ?_;dsimp only [Zb,go_sem,rA,rM,rS]) | (refine Zr (by simp;omega) ?_;dsimp only [Zb,Yf,go_sem,rA,rM,rS]))
 . have hf:c.fat.hi < F.lo:=by omega
   by_cases hp:c.water.lo < W.hi
   . refine Xa 3 ?_
     dsimp only [Zb,go_sem,rA,rM,rS]
     refine Zr (by decide) ?_
     dsimp only [Zb,go_sem,rA,rM,rS]
     repeat (first | (refine ixa 0 rfl (by decide) ?_;dsimp only [Zb,go_sem,rA,rM,rS]) | (refine Zs (by simp;omega) ?_;dsimp only [Zb,go_sem,rA,rM,rS]) | (refine Zr (by simp;omega) ?_;dsimp only [Zb,go_sem,rA,rM,rS]))
     simp (disch:=omega) only [Ze]
     refine call (Vw ⟨max 0 (c.water.lo - W.hi),c.water.hi - W.lo⟩ m.drinks _ (by unfold bdS;simp only;omega) (by unfold bdS;omega)) ?_
     dsimp only [Zb,Zc,go_sem,rA,rM,rS]
     repeat (first | (refine ixa 0 rfl (by decide) ?_;dsimp only [Zb,go_sem,rA,rM,rS]) | (refine Zs (by simp;omega) ?_;dsimp only [Zb,go_sem,rA,rM,rS]) | (refine Zr (by simp;omega) ?_;dsimp only [Zb,go_sem,rA,rM,rS]))
     simp (disch:=omega) only [Ze]
     refine Zr (by decide) ?_
     dsimp only [Zb,go_sem,rA,rM,rS]
     repeat (first | (refine ixa 1 rfl (by decide) ?_;dsimp only [Zb,go_sem,rA,rM,rS]) | (refine Zr (by simp;omega) ?_;dsimp only [Zb,Yf,go_sem,rA,rM,rS]))
   . refine Xa 3 ?_
     dsimp only [Zb,go_sem,rA,rM,rS]
     refine Zr (by decide) ?_
     dsimp only [Zb,go_sem,rA,rM,rS]
     repeat (first | (refine ixa 0 rfl (by decide) ?_;dsimp only [Zb,go_sem,rA,rM,rS]) | (refine Zs (by simp;omega) ?_;dsimp only [Zb,go_sem,rA,rM,rS]) | (refine Zr (by simp;omega) ?_;dsimp only [Zb,go_sem,rA,rM,rS]))
     simp (disch:=omega) only [Ze]
     refine call (Vw ⟨max 0 (c.water.lo - W.hi),c.water.hi - W.lo⟩ m.drinks _ (by unfold bdS;simp only;omega) (by unfold bdS;omega)) ?_
     dsimp only [Zb,Zc,go_sem,rA,rM,rS]
     repeat (first | (refine ixa 0 rfl (by decide) ?_;dsimp only [Zb,go_sem,rA,rM,rS]) | (refine Zs (by simp;omega) ?_;dsimp only [Zb,go_sem,rA,rM,rS]) | (refine Zr (by simp;omega) ?_;dsimp only [Zb,go_sem,rA,rM,rS]))
     simp (disch:=omega) only [Ze]
     refine Zr (by decide) ?_
     dsimp only [Zb,go_sem,rA,rM,rS]
     repeat (first | (refine ixa 1 rfl (by decide) ?_;dsimp only [Zb,go_sem,rA,rM,rS]) | (refine Zr (by simp;omega) ?_;dsimp only [Zb,Yf,go_sem,rA,rM,rS]))
end Go.Proofs.YtiigiflofnjilaaGreat.Cm
namespace Go.Azalai
def Yo (b:Breed) (c:Camel) (m:March):Camel × Int × Int :=
 if Ub b c≠0 then (Yf,0,Ub b c) else if ZR m=false then (Yf,0,12) else if (Z9 b c m).2=2 then (Yf,0,13) else ((Z9 b c m).1,(Z9 b c m).2,0)
end Go.Azalai
namespace Go.Proofs.YtiigiflofnjilaaGreat.Cm
open Go Go.Sx Go.Azalai
def U8 (n:Int):SV:=.v (.int .u8 n)
theorem after1_ok (b:Breed) (c:Camel) (m:March):Ct Tryz.prog 40 [.agg (breedL b),.agg (camelL c),.agg (ZY m)] (.tup [.agg (camelL (Yo b c m).1),U8 (Yo b c m).2.1,I (Yo b c m).2.2]):=by
 refine t40.1 (by simp [breedL,camelL,ZY,KFL,KF]) (by simp [camelL,U8,KFL,KF]) ?_
 dsimp only [c40,r40,breedL,camelL,ZY,go_sem,rA,rM,rS]
 refine call (checkCamel_ok b c) ?_
 dsimp only [go_sem,rA,rM,rS]
 by_cases h0:Ub b c=0
 case neg =>
  refine Zr (by simpa using h0) ?_
  dsimp only [go_sem,rA,rM,rS]
  simp [Yo,h0,Yf,U8,camelL]
 refine Zs (by simpa using h0) ?_
 dsimp only [go_sem,rA,rM,rS]
 obtain ⟨hb,hc⟩:=errC_0.1 h0
 refine call (Zhp m true) ?_
 dsimp only [go_sem,rA,rM,rS]
 by_cases hm:ZR m=true
 case neg =>
  refine Zr (by simp [hm]) ?_
  dsimp only [go_sem,rA,rM,rS]
  simp [Yo,h0,hm,Yf,U8,camelL]
 refine Zs (by simp [hm]) ?_
 dsimp only [go_sem,rA,rM,rS]
 by_cases hd:(Z9 b c m).2=2
 . refine call (ZnN b c m hb hc hm hd) ?_
   dsimp only [Yg,Yf,go_sem,rA,rM,rS]
   refine Zr (by decide) ?_
   dsimp only [go_sem,rA,rM,rS]
   simp [Yo,h0,hm,hd,Yf,U8,camelL]
 refine call (ZuC b c m hb hc hm hd) ?_
 dsimp only [Yg,go_sem,rA,rM,rS]
 refine Zs (by simpa using hd) ?_
 dsimp only [go_sem,rA,rM,rS]
 simp [Yo,h0,hm,hd,U8,camelL]
theorem after2_ok (b:Breed) (c:Camel) (m:March):Ct Tryz.prog 150 [.agg (breedL b),.agg (camelL c),.agg (ZY m)] (.tup [.agg (camelL (Yo b c m).1),I (Yo b c m).2.1,I (Yo b c m).2.2]):=by
 refine t150.1 (by simp [breedL,camelL,ZY,KFL,KF]) (by simp [camelL,KFL,KF]) ?_
 dsimp only [c150,r150,breedL,camelL,ZY,go_sem,rA,rM,rS]
 refine call (checkCamelR_ok b c) ?_
 dsimp only [go_sem,rA,rM,rS]
 by_cases h0:Ub b c=0
 case neg =>
  refine Zr (by simpa using h0) ?_
  dsimp only [go_sem,rA,rM,rS]
  simp [Yo,h0,Yf,camelL]
 refine Zs (by simpa using h0) ?_
 dsimp only [go_sem,rA,rM,rS]
 obtain ⟨hb,hc⟩:=errC_0.1 h0
 refine call (Zjb m) ?_
 dsimp only [go_sem,rA,rM,rS]
 by_cases hm:ZR m=true
 case neg =>
  refine Zr (by simp [hm]) ?_
  dsimp only [go_sem,rA,rM,rS]
  simp [Yo,h0,hm,Yf,camelL]
 refine Zs (by simp [hm]) ?_
 dsimp only [go_sem,rA,rM,rS]
 refine call (Zji b c m hb hc hm) ?_
 dsimp only [camelL,go_sem,rA,rM,rS]
 by_cases hd:(Z9 b c m).2=2
 . refine Zr (by simpa using hd) ?_
   dsimp only [go_sem,rA,rM,rS]
   simp [Yo,h0,hm,hd,Yf,camelL]
 refine Zs (by simpa using hd) ?_
 dsimp only [go_sem,rA,rM,rS]
 simp [Yo,h0,hm,hd,camelL]
end Go.Proofs.YtiigiflofnjilaaGreat.Cm
namespace Go.Proofs.YtiigiflofnjilaaGreat
open Go Go.Sx Go.Azalai
theorem Zcg (l:Land) (hs:XM l):Ct Tryz.prog 136 [.agg (ZH l)] (B (ZS l)):=by
 have hw1:IntKind.i64.wrap ((l.wells.length:Int) - 1)=(l.wells.length:Int) - 1:=Ze (by omega) (by have:=hs.1;omega)
 refine t136.1 (by simp [ZH,Zf,Zl,Zh,Za,KFL,KF]) (by simp [KFL,KF]) ?_
 dsimp only [c136,r136,ZH,go_sem,rA,rM,rS]
 refine call (Z7 _ _ _) ?_
 dsimp only [go_sem,rA,rM,rS]
 repeat (refine gb ?_;dsimp only [go_sem,rA,rM,rS])
 simp only [List.length_map]
 refine br ?_ ?_
 . intro h
   dsimp only [go_sem,rA,rM,rS]
   have:ZS l=false:=by simp only [ZS];grind
   rw [this]
 intro h
 dsimp only [go_sem,rA,rM,rS]
 have ho1:ZS l=(l.wells.all Yx && l.legs.all (XX l.wells.length)):=by simp only [ZS];grind
 refine YV (fun k:Nat=>[(3,I k)]) (fun _=>[]) (fun k=>k<=l.wells.length/\(l.wells.drop k).all Yx=l.wells.all Yx) (fun k=>l.wells.length - k) 0 ⟨Nat.zero_le _,rfl⟩ ?_ ?_
 . (refine Zk ?_ ?_ ?_ rfl rfl<;>dsimp only [Zh,Zf,Zl,id,go_sem,rA,rM,rS]<;>simp [Zh,Zf,Zl,Za,Zi,KFR,KFL,KF,Zd,mtO,nbr])
 intro k ⟨hk,hi⟩
 dsimp only [go_sem,rA,rM,rS]
 by_cases hlt:k < l.wells.length
 . refine Zr (by simpa using hlt) ?_
   dsimp only [go_sem,rA,rM,rS]
   refine Zm k hlt rfl ?_
   dsimp only [Zf,go_sem,rA,rM,rS]
   repeat (first | (refine gb ?_;dsimp only [go_sem,rA,rM,rS]) | (refine call (Z7 _ _ _) ?_;dsimp only [go_sem,rA,rM,rS]) | (refine call (ZA l.wells[k].yld _ _) ?_;dsimp only [go_sem,rA,rM,rS]) | (refine call (ZA l.wells[k].has _ _) ?_;dsimp only [go_sem,rA,rM,rS]))
   rw [List.drop_eq_getElem_cons hlt,List.all_cons] at hi
   refine br ?_ ?_
   . intro hb
     dsimp only [go_sem,rA,rM,rS]
     have:Yx l.wells[k]=false:=by simp only [Yx];grind
     rw [ho1,<- hi,this];rfl
   . intro hb
     dsimp only [go_sem,rA,rM,rS]
     rw [Ze (n:=(k:Int)+1) (by omega) (by have:=hs.1;omega)]
     have:Yx l.wells[k]=true:=by simp only [Yx];grind
     rw [this,Bool.true_and] at hi
     refine ⟨k+1,⟨hlt,hi⟩,by omega,?_⟩
     (refine Zk ?_ ?_ ?_ rfl rfl<;>dsimp only [Zh,Zf,Zl,id,go_sem,rA,rM,rS]<;>simp [Zh,Zf,Zl,Za,Zi,KFR,KFL,KF,Zd,mtO,nbr])
 refine Zs (by simp;omega) ?_
 dsimp only [go_sem,rA,rM,rS]
 have hke:k=l.wells.length:=by omega
 subst hke
 rw [List.drop_length] at hi
 rw [<- hi] at ho1
 rw [show ZS l=l.legs.all (XX l.wells.length) from by rw [ho1];simp]
 refine YV (fun k:Nat=>[(5,I k)]) (fun _=>[]) (fun k=>k<=l.legs.length/\(l.legs.drop k).all (XX l.wells.length)=l.legs.all (XX l.wells.length)) (fun k=>l.legs.length - k) 0 ⟨Nat.zero_le _,rfl⟩ ?_ ?_
 . (refine Zk ?_ ?_ ?_ rfl rfl<;>dsimp only [Zh,Zf,Zl,id,go_sem,rA,rM,rS]<;>simp [Zh,Zf,Zl,Za,Zi,KFR,KFL,KF,Zd,mtO,nbr])
 intro k ⟨hk,hi⟩
 dsimp only [go_sem,rA,rM,rS]
 by_cases hlt:k < l.legs.length
 . refine Zr (by simpa using hlt) ?_
   dsimp only [go_sem,rA,rM,rS]
   refine Zm k hlt rfl ?_
   dsimp only [Zl,go_sem,rA,rM,rS]
   simp only [List.length_map,hw1]
   repeat (first | (refine gb ?_;dsimp only [go_sem,rA,rM,rS]) | (refine call (Z7 _ _ _) ?_;dsimp only [go_sem,rA,rM,rS]) | (refine call (ZA l.legs[k].long _ _) ?_;dsimp only [go_sem,rA,rM,rS]))
   rw [List.drop_eq_getElem_cons hlt,List.all_cons] at hi
   simp only [List.length_map]
   have hgl:=hs.2.2 l.legs[k] (List.getElem_mem _)
   generalize l.legs[k]=x at *
   refine br ?_ ?_
   . intro hb
     dsimp only [go_sem,rA,rM,rS]
     have:XX l.wells.length x=false:=by simp only [XX];grind
     rw [<- hi,this];rfl
   . intro hb
     dsimp only [go_sem,rA,rM,rS]
     have hx:XX l.wells.length x=Yn 0 x.gates:=by simp only [XX];grind
     refine YV (fun s:Nat × Int=>[(8,I s.1),(7,I s.2)]) (fun _=>[]) (fun s=>s.1<=x.gates.length/\Yn (s.2+1) (x.gates.drop s.1)=Yn 0 x.gates) (fun s=>x.gates.length - s.1) (0,-1) ⟨Nat.zero_le _,rfl⟩ ?_ ?_
     . (refine Zk ?_ ?_ ?_ rfl rfl<;>dsimp only [Zh,Zf,Zl,id,go_sem,rA,rM,rS]<;>simp [Zh,Zf,Zl,Za,Zi,KFR,KFL,KF,Zd,mtO,nbr])
     rintro ⟨j,last⟩ ⟨hj,hji⟩
     simp only at hj hji
     dsimp only [go_sem,rA,rM,rS]
     by_cases hlt2:j < x.gates.length
     . refine Zr (by simpa using hlt2) ?_
       dsimp only [go_sem,rA,rM,rS]
       refine Zm j hlt2 rfl ?_
       dsimp only [Zh,go_sem,rA,rM,rS]
       repeat (first | (refine gb ?_;dsimp only [go_sem,rA,rM,rS]) | (refine call (ZA x.gates[j].opens _ _) ?_;dsimp only [go_sem,rA,rM,rS]) | (refine call (ZA x.gates[j].shuts _ _) ?_;dsimp only [go_sem,rA,rM,rS]))
       rw [List.drop_eq_getElem_cons hlt2] at hji
       simp only [Yn] at hji
       refine br ?_ ?_
       . intro hb2
         dsimp only [go_sem,rA,rM,rS]
         have:XX l.wells.length x=false:=by rw [hx,<- hji];simp only [inR];grind
         rw [<- hi,this];rfl
       . intro hb2
         dsimp only [go_sem,rA,rM,rS]
         rw [Ze (n:=(j:Int)+1) (by omega) (by omega)]
         refine ⟨(j+1,x.gates[j].shuts.hi),⟨hlt2,?_⟩,by simp only;omega,?_⟩
         . simp only;rw [<- hji];simp only [inR];grind
         . (refine Zk ?_ ?_ ?_ rfl rfl<;>dsimp only [Zh,Zf,Zl,id,go_sem,rA,rM,rS]<;>simp [Zh,Zf,Zl,Za,Zi,KFR,KFL,KF,Zd,mtO,nbr])
     . refine Zs (by simp;omega) ?_
       dsimp only [go_sem,rA,rM,rS]
       rw [Ze (n:=(k:Int)+1) (by omega) (by have:=hs.2.1;omega)]
       have hje:j=x.gates.length:=by omega
       subst hje
       rw [List.drop_length] at hji
       simp only [Yn] at hji
       rw [hx,<- hji,Bool.true_and] at hi
       refine ⟨k+1,⟨hlt,hi⟩,by omega,?_⟩
       (refine Zk ?_ ?_ ?_ rfl rfl<;>dsimp only [Zh,Zf,Zl,id,go_sem,rA,rM,rS]<;>simp [Zh,Zf,Zl,Za,Zi,KFR,KFL,KF,Zd,mtO,nbr])
 refine Zs (by simp;omega) ?_
 dsimp only [go_sem,rA,rM,rS]
 have hke:k=l.legs.length:=by omega
 subst hke
 rw [List.drop_length] at hi
 rw [<- hi];rfl
theorem ZnS (l:Land):Ct Tryz.prog 46 [.agg (ZH l)] (B (Zah l)):=by
 refine t46.1 (by simp [ZH,Zf,Zl,Zh,Za,KFL,KF]) (by simp [KFL,KF]) ?_
 dsimp only [c46,r46,ZH,go_sem,rA,rM,rS]
 repeat (refine gb ?_;dsimp only [go_sem,rA,rM,rS])
 simp only [List.length_map]
 refine br ?_ ?_
 . intro h
   dsimp only [go_sem,rA,rM,rS]
   (simp only [Zah,Option.some.injEq,SV.v.injEq,Value.bool.injEq]<;>grind)
 intro h
 dsimp only [go_sem,rA,rM,rS]
 have hg:Zah l=l.legs.any fun x=>decide (x.gates.length > 20):=by simp only [Zah];grind
 have hlen:l.legs.length<=40:=by grind
 rw [hg]
 refine YV (fun k:Nat=>[(3,I k)]) (fun _=>[]) (fun k=>k<=l.legs.length/\((l.legs.drop k).any fun x=>decide (x.gates.length > 20))=l.legs.any fun x=>decide (x.gates.length > 20)) (fun k=>l.legs.length - k) 0 ⟨Nat.zero_le _,rfl⟩ ?_ ?_
 . (refine Zk ?_ ?_ ?_ rfl rfl<;>dsimp only [Zh,Zf,Zl,id,go_sem,rA,rM,rS]<;>simp [Zh,Zf,Zl,Za,Zi,KFR,KFL,KF,Zd,mtO,nbr])
 intro k ⟨hk,hi⟩
 dsimp only [go_sem,rA,rM,rS]
 by_cases hlt:k < l.legs.length
 . refine Zr (by simpa using hlt) ?_
   dsimp only [go_sem,rA,rM,rS]
   refine Zm k hlt rfl ?_
   dsimp only [Zl,go_sem,rA,rM,rS]
   rw [List.drop_eq_getElem_cons hlt,List.any_cons] at hi
   refine br ?_ ?_
   . intro hb
     dsimp only [go_sem,rA,rM,rS]
     have:decide (l.legs[k].gates.length > 20)=true:=by simp at hb ⊢;omega
     rw [<- hi,this];rfl
   . intro hb
     dsimp only [go_sem,rA,rM,rS]
     rw [Ze (n:=(k:Int)+1) (by omega) (by omega)]
     have:decide (l.legs[k].gates.length > 20)=false:=by simp at hb ⊢;omega
     rw [this,Bool.false_or] at hi
     refine ⟨k+1,⟨hlt,hi⟩,by omega,?_⟩
     (refine Zk ?_ ?_ ?_ rfl rfl<;>dsimp only [Zh,Zf,Zl,id,go_sem,rA,rM,rS]<;>simp [Zh,Zf,Zl,Za,Zi,KFR,KFL,KF,Zd,mtO,nbr])
 refine Zs (by simp;omega) ?_
 dsimp only [go_sem,rA,rM,rS]
 have hke:k=l.legs.length:=by omega
 subst hke
 rw [List.drop_length] at hi
 rw [<- hi];rfl
theorem Zi0 (l:Land) (hs:XM l) (draws:List Draw) (hd:draws.length<=1000):Ct Tryz.prog 45 [.agg (ZH l),.sl false 3 (draws.map Zz)] (B (YW l.wells.length 0 draws)):=by
 have hw1:IntKind.i64.wrap ((l.wells.length:Int) - 1)=(l.wells.length:Int) - 1:=Ze (by omega) (by have:=hs.1;omega)
 refine t45.1 (by simp [ZH,Zf,Zl,Zh,Zz,Za,KFL,KF]) (by simp [KFL,KF]) ?_
 dsimp only [c45,r45,ZH,go_sem,rA,rM,rS]
 refine YV (fun s:Nat × Int=>[(5,I s.1)]) (fun _=>[]) (fun s=>s.1<=draws.length/\YW l.wells.length s.2 (draws.drop s.1)=YW l.wells.length 0 draws/\(s.1=0->s.2=0)/\0<=s.2/\(∀ h:s.1 - 1 < draws.length,0 < s.1->s.2=draws[s.1 - 1].day)) (fun s=>draws.length - s.1) (0,0)
  ⟨Nat.zero_le _,rfl,fun _=>rfl,Int.le_refl _,fun _ h=>absurd h (by simp)⟩ ?_ ?_
 . (refine Zk ?_ ?_ ?_ rfl rfl<;>dsimp only [Zh,Zf,Zl,Zz,id,go_sem,rA,rM,rS]<;>simp [Zh,Zf,Zl,Zz,Za,Zi,KFR,KFL,KF,Zd,mtO,nbr])
 rintro ⟨k,last⟩ ⟨hk,hi,hz,h0,hl⟩
 simp only at hk hi hz h0 hl
 dsimp only [go_sem,rA,rM,rS]
 by_cases hlt:k < draws.length
 . refine Zr (by simpa using hlt) ?_
   dsimp only [go_sem,rA,rM,rS]
   refine Zm k hlt rfl ?_
   dsimp only [Zz,go_sem,rA,rM,rS]
   simp only [List.length_map,hw1]
   repeat (first | (refine gb ?_;dsimp only [go_sem,rA,rM,rS]) | (refine call (Z7 _ _ _) ?_;dsimp only [go_sem,rA,rM,rS]))
   refine Zef (k - 1) (Zz (draws[k - 1]'(by omega))) rfl ?_ ?_
   . intro hb
     have hb:k > 0:=by simpa using hb
     exact ⟨by rw [Ze (by omega) (by omega)];omega,by rw [List.getElem?_map,List.getElem?_eq_getElem (by omega)];rfl⟩
   dsimp only [Zz,go_sem,rA,rM,rS]
   repeat (refine gb ?_;dsimp only [go_sem,rA,rM,rS])
   have hdr:draws.drop k=draws[k] :: draws.drop (k+1):=List.drop_eq_getElem_cons hlt
   rw [hdr] at hi
   simp only [YW] at hi
   have hlast:(!(decide ((k:Int) > 0) && decide (draws[k].day < (draws[k - 1]'(by omega)).day)) && inR 0 100000 draws[k].day)=inR last 100000 draws[k].day:=by
    by_cases hk0:k=0
    . subst hk0;rw [hz rfl];simp
    . have:=hl (by omega) (by omega)
      rw [this] at h0 ⊢
      simp only [inR];grind
   refine br ?_ ?_
   . intro hb
     dsimp only [go_sem,rA,rM,rS]
     rw [<- hi,<- hlast]
     (simp only [Option.some.injEq,SV.v.injEq,Value.bool.injEq]<;>grind)
   . intro hb
     dsimp only [go_sem,rA,rM,rS]
     rw [Ze (n:=(k:Int)+1) (by omega) (by omega)]
     refine ⟨(k+1,draws[k].day),⟨hlt,?_,fun h=>by simp at h,?_,fun h _=>by simp⟩,by simp only;omega,?_⟩
     . rw [<- hi,<- hlast];grind
     . simp only [inR] at hb;grind
     . (refine Zk ?_ ?_ ?_ rfl rfl<;>dsimp only [Zh,Zf,Zl,Zz,id,go_sem,rA,rM,rS]<;>simp [Zh,Zf,Zl,Zz,Za,Zi,KFR,KFL,KF,Zd,mtO,nbr])
 . refine Zs (by simp;omega) ?_
   dsimp only [go_sem,rA,rM,rS]
   have hke:k=draws.length:=by omega
   subst hke
   rw [List.drop_length] at hi
   rw [<- hi];rfl
theorem ZjU (l:Land) (hs:XM l) (well day:Int) (draws:List Draw) (hd:draws.length<=1000) :
 Ct Tryz.prog 108 [.agg (ZH l),I well,.sl false 3 (draws.map Zz),I day] (Zdb (Xg l well draws day)):=by
 have hw1:IntKind.i64.wrap ((l.wells.length:Int) - 1)=(l.wells.length:Int) - 1:=Ze (by omega) (by have:=hs.1;omega)
 refine t108.1 (by simp [ZH,Zf,Zl,Zh,Zz,Za,KFL,KF]) (by simp [Zdb,Zc,KFL,KF]) ?_
 dsimp only [c108,r108,ZH,go_sem,rA,rM,rS]
 refine call (Zcg l hs) ?_
 dsimp only [go_sem,rA,rM,rS]
 by_cases ho:ZS l=true
 case neg =>
  refine Zr (by simp [ho]) ?_
  dsimp only [go_sem,rA,rM,rS]
  simp [Xg,ho,Zdb,Zc]
 refine Zs (by simp [ho]) ?_
 dsimp only [go_sem,rA,rM,rS]
 simp only [List.length_map,hw1]
 repeat (first | (refine gb ?_;dsimp only [go_sem,rA,rM,rS]) | (refine call (Z7 _ _ _) ?_;dsimp only [go_sem,rA,rM,rS]))
 by_cases ha:(inR 0 (l.wells.length - 1) well && inR 0 100000 day)=true
 case neg =>
  refine Zr (by grind) ?_
  dsimp only [go_sem,rA,rM,rS]
  simp [Xg,ho,Zdb,Zc,ha]
 refine Zs (by grind) ?_
 dsimp only [go_sem,rA,rM,rS]
 by_cases hm:draws.length > 200
 case pos =>
  refine Zr (by simp;omega) ?_
  dsimp only [go_sem,rA,rM,rS]
  simp [Xg,ho,Zdb,Zc,ha,hm]
 refine Zs (by simp;omega) ?_
 dsimp only [go_sem,rA,rM,rS]
 refine call (Zi0 l hs draws hd) ?_
 dsimp only [go_sem,rA,rM,rS]
 by_cases hi:YW l.wells.length 0 draws=true
 case neg =>
  refine Zr (by simp [hi]) ?_
  dsimp only [go_sem,rA,rM,rS]
  simp [Xg,ho,Zdb,Zc,ha,hm,hi]
 refine Zs (by simp [hi]) ?_
 dsimp only [go_sem,rA,rM,rS]
 obtain ⟨kw,hkw,rfl,hget⟩:=Zd9 (Bool.and_eq_true_iff.1 ha).1
 refine Zm kw hkw rfl ?_
 dsimp only [Zf,go_sem,rA,rM,rS]
 have hwf:Xg l kw draws day=X8 l.wells[kw] kw day l.wells[kw].has (-1) 0 draws:=by
  simp only [Xg,ho,ha,hm,hi,hget];simp
 rw [hwf]
 have hok:=Zay ho l.wells[kw] (List.getElem_mem _)
 have hmem:=Vo hi (Int.le_refl _)
 have hday:0<=day/\day<=100000:=by simp only [inR,Bool.and_eq_true,decide_eq_true_eq] at ha;omega
 have hroom:0<=l.wells[kw].has.lo/\l.wells[kw].has.lo<=l.wells[kw].room/\0<=l.wells[kw].has.hi/\l.wells[kw].has.hi<=l.wells[kw].room/\l.wells[kw].room<=1000000000:=by
  simp only [Yx,Z0,inR,Bool.and_eq_true,decide_eq_true_eq] at hok;omega
 have hroom2:∀ x:Int,x<=l.wells[kw].room->x<=1000000000:=fun x h=>by omega
 refine YV (fun s:Nat × Span × Int=>[(14,I s.1),(13,I (s.2.2+1))]) (fun s=>[(3,.cells (Zc s.2.1) 27)])
  (fun s=>s.1<=draws.length/\X8 l.wells[kw] kw day s.2.1 s.2.2 s.1 (draws.drop s.1)=X8 l.wells[kw] kw day l.wells[kw].has (-1) 0 draws /\
   0<=s.2.1.lo/\s.2.1.lo<=l.wells[kw].room/\0<=s.2.1.hi/\s.2.1.hi<=l.wells[kw].room/\-1<=s.2.2/\s.2.2<=100000) (fun s=>draws.length - s.1) (0,l.wells[kw].has,-1)
  ⟨Nat.zero_le _,rfl,hroom.1,hroom.2.1,hroom.2.2.1,hroom.2.2.2.1,by simp,by simp⟩ ?_ ?_
 . (refine Zk ?_ ?_ ?_ rfl rfl<;>dsimp only [Zh,Zf,Zl,Zz,Zc,id,go_sem,rA,rM,rS]<;>simp [Zh,Zf,Zl,Zz,Zc,Za,Zi,KFR,KFL,KF,Zd,mtO,nbr])
 . rintro ⟨k,now,ev⟩ ⟨hk2,hi2,n1,n2,n3,n4,e1,e2⟩
   simp only at hk2 hi2 n1 n2 n3 n4 e1 e2
   dsimp only [Zc,go_sem,rA,rM,rS]
   by_cases hlt2:k < draws.length
   . refine Zr (by simpa using hlt2) ?_
     dsimp only [go_sem,rA,rM,rS]
     refine Zm k hlt2 rfl ?_
     dsimp only [Zz,go_sem,rA,rM,rS]
     repeat (first | (refine gb ?_;dsimp only [go_sem,rA,rM,rS]))
     have hx:=hmem draws[k] (List.getElem_mem _)
     have hdr:draws.drop k=draws[k] :: draws.drop (k+1):=List.drop_eq_getElem_cons hlt2
     rw [hdr] at hi2
     simp only [X8] at hi2
     by_cases hc:(draws[k].well != (kw:Int) || decide (draws[k].day ≥ day))=true
     . refine Zr hc ?_
       dsimp only [go_sem,rA,rM,rS]
       rw [if_pos hc] at hi2
       rw [Ze (n:=(k:Int)+1) (by omega) (by omega)]
       refine ⟨(k+1,now,ev),⟨hlt2,hi2,n1,n2,n3,n4,e1,e2⟩,by simp only;omega,?_⟩
       (refine Zk ?_ ?_ ?_ rfl rfl<;>dsimp only [Zh,Zf,Zl,Zz,Zc,id,go_sem,rA,rM,rS]<;>simp [Zh,Zf,Zl,Zz,Zc,Za,Zi,KFR,KFL,KF,Zd,mtO,nbr])
     . refine Zs (by simpa using hc) ?_
       rw [if_neg hc] at hi2
       dsimp only [go_sem,rA,rM,rS]
       rw [Ze (n:=draws[k].day+1) (by omega) (by omega),Ze (n:=draws[k].day+1 - (ev+1)) (by omega) (by omega),show draws[k].day+1 - (ev+1)=draws[k].day - ev from by omega]
       refine call (Zbs l.wells[kw] now (draws[k].day - ev) hok n1 n2 n3 n4 (by omega) (by omega)) ?_
       dsimp only [Zc,go_sem,rA,rM,rS]
       have hbig:-2000000000000<=(YN l.wells[kw] now (draws[k].day - ev)).lo:=ZcN hok n1 n2 n3 n4 (by omega) (by omega)
       have hf2:(YN l.wells[kw] now (draws[k].day - ev)).hi<=l.wells[kw].room:=by simp only [YN];omega
       have hf1:(YN l.wells[kw] now (draws[k].day - ev)).lo<=l.wells[kw].room:=by simp only [YN];omega
       generalize hF:YN l.wells[kw] now (draws[k].day - ev)=F at *
       by_cases hdry:F.hi < draws[k].water
       . refine Zr (by simpa using hdry) ?_
         dsimp only [go_sem,rA,rM,rS]
         rw [if_pos hdry] at hi2
         rw [<- hi2];rfl
       . refine Zs (by simpa using hdry) ?_
         dsimp only [go_sem,rA,rM,rS]
         rw [if_neg hdry] at hi2
         rw [Ze (n:=draws[k].day+1) (by omega) (by omega),Ze (n:=F.lo - draws[k].water) (by omega) (by omega),Ze (n:=F.hi - draws[k].water) (by omega) (by omega),Ze (n:=(k:Int)+1) (by omega) (by omega)]
         refine ⟨(k+1,⟨max 0 (F.lo - draws[k].water),F.hi - draws[k].water⟩,draws[k].day),⟨hlt2,hi2,by simp only;omega,by simp only;omega,by simp only;omega,by simp only;omega,by simp only;omega,by simp only;omega⟩,by simp only;omega,?_⟩
         (refine Zk ?_ ?_ ?_ rfl rfl<;>dsimp only [Zh,Zf,Zl,Zz,Zc,id,go_sem,rA,rM,rS]<;>simp [Zh,Zf,Zl,Zz,Zc,Za,Zi,KFR,KFL,KF,Zd,mtO,nbr])
   . refine Zs (by simp;omega) ?_
     dsimp only [go_sem,rA,rM,rS]
     rw [Ze (n:=day - (ev+1)) (by omega) (by omega),show day - (ev+1)=day - 1 - ev from by omega]
     refine call (Zbs l.wells[kw] now (day - 1 - ev) hok n1 n2 n3 n4 (by omega) (by omega)) ?_
     dsimp only [Zc,go_sem,rA,rM,rS]
     have hk':k=draws.length:=by omega
     subst hk'
     simp only [List.drop_length,X8] at hi2
     rw [<- hi2];rfl
end Go.Proofs.YtiigiflofnjilaaGreat
namespace Go.Azalai
def ZU (p:Span):Bool:=Z0 1 100000 p
def Us (l:Land) (p:Span):Int:=if ZS l=false then 30 else if ZU p=false then 31 else 0
def Vz (x:Leg) (p:Span):Span:=⟨(x.long.lo+p.hi - 1).tdiv p.hi,(x.long.hi+p.lo - 1).tdiv p.lo⟩
def Vy (n day:Int) (o s:Gate->Int):List Gate->Int
 | []=>100001
 | g :: r=>if max day (o g)+n - 1<=s g then max day (o g) else Vy n day o s r
def ZdX (n day:Int) (o s:Gate->Int) (acc:Int):List Gate->Int
 | []=>acc
 | g :: r=>ZdX n day o s (if max day (o g)+n - 1<=s g then min (min acc (max day (o g))) 100001 else acc) r
def Zih (x:Leg) (p:Span) (day:Int):Int:=Vy (Vz x p).lo day (·.opens.lo) (·.shuts.hi) x.gates
def Zeo (x:Leg) (p:Span) (day:Int):Int:=Vy (Vz x p).hi day (·.opens.hi) (·.shuts.lo) x.gates
def Yz (l:Land) (leg:Int) (p:Span):Span × Int :=
 if Us l p≠0 then (⟨0,0⟩,Us l p)
 else if inR 0 (l.legs.length - 1) leg=false then (⟨0,0⟩,2)
 else match l.legs[leg.toNat]? with
  | some x=>(Vz x p,0)
  | none=>(⟨0,0⟩,0)
structure GoodLeg (x:Leg):Prop where
 l1:1<=x.long.lo
 l2:x.long.lo<=x.long.hi
 l3:x.long.hi<=1000000
 g1:x.gates.length<=6
 g2:Yn 0 x.gates=true
theorem Xn {l:Land} (h:ZS l=true):∀ x ∈ l.legs,GoodLeg x:=by
 simp only [ZS,Bool.and_eq_true,List.all_eq_true] at h
 intro x hx
 have:=h.2 x hx
 simp only [XX,Z0,Bool.and_eq_true,decide_eq_true_eq] at this
 exact ⟨by omega,by omega,by omega,by omega,this.2⟩
theorem YF:∀ {l:List Gate} {next:Int},Yn next l=true->0<=next->∀ g ∈ l,0<=g.opens.lo/\g.opens.lo<=g.opens.hi/\g.opens.hi<=100000/\0<=g.shuts.lo/\g.shuts.lo<=g.shuts.hi/\g.shuts.hi<=100000/\next<=g.opens.lo
 | [],_,_,_,g,hg=>by simp at hg
 | x :: l,next,h,h0,g,hg=>by
  simp only [Yn,Z0,inR,Bool.and_eq_true,decide_eq_true_eq] at h
  rcases List.mem_cons.1 hg with rfl | hg
  . omega
  . have:=YF h.2 (by omega) g hg;omega
theorem Zb0 {n day:Int} {o s:Gate->Int} (hn:1<=n) (ho:∀ g,(0<=g.opens.lo/\g.opens.lo<=g.opens.hi/\g.opens.hi<=100000/\0<=g.shuts.lo/\g.shuts.lo<=g.shuts.hi/\g.shuts.hi<=100000)->g.opens.lo<=o g/\s g<=g.shuts.hi) :
 ∀ {l:List Gate} {next acc:Int},Yn next l=true->0<=next->acc<=100001->ZdX n day o s acc l=min acc (Vy n day o s l)
 | [],next,acc,_,_,ha=>by simp only [ZdX,Vy];omega
 | x :: l,next,acc,h,h0,ha=>by
  have hm:=YF h h0 x (by simp)
  simp only [Yn,Z0,inR,Bool.and_eq_true,decide_eq_true_eq] at h
  have h1:=ho x ⟨hm.1,hm.2.1,hm.2.2.1,hm.2.2.2.1,hm.2.2.2.2.1,hm.2.2.2.2.2.1⟩
  have hrest:∀ (l:List Gate),(∀ g ∈ l,x.shuts.hi+1<=o g)->x.shuts.hi+1<=Vy n day o s l:=fun l=>by
   induction l with
   | nil=>intro _;simp only [Vy];omega
   | cons g l ih=>intro hg;simp only [Vy];have:=hg g (by simp);have:=ih (fun g' h'=>hg g' (by simp [h']));split<;>omega
  have hr:=hrest l (fun g hg=>by
   have q:=YF h.2 (by omega) g hg
   have:=ho g ⟨q.1,q.2.1,q.2.2.1,q.2.2.2.1,q.2.2.2.2.1,q.2.2.2.2.2.1⟩
   omega)
  simp only [ZdX,Vy]
  rw [Zb0 hn ho h.2 (by omega) (by split<;>omega)]
  repeat' split
  all_goals first | rfl | omega
theorem day_bd {x:Leg} {p:Span} (h:GoodLeg x) (hp:ZU p=true):1<=(Vz x p).lo/\(Vz x p).lo<=1000000/\1<=(Vz x p).hi/\(Vz x p).hi<=1000000:=by
 simp only [ZU,Z0,decide_eq_true_eq] at hp
 obtain ⟨p1,p2,p3⟩:=hp
 obtain ⟨h1,h2,h3,_,_⟩:=h
 simp only [Vz]
 have key:∀ a b:Int,1<=a->a<=1000000->1<=b->1<=(a+b - 1).tdiv b/\(a+b - 1).tdiv b<=1000000:=fun a b ha ha2 hb=>by
  rw [Int.tdiv_eq_ediv_of_nonneg (by omega)]
  constructor
  . exact Int.le_ediv_of_mul_le (by omega) (by omega)
  . refine Int.le_of_lt_add_one (Int.ediv_lt_of_lt_mul (by omega) ?_)
    have:1 * a<=b * a:=Int.mul_le_mul_of_nonneg_right hb (by omega)
    have e:(1000000+1) * b=b * 1000000+b:=by rw [Int.add_mul];omega
    have:b * a<=b * 1000000:=Int.mul_le_mul_of_nonneg_left ha2 (by omega)
    rw [e]
    have:=Int.mul_le_mul_of_nonneg_left ha2 (show (0:Int)<=b - 1 by omega)
    have q:(b - 1) * a=b * a - a:=by rw [Int.sub_mul];omega
    have q2:(b - 1) * 1000000=b * 1000000 - 1000000:=by rw [Int.sub_mul];omega
    omega
 exact ⟨(key _ _ h1 (by omega) (by omega)).1,(key _ _ h1 (by omega) (by omega)).2,(key _ _ (by omega) h3 p1).1,(key _ _ (by omega) h3 p1).2⟩
end Go.Azalai
namespace Go.Proofs.YtiigiflofnjilaaGreat
open Go Go.Sx Go.Azalai
def sres (r:Span × Int):SV:=.tup [.agg (Zc r.1),I r.2]
theorem Zje (l:Land) (hs:XM l):Ct Tryz.prog 93 [.agg (ZH l)] (I (if ZS l=true then 0 else 30)):=by
 refine t93.1 (by simp [ZH,Zf,Zl,Zh,Za,KFL,KF]) (by simp [KFL,KF]) ?_
 dsimp only [c93,r93,ZH,go_sem,rA,rM,rS]
 refine call (Zcg l hs) ?_
 dsimp only [go_sem,rA,rM,rS]
 refine br ?_ ?_
 . intro h
   dsimp only [go_sem,rA,rM,rS]
   have:ZS l=false:=by simpa using h
   simp [this]
 . intro h
   dsimp only [go_sem,rA,rM,rS]
   have:ZS l=true:=by simpa using h
   simp [this]
theorem ZeE (p:Span):Ct Tryz.prog 94 [.agg (Zc p)] (B (ZU p)):=by
 refine t94.1 (by simp [Zc,KFL,KF]) (by simp [KFL,KF]) ?_
 dsimp only [c94,r94,Zc,go_sem,rA,rM,rS]
 refine call (ZA p _ _) ?_
 dsimp only [go_sem,rA,rM,rS]
 simp [ZU]
theorem Zeg (l:Land) (hs:XM l) (p:Span):Ct Tryz.prog 115 [.agg (ZH l),.agg (Zc p)] (I (Us l p)):=by
 refine t115.1 (by simp [ZH,Zf,Zl,Zh,Zc,Za,KFL,KF]) (by simp [KFL,KF]) ?_
 dsimp only [c115,r115,ZH,Zc,go_sem,rA,rM,rS]
 refine call (Zcg l hs) ?_
 dsimp only [go_sem,rA,rM,rS]
 refine br ?_ ?_
 . intro h
   dsimp only [go_sem,rA,rM,rS]
   have:ZS l=false:=by simpa using h
   simp [Us,this]
 intro h
 dsimp only [go_sem,rA,rM,rS]
 refine call (ZeE p) ?_
 dsimp only [go_sem,rA,rM,rS]
 refine br ?_ ?_
 . intro h2
   dsimp only [go_sem,rA,rM,rS]
   have:ZU p=false:=by simpa using h2
   simp_all [Us]
 . intro h2
   dsimp only [go_sem,rA,rM,rS]
   have:ZU p=true:=by simpa using h2
   simp_all [Us]
theorem Um (x:Leg) (p:Span) (hx:GoodLeg x) (hp:ZU p=true):Ct Tryz.prog 149 [.agg (Zl x),.agg (Zc p)] (.agg (Zc (Vz x p))):=by
 have hb:=day_bd hx hp
 have hp':=hp
 simp only [ZU,Z0,decide_eq_true_eq] at hp'
 obtain ⟨h1,h2,h3,h4,h5⟩:=hx
 refine t149.1 (by simp [Zl,Zh,Zc,Za,KFL,KF]) (by simp [Zc,KFL,KF]) ?_
 dsimp only [c149,r149,Zl,Zc,go_sem,rA,rM,rS]
 rw [Ze (n:=x.long.lo+p.hi) (by omega) (by omega),Ze (n:=x.long.lo+p.hi - 1) (by omega) (by omega)]
 refine ZcI (by omega) ?_
 dsimp only [go_sem,rA,rM,rS]
 rw [Ze (n:=x.long.hi+p.lo) (by omega) (by omega),Ze (n:=x.long.hi+p.lo - 1) (by omega) (by omega)]
 refine ZcI (by omega) ?_
 dsimp only [go_sem,rA,rM,rS]
 simp only [Vz] at hb ⊢
 rw [Ze (n:=(x.long.lo+p.hi - 1).tdiv p.hi) (by omega) (by omega),Ze (n:=(x.long.hi+p.lo - 1).tdiv p.lo) (by omega) (by omega)]
theorem Zpw (x:Leg) (day:Int) (p:Span) (hx:GoodLeg x) (hp:ZU p=true) (hd:inR 0 100001 day=true):Ct Tryz.prog 145 [.agg (Zl x),I day,.agg (Zc p)] (I (Zih x p day)):=by
 have hb:=day_bd hx hp
 have hg:=YF hx.g2 (Int.le_refl _)
 have hl:=hx.g1
 simp only [inR,decide_eq_true_eq] at hd
 refine t145.1 (by simp [Zl,Zh,Zc,Za,KFL,KF]) (by simp [KFL,KF]) ?_
 dsimp only [c145,r145,Zl,Zc,go_sem,rA,rM,rS]
 refine YV (fun k:Nat=>[(7,I k)]) (fun _=>[]) (fun k=>k<=x.gates.length/\Vy (Vz x p).lo day (·.opens.lo) (·.shuts.hi) (x.gates.drop k)=Zih x p day) (fun k=>x.gates.length - k) 0 ⟨Nat.zero_le _,rfl⟩ ?_ ?_
 . (refine Zk ?_ ?_ ?_ rfl rfl<;>dsimp only [Zh,Zl,Zc,id,go_sem,rA,rM,rS]<;>simp [Zh,Zl,Zc,Za,Zi,KFR,KFL,KF,Zd,mtO,nbr])
 intro k ⟨hk,hi⟩
 dsimp only [go_sem,rA,rM,rS]
 by_cases hlt:k < x.gates.length
 . refine Zr (by simpa using hlt) ?_
   dsimp only [go_sem,rA,rM,rS]
   have hgk:=hg x.gates[k] (List.getElem_mem _)
   rw [List.drop_eq_getElem_cons hlt,Vy] at hi
   refine Zm k hlt rfl ?_
   dsimp only [Zh,go_sem,rA,rM,rS]
   repeat (first | (refine gb ?_;dsimp only [go_sem,rA,rM,rS]) | (refine call (Um x p hx hp) ?_;dsimp only [Zc,go_sem,rA,rM,rS]) | (refine Zm k hlt rfl ?_;dsimp only [Zh,go_sem,rA,rM,rS]))
   rw [Ze (n:=max day x.gates[k].opens.lo+(Vz x p).lo) (by omega) (by omega),Ze (n:=max day x.gates[k].opens.lo+(Vz x p).lo - 1) (by omega) (by omega)]
   refine br ?_ ?_
   . intro h
     dsimp only [go_sem,rA,rM,rS]
     rw [if_pos (by simpa using h)] at hi
     rw [<- hi]
   . intro h
     dsimp only [go_sem,rA,rM,rS]
     rw [if_neg (by simpa using h)] at hi
     rw [Ze (n:=(k:Int)+1) (by omega) (by omega)]
     refine ⟨k+1,⟨hlt,hi⟩,by omega,?_⟩
     (refine Zk ?_ ?_ ?_ rfl rfl<;>dsimp only [Zh,Zl,Zc,id,go_sem,rA,rM,rS]<;>simp [Zh,Zl,Zc,Za,Zi,KFR,KFL,KF,Zd,mtO,nbr])
 refine Zs (by simp;omega) ?_
 dsimp only [go_sem,rA,rM,rS]
 have hke:k=x.gates.length:=by omega
 subst hke
 rw [List.drop_length,Vy] at hi
 rw [<- hi]
theorem Zjj (x:Leg) (day:Int) (p:Span) (hx:GoodLeg x) (hp:ZU p=true) (hd:inR 0 100001 day=true):Ct Tryz.prog 146 [.agg (Zl x),I day,.agg (Zc p)] (I (Zeo x p day)):=by
 have hb:=day_bd hx hp
 have hg:=YF hx.g2 (Int.le_refl _)
 have hl:=hx.g1
 simp only [inR,decide_eq_true_eq] at hd
 refine t146.1 (by simp [Zl,Zh,Zc,Za,KFL,KF]) (by simp [KFL,KF]) ?_
 dsimp only [c146,r146,Zl,Zc,go_sem,rA,rM,rS]
 refine YV (fun k:Nat=>[(7,I k)]) (fun _=>[]) (fun k=>k<=x.gates.length/\Vy (Vz x p).hi day (·.opens.hi) (·.shuts.lo) (x.gates.drop k)=Zeo x p day) (fun k=>x.gates.length - k) 0 ⟨Nat.zero_le _,rfl⟩ ?_ ?_
 . (refine Zk ?_ ?_ ?_ rfl rfl<;>dsimp only [Zh,Zl,Zc,id,go_sem,rA,rM,rS]<;>simp [Zh,Zl,Zc,Za,Zi,KFR,KFL,KF,Zd,mtO,nbr])
 intro k ⟨hk,hi⟩
 dsimp only [go_sem,rA,rM,rS]
 by_cases hlt:k < x.gates.length
 . refine Zr (by simpa using hlt) ?_
   dsimp only [go_sem,rA,rM,rS]
   have hgk:=hg x.gates[k] (List.getElem_mem _)
   rw [List.drop_eq_getElem_cons hlt,Vy] at hi
   refine Zm k hlt rfl ?_
   dsimp only [Zh,go_sem,rA,rM,rS]
   repeat (first | (refine gb ?_;dsimp only [go_sem,rA,rM,rS]) | (refine call (Um x p hx hp) ?_;dsimp only [Zc,go_sem,rA,rM,rS]) | (refine Zm k hlt rfl ?_;dsimp only [Zh,go_sem,rA,rM,rS]))
   rw [Ze (n:=max day x.gates[k].opens.hi+(Vz x p).hi) (by omega) (by omega),Ze (n:=max day x.gates[k].opens.hi+(Vz x p).hi - 1) (by omega) (by omega)]
   refine br ?_ ?_
   . intro h
     dsimp only [go_sem,rA,rM,rS]
     rw [if_pos (by simpa using h)] at hi
     rw [<- hi]
   . intro h
     dsimp only [go_sem,rA,rM,rS]
     rw [if_neg (by simpa using h)] at hi
     rw [Ze (n:=(k:Int)+1) (by omega) (by omega)]
     refine ⟨k+1,⟨hlt,hi⟩,by omega,?_⟩
     (refine Zk ?_ ?_ ?_ rfl rfl<;>dsimp only [Zh,Zl,Zc,id,go_sem,rA,rM,rS]<;>simp [Zh,Zl,Zc,Za,Zi,KFR,KFL,KF,Zd,mtO,nbr])
 refine Zs (by simp;omega) ?_
 dsimp only [go_sem,rA,rM,rS]
 have hke:k=x.gates.length:=by omega
 subst hke
 rw [List.drop_length,Vy] at hi
 rw [<- hi]
theorem Zha {l:Land} {leg:Int} (h:inR 0 (l.legs.length - 1) leg=true):∃ (k:Nat) (hk:k < l.legs.length),leg=(k:Int)/\l.legs[leg.toNat]? = some l.legs[k]:=by
 simp only [inR,decide_eq_true_eq] at h
 refine ⟨leg.toNat,by omega,by omega,?_⟩
 rw [List.getElem?_eq_getElem (by omega)]
theorem ask0 {l:Land} {p:Span} (h:Us l p=0):ZS l=true/\ZU p=true:=by
 unfold Us at h
 cases h1:ZS l<;>cases h2:ZU p<;>simp_all
theorem Zmy (l:Land) (hs:XM l) (leg:Int) (p:Span):Ct Tryz.prog 106 [.agg (ZH l),I leg,.agg (Zc p)] (sres (Yz l leg p)):=by
 have hw1:IntKind.i64.wrap ((l.legs.length:Int) - 1)=(l.legs.length:Int) - 1:=Ze (by omega) (by have:=hs.2.1;omega)
 refine t106.1 (by simp [ZH,Zf,Zl,Zh,Zc,Za,KFL,KF]) (by simp [sres,Zc,KFL,KF]) ?_
 dsimp only [c106,r106,ZH,Zc,go_sem,rA,rM,rS]
 refine call (Zeg l hs p) ?_
 dsimp only [go_sem,rA,rM,rS]
 by_cases ha:Us l p=0
 case neg =>
  refine Zr (by simpa using ha) ?_
  dsimp only [go_sem,rA,rM,rS]
  simp [Yz,ha,sres,Zc]
 refine Zs (by simpa using ha) ?_
 dsimp only [go_sem,rA,rM,rS]
 simp only [List.length_map,hw1]
 repeat (first | (refine gb ?_;dsimp only [go_sem,rA,rM,rS]) | (refine call (Z7 _ _ _) ?_;dsimp only [go_sem,rA,rM,rS]))
 by_cases hr:inR 0 (l.legs.length - 1) leg=true
 case neg =>
  refine Zr (by grind) ?_
  dsimp only [go_sem,rA,rM,rS]
  simp [Yz,ha,hr,sres,Zc]
 refine Zs (by grind) ?_
 dsimp only [go_sem,rA,rM,rS]
 obtain ⟨k,hk,rfl,hget⟩:=Zha hr
 obtain ⟨hol,hop⟩:=ask0 ha
 have hx:=Xn hol l.legs[k] (List.getElem_mem _)
 refine Zm k hk rfl ?_
 dsimp only [Zl,go_sem,rA,rM,rS]
 refine call (Um l.legs[k] p hx hop) ?_
 dsimp only [Zc,go_sem,rA,rM,rS]
 simp only [Yz,ha,hr,hget,sres,Zc]
 simp
end Go.Proofs.YtiigiflofnjilaaGreat
