/- Walks and plain laws that lead to the given statement, part 6 of 9. -/
import Derived.Test.YtiigiflofnjilaaGreatHE
import Derived.Test.YtiigiflofnjilaaGreatProg
set_option linter.all false
open Nat renaming reduceAdd→rA,reduceMul→rM,reduceSub→rS,beq_refl→nbr
set_option maxRecDepth 100000
namespace Go.Proofs.YtiigiflofnjilaaGreat
open Go Go.Sx
def c46:SC:=(.seq (.reg [
 o1 1 (.box (.t 0) 0 25),
 o1 2 (.mv (.c (.bool false)))])
 (.seq (.seq (.reg [
 o1 4 (.addo (.t 1) 0),
 o1 5 (.ld (.t 4) 1 false),
 o1 6 (.len (.t 5)),
 o1 7 (.bin .gtr (.t 6) (.c (.int .i64 20))),
 m1 8 7,
 ⟨some 9,.addo (.t 1) 1,some (8,false),[]⟩,
 ⟨some 10,.ld (.t 9) 1 false,some (8,false),[]⟩,
 ⟨some 11,.len (.t 10),some (8,false),[]⟩,
 ⟨some 12,.bin .gtr (.t 11) (.c (.int .i64 40)),some (8,false),[]⟩,
 o1 13 (.pick (.t 8) (.c (.bool true)) (.t 12))])
 (.cond (.t 13)
 (.seq (.reg [
  o1 2 (.mv (.c (.bool true)))])
  .ret)
 .skip))
 (.seq (.seq (.reg [
 o1 3 (.mv (.c (.int .i64 0)))])
 (.block 0 (.loop (.seq (.seq (.reg [
  m1 14 3,
  o1 15 (.addo (.t 1) 1),
  o1 16 (.ld (.t 15) 1 false),
  o1 17 (.len (.t 16)),
  o1 18 (.bin .lss (.t 14) (.t 17))])
  (.cond (.t 18)
  .skip
  (.exit 0)))
  (.seq (.block 1 (.seq (.reg [
   o1 21 (.addo (.t 1) 1),
   o1 22 (.ld (.t 21) 1 false),
   m1 23 3,
   o1 24 (.ixs (.t 22) (.t 23) 5),
   o1 25 (.addo (.t 24) 4),
   o1 26 (.ld (.t 25) 1 false),
   o1 27 (.len (.t 26)),
   o1 28 (.bin .gtr (.t 27) (.c (.int .i64 20)))])
   (.cond (.t 28)
   (.seq (.reg [
    o1 2 (.mv (.c (.bool true)))])
    .ret)
   .skip)))
  (.reg [
  m1 19 3,
  o1 20 (.bin .add (.t 19) (.c (.int .i64 1))),
  m1 3 20]))))))
 (.seq (.reg [
 o1 2 (.mv (.c (.bool false)))])
 .ret))))
def r46:List RV:=[.tmp 2]
theorem n46:Tryz.f46.ntmps=29:=by kernel_rfl
theorem b46:Zp Tryz.prog 46=true:=by kernel_rfl
theorem ZyB:Zy Tryz.prog c46 ((Tryz.f46.body).getD .skip)=true:=by kernel_rfl
theorem Zzr:ZA Tryz.prog r46 Tryz.f46.results.toList=true:=by kernel_rfl
theorem t46 {args:List SV} {res:SV} (ka:KFL args) (kr:KF res) (h:sx Tryz.prog Y0 0 c46 (st0 args 29) (ZQ r46 res)) (hA:Nat.ble args.length 29=true:=by rfl):Ct Tryz.prog 46 args res:=Zj Tryz.func46 rfl b46 ZyB Zzr n46 (Nat.le_of_ble_eq_true hA) ka kr h
def c42:SC:=(.seq (.reg [
 o1 4 (.box (.t 0) 0 25),
 o1 8 (.alloc [.int .i64 0,.int .i64 0] 27),
 o1 9 (.mv (.c (.int .i64 0))),
 o1 10 (.mv (.c (.int .i64 0)))])
 (.seq (.seq (.reg [
 o1 20 (.ld (.t 4) 2 true),
 o1 21 (.call 85 [.t 20]),
 m1 11 21])
 (.block 0 (.seq (.reg [
  m1 23 11,
  o1 24 (.bin .neq (.t 23) (.c (.int .i64 0))),
  m1 22 24])
  (.cond (.t 22)
  (.seq (.reg [
   o1 25 (.ld (.t 8) 2 true),
   m1 26 11,
   ⟨none,.st (.t 8) (.t 25) 2,none,[]⟩,
   o1 9 (.mv (.c (.int .i64 0))),
   m1 10 26])
   .ret)
  (.seq (.reg [
   o1 28 (.addo (.t 4) 0),
   o1 29 (.ld (.t 28) 1 false),
   o1 30 (.len (.t 29)),
   o1 31 (.bin .sub (.t 30) (.c (.int .i64 1))),
   m1 32 1,
   o1 33 (.bsl 1 3 [.t 32]),
   o1 34 (.call 76 [.c (.int .i64 0),.t 31,.t 33]),
   o1 35 (.un .not (.t 34)),
   m1 36 35,
   ⟨some 37,.mv (.t 3),some (36,false),[]⟩,
   ⟨some 38,.bsl 1 3 [.t 37],some (36,false),[]⟩,
   ⟨some 39,.call 76 [.c (.int .i64 0),.c (.int .i64 100000),.t 38],some (36,false),[]⟩,
   ⟨some 40,.un .not (.t 39),some (36,false),[]⟩,
   o1 41 (.pick (.t 36) (.c (.bool true)) (.t 40)),
   m1 27 41])
   (.cond (.t 27)
   (.seq (.reg [
    o1 42 (.ld (.t 8) 2 true),
    ⟨none,.st (.t 8) (.t 42) 2,none,[]⟩,
    o1 9 (.mv (.c (.int .i64 0))),
    o1 10 (.mv (.c (.int .i64 2)))])
    .ret)
   (.seq (.reg [
    m1 44 2,
    o1 45 (.len (.t 44)),
    o1 46 (.bin .gtr (.t 45) (.c (.int .i64 200))),
    m1 43 46])
    (.cond (.t 43)
    (.seq (.reg [
     o1 47 (.ld (.t 8) 2 true),
     ⟨none,.st (.t 8) (.t 47) 2,none,[]⟩,
     o1 9 (.mv (.c (.int .i64 0))),
     o1 10 (.mv (.c (.int .i64 4)))])
     .ret)
    .skip))))))))
 (.seq (.reg [
 o1 12 (.mv (.c (.int .i64 0)))])
 (.seq (.seq (.reg [
 m1 48 2,
 o1 49 (.len (.t 48)),
 o1 50 (.mv (.c (.int .i64 0)))])
 (.block 1 (.loop (.seq (.reg [
  o1 51 (.bin .lss (.t 50) (.t 49))])
  (.seq (.cond (.t 51)
  .skip
  (.exit 1))
  (.seq (.block 2 (.seq (.reg [
   o1 52 (.ixs (.t 48) (.t 50) 3),
   o1 53 (.ld (.t 52) 3 true),
   o1 14 (.alloc [.int .i64 0,.int .i64 0,.int .i64 0] 111),
   ⟨none,.st (.t 14) (.t 53) 3,none,[]⟩])
   (.seq (.seq (.reg [
   o1 54 (.addo (.t 4) 0),
   o1 55 (.ld (.t 54) 1 false),
   o1 56 (.len (.t 55)),
   o1 57 (.bin .sub (.t 56) (.c (.int .i64 1))),
   o1 58 (.addo (.t 14) 0),
   o1 59 (.ld (.t 58) 1 false),
   o1 60 (.bsl 1 3 [.t 59]),
   o1 61 (.call 76 [.c (.int .i64 0),.t 57,.t 60]),
   o1 62 (.un .not (.t 61)),
   m1 63 62,
   ⟨some 64,.mv (.t 12),some (63,false),[]⟩,
   ⟨some 65,.addo (.t 14) 1,some (63,false),[]⟩,
   ⟨some 66,.ld (.t 65) 1 false,some (63,false),[]⟩,
   ⟨some 67,.bsl 1 3 [.t 66],some (63,false),[]⟩,
   ⟨some 68,.call 76 [.t 64,.c (.int .i64 100000),.t 67],some (63,false),[]⟩,
   ⟨some 69,.un .not (.t 68),some (63,false),[]⟩,
   o1 70 (.pick (.t 63) (.c (.bool true)) (.t 69)),
   m1 71 70,
   ⟨some 72,.addo (.t 14) 2,some (71,false),[]⟩,
   ⟨some 73,.ld (.t 72) 1 false,some (71,false),[]⟩,
   ⟨some 74,.bsl 1 3 [.t 73],some (71,false),[]⟩,
   ⟨some 75,.call 76 [.c (.int .i64 0),.c (.int .i64 1000000000),.t 74],some (71,false),[]⟩,
   ⟨some 76,.un .not (.t 75),some (71,false),[]⟩,
   o1 77 (.pick (.t 71) (.c (.bool true)) (.t 76))])
   (.cond (.t 77)
   (.seq (.reg [
    o1 78 (.ld (.t 8) 2 true),
    ⟨none,.st (.t 8) (.t 78) 2,none,[]⟩,
    o1 9 (.mv (.c (.int .i64 0))),
    o1 10 (.mv (.c (.int .i64 32)))])
    .ret)
   .skip))
   (.reg [
   o1 79 (.addo (.t 14) 1),
   o1 80 (.ld (.t 79) 1 false),
   m1 12 80]))))
  (.reg [
  o1 81 (.bin .add (.t 50) (.c (.int .i64 1))),
  m1 50 81])))))))
 (.seq (.reg [
 o1 82 (.addo (.t 4) 0),
 o1 83 (.ld (.t 82) 1 false),
 m1 84 1,
 o1 85 (.ixs (.t 83) (.t 84) 9),
 o1 86 (.ld (.t 85) 9 true),
 o1 15 (.alloc [.int .i64 0,.int .i64 0,.int .i64 0,.int .i64 0,.int .i64 0,.int .i64 0,.int .i64 0,.int .i64 0,.int .i64 0] 88),
 ⟨none,.st (.t 15) (.t 86) 9,none,[]⟩])
 (.seq (.reg [
 o1 87 (.addo (.t 15) 6),
 o1 88 (.ld (.t 87) 2 true),
 o1 16 (.alloc [.int .i64 0,.int .i64 0] 27),
 ⟨none,.st (.t 16) (.t 88) 2,none,[]⟩,
 o1 17 (.mv (.c (.int .i64 (-1))))])
 (.seq (.seq (.reg [
 m1 89 2,
 o1 90 (.len (.t 89)),
 o1 91 (.mv (.c (.int .i64 0)))])
 (.block 3 (.loop (.seq (.reg [
  o1 92 (.bin .lss (.t 91) (.t 90))])
  (.seq (.cond (.t 92)
  .skip
  (.exit 3))
  (.seq (.block 4 (.seq (.reg [
   m1 93 91,
   o1 94 (.ixs (.t 89) (.t 91) 3),
   o1 95 (.ld (.t 94) 3 true),
   o1 19 (.alloc [.int .i64 0,.int .i64 0,.int .i64 0] 111),
   m1 18 93,
   ⟨none,.st (.t 19) (.t 95) 3,none,[]⟩])
   (.seq (.seq (.reg [
   o1 96 (.addo (.t 19) 0),
   o1 97 (.ld (.t 96) 1 false),
   m1 98 1,
   o1 99 (.bin .neq (.t 97) (.t 98)),
   m1 100 99,
   ⟨some 101,.addo (.t 19) 1,some (100,false),[]⟩,
   ⟨some 102,.ld (.t 101) 1 false,some (100,false),[]⟩,
   ⟨some 103,.mv (.t 3),some (100,false),[]⟩,
   ⟨some 104,.bin .geq (.t 102) (.t 103),some (100,false),[]⟩,
   o1 105 (.pick (.t 100) (.c (.bool true)) (.t 104))])
   (.cond (.t 105)
   (.exit 4)
   .skip))
   (.seq (.reg [
   o1 106 (.ld (.t 15) 9 true),
   o1 107 (.ld (.t 16) 2 true),
   o1 108 (.addo (.t 19) 1),
   o1 109 (.ld (.t 108) 1 false),
   m1 110 17,
   o1 111 (.bin .sub (.t 109) (.t 110)),
   o1 112 (.call 86 [.t 106,.t 107,.t 111]),
   ⟨none,.st (.t 16) (.t 112) 2,none,[]⟩])
   (.seq (.reg [
   o1 113 (.addo (.t 19) 1),
   o1 114 (.ld (.t 113) 1 false),
   m1 17 114])
   (.seq (.seq (.reg [
   o1 115 (.addo (.t 16) 1),
   o1 116 (.ld (.t 115) 1 false),
   o1 117 (.addo (.t 19) 2),
   o1 118 (.ld (.t 117) 1 false),
   o1 119 (.bin .lss (.t 116) (.t 118))])
   (.cond (.t 119)
   (.seq (.reg [
    o1 120 (.ld (.t 8) 2 true),
    m1 121 18,
    ⟨none,.st (.t 8) (.t 120) 2,none,[]⟩,
    m1 9 121,
    o1 10 (.mv (.c (.int .i64 33)))])
    .ret)
   .skip))
   (.reg [
   o1 122 (.addo (.t 16) 0),
   o1 123 (.ld (.t 122) 1 false),
   o1 124 (.addo (.t 19) 2),
   o1 125 (.ld (.t 124) 1 false),
   o1 126 (.bin .sub (.t 123) (.t 125)),
   o1 127 (.mm true [.c (.int .i64 0),.t 126]),
   o1 128 (.addo (.t 16) 1),
   o1 129 (.ld (.t 128) 1 false),
   o1 130 (.addo (.t 19) 2),
   o1 131 (.ld (.t 130) 1 false),
   o1 132 (.bin .sub (.t 129) (.t 131)),
   o1 133 (.build [.int .i64 0,.int .i64 0] [(0,1,.t 127),(1,1,.t 132)]),
   ⟨none,.st (.t 16) (.t 133) 2,none,[]⟩])))))))
  (.reg [
  o1 134 (.bin .add (.t 91) (.c (.int .i64 1))),
  m1 91 134])))))))
 (.seq (.reg [
 o1 135 (.ld (.t 15) 9 true),
 o1 136 (.ld (.t 16) 2 true),
 m1 137 3,
 o1 138 (.bin .sub (.t 137) (.c (.int .i64 1))),
 m1 139 17,
 o1 140 (.bin .sub (.t 138) (.t 139)),
 o1 141 (.call 86 [.t 135,.t 136,.t 140]),
 ⟨none,.st (.t 8) (.t 141) 2,none,[]⟩,
 o1 9 (.mv (.c (.int .i64 0))),
 o1 10 (.mv (.c (.int .i64 0)))])
 .ret))))))))
def r42:List RV:=[.cell 8 2 true,.tmp 9,.tmp 10]
theorem n42:Tryz.f42.ntmps=142:=by kernel_rfl
theorem b42:Zp Tryz.prog 42=true:=by kernel_rfl
theorem ZxD:Zy Tryz.prog c42 ((Tryz.f42.body).getD .skip)=true:=by kernel_rfl
theorem ZyX:ZA Tryz.prog r42 Tryz.f42.results.toList=true:=by kernel_rfl
theorem t42 {args:List SV} {res:SV} (ka:KFL args) (kr:KF res) (h:sx Tryz.prog Y0 0 c42 (st0 args 142) (ZQ r42 res)) (hA:Nat.ble args.length 142=true:=by rfl):Ct Tryz.prog 42 args res:=Zj Tryz.func42 rfl b42 ZxD ZyX n42 (Nat.le_of_ble_eq_true hA) ka kr h
def c108:SC:=(.seq (.reg [
 o1 4 (.box (.t 0) 0 25),
 o1 8 (.alloc [.int .i64 0,.int .i64 0] 27),
 o1 9 (.mv (.c (.int .i64 0))),
 o1 10 (.mv (.c (.int .i64 0)))])
 (.seq (.seq (.reg [
 o1 16 (.ld (.t 4) 2 true),
 o1 17 (.call 136 [.t 16]),
 o1 18 (.un .not (.t 17))])
 (.cond (.t 18)
 (.seq (.reg [
  o1 19 (.build [.int .i64 0,.int .i64 0] []),
  ⟨none,.st (.t 8) (.t 19) 2,none,[]⟩,
  o1 9 (.mv (.c (.int .i64 0))),
  o1 10 (.mv (.c (.int .i64 30)))])
  .ret)
 .skip))
 (.seq (.seq (.reg [
 m1 20 1,
 o1 21 (.addo (.t 4) 0),
 o1 22 (.ld (.t 21) 1 false),
 o1 23 (.len (.t 22)),
 o1 24 (.bin .sub (.t 23) (.c (.int .i64 1))),
 o1 25 (.call 88 [.t 20,.c (.int .i64 0),.t 24]),
 o1 26 (.un .not (.t 25)),
 m1 27 26,
 ⟨some 28,.mv (.t 3),some (27,false),[]⟩,
 ⟨some 29,.call 88 [.t 28,.c (.int .i64 0),.c (.int .i64 100000)],some (27,false),[]⟩,
 ⟨some 30,.un .not (.t 29),some (27,false),[]⟩,
 o1 31 (.pick (.t 27) (.c (.bool true)) (.t 30))])
 (.cond (.t 31)
 (.seq (.reg [
  o1 32 (.build [.int .i64 0,.int .i64 0] []),
  ⟨none,.st (.t 8) (.t 32) 2,none,[]⟩,
  o1 9 (.mv (.c (.int .i64 0))),
  o1 10 (.mv (.c (.int .i64 2)))])
  .ret)
 .skip))
 (.seq (.seq (.reg [
 m1 33 2,
 o1 34 (.len (.t 33)),
 o1 35 (.bin .gtr (.t 34) (.c (.int .i64 200)))])
 (.cond (.t 35)
 (.seq (.reg [
  o1 36 (.build [.int .i64 0,.int .i64 0] []),
  ⟨none,.st (.t 8) (.t 36) 2,none,[]⟩,
  o1 9 (.mv (.c (.int .i64 0))),
  o1 10 (.mv (.c (.int .i64 4)))])
  .ret)
 .skip))
 (.seq (.seq (.reg [
 o1 37 (.ld (.t 4) 2 true),
 m1 38 2,
 o1 39 (.call 45 [.t 37,.t 38]),
 o1 40 (.un .not (.t 39))])
 (.cond (.t 40)
 (.seq (.reg [
  o1 41 (.build [.int .i64 0,.int .i64 0] []),
  ⟨none,.st (.t 8) (.t 41) 2,none,[]⟩,
  o1 9 (.mv (.c (.int .i64 0))),
  o1 10 (.mv (.c (.int .i64 32)))])
  .ret)
 .skip))
 (.seq (.reg [
 o1 42 (.addo (.t 4) 0),
 o1 43 (.ld (.t 42) 1 false),
 m1 44 1,
 o1 45 (.ixs (.t 43) (.t 44) 9),
 o1 46 (.ld (.t 45) 9 true),
 o1 11 (.alloc [.int .i64 0,.int .i64 0,.int .i64 0,.int .i64 0,.int .i64 0,.int .i64 0,.int .i64 0,.int .i64 0,.int .i64 0] 88),
 ⟨none,.st (.t 11) (.t 46) 9,none,[]⟩])
 (.seq (.reg [
 o1 47 (.addo (.t 11) 6),
 o1 48 (.ld (.t 47) 2 true),
 o1 12 (.alloc [.int .i64 0,.int .i64 0] 27),
 ⟨none,.st (.t 12) (.t 48) 2,none,[]⟩,
 o1 13 (.mv (.c (.int .i64 0)))])
 (.seq (.seq (.reg [
 o1 14 (.mv (.c (.int .i64 0)))])
 (.block 0 (.loop (.seq (.seq (.reg [
  m1 49 14,
  m1 50 2,
  o1 51 (.len (.t 50)),
  o1 52 (.bin .lss (.t 49) (.t 51))])
  (.cond (.t 52)
  .skip
  (.exit 0)))
  (.seq (.block 1 (.seq (.reg [
   m1 55 2,
   m1 56 14,
   o1 57 (.ixs (.t 55) (.t 56) 3),
   o1 58 (.ld (.t 57) 3 true),
   o1 15 (.alloc [.int .i64 0,.int .i64 0,.int .i64 0] 111),
   ⟨none,.st (.t 15) (.t 58) 3,none,[]⟩])
   (.seq (.seq (.reg [
   o1 59 (.addo (.t 15) 0),
   o1 60 (.ld (.t 59) 1 false),
   m1 61 1,
   o1 62 (.bin .neq (.t 60) (.t 61)),
   m1 63 62,
   ⟨some 64,.addo (.t 15) 1,some (63,false),[]⟩,
   ⟨some 65,.ld (.t 64) 1 false,some (63,false),[]⟩,
   ⟨some 66,.mv (.t 3),some (63,false),[]⟩,
   ⟨some 67,.bin .geq (.t 65) (.t 66),some (63,false),[]⟩,
   o1 68 (.pick (.t 63) (.c (.bool true)) (.t 67))])
   (.cond (.t 68)
   (.exit 1)
   .skip))
   (.seq (.reg [
   o1 69 (.ld (.t 11) 9 true),
   o1 70 (.ld (.t 12) 2 true),
   o1 71 (.addo (.t 15) 1),
   o1 72 (.ld (.t 71) 1 false),
   o1 73 (.bin .add (.t 72) (.c (.int .i64 1))),
   m1 74 13,
   o1 75 (.bin .sub (.t 73) (.t 74)),
   o1 76 (.call 152 [.t 69,.t 70,.t 75]),
   ⟨none,.st (.t 12) (.t 76) 2,none,[]⟩])
   (.seq (.reg [
   o1 77 (.addo (.t 15) 1),
   o1 78 (.ld (.t 77) 1 false),
   o1 79 (.bin .add (.t 78) (.c (.int .i64 1))),
   m1 13 79])
   (.seq (.seq (.reg [
   o1 80 (.addo (.t 15) 2),
   o1 81 (.ld (.t 80) 1 false),
   o1 82 (.addo (.t 12) 1),
   o1 83 (.ld (.t 82) 1 false),
   o1 84 (.bin .gtr (.t 81) (.t 83))])
   (.cond (.t 84)
   (.seq (.reg [
    o1 85 (.build [.int .i64 0,.int .i64 0] []),
    m1 86 14,
    ⟨none,.st (.t 8) (.t 85) 2,none,[]⟩,
    m1 9 86,
    o1 10 (.mv (.c (.int .i64 33)))])
    .ret)
   .skip))
   (.reg [
   o1 87 (.addo (.t 12) 0),
   o1 88 (.ld (.t 87) 1 false),
   o1 89 (.addo (.t 15) 2),
   o1 90 (.ld (.t 89) 1 false),
   o1 91 (.bin .sub (.t 88) (.t 90)),
   o1 92 (.mm true [.c (.int .i64 0),.t 91]),
   o1 93 (.addo (.t 12) 1),
   o1 94 (.ld (.t 93) 1 false),
   o1 95 (.addo (.t 15) 2),
   o1 96 (.ld (.t 95) 1 false),
   o1 97 (.bin .sub (.t 94) (.t 96)),
   o1 98 (.build [.int .i64 0,.int .i64 0] [(0,1,.t 92),(1,1,.t 97)]),
   ⟨none,.st (.t 12) (.t 98) 2,none,[]⟩])))))))
  (.reg [
  m1 53 14,
  o1 54 (.bin .add (.t 53) (.c (.int .i64 1))),
  m1 14 54]))))))
 (.seq (.reg [
 o1 99 (.ld (.t 11) 9 true),
 o1 100 (.ld (.t 12) 2 true),
 m1 101 3,
 m1 102 13,
 o1 103 (.bin .sub (.t 101) (.t 102)),
 o1 104 (.call 152 [.t 99,.t 100,.t 103]),
 ⟨none,.st (.t 8) (.t 104) 2,none,[]⟩,
 o1 9 (.mv (.c (.int .i64 0))),
 o1 10 (.mv (.c (.int .i64 0)))])
 .ret)))))))))
def r108:List RV:=[.cell 8 2 true,.tmp 9,.tmp 10]
theorem n108:Tryz.f108.ntmps=105:=by kernel_rfl
theorem b108:Zp Tryz.prog 108=true:=by kernel_rfl
theorem ZuT:Zy Tryz.prog c108 ((Tryz.f108.body).getD .skip)=true:=by kernel_rfl
theorem Zvc:ZA Tryz.prog r108 Tryz.f108.results.toList=true:=by kernel_rfl
theorem t108 {args:List SV} {res:SV} (ka:KFL args) (kr:KF res) (h:sx Tryz.prog Y0 0 c108 (st0 args 105) (ZQ r108 res)) (hA:Nat.ble args.length 105=true:=by rfl):Ct Tryz.prog 108 args res:=Zj Tryz.func108 rfl b108 ZuT Zvc n108 (Nat.le_of_ble_eq_true hA) ka kr h
def c85:SC:=(.seq (.reg [
 o1 1 (.box (.t 0) 0 25),
 o1 2 (.mv (.c (.int .i64 0)))])
 (.seq (.reg [
 o1 5 (.addo (.t 1) 0),
 o1 6 (.ld (.t 5) 1 false),
 o1 7 (.call 129 [.t 6,.f 130]),
 o1 8 (.un .not (.t 7)),
 m1 3 8])
 (.seq (.reg [
 o1 9 (.addo (.t 1) 1),
 o1 10 (.ld (.t 9) 1 false),
 o1 11 (.mkf 133 [.t 1]),
 o1 12 (.call 132 [.t 10,.t 11]),
 o1 13 (.un .not (.t 12)),
 m1 4 13])
 (.seq (.seq (.reg [
 o1 14 (.addo (.t 1) 0),
 o1 15 (.ld (.t 14) 1 false),
 o1 16 (.len (.t 15)),
 o1 17 (.bsl 1 3 [.t 16]),
 o1 18 (.call 76 [.c (.int .i64 1),.c (.int .i64 12),.t 17]),
 o1 19 (.un .not (.t 18)),
 m1 20 19,
 ⟨some 21,.addo (.t 1) 1,some (20,false),[]⟩,
 ⟨some 22,.ld (.t 21) 1 false,some (20,false),[]⟩,
 ⟨some 23,.len (.t 22),some (20,false),[]⟩,
 ⟨some 24,.bin .gtr (.t 23) (.c (.int .i64 24)),some (20,false),[]⟩,
 o1 25 (.pick (.t 20) (.c (.bool true)) (.t 24)),
 m1 26 25,
 ⟨some 27,.mv (.t 3),some (26,false),[]⟩,
 ⟨some 28,.un .not (.t 27),some (26,false),[]⟩,
 o1 29 (.pick (.t 26) (.c (.bool true)) (.t 28)),
 m1 30 29,
 ⟨some 31,.mv (.t 4),some (30,false),[]⟩,
 ⟨some 32,.un .not (.t 31),some (30,false),[]⟩,
 o1 33 (.pick (.t 30) (.c (.bool true)) (.t 32))])
 (.cond (.t 33)
 (.seq (.reg [
  o1 2 (.mv (.c (.int .i64 30)))])
  .ret)
 .skip))
 (.seq (.reg [
 o1 2 (.mv (.c (.int .i64 0)))])
 .ret)))))
def r85:List RV:=[.tmp 2]
theorem n85:Tryz.f85.ntmps=34:=by kernel_rfl
theorem b85:Zp Tryz.prog 85=true:=by kernel_rfl
theorem ZxF:Zy Tryz.prog c85 ((Tryz.f85.body).getD .skip)=true:=by kernel_rfl
theorem Zze:ZA Tryz.prog r85 Tryz.f85.results.toList=true:=by kernel_rfl
theorem t85 {args:List SV} {res:SV} (ka:KFL args) (kr:KF res) (h:sx Tryz.prog Y0 0 c85 (st0 args 34) (ZQ r85 res)) (hA:Nat.ble args.length 34=true:=by rfl):Ct Tryz.prog 85 args res:=Zj Tryz.func85 rfl b85 ZxF Zze n85 (Nat.le_of_ble_eq_true hA) ka kr h
def c45:SC:=(.seq (.reg [
 o1 2 (.box (.t 0) 0 25),
 o1 4 (.mv (.c (.bool false)))])
 (.seq (.seq (.reg [
 o1 5 (.mv (.c (.int .i64 0)))])
 (.block 0 (.loop (.seq (.seq (.reg [
  m1 7 5,
  m1 8 1,
  o1 9 (.len (.t 8)),
  o1 10 (.bin .lss (.t 7) (.t 9))])
  (.cond (.t 10)
  .skip
  (.exit 0)))
  (.seq (.block 1 (.seq (.reg [
   m1 13 1,
   m1 14 5,
   o1 15 (.ixs (.t 13) (.t 14) 3),
   o1 16 (.ld (.t 15) 3 true),
   o1 6 (.alloc [.int .i64 0,.int .i64 0,.int .i64 0] 111),
   ⟨none,.st (.t 6) (.t 16) 3,none,[]⟩])
   (.seq (.regd [0,1,2,3,4,5,6,7,8,9,10,11,12,13,14,15,16,17,18,19,20,21,22,23,24,25,26,27,28,29,30,31,32,33,34] [
   .op (o1 17 (.addo (.t 6) 0)),
   .op ⟨some 18,.ld (.t 17) 1 false,none,[0]⟩,
   .op (o1 19 (.addo (.t 2) 0)),
   .op ⟨some 20,.ld (.t 19) 1 false,none,[2]⟩,
   .op ⟨some 21,.len (.t 20),none,[3]⟩,
   .op ⟨some 22,.bin .sub (.t 21) (.c (.int .i64 1)),none,[4]⟩,
   .op ⟨some 23,.call 88 [.t 18,.c (.int .i64 0),.t 22],none,[1,5]⟩,
   .op ⟨some 24,.un .not (.t 23),none,[6]⟩,
   .op ⟨some 25,.mv (.t 24),none,[6,7]⟩,
   .op ⟨some 26,.addo (.t 6) 1,some (25,false),[8]⟩,
   .op ⟨some 27,.ld (.t 26) 1 false,some (25,false),[8,9]⟩,
   .op ⟨some 28,.call 88 [.t 27,.c (.int .i64 0),.c (.int .i64 100000)],some (25,false),[8,10]⟩,
   .op ⟨some 29,.un .not (.t 28),some (25,false),[8,11]⟩,
   .op ⟨some 30,.pick (.t 25) (.c (.bool true)) (.t 29),none,[8,12]⟩,
   .op ⟨some 31,.mv (.t 30),none,[11,13]⟩,
   .op ⟨some 32,.addo (.t 6) 2,some (31,false),[14]⟩,
   .op ⟨some 33,.ld (.t 32) 1 false,some (31,false),[14,15]⟩,
   .op ⟨some 34,.call 88 [.t 33,.c (.int .i64 0),.c (.int .i64 1000000000)],some (31,false),[14,16]⟩,
   .op ⟨some 35,.un .not (.t 34),some (31,false),[14,17]⟩,
   .op ⟨some 36,.pick (.t 31) (.c (.bool true)) (.t 35),none,[14,18]⟩,
   .op ⟨some 37,.mv (.t 36),none,[17,19]⟩,
   .op ⟨some 38,.mv (.t 5),some (37,false),[20]⟩,
   .op ⟨some 39,.bin .gtr (.t 38) (.c (.int .i64 0)),some (37,false),[20,21]⟩,
   .op ⟨some 40,.mv (.t 39),some (37,false),[20,22]⟩,
   .op ⟨some 41,.addo (.t 6) 1,some (40,true),[23]⟩,
   .op ⟨some 42,.ld (.t 41) 1 false,some (40,true),[23,24]⟩,
   .op ⟨some 43,.mv (.t 1),some (40,true),[23]⟩,
   .op ⟨some 44,.mv (.t 5),some (40,true),[23]⟩,
   .op ⟨some 45,.bin .sub (.t 44) (.c (.int .i64 1)),some (40,true),[23,27]⟩,
   .op ⟨some 46,.ixs (.t 43) (.t 45) 3,some (40,true),[23,26,28]⟩,
   .op ⟨some 47,.addo (.t 46) 1,some (40,true),[23,29]⟩,
   .op ⟨some 48,.ld (.t 47) 1 false,some (40,true),[23,30]⟩,
   .op ⟨some 49,.bin .lss (.t 42) (.t 48),some (40,true),[23,25,31]⟩,
   .op ⟨some 50,.pick (.t 40) (.t 49) (.c (.bool false)),some (37,false),[20,23,32]⟩,
   .op ⟨some 51,.pick (.t 37) (.c (.bool true)) (.t 50),none,[20,33]⟩] 0 0 [
])
 (.cond (.t 51)
 (.seq (.reg [
  o1 4 (.mv (.c (.bool false)))])
  .ret)
 .skip))))
 (.reg [
 m1 11 5,
 o1 12 (.bin .add (.t 11) (.c (.int .i64 1))),
 m1 5 12]))))))
 (.seq (.reg [
 o1 4 (.mv (.c (.bool true)))])
 .ret)))
def r45:List RV:=[.tmp 4]
theorem n45:Tryz.f45.ntmps=52:=by kernel_rfl
theorem b45:Zp Tryz.prog 45=true:=by kernel_rfl
theorem ZyO:Zy Tryz.prog c45 ((Tryz.f45.body).getD .skip)=true:=by kernel_rfl
theorem ZxS:ZA Tryz.prog r45 Tryz.f45.results.toList=true:=by kernel_rfl
theorem t45 {args:List SV} {res:SV} (ka:KFL args) (kr:KF res) (h:sx Tryz.prog Y0 0 c45 (st0 args 52) (ZQ r45 res)) (hA:Nat.ble args.length 52=true:=by rfl):Ct Tryz.prog 45 args res:=Zj Tryz.func45 rfl b45 ZyO ZxS n45 (Nat.le_of_ble_eq_true hA) ka kr h
def c76:SC:=(.seq (.reg [
 o1 3 (.box (.t 0) 0 3),
 o1 4 (.box (.t 1) 0 3),
 o1 6 (.mv (.c (.bool false)))])
 (.seq (.reg [
 m1 7 2,
 o1 8 (.mkf 121 [.t 3,.t 4]),
 o1 9 (.call 98 [.t 7,.t 8]),
 o1 10 (.un .not (.t 9)),
 m1 6 10])
 .ret))
def r76:List RV:=[.tmp 6]
theorem n76:Tryz.f76.ntmps=11:=by kernel_rfl
theorem b76:Zp Tryz.prog 76=true:=by kernel_rfl
theorem Zzi:Zy Tryz.prog c76 ((Tryz.f76.body).getD .skip)=true:=by kernel_rfl
theorem Zxr:ZA Tryz.prog r76 Tryz.f76.results.toList=true:=by kernel_rfl
theorem t76 {args:List SV} {res:SV} (ka:KFL args) (kr:KF res) (h:sx Tryz.prog Y0 0 c76 (st0 args 11) (ZQ r76 res)) (hA:Nat.ble args.length 11=true:=by rfl):Ct Tryz.prog 76 args res:=Zj Tryz.func76 rfl b76 Zzi Zxr n76 (Nat.le_of_ble_eq_true hA) ka kr h
def c86:SC:=(.seq (.reg [
 o1 3 (.box (.t 0) 0 88),
 o1 4 (.box (.t 1) 0 27),
 o1 6 (.alloc [.int .i64 0,.int .i64 0] 27)])
 (.seq (.reg [
 o1 7 (.addo (.t 3) 5),
 o1 8 (.ld (.t 7) 1 false),
 o1 9 (.addo (.t 4) 0),
 o1 10 (.ld (.t 9) 1 false),
 m1 11 2,
 o1 12 (.addo (.t 3) 3),
 o1 13 (.addo (.t 12) 0),
 o1 14 (.ld (.t 13) 1 false),
 o1 15 (.bin .mul (.t 11) (.t 14)),
 o1 16 (.bin .add (.t 10) (.t 15)),
 o1 17 (.mm false [.t 8,.t 16]),
 o1 18 (.addo (.t 3) 5),
 o1 19 (.ld (.t 18) 1 false),
 o1 20 (.addo (.t 4) 1),
 o1 21 (.ld (.t 20) 1 false),
 m1 22 2,
 o1 23 (.addo (.t 3) 3),
 o1 24 (.addo (.t 23) 1),
 o1 25 (.ld (.t 24) 1 false),
 o1 26 (.bin .mul (.t 22) (.t 25)),
 o1 27 (.bin .add (.t 21) (.t 26)),
 o1 28 (.mm false [.t 19,.t 27]),
 o1 29 (.build [.int .i64 0,.int .i64 0] [(0,1,.t 17),(1,1,.t 28)]),
 ⟨none,.st (.t 6) (.t 29) 2,none,[]⟩])
 .ret))
def r86:List RV:=[.cell 6 2 true]
theorem n86:Tryz.f86.ntmps=30:=by kernel_rfl
theorem b86:Zp Tryz.prog 86=true:=by kernel_rfl
theorem Zyt:Zy Tryz.prog c86 ((Tryz.f86.body).getD .skip)=true:=by kernel_rfl
theorem Zxx:ZA Tryz.prog r86 Tryz.f86.results.toList=true:=by kernel_rfl
theorem t86 {args:List SV} {res:SV} (ka:KFL args) (kr:KF res) (h:sx Tryz.prog Y0 0 c86 (st0 args 30) (ZQ r86 res)) (hA:Nat.ble args.length 30=true:=by rfl):Ct Tryz.prog 86 args res:=Zj Tryz.func86 rfl b86 Zyt Zxx n86 (Nat.le_of_ble_eq_true hA) ka kr h
def c136:SC:=(.seq (.reg [
 o1 1 (.box (.t 0) 0 25),
 o1 2 (.mv (.c (.bool false)))])
 (.seq (.seq (.reg [
 o1 10 (.addo (.t 1) 0),
 o1 11 (.ld (.t 10) 1 false),
 o1 12 (.len (.t 11)),
 o1 13 (.call 88 [.t 12,.c (.int .i64 1),.c (.int .i64 12)]),
 o1 14 (.un .not (.t 13)),
 m1 15 14,
 ⟨some 16,.addo (.t 1) 1,some (15,false),[]⟩,
 ⟨some 17,.ld (.t 16) 1 false,some (15,false),[]⟩,
 ⟨some 18,.len (.t 17),some (15,false),[]⟩,
 ⟨some 19,.bin .gtr (.t 18) (.c (.int .i64 24)),some (15,false),[]⟩,
 o1 20 (.pick (.t 15) (.c (.bool true)) (.t 19))])
 (.cond (.t 20)
 (.seq (.reg [
  o1 2 (.mv (.c (.bool false)))])
  .ret)
 .skip))
 (.seq (.seq (.reg [
 o1 3 (.mv (.c (.int .i64 0)))])
 (.block 0 (.loop (.seq (.seq (.reg [
  m1 21 3,
  o1 22 (.addo (.t 1) 0),
  o1 23 (.ld (.t 22) 1 false),
  o1 24 (.len (.t 23)),
  o1 25 (.bin .lss (.t 21) (.t 24))])
  (.cond (.t 25)
  .skip
  (.exit 0)))
  (.seq (.block 1 (.seq (.reg [
   o1 28 (.addo (.t 1) 0),
   o1 29 (.ld (.t 28) 1 false),
   m1 30 3,
   o1 31 (.ixs (.t 29) (.t 30) 9),
   o1 32 (.ld (.t 31) 9 true),
   o1 4 (.alloc [.int .i64 0,.int .i64 0,.int .i64 0,.int .i64 0,.int .i64 0,.int .i64 0,.int .i64 0,.int .i64 0,.int .i64 0] 88),
   ⟨none,.st (.t 4) (.t 32) 9,none,[]⟩])
   (.seq (.reg [
   o1 33 (.addo (.t 4) 0),
   o1 34 (.ld (.t 33) 1 false),
   o1 35 (.call 88 [.t 34,.c (.int .i64 (-10000000)),.c (.int .i64 10000000)]),
   o1 36 (.un .not (.t 35)),
   m1 37 36,
   ⟨some 38,.addo (.t 4) 1,some (37,false),[]⟩,
   ⟨some 39,.ld (.t 38) 1 false,some (37,false),[]⟩,
   ⟨some 40,.call 88 [.t 39,.c (.int .i64 (-10000000)),.c (.int .i64 10000000)],some (37,false),[]⟩,
   ⟨some 41,.un .not (.t 40),some (37,false),[]⟩,
   o1 42 (.pick (.t 37) (.c (.bool true)) (.t 41)),
   m1 43 42,
   ⟨some 44,.addo (.t 4) 2,some (43,false),[]⟩,
   ⟨some 45,.ld (.t 44) 1 false,some (43,false),[]⟩,
   ⟨some 46,.call 88 [.t 45,.c (.int .i64 0),.c (.int .i64 200)],some (43,false),[]⟩,
   ⟨some 47,.un .not (.t 46),some (43,false),[]⟩,
   o1 48 (.pick (.t 43) (.c (.bool true)) (.t 47)),
   m1 49 48,
   ⟨some 50,.addo (.t 4) 3,some (49,false),[]⟩,
   ⟨some 51,.ld (.t 50) 2 true,some (49,false),[]⟩,
   ⟨some 52,.call 137 [.t 51,.c (.int .i64 0),.c (.int .i64 10000000)],some (49,false),[]⟩,
   ⟨some 53,.un .not (.t 52),some (49,false),[]⟩,
   o1 54 (.pick (.t 49) (.c (.bool true)) (.t 53)),
   m1 55 54,
   ⟨some 56,.addo (.t 4) 5,some (55,false),[]⟩,
   ⟨some 57,.ld (.t 56) 1 false,some (55,false),[]⟩,
   ⟨some 58,.call 88 [.t 57,.c (.int .i64 0),.c (.int .i64 1000000000)],some (55,false),[]⟩,
   ⟨some 59,.un .not (.t 58),some (55,false),[]⟩,
   o1 60 (.pick (.t 55) (.c (.bool true)) (.t 59)),
   m1 61 60,
   ⟨some 62,.addo (.t 4) 6,some (61,false),[]⟩,
   ⟨some 63,.ld (.t 62) 2 true,some (61,false),[]⟩,
   ⟨some 64,.addo (.t 4) 5,some (61,false),[]⟩,
   ⟨some 65,.ld (.t 64) 1 false,some (61,false),[]⟩,
   ⟨some 66,.call 137 [.t 63,.c (.int .i64 0),.t 65],some (61,false),[]⟩,
   ⟨some 67,.un .not (.t 66),some (61,false),[]⟩,
   o1 68 (.pick (.t 61) (.c (.bool true)) (.t 67)),
   m1 69 68,
   ⟨some 70,.addo (.t 4) 8,some (69,false),[]⟩,
   ⟨some 71,.ld (.t 70) 1 false,some (69,false),[]⟩,
   ⟨some 72,.call 88 [.t 71,.c (.int .i64 0),.c (.int .i64 9999)],some (69,false),[]⟩,
   ⟨some 73,.un .not (.t 72),some (69,false),[]⟩,
   o1 74 (.pick (.t 69) (.c (.bool true)) (.t 73))])
   (.cond (.t 74)
   (.seq (.reg [
    o1 2 (.mv (.c (.bool false)))])
    .ret)
   .skip))))
  (.reg [
  m1 26 3,
  o1 27 (.bin .add (.t 26) (.c (.int .i64 1))),
  m1 3 27]))))))
 (.seq (.seq (.reg [
 o1 5 (.mv (.c (.int .i64 0)))])
 (.block 2 (.loop (.seq (.seq (.reg [
  m1 75 5,
  o1 76 (.addo (.t 1) 1),
  o1 77 (.ld (.t 76) 1 false),
  o1 78 (.len (.t 77)),
  o1 79 (.bin .lss (.t 75) (.t 78))])
  (.cond (.t 79)
  .skip
  (.exit 2)))
  (.seq (.block 3 (.seq (.reg [
   o1 82 (.addo (.t 1) 1),
   o1 83 (.ld (.t 82) 1 false),
   m1 84 5,
   o1 85 (.ixs (.t 83) (.t 84) 5),
   o1 86 (.ld (.t 85) 5 true),
   o1 6 (.alloc [.int .i64 0,.int .i64 0,.int .i64 0,.int .i64 0,.slice none 0 0] 83),
   ⟨none,.st (.t 6) (.t 86) 5,none,[]⟩])
   (.seq (.seq (.reg [
   o1 87 (.addo (.t 6) 0),
   o1 88 (.ld (.t 87) 1 false),
   o1 89 (.addo (.t 1) 0),
   o1 90 (.ld (.t 89) 1 false),
   o1 91 (.len (.t 90)),
   o1 92 (.bin .sub (.t 91) (.c (.int .i64 1))),
   o1 93 (.call 88 [.t 88,.c (.int .i64 0),.t 92]),
   o1 94 (.un .not (.t 93)),
   m1 95 94,
   ⟨some 96,.addo (.t 6) 1,some (95,false),[]⟩,
   ⟨some 97,.ld (.t 96) 1 false,some (95,false),[]⟩,
   ⟨some 98,.addo (.t 1) 0,some (95,false),[]⟩,
   ⟨some 99,.ld (.t 98) 1 false,some (95,false),[]⟩,
   ⟨some 100,.len (.t 99),some (95,false),[]⟩,
   ⟨some 101,.bin .sub (.t 100) (.c (.int .i64 1)),some (95,false),[]⟩,
   ⟨some 102,.call 88 [.t 97,.c (.int .i64 0),.t 101],some (95,false),[]⟩,
   ⟨some 103,.un .not (.t 102),some (95,false),[]⟩,
   o1 104 (.pick (.t 95) (.c (.bool true)) (.t 103)),
   m1 105 104,
   ⟨some 106,.addo (.t 6) 0,some (105,false),[]⟩,
   ⟨some 107,.ld (.t 106) 1 false,some (105,false),[]⟩,
   ⟨some 108,.addo (.t 6) 1,some (105,false),[]⟩,
   ⟨some 109,.ld (.t 108) 1 false,some (105,false),[]⟩,
   ⟨some 110,.bin .eql (.t 107) (.t 109),some (105,false),[]⟩,
   o1 111 (.pick (.t 105) (.c (.bool true)) (.t 110)),
   m1 112 111,
   ⟨some 113,.addo (.t 6) 2,some (112,false),[]⟩,
   ⟨some 114,.ld (.t 113) 2 true,some (112,false),[]⟩,
   ⟨some 115,.call 137 [.t 114,.c (.int .i64 1),.c (.int .i64 1000000)],some (112,false),[]⟩,
   ⟨some 116,.un .not (.t 115),some (112,false),[]⟩,
   o1 117 (.pick (.t 112) (.c (.bool true)) (.t 116)),
   m1 118 117,
   ⟨some 119,.addo (.t 6) 4,some (118,false),[]⟩,
   ⟨some 120,.ld (.t 119) 1 false,some (118,false),[]⟩,
   ⟨some 121,.len (.t 120),some (118,false),[]⟩,
   ⟨some 122,.bin .gtr (.t 121) (.c (.int .i64 6)),some (118,false),[]⟩,
   o1 123 (.pick (.t 118) (.c (.bool true)) (.t 122))])
   (.cond (.t 123)
   (.seq (.reg [
    o1 2 (.mv (.c (.bool false)))])
    .ret)
   .skip))
   (.seq (.reg [
   o1 7 (.mv (.c (.int .i64 (-1))))])
   (.seq (.reg [
   o1 8 (.mv (.c (.int .i64 0)))])
   (.block 4 (.loop (.seq (.seq (.reg [
    m1 124 8,
    o1 125 (.addo (.t 6) 4),
    o1 126 (.ld (.t 125) 1 false),
    o1 127 (.len (.t 126)),
    o1 128 (.bin .lss (.t 124) (.t 127))])
    (.cond (.t 128)
    .skip
    (.exit 4)))
    (.seq (.block 5 (.seq (.reg [
     o1 131 (.addo (.t 6) 4),
     o1 132 (.ld (.t 131) 1 false),
     m1 133 8,
     o1 134 (.ixs (.t 132) (.t 133) 4),
     o1 135 (.ld (.t 134) 4 true),
     o1 9 (.alloc [.int .i64 0,.int .i64 0,.int .i64 0,.int .i64 0] 85),
     ⟨none,.st (.t 9) (.t 135) 4,none,[]⟩])
     (.seq (.seq (.reg [
     o1 136 (.addo (.t 9) 0),
     o1 137 (.ld (.t 136) 2 true),
     o1 138 (.call 137 [.t 137,.c (.int .i64 0),.c (.int .i64 100000)]),
     o1 139 (.un .not (.t 138)),
     m1 140 139,
     ⟨some 141,.addo (.t 9) 2,some (140,false),[]⟩,
     ⟨some 142,.ld (.t 141) 2 true,some (140,false),[]⟩,
     ⟨some 143,.call 137 [.t 142,.c (.int .i64 0),.c (.int .i64 100000)],some (140,false),[]⟩,
     ⟨some 144,.un .not (.t 143),some (140,false),[]⟩,
     o1 145 (.pick (.t 140) (.c (.bool true)) (.t 144)),
     m1 146 145,
     ⟨some 147,.addo (.t 9) 0,some (146,false),[]⟩,
     ⟨some 148,.addo (.t 147) 0,some (146,false),[]⟩,
     ⟨some 149,.ld (.t 148) 1 false,some (146,false),[]⟩,
     ⟨some 150,.addo (.t 9) 2,some (146,false),[]⟩,
     ⟨some 151,.addo (.t 150) 1,some (146,false),[]⟩,
     ⟨some 152,.ld (.t 151) 1 false,some (146,false),[]⟩,
     ⟨some 153,.bin .gtr (.t 149) (.t 152),some (146,false),[]⟩,
     o1 154 (.pick (.t 146) (.c (.bool true)) (.t 153)),
     m1 155 154,
     ⟨some 156,.addo (.t 9) 0,some (155,false),[]⟩,
     ⟨some 157,.addo (.t 156) 0,some (155,false),[]⟩,
     ⟨some 158,.ld (.t 157) 1 false,some (155,false),[]⟩,
     ⟨some 159,.mv (.t 7),some (155,false),[]⟩,
     ⟨some 160,.bin .leq (.t 158) (.t 159),some (155,false),[]⟩,
     o1 161 (.pick (.t 155) (.c (.bool true)) (.t 160))])
     (.cond (.t 161)
     (.seq (.reg [
      o1 2 (.mv (.c (.bool false)))])
      .ret)
     .skip))
     (.reg [
     o1 162 (.addo (.t 9) 2),
     o1 163 (.addo (.t 162) 1),
     o1 164 (.ld (.t 163) 1 false),
     m1 7 164]))))
    (.reg [
    m1 129 8,
    o1 130 (.bin .add (.t 129) (.c (.int .i64 1))),
    m1 8 130]))))))))))
  (.reg [
  m1 80 5,
  o1 81 (.bin .add (.t 80) (.c (.int .i64 1))),
  m1 5 81]))))))
 (.seq (.reg [
 o1 2 (.mv (.c (.bool true)))])
 .ret)))))
def r136:List RV:=[.tmp 2]
theorem n136:Tryz.f136.ntmps=165:=by kernel_rfl
theorem b136:Zp Tryz.prog 136=true:=by kernel_rfl
theorem ZuG:Zy Tryz.prog c136 ((Tryz.f136.body).getD .skip)=true:=by kernel_rfl
theorem ZvG:ZA Tryz.prog r136 Tryz.f136.results.toList=true:=by kernel_rfl
theorem t136 {args:List SV} {res:SV} (ka:KFL args) (kr:KF res) (h:sx Tryz.prog Y0 0 c136 (st0 args 165) (ZQ r136 res)) (hA:Nat.ble args.length 165=true:=by rfl):Ct Tryz.prog 136 args res:=Zj Tryz.func136 rfl b136 ZuG ZvG n136 (Nat.le_of_ble_eq_true hA) ka kr h
def c88:SC:=(.seq (.reg [
 o1 6 (.mv (.c (.bool false)))])
 (.seq (.reg [
 m1 7 0,
 m1 8 1,
 o1 9 (.bin .geq (.t 7) (.t 8)),
 m1 10 9,
 ⟨some 11,.mv (.t 0),some (10,true),[]⟩,
 ⟨some 12,.mv (.t 2),some (10,true),[]⟩,
 ⟨some 13,.bin .leq (.t 11) (.t 12),some (10,true),[]⟩,
 o1 14 (.pick (.t 10) (.t 13) (.c (.bool false))),
 m1 6 14])
 .ret))
def r88:List RV:=[.tmp 6]
theorem n88:Tryz.f88.ntmps=15:=by kernel_rfl
theorem b88:Zp Tryz.prog 88=true:=by kernel_rfl
theorem Zwm:Zy Tryz.prog c88 ((Tryz.f88.body).getD .skip)=true:=by kernel_rfl
theorem ZwQ:ZA Tryz.prog r88 Tryz.f88.results.toList=true:=by kernel_rfl
theorem t88 {args:List SV} {res:SV} (ka:KFL args) (kr:KF res) (h:sx Tryz.prog Y0 0 c88 (st0 args 15) (ZQ r88 res)) (hA:Nat.ble args.length 15=true:=by rfl):Ct Tryz.prog 88 args res:=Zj Tryz.func88 rfl b88 Zwm ZwQ n88 (Nat.le_of_ble_eq_true hA) ka kr h
def c152:SC:=(.seq (.reg [
 o1 3 (.box (.t 0) 0 88),
 o1 4 (.box (.t 1) 0 27),
 o1 6 (.alloc [.int .i64 0,.int .i64 0] 27)])
 (.seq (.reg [
 o1 7 (.addo (.t 3) 5),
 o1 8 (.ld (.t 7) 1 false),
 o1 9 (.addo (.t 4) 0),
 o1 10 (.ld (.t 9) 1 false),
 m1 11 2,
 o1 12 (.addo (.t 3) 3),
 o1 13 (.addo (.t 12) 0),
 o1 14 (.ld (.t 13) 1 false),
 o1 15 (.bin .mul (.t 11) (.t 14)),
 o1 16 (.bin .add (.t 10) (.t 15)),
 o1 17 (.mm false [.t 8,.t 16]),
 o1 18 (.addo (.t 3) 5),
 o1 19 (.ld (.t 18) 1 false),
 o1 20 (.addo (.t 4) 1),
 o1 21 (.ld (.t 20) 1 false),
 m1 22 2,
 o1 23 (.addo (.t 3) 3),
 o1 24 (.addo (.t 23) 1),
 o1 25 (.ld (.t 24) 1 false),
 o1 26 (.bin .mul (.t 22) (.t 25)),
 o1 27 (.bin .add (.t 21) (.t 26)),
 o1 28 (.mm false [.t 19,.t 27]),
 o1 29 (.build [.int .i64 0,.int .i64 0] [(0,1,.t 17),(1,1,.t 28)]),
 ⟨none,.st (.t 6) (.t 29) 2,none,[]⟩])
 .ret))
def r152:List RV:=[.cell 6 2 true]
theorem n152:Tryz.f152.ntmps=30:=by kernel_rfl
theorem b152:Zp Tryz.prog 152=true:=by kernel_rfl
theorem ZtF:Zy Tryz.prog c152 ((Tryz.f152.body).getD .skip)=true:=by kernel_rfl
theorem ZsO:ZA Tryz.prog r152 Tryz.f152.results.toList=true:=by kernel_rfl
theorem t152 {args:List SV} {res:SV} (ka:KFL args) (kr:KF res) (h:sx Tryz.prog Y0 0 c152 (st0 args 30) (ZQ r152 res)) (hA:Nat.ble args.length 30=true:=by rfl):Ct Tryz.prog 152 args res:=Zj Tryz.func152 rfl b152 ZtF ZsO n152 (Nat.le_of_ble_eq_true hA) ka kr h
def c129:SC:=(.seq (.reg [
 o1 4 (.mv (.c (.bool false)))])
 (.seq (.reg [
 m1 5 0,
 m1 6 1,
 o1 7 (.call 161 [.t 5,.t 6]),
 o1 8 (.bin .geq (.t 7) (.c (.int .i64 0))),
 m1 4 8])
 .ret))
def r129:List RV:=[.tmp 4]
theorem n129:Tryz.f129.ntmps=9:=by kernel_rfl
theorem b129:Zp Tryz.prog 129=true:=by kernel_rfl
theorem Zp3:Zy Tryz.prog c129 ((Tryz.f129.body).getD .skip)=true:=by kernel_rfl
theorem Zsz:ZA Tryz.prog r129 Tryz.f129.results.toList=true:=by kernel_rfl
theorem t129 {args:List SV} {res:SV} (ka:KFL args) (kr:KF res) (h:sx Tryz.prog Y0 0 c129 (st0 args 9) (ZQ r129 res)) (hA:Nat.ble args.length 9=true:=by rfl):Ct Tryz.prog 129 args res:=Zj Tryz.func129 rfl b129 Zp3 Zsz n129 (Nat.le_of_ble_eq_true hA) ka kr h
def c130:SC:=(.seq (.reg [
 o1 1 (.box (.t 0) 0 88),
 o1 2 (.mv (.c (.bool false)))])
 (.seq (.reg [
 o1 3 (.ld (.t 1) 9 true),
 o1 4 (.call 131 [.t 3]),
 o1 5 (.un .not (.t 4)),
 m1 2 5])
 .ret))
def r130:List RV:=[.tmp 2]
theorem n130:Tryz.f130.ntmps=6:=by kernel_rfl
theorem b130:Zp Tryz.prog 130=true:=by kernel_rfl
theorem ZvF:Zy Tryz.prog c130 ((Tryz.f130.body).getD .skip)=true:=by kernel_rfl
theorem ZsV:ZA Tryz.prog r130 Tryz.f130.results.toList=true:=by kernel_rfl
theorem t130 {args:List SV} {res:SV} (ka:KFL args) (kr:KF res) (h:sx Tryz.prog Y0 0 c130 (st0 args 6) (ZQ r130 res)) (hA:Nat.ble args.length 6=true:=by rfl):Ct Tryz.prog 130 args res:=Zj Tryz.func130 rfl b130 ZvF ZsV n130 (Nat.le_of_ble_eq_true hA) ka kr h
def c131:SC:=(.seq (.reg [
 o1 1 (.box (.t 0) 0 88),
 o1 2 (.mv (.c (.bool false)))])
 (.seq (.reg [
 o1 3 (.addo (.t 1) 0),
 o1 4 (.ld (.t 3) 1 false),
 o1 5 (.addo (.t 1) 1),
 o1 6 (.ld (.t 5) 1 false),
 o1 7 (.bsl 1 3 [.t 4,.t 6]),
 o1 8 (.call 76 [.c (.int .i64 (-10000000)),.c (.int .i64 10000000),.t 7]),
 m1 9 8,
 ⟨some 10,.addo (.t 1) 2,some (9,true),[]⟩,
 ⟨some 11,.ld (.t 10) 1 false,some (9,true),[]⟩,
 ⟨some 12,.bsl 1 3 [.t 11],some (9,true),[]⟩,
 ⟨some 13,.call 76 [.c (.int .i64 0),.c (.int .i64 200),.t 12],some (9,true),[]⟩,
 o1 14 (.pick (.t 9) (.t 13) (.c (.bool false))),
 m1 15 14,
 ⟨some 16,.addo (.t 1) 3,some (15,true),[]⟩,
 ⟨some 17,.ld (.t 16) 2 true,some (15,true),[]⟩,
 ⟨some 18,.bsl 2 27 [.t 17],some (15,true),[]⟩,
 ⟨some 19,.call 120 [.c (.int .i64 0),.c (.int .i64 10000000),.t 18],some (15,true),[]⟩,
 o1 20 (.pick (.t 15) (.t 19) (.c (.bool false))),
 m1 21 20,
 ⟨some 22,.addo (.t 1) 5,some (21,true),[]⟩,
 ⟨some 23,.ld (.t 22) 1 false,some (21,true),[]⟩,
 ⟨some 24,.bsl 1 3 [.t 23],some (21,true),[]⟩,
 ⟨some 25,.call 76 [.c (.int .i64 0),.c (.int .i64 1000000000),.t 24],some (21,true),[]⟩,
 o1 26 (.pick (.t 21) (.t 25) (.c (.bool false))),
 m1 27 26,
 ⟨some 28,.addo (.t 1) 5,some (27,true),[]⟩,
 ⟨some 29,.ld (.t 28) 1 false,some (27,true),[]⟩,
 ⟨some 30,.addo (.t 1) 6,some (27,true),[]⟩,
 ⟨some 31,.ld (.t 30) 2 true,some (27,true),[]⟩,
 ⟨some 32,.bsl 2 27 [.t 31],some (27,true),[]⟩,
 ⟨some 33,.call 120 [.c (.int .i64 0),.t 29,.t 32],some (27,true),[]⟩,
 o1 34 (.pick (.t 27) (.t 33) (.c (.bool false))),
 m1 35 34,
 ⟨some 36,.addo (.t 1) 8,some (35,true),[]⟩,
 ⟨some 37,.ld (.t 36) 1 false,some (35,true),[]⟩,
 ⟨some 38,.bsl 1 3 [.t 37],some (35,true),[]⟩,
 ⟨some 39,.call 76 [.c (.int .i64 0),.c (.int .i64 9999),.t 38],some (35,true),[]⟩,
 o1 40 (.pick (.t 35) (.t 39) (.c (.bool false))),
 m1 2 40])
 .ret))
def r131:List RV:=[.tmp 2]
theorem n131:Tryz.f131.ntmps=41:=by kernel_rfl
theorem b131:Zp Tryz.prog 131=true:=by kernel_rfl
theorem Zvq:Zy Tryz.prog c131 ((Tryz.f131.body).getD .skip)=true:=by kernel_rfl
theorem Zsl:ZA Tryz.prog r131 Tryz.f131.results.toList=true:=by kernel_rfl
theorem t131 {args:List SV} {res:SV} (ka:KFL args) (kr:KF res) (h:sx Tryz.prog Y0 0 c131 (st0 args 41) (ZQ r131 res)) (hA:Nat.ble args.length 41=true:=by rfl):Ct Tryz.prog 131 args res:=Zj Tryz.func131 rfl b131 Zvq Zsl n131 (Nat.le_of_ble_eq_true hA) ka kr h
def c132:SC:=(.seq (.reg [
 o1 4 (.mv (.c (.bool false)))])
 (.seq (.reg [
 m1 5 0,
 m1 6 1,
 o1 7 (.call 162 [.t 5,.t 6]),
 o1 8 (.bin .geq (.t 7) (.c (.int .i64 0))),
 m1 4 8])
 .ret))
def r132:List RV:=[.tmp 4]
theorem n132:Tryz.f132.ntmps=9:=by kernel_rfl
theorem b132:Zp Tryz.prog 132=true:=by kernel_rfl
theorem ZvM:Zy Tryz.prog c132 ((Tryz.f132.body).getD .skip)=true:=by kernel_rfl
theorem ZtX:ZA Tryz.prog r132 Tryz.f132.results.toList=true:=by kernel_rfl
theorem t132 {args:List SV} {res:SV} (ka:KFL args) (kr:KF res) (h:sx Tryz.prog Y0 0 c132 (st0 args 9) (ZQ r132 res)) (hA:Nat.ble args.length 9=true:=by rfl):Ct Tryz.prog 132 args res:=Zj Tryz.func132 rfl b132 ZvM ZtX n132 (Nat.le_of_ble_eq_true hA) ka kr h
def c133:SC:=(.seq (.reg [
 o1 2 (.box (.t 0) 0 83),
 o1 3 (.mv (.c (.bool false)))])
 (.seq (.reg [
 o1 4 (.ld (.t 2) 5 true),
 o1 5 (.addo (.t 1) 0),
 o1 6 (.ld (.t 5) 1 false),
 o1 7 (.len (.t 6)),
 o1 8 (.call 134 [.t 4,.t 7]),
 o1 9 (.un .not (.t 8)),
 m1 3 9])
 .ret))
def r133:List RV:=[.tmp 3]
theorem n133:Tryz.f133.ntmps=10:=by kernel_rfl
theorem b133:Zp Tryz.prog 133=true:=by kernel_rfl
theorem ZsY:Zy Tryz.prog c133 ((Tryz.f133.body).getD .skip)=true:=by kernel_rfl
theorem ZqP:ZA Tryz.prog r133 Tryz.f133.results.toList=true:=by kernel_rfl
theorem t133 {args:List SV} {res:SV} (ka:KFL args) (kr:KF res) (h:sx Tryz.prog Y0 0 c133 (st0 args 10) (ZQ r133 res)) (hA:Nat.ble args.length 10=true:=by rfl):Ct Tryz.prog 133 args res:=Zj Tryz.func133 rfl b133 ZsY ZqP n133 (Nat.le_of_ble_eq_true hA) ka kr h
def c134:SC:=(.seq (.reg [
 o1 2 (.box (.t 0) 0 83),
 o1 4 (.mv (.c (.bool false)))])
 (.seq (.seq (.reg [
 m1 8 1,
 o1 9 (.bin .sub (.t 8) (.c (.int .i64 1))),
 o1 10 (.addo (.t 2) 0),
 o1 11 (.ld (.t 10) 1 false),
 o1 12 (.addo (.t 2) 1),
 o1 13 (.ld (.t 12) 1 false),
 o1 14 (.bsl 1 3 [.t 11,.t 13]),
 o1 15 (.call 76 [.c (.int .i64 0),.t 9,.t 14]),
 o1 16 (.un .not (.t 15)),
 m1 17 16,
 ⟨some 18,.addo (.t 2) 0,some (17,false),[]⟩,
 ⟨some 19,.ld (.t 18) 1 false,some (17,false),[]⟩,
 ⟨some 20,.addo (.t 2) 1,some (17,false),[]⟩,
 ⟨some 21,.ld (.t 20) 1 false,some (17,false),[]⟩,
 ⟨some 22,.bin .eql (.t 19) (.t 21),some (17,false),[]⟩,
 o1 23 (.pick (.t 17) (.c (.bool true)) (.t 22)),
 m1 24 23,
 ⟨some 25,.addo (.t 2) 2,some (24,false),[]⟩,
 ⟨some 26,.ld (.t 25) 2 true,some (24,false),[]⟩,
 ⟨some 27,.bsl 2 27 [.t 26],some (24,false),[]⟩,
 ⟨some 28,.call 120 [.c (.int .i64 1),.c (.int .i64 1000000),.t 27],some (24,false),[]⟩,
 ⟨some 29,.un .not (.t 28),some (24,false),[]⟩,
 o1 30 (.pick (.t 24) (.c (.bool true)) (.t 29)),
 m1 31 30,
 ⟨some 32,.addo (.t 2) 4,some (31,false),[]⟩,
 ⟨some 33,.ld (.t 32) 1 false,some (31,false),[]⟩,
 ⟨some 34,.len (.t 33),some (31,false),[]⟩,
 ⟨some 35,.bin .gtr (.t 34) (.c (.int .i64 6)),some (31,false),[]⟩,
 o1 36 (.pick (.t 31) (.c (.bool true)) (.t 35))])
 (.cond (.t 36)
 (.seq (.reg [
  o1 4 (.mv (.c (.bool false)))])
  .ret)
 .skip))
 (.seq (.reg [
 o1 5 (.mv (.c (.int .i64 0)))])
 (.seq (.seq (.reg [
 o1 37 (.addo (.t 2) 4),
 o1 38 (.ld (.t 37) 1 false),
 o1 39 (.len (.t 38)),
 o1 40 (.mv (.c (.int .i64 0)))])
 (.block 0 (.loop (.seq (.reg [
  o1 41 (.bin .lss (.t 40) (.t 39))])
  (.seq (.cond (.t 41)
  .skip
  (.exit 0))
  (.seq (.block 1 (.seq (.reg [
   o1 42 (.ixs (.t 38) (.t 40) 4),
   o1 43 (.ld (.t 42) 4 true),
   o1 7 (.alloc [.int .i64 0,.int .i64 0,.int .i64 0,.int .i64 0] 85),
   ⟨none,.st (.t 7) (.t 43) 4,none,[]⟩])
   (.seq (.seq (.reg [
   o1 44 (.addo (.t 7) 0),
   o1 45 (.ld (.t 44) 2 true),
   o1 46 (.addo (.t 7) 2),
   o1 47 (.ld (.t 46) 2 true),
   o1 48 (.bsl 2 27 [.t 45,.t 47]),
   o1 49 (.call 120 [.c (.int .i64 0),.c (.int .i64 100000),.t 48]),
   o1 50 (.un .not (.t 49)),
   m1 51 50,
   ⟨some 52,.mv (.t 5),some (51,false),[]⟩,
   ⟨some 53,.addo (.t 7) 2,some (51,false),[]⟩,
   ⟨some 54,.addo (.t 53) 1,some (51,false),[]⟩,
   ⟨some 55,.ld (.t 54) 1 false,some (51,false),[]⟩,
   ⟨some 56,.addo (.t 7) 0,some (51,false),[]⟩,
   ⟨some 57,.addo (.t 56) 0,some (51,false),[]⟩,
   ⟨some 58,.ld (.t 57) 1 false,some (51,false),[]⟩,
   ⟨some 59,.bsl 1 3 [.t 58],some (51,false),[]⟩,
   ⟨some 60,.call 76 [.t 52,.t 55,.t 59],some (51,false),[]⟩,
   ⟨some 61,.un .not (.t 60),some (51,false),[]⟩,
   o1 62 (.pick (.t 51) (.c (.bool true)) (.t 61))])
   (.cond (.t 62)
   (.seq (.reg [
    o1 4 (.mv (.c (.bool false)))])
    .ret)
   .skip))
   (.reg [
   o1 63 (.addo (.t 7) 2),
   o1 64 (.addo (.t 63) 1),
   o1 65 (.ld (.t 64) 1 false),
   o1 66 (.bin .add (.t 65) (.c (.int .i64 1))),
   m1 5 66]))))
  (.reg [
  o1 67 (.bin .add (.t 40) (.c (.int .i64 1))),
  m1 40 67])))))))
 (.seq (.reg [
 o1 4 (.mv (.c (.bool true)))])
 .ret)))))
def r134:List RV:=[.tmp 4]
theorem n134:Tryz.f134.ntmps=68:=by kernel_rfl
theorem b134:Zp Tryz.prog 134=true:=by kernel_rfl
theorem Zq9:Zy Tryz.prog c134 ((Tryz.f134.body).getD .skip)=true:=by kernel_rfl
theorem ZqH:ZA Tryz.prog r134 Tryz.f134.results.toList=true:=by kernel_rfl
theorem t134 {args:List SV} {res:SV} (ka:KFL args) (kr:KF res) (h:sx Tryz.prog Y0 0 c134 (st0 args 68) (ZQ r134 res)) (hA:Nat.ble args.length 68=true:=by rfl):Ct Tryz.prog 134 args res:=Zj Tryz.func134 rfl b134 Zq9 ZqH n134 (Nat.le_of_ble_eq_true hA) ka kr h
def c98:SC:=(.seq (.reg [
 o1 4 (.mv (.c (.bool false)))])
 (.seq (.reg [
 m1 5 0,
 m1 6 1,
 o1 7 (.call 141 [.t 5,.t 6]),
 o1 8 (.bin .geq (.t 7) (.c (.int .i64 0))),
 m1 4 8])
 .ret))
def r98:List RV:=[.tmp 4]
theorem n98:Tryz.f98.ntmps=9:=by kernel_rfl
theorem b98:Zp Tryz.prog 98=true:=by kernel_rfl
theorem Zxz:Zy Tryz.prog c98 ((Tryz.f98.body).getD .skip)=true:=by kernel_rfl
theorem Zy0:ZA Tryz.prog r98 Tryz.f98.results.toList=true:=by kernel_rfl
theorem t98 {args:List SV} {res:SV} (ka:KFL args) (kr:KF res) (h:sx Tryz.prog Y0 0 c98 (st0 args 9) (ZQ r98 res)) (hA:Nat.ble args.length 9=true:=by rfl):Ct Tryz.prog 98 args res:=Zj Tryz.func98 rfl b98 Zxz Zy0 n98 (Nat.le_of_ble_eq_true hA) ka kr h
def c121:SC:=(.seq (.reg [
 o1 4 (.mv (.c (.bool false)))])
 (.seq (.reg [
 m1 5 0,
 o1 6 (.ld (.t 1) 1 false),
 o1 7 (.bin .lss (.t 5) (.t 6)),
 m1 8 7,
 ⟨some 9,.mv (.t 0),some (8,false),[]⟩,
 ⟨some 10,.ld (.t 2) 1 false,some (8,false),[]⟩,
 ⟨some 11,.bin .gtr (.t 9) (.t 10),some (8,false),[]⟩,
 o1 12 (.pick (.t 8) (.c (.bool true)) (.t 11)),
 m1 4 12])
 .ret))
def r121:List RV:=[.tmp 4]
theorem n121:Tryz.f121.ntmps=13:=by kernel_rfl
theorem b121:Zp Tryz.prog 121=true:=by kernel_rfl
theorem Zs7:Zy Tryz.prog c121 ((Tryz.f121.body).getD .skip)=true:=by kernel_rfl
theorem ZsA:ZA Tryz.prog r121 Tryz.f121.results.toList=true:=by kernel_rfl
theorem t121 {args:List SV} {res:SV} (ka:KFL args) (kr:KF res) (h:sx Tryz.prog Y0 0 c121 (st0 args 13) (ZQ r121 res)) (hA:Nat.ble args.length 13=true:=by rfl):Ct Tryz.prog 121 args res:=Zj Tryz.func121 rfl b121 Zs7 ZsA n121 (Nat.le_of_ble_eq_true hA) ka kr h
def c137:SC:=(.seq (.reg [
 o1 3 (.box (.t 0) 0 27),
 o1 6 (.mv (.c (.bool false)))])
 (.seq (.reg [
 o1 7 (.addo (.t 3) 0),
 o1 8 (.ld (.t 7) 1 false),
 m1 9 1,
 o1 10 (.addo (.t 3) 1),
 o1 11 (.ld (.t 10) 1 false),
 o1 12 (.call 88 [.t 8,.t 9,.t 11]),
 m1 13 12,
 ⟨some 14,.addo (.t 3) 1,some (13,true),[]⟩,
 ⟨some 15,.ld (.t 14) 1 false,some (13,true),[]⟩,
 ⟨some 16,.mv (.t 2),some (13,true),[]⟩,
 ⟨some 17,.bin .leq (.t 15) (.t 16),some (13,true),[]⟩,
 o1 18 (.pick (.t 13) (.t 17) (.c (.bool false))),
 m1 6 18])
 .ret))
def r137:List RV:=[.tmp 6]
theorem n137:Tryz.f137.ntmps=19:=by kernel_rfl
theorem b137:Zp Tryz.prog 137=true:=by kernel_rfl
theorem ZvC:Zy Tryz.prog c137 ((Tryz.f137.body).getD .skip)=true:=by kernel_rfl
theorem Zrv:ZA Tryz.prog r137 Tryz.f137.results.toList=true:=by kernel_rfl
theorem t137 {args:List SV} {res:SV} (ka:KFL args) (kr:KF res) (h:sx Tryz.prog Y0 0 c137 (st0 args 19) (ZQ r137 res)) (hA:Nat.ble args.length 19=true:=by rfl):Ct Tryz.prog 137 args res:=Zj Tryz.func137 rfl b137 ZvC Zrv n137 (Nat.le_of_ble_eq_true hA) ka kr h
def c120:SC:=(.seq (.reg [
 o1 3 (.box (.t 0) 0 3),
 o1 4 (.box (.t 1) 0 3),
 o1 6 (.mv (.c (.bool false)))])
 (.seq (.reg [
 m1 7 2,
 o1 8 (.mkf 158 [.t 3,.t 4]),
 o1 9 (.call 102 [.t 7,.t 8]),
 o1 10 (.un .not (.t 9)),
 m1 6 10])
 .ret))
def r120:List RV:=[.tmp 6]
theorem n120:Tryz.f120.ntmps=11:=by kernel_rfl
theorem b120:Zp Tryz.prog 120=true:=by kernel_rfl
theorem Ztp:Zy Tryz.prog c120 ((Tryz.f120.body).getD .skip)=true:=by kernel_rfl
theorem ZtV:ZA Tryz.prog r120 Tryz.f120.results.toList=true:=by kernel_rfl
theorem t120 {args:List SV} {res:SV} (ka:KFL args) (kr:KF res) (h:sx Tryz.prog Y0 0 c120 (st0 args 11) (ZQ r120 res)) (hA:Nat.ble args.length 11=true:=by rfl):Ct Tryz.prog 120 args res:=Zj Tryz.func120 rfl b120 Ztp ZtV n120 (Nat.le_of_ble_eq_true hA) ka kr h
def c161:SC:=(.seq (.reg [
 o1 4 (.mv (.c (.int .i64 0)))])
 (.seq (.seq (.reg [
 m1 6 0,
 o1 7 (.len (.t 6)),
 o1 8 (.mv (.c (.int .i64 0)))])
 (.block 0 (.loop (.seq (.reg [
  o1 9 (.bin .lss (.t 8) (.t 7))])
  (.seq (.cond (.t 9)
  .skip
  (.exit 0))
  (.seq (.block 1 (.seq (.reg [
   m1 10 8,
   m1 5 10])
   (.seq (.reg [
   m1 11 1,
   m1 12 0,
   m1 13 5,
   o1 14 (.ixs (.t 12) (.t 13) 9),
   o1 15 (.ld (.t 14) 9 true),
   o1 16 (.calv (.t 11) [.t 15])])
   (.cond (.t 16)
   (.seq (.reg [
    m1 17 5,
    m1 4 17])
    .ret)
   .skip))))
  (.reg [
  o1 18 (.bin .add (.t 8) (.c (.int .i64 1))),
  m1 8 18])))))))
 (.seq (.reg [
 o1 4 (.mv (.c (.int .i64 (-1))))])
 .ret)))
def r161:List RV:=[.tmp 4]
theorem n161:Tryz.f161.ntmps=19:=by kernel_rfl
theorem b161:Zp Tryz.prog 161=true:=by kernel_rfl
theorem ZtR:Zy Tryz.prog c161 ((Tryz.f161.body).getD .skip)=true:=by kernel_rfl
theorem Ztd:ZA Tryz.prog r161 Tryz.f161.results.toList=true:=by kernel_rfl
theorem t161 {args:List SV} {res:SV} (ka:KFL args) (kr:KF res) (h:sx Tryz.prog Y0 0 c161 (st0 args 19) (ZQ r161 res)) (hA:Nat.ble args.length 19=true:=by rfl):Ct Tryz.prog 161 args res:=Zj Tryz.func161 rfl b161 ZtR Ztd n161 (Nat.le_of_ble_eq_true hA) ka kr h
def c162:SC:=(.seq (.reg [
 o1 4 (.mv (.c (.int .i64 0)))])
 (.seq (.seq (.reg [
 m1 6 0,
 o1 7 (.len (.t 6)),
 o1 8 (.mv (.c (.int .i64 0)))])
 (.block 0 (.loop (.seq (.reg [
  o1 9 (.bin .lss (.t 8) (.t 7))])
  (.seq (.cond (.t 9)
  .skip
  (.exit 0))
  (.seq (.block 1 (.seq (.reg [
   m1 10 8,
   m1 5 10])
   (.seq (.reg [
   m1 11 1,
   m1 12 0,
   m1 13 5,
   o1 14 (.ixs (.t 12) (.t 13) 5),
   o1 15 (.ld (.t 14) 5 true),
   o1 16 (.calv (.t 11) [.t 15])])
   (.cond (.t 16)
   (.seq (.reg [
    m1 17 5,
    m1 4 17])
    .ret)
   .skip))))
  (.reg [
  o1 18 (.bin .add (.t 8) (.c (.int .i64 1))),
  m1 8 18])))))))
 (.seq (.reg [
 o1 4 (.mv (.c (.int .i64 (-1))))])
 .ret)))
def r162:List RV:=[.tmp 4]
theorem n162:Tryz.f162.ntmps=19:=by kernel_rfl
theorem b162:Zp Tryz.prog 162=true:=by kernel_rfl
theorem ZpE:Zy Tryz.prog c162 ((Tryz.f162.body).getD .skip)=true:=by kernel_rfl
theorem Zuu:ZA Tryz.prog r162 Tryz.f162.results.toList=true:=by kernel_rfl
theorem t162 {args:List SV} {res:SV} (ka:KFL args) (kr:KF res) (h:sx Tryz.prog Y0 0 c162 (st0 args 19) (ZQ r162 res)) (hA:Nat.ble args.length 19=true:=by rfl):Ct Tryz.prog 162 args res:=Zj Tryz.func162 rfl b162 ZpE Zuu n162 (Nat.le_of_ble_eq_true hA) ka kr h
def ZzF:SC:=(.seq (.reg [
 o1 4 (.mv (.c (.int .i64 0)))])
 (.seq (.seq (.reg [
 m1 6 0,
 o1 7 (.len (.t 6)),
 o1 8 (.mv (.c (.int .i64 0)))])
 (.block 0 (.loop (.seq (.reg [
  o1 9 (.bin .lss (.t 8) (.t 7))])
  (.seq (.cond (.t 9)
  .skip
  (.exit 0))
  (.seq (.block 1 (.seq (.reg [
   m1 10 8,
   m1 5 10])
   (.seq (.reg [
   m1 11 1,
   m1 12 0,
   m1 13 5,
   o1 14 (.ixs (.t 12) (.t 13) 1),
   o1 15 (.ld (.t 14) 1 false),
   o1 16 (.calv (.t 11) [.t 15])])
   (.cond (.t 16)
   (.seq (.reg [
    m1 17 5,
    m1 4 17])
    .ret)
   .skip))))
  (.reg [
  o1 18 (.bin .add (.t 8) (.c (.int .i64 1))),
  m1 8 18])))))))
 (.seq (.reg [
 o1 4 (.mv (.c (.int .i64 (-1))))])
 .ret)))
def ZzN:List RV:=[.tmp 4]
theorem n141:Tryz.f141.ntmps=19:=by kernel_rfl
theorem b141:Zp Tryz.prog 141=true:=by kernel_rfl
theorem ZrS:Zy Tryz.prog ZzF ((Tryz.f141.body).getD .skip)=true:=by kernel_rfl
theorem Zr1:ZA Tryz.prog ZzN Tryz.f141.results.toList=true:=by kernel_rfl
theorem t141 {args:List SV} {res:SV} (ka:KFL args) (kr:KF res) (h:sx Tryz.prog Y0 0 ZzF (st0 args 19) (ZQ ZzN res)) (hA:Nat.ble args.length 19=true:=by rfl):Ct Tryz.prog 141 args res:=Zj Tryz.func141 rfl b141 ZrS Zr1 n141 (Nat.le_of_ble_eq_true hA) ka kr h
def ZzY:SC:=(.seq (.reg [
 o1 4 (.mv (.c (.bool false)))])
 (.seq (.reg [
 m1 5 0,
 m1 6 1,
 o1 7 (.call 143 [.t 5,.t 6]),
 o1 8 (.bin .geq (.t 7) (.c (.int .i64 0))),
 m1 4 8])
 .ret))
def ZzB:List RV:=[.tmp 4]
theorem n102:Tryz.f102.ntmps=9:=by kernel_rfl
theorem b102:Zp Tryz.prog 102=true:=by kernel_rfl
theorem ZrE:Zy Tryz.prog ZzY ((Tryz.f102.body).getD .skip)=true:=by kernel_rfl
theorem Ztl:ZA Tryz.prog ZzB Tryz.f102.results.toList=true:=by kernel_rfl
theorem t102 {args:List SV} {res:SV} (ka:KFL args) (kr:KF res) (h:sx Tryz.prog Y0 0 ZzY (st0 args 9) (ZQ ZzB res)) (hA:Nat.ble args.length 9=true:=by rfl):Ct Tryz.prog 102 args res:=Zj Tryz.func102 rfl b102 ZrE Ztl n102 (Nat.le_of_ble_eq_true hA) ka kr h
def c158:SC:=(.seq (.reg [
 o1 3 (.box (.t 0) 0 27),
 o1 4 (.mv (.c (.bool false)))])
 (.seq (.reg [
 o1 5 (.addo (.t 3) 0),
 o1 6 (.ld (.t 5) 1 false),
 o1 7 (.addo (.t 3) 1),
 o1 8 (.ld (.t 7) 1 false),
 o1 9 (.bin .gtr (.t 6) (.t 8)),
 m1 10 9,
 ⟨some 11,.ld (.t 1) 1 false,some (10,false),[]⟩,
 ⟨some 12,.ld (.t 2) 1 false,some (10,false),[]⟩,
 ⟨some 13,.addo (.t 3) 0,some (10,false),[]⟩,
 ⟨some 14,.ld (.t 13) 1 false,some (10,false),[]⟩,
 ⟨some 15,.addo (.t 3) 1,some (10,false),[]⟩,
 ⟨some 16,.ld (.t 15) 1 false,some (10,false),[]⟩,
 ⟨some 17,.bsl 1 3 [.t 14,.t 16],some (10,false),[]⟩,
 ⟨some 18,.call 76 [.t 11,.t 12,.t 17],some (10,false),[]⟩,
 ⟨some 19,.un .not (.t 18),some (10,false),[]⟩,
 o1 20 (.pick (.t 10) (.c (.bool true)) (.t 19)),
 m1 4 20])
 .ret))
def r158:List RV:=[.tmp 4]
theorem n158:Tryz.f158.ntmps=21:=by kernel_rfl
theorem b158:Zp Tryz.prog 158=true:=by kernel_rfl
theorem Zta:Zy Tryz.prog c158 ((Tryz.f158.body).getD .skip)=true:=by kernel_rfl
theorem ZtC:ZA Tryz.prog r158 Tryz.f158.results.toList=true:=by kernel_rfl
theorem t158 {args:List SV} {res:SV} (ka:KFL args) (kr:KF res) (h:sx Tryz.prog Y0 0 c158 (st0 args 21) (ZQ r158 res)) (hA:Nat.ble args.length 21=true:=by rfl):Ct Tryz.prog 158 args res:=Zj Tryz.func158 rfl b158 Zta ZtC n158 (Nat.le_of_ble_eq_true hA) ka kr h
def Zzz:SC:=(.seq (.reg [
 o1 4 (.mv (.c (.int .i64 0)))])
 (.seq (.seq (.reg [
 m1 6 0,
 o1 7 (.len (.t 6)),
 o1 8 (.mv (.c (.int .i64 0)))])
 (.block 0 (.loop (.seq (.reg [
  o1 9 (.bin .lss (.t 8) (.t 7))])
  (.seq (.cond (.t 9)
  .skip
  (.exit 0))
  (.seq (.block 1 (.seq (.reg [
   m1 10 8,
   m1 5 10])
   (.seq (.reg [
   m1 11 1,
   m1 12 0,
   m1 13 5,
   o1 14 (.ixs (.t 12) (.t 13) 2),
   o1 15 (.ld (.t 14) 2 true),
   o1 16 (.calv (.t 11) [.t 15])])
   (.cond (.t 16)
   (.seq (.reg [
    m1 17 5,
    m1 4 17])
    .ret)
   .skip))))
  (.reg [
  o1 18 (.bin .add (.t 8) (.c (.int .i64 1))),
  m1 8 18])))))))
 (.seq (.reg [
 o1 4 (.mv (.c (.int .i64 (-1))))])
 .ret)))
def ZzJ:List RV:=[.tmp 4]
theorem n143:Tryz.f143.ntmps=19:=by kernel_rfl
theorem b143:Zp Tryz.prog 143=true:=by kernel_rfl
theorem Zqk:Zy Tryz.prog Zzz ((Tryz.f143.body).getD .skip)=true:=by kernel_rfl
theorem ZsT:ZA Tryz.prog ZzJ Tryz.f143.results.toList=true:=by kernel_rfl
theorem t143 {args:List SV} {res:SV} (ka:KFL args) (kr:KF res) (h:sx Tryz.prog Y0 0 Zzz (st0 args 19) (ZQ ZzJ res)) (hA:Nat.ble args.length 19=true:=by rfl):Ct Tryz.prog 143 args res:=Zj Tryz.func143 rfl b143 Zqk ZsT n143 (Nat.le_of_ble_eq_true hA) ka kr h
def c47:SC:=(.seq (.reg [
 o1 1 (.box (.t 0) 0 25),
 o1 2 (.alloc [.slice none 0 0,.slice none 0 0] 25)])
 (.seq (.reg [
 o1 4 (.bsl 9 88 []),
 o1 5 (.addo (.t 1) 0),
 o1 6 (.ld (.t 5) 1 false),
 o1 7 (.app 9 72 88 (.t 4) (.t 6)),
 o1 8 (.addo (.t 1) 0),
 ⟨none,.st (.t 8) (.t 7) 1,none,[]⟩])
 (.seq (.reg [
 o1 9 (.bsl 5 83 []),
 o1 10 (.addo (.t 1) 1),
 o1 11 (.ld (.t 10) 1 false),
 o1 12 (.cln 5 56 83 (.t 9) (.t 11)),
 o1 13 (.addo (.t 1) 1),
 ⟨none,.st (.t 13) (.t 12) 1,none,[]⟩])
 (.seq (.seq (.reg [
 o1 3 (.mv (.c (.int .i64 0)))])
 (.block 0 (.loop (.seq (.seq (.reg [
  m1 14 3,
  o1 15 (.addo (.t 1) 1),
  o1 16 (.ld (.t 15) 1 false),
  o1 17 (.len (.t 16)),
  o1 18 (.bin .lss (.t 14) (.t 17))])
  (.cond (.t 18)
  .skip
  (.exit 0)))
  (.seq (.block 1 (.regd [0,1,2,3,4,5,6,7,8,9,10,11,12,13] [
   .op (o1 21 (.addo (.t 1) 1)),
   .op ⟨some 22,.ld (.t 21) 1 false,none,[0]⟩,
   .op (m1 23 3),
   .op (o1 24 (.bsl 4 85 [])),
   .op (o1 25 (.addo (.t 1) 1)),
   .op ⟨some 26,.ld (.t 25) 1 false,none,[4]⟩,
   .op (m1 27 3),
   .op ⟨some 28,.ixs (.t 26) (.t 27) 5,none,[5,6]⟩,
   .op ⟨some 29,.addo (.t 28) 4,none,[7]⟩,
   .op ⟨some 30,.ld (.t 29) 1 false,none,[8]⟩,
   .op ⟨some 31,.app 4 32 85 (.t 24) (.t 30),none,[3,9]⟩,
   .op ⟨some 32,.ixs (.t 22) (.t 23) 5,none,[0,1,2,3,4,5,6,7,8,9,10]⟩,
   .op ⟨some 33,.addo (.t 32) 4,none,[0,1,2,3,4,5,6,7,8,9,10,11]⟩] 0 1 [
   ⟨none,.st (.t 33) (.t 31) 1,none,[0,1,2,3,4,5,6,7,8,9,10,12]⟩]))
  (.reg [
  m1 19 3,
  o1 20 (.bin .add (.t 19) (.c (.int .i64 1))),
  m1 3 20]))))))
 (.seq (.reg [
 o1 34 (.ld (.t 1) 2 true),
 ⟨none,.st (.t 2) (.t 34) 2,none,[]⟩])
 .ret)))))
def r47:List RV:=[.cell 2 2 true]
theorem n47:Tryz.f47.ntmps=35:=by kernel_rfl
theorem b47:Zp Tryz.prog 47=true:=by kernel_rfl
theorem ZxC:Zy Tryz.prog c47 ((Tryz.f47.body).getD .skip)=true:=by kernel_rfl
theorem Zw2:ZA Tryz.prog r47 Tryz.f47.results.toList=true:=by kernel_rfl
theorem t47 {args:List SV} {res:SV} (ka:KFL args) (kr:KF res) (h:sx Tryz.prog Y0 0 c47 (st0 args 35) (ZQ r47 res)) (hA:Nat.ble args.length 35=true:=by rfl):Ct Tryz.prog 47 args res:=Zj Tryz.func47 rfl b47 ZxC Zw2 n47 (Nat.le_of_ble_eq_true hA) ka kr h
def c39:SC:=(.seq (.reg [
 o1 3 (.box (.t 0) 0 25),
 o1 5 (.box (.t 2) 0 27),
 o1 6 (.alloc [.int .i64 0,.int .i64 0] 27),
 o1 7 (.mv (.c (.int .i64 0)))])
 (.seq (.reg [
 o1 11 (.ld (.t 3) 2 true),
 o1 12 (.ld (.t 5) 2 true),
 o1 13 (.call 75 [.t 11,.t 12]),
 m1 10 13,
 o1 14 (.ext (.t 10) 0),
 o1 15 (.ext (.t 10) 1),
 o1 8 (.alloc [.slice none 0 0,.slice none 0 0,.int .i64 0,.int .i64 0] 160),
 ⟨none,.st (.t 8) (.t 14) 4,none,[]⟩,
 m1 9 15])
 (.seq (.block 0 (.seq (.reg [
  m1 17 9,
  o1 18 (.bin .neq (.t 17) (.c (.int .i64 0))),
  m1 16 18])
  (.cond (.t 16)
  (.seq (.reg [
   o1 19 (.build [.int .i64 0,.int .i64 0] []),
   m1 20 9,
   ⟨none,.st (.t 6) (.t 19) 2,none,[]⟩,
   m1 7 20])
   .ret)
  (.seq (.reg [
   o1 22 (.addo (.t 3) 1),
   o1 23 (.ld (.t 22) 1 false),
   o1 24 (.len (.t 23)),
   o1 25 (.bin .sub (.t 24) (.c (.int .i64 1))),
   m1 26 1,
   o1 27 (.bsl 1 3 [.t 26]),
   o1 28 (.call 76 [.c (.int .i64 0),.t 25,.t 27]),
   o1 29 (.un .not (.t 28)),
   m1 21 29])
   (.cond (.t 21)
   (.seq (.reg [
    o1 30 (.build [.int .i64 0,.int .i64 0] []),
    ⟨none,.st (.t 6) (.t 30) 2,none,[]⟩,
    o1 7 (.mv (.c (.int .i64 2)))])
    .ret)
   .skip)))))
 (.seq (.reg [
 o1 31 (.ld (.t 8) 4 true),
 m1 32 1,
 o1 33 (.call 82 [.t 31,.t 32]),
 o1 34 (.call 80 [.t 33]),
 ⟨none,.st (.t 6) (.t 34) 2,none,[]⟩,
 o1 7 (.mv (.c (.int .i64 0)))])
 .ret))))
def r39:List RV:=[.cell 6 2 true,.tmp 7]
theorem n39:Tryz.f39.ntmps=35:=by kernel_rfl
theorem b39:Zp Tryz.prog 39=true:=by kernel_rfl
theorem Zyd:Zy Tryz.prog c39 ((Tryz.f39.body).getD .skip)=true:=by kernel_rfl
theorem Zzx:ZA Tryz.prog r39 Tryz.f39.results.toList=true:=by kernel_rfl
theorem t39 {args:List SV} {res:SV} (ka:KFL args) (kr:KF res) (h:sx Tryz.prog Y0 0 c39 (st0 args 35) (ZQ r39 res)) (hA:Nat.ble args.length 35=true:=by rfl):Ct Tryz.prog 39 args res:=Zj Tryz.func39 rfl b39 Zyd Zzx n39 (Nat.le_of_ble_eq_true hA) ka kr h
def c106:SC:=(.seq (.reg [
 o1 3 (.box (.t 0) 0 25),
 o1 5 (.box (.t 2) 0 27),
 o1 6 (.alloc [.int .i64 0,.int .i64 0] 27),
 o1 7 (.mv (.c (.int .i64 0)))])
 (.seq (.seq (.reg [
 o1 9 (.ld (.t 3) 2 true),
 o1 10 (.ld (.t 5) 2 true),
 o1 11 (.call 115 [.t 9,.t 10]),
 m1 8 11])
 (.seq (.reg [
 m1 12 8,
 o1 13 (.bin .neq (.t 12) (.c (.int .i64 0)))])
 (.cond (.t 13)
 (.seq (.reg [
  o1 14 (.build [.int .i64 0,.int .i64 0] []),
  m1 15 8,
  ⟨none,.st (.t 6) (.t 14) 2,none,[]⟩,
  m1 7 15])
  .ret)
 .skip)))
 (.seq (.seq (.reg [
 m1 16 1,
 o1 17 (.addo (.t 3) 1),
 o1 18 (.ld (.t 17) 1 false),
 o1 19 (.len (.t 18)),
 o1 20 (.bin .sub (.t 19) (.c (.int .i64 1))),
 o1 21 (.call 88 [.t 16,.c (.int .i64 0),.t 20]),
 o1 22 (.un .not (.t 21))])
 (.cond (.t 22)
 (.seq (.reg [
  o1 23 (.build [.int .i64 0,.int .i64 0] []),
  ⟨none,.st (.t 6) (.t 23) 2,none,[]⟩,
  o1 7 (.mv (.c (.int .i64 2)))])
  .ret)
 .skip))
 (.seq (.regd [0,1,2,3,4,5,6,7,8] [
 .op (o1 24 (.addo (.t 3) 1)),
 .op ⟨some 25,.ld (.t 24) 1 false,none,[0]⟩,
 .op (m1 26 1),
 .op ⟨some 27,.ixs (.t 25) (.t 26) 5,none,[1,2]⟩,
 .op ⟨some 28,.ld (.t 27) 5 true,none,[3]⟩,
 .op (o1 29 (.ld (.t 5) 2 true)),
 .op ⟨some 30,.call 149 [.t 28,.t 29],none,[4,5]⟩] 0 2 [
 ⟨none,.st (.t 6) (.t 30) 2,none,[0,1,2,3,4,5,6]⟩,
 ⟨some 7,.mv (.c (.int .i64 0)),none,[0,1,2,3,4,5,6,7]⟩])
 .ret))))
def r106:List RV:=[.cell 6 2 true,.tmp 7]
theorem n106:Tryz.f106.ntmps=31:=by kernel_rfl
theorem b106:Zp Tryz.prog 106=true:=by kernel_rfl
theorem ZrW:Zy Tryz.prog c106 ((Tryz.f106.body).getD .skip)=true:=by kernel_rfl
theorem ZvD:ZA Tryz.prog r106 Tryz.f106.results.toList=true:=by kernel_rfl
theorem t106 {args:List SV} {res:SV} (ka:KFL args) (kr:KF res) (h:sx Tryz.prog Y0 0 c106 (st0 args 31) (ZQ r106 res)) (hA:Nat.ble args.length 31=true:=by rfl):Ct Tryz.prog 106 args res:=Zj Tryz.func106 rfl b106 ZrW ZvD n106 (Nat.le_of_ble_eq_true hA) ka kr h
def c93:SC:=(.seq (.reg [
 o1 1 (.box (.t 0) 0 25),
 o1 2 (.mv (.c (.int .i64 0)))])
 (.seq (.seq (.reg [
 o1 3 (.ld (.t 1) 2 true),
 o1 4 (.call 136 [.t 3]),
 o1 5 (.un .not (.t 4))])
 (.cond (.t 5)
 (.seq (.reg [
  o1 2 (.mv (.c (.int .i64 30)))])
  .ret)
 .skip))
 (.seq (.reg [
 o1 2 (.mv (.c (.int .i64 0)))])
 .ret)))
def r93:List RV:=[.tmp 2]
theorem n93:Tryz.f93.ntmps=6:=by kernel_rfl
theorem b93:Zp Tryz.prog 93=true:=by kernel_rfl
theorem Zyq:Zy Tryz.prog c93 ((Tryz.f93.body).getD .skip)=true:=by kernel_rfl
theorem Zwt:ZA Tryz.prog r93 Tryz.f93.results.toList=true:=by kernel_rfl
theorem t93 {args:List SV} {res:SV} (ka:KFL args) (kr:KF res) (h:sx Tryz.prog Y0 0 c93 (st0 args 6) (ZQ r93 res)) (hA:Nat.ble args.length 6=true:=by rfl):Ct Tryz.prog 93 args res:=Zj Tryz.func93 rfl b93 Zyq Zwt n93 (Nat.le_of_ble_eq_true hA) ka kr h
def c29:SC:=(.seq (.reg [
 o1 2 (.box (.t 0) 0 25),
 o1 3 (.box (.t 1) 0 25),
 o1 4 (.mv (.c (.bool false)))])
 (.seq (.seq (.reg [
 o1 10 (.addo (.t 2) 0),
 o1 11 (.ld (.t 10) 1 false),
 o1 12 (.len (.t 11)),
 o1 13 (.addo (.t 3) 0),
 o1 14 (.ld (.t 13) 1 false),
 o1 15 (.len (.t 14)),
 o1 16 (.bin .neq (.t 12) (.t 15)),
 m1 17 16,
 ⟨some 18,.addo (.t 2) 1,some (17,false),[]⟩,
 ⟨some 19,.ld (.t 18) 1 false,some (17,false),[]⟩,
 ⟨some 20,.len (.t 19),some (17,false),[]⟩,
 ⟨some 21,.addo (.t 3) 1,some (17,false),[]⟩,
 ⟨some 22,.ld (.t 21) 1 false,some (17,false),[]⟩,
 ⟨some 23,.len (.t 22),some (17,false),[]⟩,
 ⟨some 24,.bin .neq (.t 20) (.t 23),some (17,false),[]⟩,
 o1 25 (.pick (.t 17) (.c (.bool true)) (.t 24))])
 (.cond (.t 25)
 (.seq (.reg [
  o1 4 (.mv (.c (.bool false)))])
  .ret)
 .skip))
 (.seq (.seq (.reg [
 o1 5 (.mv (.c (.int .i64 0)))])
 (.block 0 (.loop (.seq (.seq (.reg [
  m1 26 5,
  o1 27 (.addo (.t 2) 0),
  o1 28 (.ld (.t 27) 1 false),
  o1 29 (.len (.t 28)),
  o1 30 (.bin .lss (.t 26) (.t 29))])
  (.cond (.t 30)
  .skip
  (.exit 0)))
  (.seq (.block 1 (.seq (.regd [0,1,2,3,4,5,6,7,8,9,10] [
   .op (o1 33 (.addo (.t 2) 0)),
   .op ⟨some 34,.ld (.t 33) 1 false,none,[0]⟩,
   .op (m1 35 5),
   .op ⟨some 36,.ixs (.t 34) (.t 35) 9,none,[1,2]⟩,
   .op ⟨some 37,.ld (.t 36) 9 true,none,[3]⟩,
   .op (o1 38 (.addo (.t 3) 0)),
   .op ⟨some 39,.ld (.t 38) 1 false,none,[5]⟩,
   .op (m1 40 5),
   .op ⟨some 41,.ixs (.t 39) (.t 40) 9,none,[6,7]⟩,
   .op ⟨some 42,.ld (.t 41) 9 true,none,[8]⟩,
   .op ⟨some 43,.eqs true true [1,1,1,1,1,1,1,1,1] (.t 37) (.t 42),none,[4,9]⟩] 0 0 [
])
 (.cond (.t 43)
 (.seq (.reg [
  o1 4 (.mv (.c (.bool false)))])
  .ret)
 .skip)))
 (.reg [
 m1 31 5,
 o1 32 (.bin .add (.t 31) (.c (.int .i64 1))),
 m1 5 32]))))))
 (.seq (.seq (.reg [
 o1 6 (.mv (.c (.int .i64 0)))])
 (.block 2 (.loop (.seq (.seq (.reg [
  m1 44 6,
  o1 45 (.addo (.t 2) 1),
  o1 46 (.ld (.t 45) 1 false),
  o1 47 (.len (.t 46)),
  o1 48 (.bin .lss (.t 44) (.t 47))])
  (.cond (.t 48)
  .skip
  (.exit 2)))
  (.seq (.block 3 (.seq (.regd [0,1,2,3,4,5,6,7,8,9,10,11,12,13] [
   .op (o1 51 (.addo (.t 2) 1)),
   .op ⟨some 52,.ld (.t 51) 1 false,none,[0]⟩,
   .op (m1 53 6),
   .op ⟨some 54,.ixs (.t 52) (.t 53) 5,none,[1,2]⟩,
   .op ⟨some 55,.ld (.t 54) 5 true,none,[3]⟩,
   .op (o1 56 (.addo (.t 3) 1)),
   .op ⟨some 57,.ld (.t 56) 1 false,none,[5]⟩,
   .op (m1 58 6),
   .op ⟨some 59,.ixs (.t 57) (.t 58) 5,none,[6,7]⟩,
   .op ⟨some 60,.ld (.t 59) 5 true,none,[8]⟩] 2 2 [
   o1 7 (.alloc [.int .i64 0,.int .i64 0,.int .i64 0,.int .i64 0,.slice none 0 0] 83),
   o1 8 (.alloc [.int .i64 0,.int .i64 0,.int .i64 0,.int .i64 0,.slice none 0 0] 83),
   ⟨none,.st (.t 7) (.t 55) 5,none,[0,1,2,3,4,10,11]⟩,
   ⟨none,.st (.t 8) (.t 60) 5,none,[0,1,2,3,4,5,6,7,8,9,10,11,12]⟩])
   (.seq (.seq (.reg [
   o1 61 (.addo (.t 7) 0),
   o1 62 (.ld (.t 61) 1 false),
   o1 63 (.addo (.t 8) 0),
   o1 64 (.ld (.t 63) 1 false),
   o1 65 (.bin .neq (.t 62) (.t 64)),
   m1 66 65,
   ⟨some 67,.addo (.t 7) 1,some (66,false),[]⟩,
   ⟨some 68,.ld (.t 67) 1 false,some (66,false),[]⟩,
   ⟨some 69,.addo (.t 8) 1,some (66,false),[]⟩,
   ⟨some 70,.ld (.t 69) 1 false,some (66,false),[]⟩,
   ⟨some 71,.bin .neq (.t 68) (.t 70),some (66,false),[]⟩,
   o1 72 (.pick (.t 66) (.c (.bool true)) (.t 71)),
   m1 73 72,
   ⟨some 74,.addo (.t 7) 2,some (73,false),[]⟩,
   ⟨some 75,.ld (.t 74) 2 true,some (73,false),[]⟩,
   ⟨some 76,.addo (.t 8) 2,some (73,false),[]⟩,
   ⟨some 77,.ld (.t 76) 2 true,some (73,false),[]⟩,
   ⟨some 78,.eqs true true [1,1] (.t 75) (.t 77),some (73,false),[]⟩,
   o1 79 (.pick (.t 73) (.c (.bool true)) (.t 78)),
   m1 80 79,
   ⟨some 81,.addo (.t 7) 4,some (80,false),[]⟩,
   ⟨some 82,.ld (.t 81) 1 false,some (80,false),[]⟩,
   ⟨some 83,.len (.t 82),some (80,false),[]⟩,
   ⟨some 84,.addo (.t 8) 4,some (80,false),[]⟩,
   ⟨some 85,.ld (.t 84) 1 false,some (80,false),[]⟩,
   ⟨some 86,.len (.t 85),some (80,false),[]⟩,
   ⟨some 87,.bin .neq (.t 83) (.t 86),some (80,false),[]⟩,
   o1 88 (.pick (.t 80) (.c (.bool true)) (.t 87))])
   (.cond (.t 88)
   (.seq (.reg [
    o1 4 (.mv (.c (.bool false)))])
    .ret)
   .skip))
   (.seq (.reg [
   o1 9 (.mv (.c (.int .i64 0)))])
   (.block 4 (.loop (.seq (.seq (.reg [
    m1 89 9,
    o1 90 (.addo (.t 7) 4),
    o1 91 (.ld (.t 90) 1 false),
    o1 92 (.len (.t 91)),
    o1 93 (.bin .lss (.t 89) (.t 92))])
    (.cond (.t 93)
    .skip
    (.exit 4)))
    (.seq (.block 5 (.seq (.regd [0,1,2,3,4,5,6,7,8,9,10] [
     .op (o1 96 (.addo (.t 7) 4)),
     .op ⟨some 97,.ld (.t 96) 1 false,none,[0]⟩,
     .op (m1 98 9),
     .op ⟨some 99,.ixs (.t 97) (.t 98) 4,none,[1,2]⟩,
     .op ⟨some 100,.ld (.t 99) 4 true,none,[3]⟩,
     .op (o1 101 (.addo (.t 8) 4)),
     .op ⟨some 102,.ld (.t 101) 1 false,none,[5]⟩,
     .op (m1 103 9),
     .op ⟨some 104,.ixs (.t 102) (.t 103) 4,none,[6,7]⟩,
     .op ⟨some 105,.ld (.t 104) 4 true,none,[8]⟩,
     .op ⟨some 106,.eqs true true [1,1,1,1] (.t 100) (.t 105),none,[4,9]⟩] 0 0 [
])
 (.cond (.t 106)
 (.seq (.reg [
  o1 4 (.mv (.c (.bool false)))])
  .ret)
 .skip)))
 (.reg [
 m1 94 9,
 o1 95 (.bin .add (.t 94) (.c (.int .i64 1))),
 m1 9 95])))))))))
 (.reg [
 m1 49 6,
 o1 50 (.bin .add (.t 49) (.c (.int .i64 1))),
 m1 6 50]))))))
 (.seq (.reg [
 o1 4 (.mv (.c (.bool true)))])
 .ret)))))
def r29:List RV:=[.tmp 4]
theorem n29:Tryz.f29.ntmps=107:=by kernel_rfl
theorem b29:Zp Tryz.prog 29=true:=by kernel_rfl
theorem ZxO:Zy Tryz.prog c29 ((Tryz.f29.body).getD .skip)=true:=by kernel_rfl
theorem Zwp:ZA Tryz.prog r29 Tryz.f29.results.toList=true:=by kernel_rfl
theorem t29 {args:List SV} {res:SV} (ka:KFL args) (kr:KF res) (h:sx Tryz.prog Y0 0 c29 (st0 args 107) (ZQ r29 res)) (hA:Nat.ble args.length 107=true:=by rfl):Ct Tryz.prog 29 args res:=Zj Tryz.func29 rfl b29 ZxO Zwp n29 (Nat.le_of_ble_eq_true hA) ka kr h
def c75:SC:=(.seq (.reg [
 o1 2 (.box (.t 0) 0 25),
 o1 3 (.box (.t 1) 0 27),
 o1 4 (.alloc [.slice none 0 0,.slice none 0 0,.int .i64 0,.int .i64 0] 160),
 o1 5 (.mv (.c (.int .i64 0)))])
 (.seq (.seq (.reg [
 o1 7 (.ld (.t 2) 2 true),
 o1 8 (.call 85 [.t 7]),
 m1 6 8])
 (.seq (.reg [
 m1 9 6,
 o1 10 (.bin .neq (.t 9) (.c (.int .i64 0)))])
 (.cond (.t 10)
 (.seq (.reg [
  o1 11 (.build [.slice none 0 0,.slice none 0 0,.int .i64 0,.int .i64 0] []),
  m1 12 6,
  ⟨none,.st (.t 4) (.t 11) 4,none,[]⟩,
  m1 5 12])
  .ret)
 .skip)))
 (.seq (.seq (.reg [
 o1 13 (.ld (.t 3) 2 true),
 o1 14 (.bsl 2 27 [.t 13]),
 o1 15 (.call 120 [.c (.int .i64 1),.c (.int .i64 100000),.t 14]),
 o1 16 (.un .not (.t 15))])
 (.cond (.t 16)
 (.seq (.reg [
  o1 17 (.build [.slice none 0 0,.slice none 0 0,.int .i64 0,.int .i64 0] []),
  ⟨none,.st (.t 4) (.t 17) 4,none,[]⟩,
  o1 5 (.mv (.c (.int .i64 31)))])
  .ret)
 .skip))
 (.seq (.reg [
 o1 18 (.ld (.t 2) 2 true),
 o1 19 (.ld (.t 3) 2 true),
 o1 20 (.build [.slice none 0 0,.slice none 0 0,.int .i64 0,.int .i64 0] [(0,2,.t 18),(2,2,.t 19)]),
 ⟨none,.st (.t 4) (.t 20) 4,none,[]⟩,
 o1 5 (.mv (.c (.int .i64 0)))])
 .ret))))
def r75:List RV:=[.cell 4 4 true,.tmp 5]
theorem n75:Tryz.f75.ntmps=21:=by kernel_rfl
theorem b75:Zp Tryz.prog 75=true:=by kernel_rfl
theorem Zyn:Zy Tryz.prog c75 ((Tryz.f75.body).getD .skip)=true:=by kernel_rfl
theorem Zxv:ZA Tryz.prog r75 Tryz.f75.results.toList=true:=by kernel_rfl
theorem t75 {args:List SV} {res:SV} (ka:KFL args) (kr:KF res) (h:sx Tryz.prog Y0 0 c75 (st0 args 21) (ZQ r75 res)) (hA:Nat.ble args.length 21=true:=by rfl):Ct Tryz.prog 75 args res:=Zj Tryz.func75 rfl b75 Zyn Zxv n75 (Nat.le_of_ble_eq_true hA) ka kr h
def c82:SC:=(.seq (.reg [
 o1 2 (.box (.t 0) 0 160),
 o1 4 (.alloc [.int .i64 0,.int .i64 0] 165)])
 (.seq (.reg [
 o1 6 (.addo (.t 2) 0),
 o1 7 (.addo (.t 6) 1),
 o1 8 (.ld (.t 7) 1 false),
 m1 9 1,
 o1 10 (.ixs (.t 8) (.t 9) 5),
 o1 11 (.addo (.t 10) 2),
 o1 12 (.ld (.t 11) 2 true),
 o1 5 (.alloc [.int .i64 0,.int .i64 0] 27),
 ⟨none,.st (.t 5) (.t 12) 2,none,[]⟩])
 (.seq (.regd [0,1,2,3,4,5,6,7,8,9,10,11,12,13,14,15,16,17,18,19,20,21,22,23] [
 .op (o1 13 (.addo (.t 5) 0)),
 .op ⟨some 14,.ld (.t 13) 1 false,none,[0]⟩,
 .op (o1 15 (.addo (.t 2) 2)),
 .op ⟨some 16,.addo (.t 15) 1,none,[2]⟩,
 .op ⟨some 17,.ld (.t 16) 1 false,none,[3]⟩,
 .op ⟨some 18,.bin .add (.t 14) (.t 17),none,[1,4]⟩,
 .op ⟨some 19,.bin .sub (.t 18) (.c (.int .i64 1)),none,[5]⟩,
 .op (o1 20 (.addo (.t 2) 2)),
 .op ⟨some 21,.addo (.t 20) 1,none,[7]⟩,
 .op ⟨some 22,.ld (.t 21) 1 false,none,[8]⟩,
 .op ⟨some 23,.div .quo (.t 19) (.t 22),none,[6,9]⟩,
 .op (o1 24 (.addo (.t 5) 1)),
 .op ⟨some 25,.ld (.t 24) 1 false,none,[11]⟩,
 .op (o1 26 (.addo (.t 2) 2)),
 .op ⟨some 27,.addo (.t 26) 0,none,[13]⟩,
 .op ⟨some 28,.ld (.t 27) 1 false,none,[14]⟩,
 .op ⟨some 29,.bin .add (.t 25) (.t 28),none,[12,15]⟩,
 .op ⟨some 30,.bin .sub (.t 29) (.c (.int .i64 1)),none,[16]⟩,
 .op (o1 31 (.addo (.t 2) 2)),
 .op ⟨some 32,.addo (.t 31) 0,none,[18]⟩,
 .op ⟨some 33,.ld (.t 32) 1 false,none,[19]⟩,
 .op ⟨some 34,.div .quo (.t 30) (.t 33),none,[17,20]⟩,
 .op ⟨some 35,.build [.int .i64 0,.int .i64 0] [(0,1,.t 23),(1,1,.t 34)],none,[10,21]⟩] 0 1 [
 ⟨none,.st (.t 4) (.t 35) 2,none,[0,1,2,3,4,5,6,7,8,9,10,11,12,13,14,15,16,17,18,19,20,21,22]⟩])
 .ret)))
def r82:List RV:=[.cell 4 2 true]
theorem n82:Tryz.f82.ntmps=36:=by kernel_rfl
theorem b82:Zp Tryz.prog 82=true:=by kernel_rfl
theorem ZwH:Zy Tryz.prog c82 ((Tryz.f82.body).getD .skip)=true:=by kernel_rfl
theorem ZwX:ZA Tryz.prog r82 Tryz.f82.results.toList=true:=by kernel_rfl
theorem t82 {args:List SV} {res:SV} (ka:KFL args) (kr:KF res) (h:sx Tryz.prog Y0 0 c82 (st0 args 36) (ZQ r82 res)) (hA:Nat.ble args.length 36=true:=by rfl):Ct Tryz.prog 82 args res:=Zj Tryz.func82 rfl b82 ZwH ZwX n82 (Nat.le_of_ble_eq_true hA) ka kr h
def c80:SC:=(.seq (.reg [
 o1 1 (.box (.t 0) 0 165),
 o1 2 (.alloc [.int .i64 0,.int .i64 0] 27)])
 (.seq (.reg [
 o1 3 (.ixa (.t 1) (.c (.int .i64 0)) 2 1),
 o1 4 (.ld (.t 3) 1 false),
 o1 5 (.ixa (.t 1) (.c (.int .i64 1)) 2 1),
 o1 6 (.ld (.t 5) 1 false),
 o1 7 (.build [.int .i64 0,.int .i64 0] [(0,1,.t 4),(1,1,.t 6)]),
 ⟨none,.st (.t 2) (.t 7) 2,none,[]⟩])
 .ret))
def r80:List RV:=[.cell 2 2 true]
theorem n80:Tryz.f80.ntmps=8:=by kernel_rfl
theorem b80:Zp Tryz.prog 80=true:=by kernel_rfl
theorem Zys:Zy Tryz.prog c80 ((Tryz.f80.body).getD .skip)=true:=by kernel_rfl
theorem ZyC:ZA Tryz.prog r80 Tryz.f80.results.toList=true:=by kernel_rfl
theorem t80 {args:List SV} {res:SV} (ka:KFL args) (kr:KF res) (h:sx Tryz.prog Y0 0 c80 (st0 args 8) (ZQ r80 res)) (hA:Nat.ble args.length 8=true:=by rfl):Ct Tryz.prog 80 args res:=Zj Tryz.func80 rfl b80 Zys ZyC n80 (Nat.le_of_ble_eq_true hA) ka kr h
def c115:SC:=(.seq (.reg [
 o1 2 (.box (.t 0) 0 25),
 o1 3 (.box (.t 1) 0 27),
 o1 4 (.mv (.c (.int .i64 0)))])
 (.seq (.seq (.reg [
 o1 5 (.ld (.t 2) 2 true),
 o1 6 (.call 136 [.t 5]),
 o1 7 (.un .not (.t 6))])
 (.cond (.t 7)
 (.seq (.reg [
  o1 4 (.mv (.c (.int .i64 30)))])
  .ret)
 .skip))
 (.seq (.seq (.reg [
 o1 8 (.ld (.t 3) 2 true),
 o1 9 (.call 94 [.t 8]),
 o1 10 (.un .not (.t 9))])
 (.cond (.t 10)
 (.seq (.reg [
  o1 4 (.mv (.c (.int .i64 31)))])
  .ret)
 .skip))
 (.seq (.reg [
 o1 4 (.mv (.c (.int .i64 0)))])
 .ret))))
def r115:List RV:=[.tmp 4]
theorem n115:Tryz.f115.ntmps=11:=by kernel_rfl
theorem b115:Zp Tryz.prog 115=true:=by kernel_rfl
theorem Zp9:Zy Tryz.prog c115 ((Tryz.f115.body).getD .skip)=true:=by kernel_rfl
theorem Zuj:ZA Tryz.prog r115 Tryz.f115.results.toList=true:=by kernel_rfl
theorem t115 {args:List SV} {res:SV} (ka:KFL args) (kr:KF res) (h:sx Tryz.prog Y0 0 c115 (st0 args 11) (ZQ r115 res)) (hA:Nat.ble args.length 11=true:=by rfl):Ct Tryz.prog 115 args res:=Zj Tryz.func115 rfl b115 Zp9 Zuj n115 (Nat.le_of_ble_eq_true hA) ka kr h
def c149:SC:=(.seq (.reg [
 o1 2 (.box (.t 0) 0 83),
 o1 3 (.box (.t 1) 0 27),
 o1 4 (.alloc [.int .i64 0,.int .i64 0] 27)])
 (.seq (.regd [0,1,2,3,4,5,6,7,8,9,10,11,12,13,14,15,16,17,18,19,20,21] [
 .op (o1 5 (.addo (.t 2) 2)),
 .op ⟨some 6,.addo (.t 5) 0,none,[0]⟩,
 .op ⟨some 7,.ld (.t 6) 1 false,none,[1]⟩,
 .op (o1 8 (.addo (.t 3) 1)),
 .op ⟨some 9,.ld (.t 8) 1 false,none,[3]⟩,
 .op ⟨some 10,.bin .add (.t 7) (.t 9),none,[2,4]⟩,
 .op ⟨some 11,.bin .sub (.t 10) (.c (.int .i64 1)),none,[5]⟩,
 .op (o1 12 (.addo (.t 3) 1)),
 .op ⟨some 13,.ld (.t 12) 1 false,none,[7]⟩,
 .op ⟨some 14,.div .quo (.t 11) (.t 13),none,[6,8]⟩,
 .op (o1 15 (.addo (.t 2) 2)),
 .op ⟨some 16,.addo (.t 15) 1,none,[10]⟩,
 .op ⟨some 17,.ld (.t 16) 1 false,none,[11]⟩,
 .op (o1 18 (.addo (.t 3) 0)),
 .op ⟨some 19,.ld (.t 18) 1 false,none,[13]⟩,
 .op ⟨some 20,.bin .add (.t 17) (.t 19),none,[12,14]⟩,
 .op ⟨some 21,.bin .sub (.t 20) (.c (.int .i64 1)),none,[15]⟩,
 .op (o1 22 (.addo (.t 3) 0)),
 .op ⟨some 23,.ld (.t 22) 1 false,none,[17]⟩,
 .op ⟨some 24,.div .quo (.t 21) (.t 23),none,[16,18]⟩,
 .op ⟨some 25,.build [.int .i64 0,.int .i64 0] [(0,1,.t 14),(1,1,.t 24)],none,[9,19]⟩] 0 1 [
 ⟨none,.st (.t 4) (.t 25) 2,none,[0,1,2,3,4,5,6,7,8,9,10,11,12,13,14,15,16,17,18,19,20]⟩])
 .ret))
def r149:List RV:=[.cell 4 2 true]
theorem n149:Tryz.f149.ntmps=26:=by kernel_rfl
theorem b149:Zp Tryz.prog 149=true:=by kernel_rfl
theorem ZtD:Zy Tryz.prog c149 ((Tryz.f149.body).getD .skip)=true:=by kernel_rfl
theorem ZuV:ZA Tryz.prog r149 Tryz.f149.results.toList=true:=by kernel_rfl
theorem t149 {args:List SV} {res:SV} (ka:KFL args) (kr:KF res) (h:sx Tryz.prog Y0 0 c149 (st0 args 26) (ZQ r149 res)) (hA:Nat.ble args.length 26=true:=by rfl):Ct Tryz.prog 149 args res:=Zj Tryz.func149 rfl b149 ZtD ZuV n149 (Nat.le_of_ble_eq_true hA) ka kr h
def c78:SC:=(.seq (.reg [
 o1 3 (.box (.t 0) 0 160),
 o1 5 (.box (.t 2) 0 165),
 o1 6 (.alloc [.int .i64 0,.int .i64 0] 165)])
 (.seq (.reg [
 o1 15 (.ld (.t 3) 4 true),
 m1 16 1,
 o1 17 (.call 82 [.t 15,.t 16]),
 o1 7 (.alloc [.int .i64 0,.int .i64 0] 165),
 ⟨none,.st (.t 7) (.t 17) 2,none,[]⟩])
 (.seq (.reg [
 o1 18 (.build [.int .i64 0,.int .i64 0] [(0,1,.c (.int .i64 100001)),(1,1,.c (.int .i64 100001))]),
 o1 8 (.alloc [.int .i64 0,.int .i64 0] 165),
 ⟨none,.st (.t 8) (.t 18) 2,none,[]⟩])
 (.seq (.seq (.reg [
 o1 19 (.addo (.t 3) 0),
 o1 20 (.addo (.t 19) 1),
 o1 21 (.ld (.t 20) 1 false),
 m1 22 1,
 o1 23 (.ixs (.t 21) (.t 22) 5),
 o1 24 (.addo (.t 23) 4),
 o1 25 (.ld (.t 24) 1 false),
 o1 26 (.len (.t 25)),
 o1 27 (.mv (.c (.int .i64 0)))])
 (.block 0 (.loop (.seq (.reg [
  o1 28 (.bin .lss (.t 27) (.t 26))])
  (.seq (.cond (.t 28)
  .skip
  (.exit 0))
  (.seq (.block 1 (.seq (.reg [
   o1 29 (.ixs (.t 25) (.t 27) 4),
   o1 30 (.ld (.t 29) 4 true),
   o1 10 (.alloc [.int .i64 0,.int .i64 0,.int .i64 0,.int .i64 0] 85),
   ⟨none,.st (.t 10) (.t 30) 4,none,[]⟩])
   (.seq (.regd [0,1,2,3,4,5,6,7,8,9,10,11,12,13,14,15,16,17] [
   .op (o1 31 (.addo (.t 10) 0)),
   .op ⟨some 32,.addo (.t 31) 0,none,[0]⟩,
   .op ⟨some 33,.ld (.t 32) 1 false,none,[1]⟩,
   .op (o1 34 (.addo (.t 10) 0)),
   .op ⟨some 35,.addo (.t 34) 1,none,[3]⟩,
   .op ⟨some 36,.ld (.t 35) 1 false,none,[4]⟩,
   .op ⟨some 37,.build [.int .i64 0,.int .i64 0] [(0,1,.t 33),(1,1,.t 36)],none,[2,5]⟩,
   .op (o1 38 (.addo (.t 10) 2)),
   .op ⟨some 39,.addo (.t 38) 1,none,[7]⟩,
   .op ⟨some 40,.ld (.t 39) 1 false,none,[8]⟩,
   .op (o1 41 (.addo (.t 10) 2)),
   .op ⟨some 42,.addo (.t 41) 0,none,[10]⟩,
   .op ⟨some 43,.ld (.t 42) 1 false,none,[11]⟩,
   .op ⟨some 44,.build [.int .i64 0,.int .i64 0] [(0,1,.t 40),(1,1,.t 43)],none,[9,12]⟩] 2 2 [
   o1 11 (.alloc [.int .i64 0,.int .i64 0] 165),
   o1 12 (.alloc [.int .i64 0,.int .i64 0] 165),
   ⟨none,.st (.t 11) (.t 37) 2,none,[0,1,2,3,4,5,6,14,15]⟩,
   ⟨none,.st (.t 12) (.t 44) 2,none,[0,1,2,3,4,5,6,7,8,9,10,11,12,13,14,15,16]⟩])
   (.seq (.reg [
   o1 45 (.mv (.c (.int .i64 0)))])
   (.block 2 (.loop (.seq (.reg [
    o1 46 (.bin .lss (.t 45) (.c (.int .i64 2)))])
    (.seq (.cond (.t 46)
    .skip
    (.exit 2))
    (.seq (.block 3 (.seq (.reg [
     m1 47 45,
     m1 13 47])
     (.seq (.regd [0,1,2,3,4,5,6,7] [
     .op (m1 48 13),
     .op ⟨some 49,.ixa (.t 5) (.t 48) 2 1,none,[0]⟩,
     .op ⟨some 50,.ld (.t 49) 1 false,none,[1]⟩,
     .op (m1 51 13),
     .op ⟨some 52,.ixa (.t 11) (.t 51) 2 1,none,[3]⟩,
     .op ⟨some 53,.ld (.t 52) 1 false,none,[4]⟩,
     .op ⟨some 54,.mm true [.t 50,.t 53],none,[2,5]⟩,
     .op ⟨some 14,.mv (.t 54),none,[0,1,2,3,4,5,6]⟩] 0 0 [
])
 (.seq (.regd [0,1,2,3,4,5,6,7,8,9] [
 .op (m1 55 14),
 .op (m1 56 13),
 .op ⟨some 57,.ixa (.t 7) (.t 56) 2 1,none,[1]⟩,
 .op ⟨some 58,.ld (.t 57) 1 false,none,[2]⟩,
 .op ⟨some 59,.bin .add (.t 55) (.t 58),none,[0,3]⟩,
 .op ⟨some 60,.bin .sub (.t 59) (.c (.int .i64 1)),none,[4]⟩,
 .op (m1 61 13),
 .op ⟨some 62,.ixa (.t 12) (.t 61) 2 1,none,[6]⟩,
 .op ⟨some 63,.ld (.t 62) 1 false,none,[7]⟩,
 .op ⟨some 64,.bin .leq (.t 60) (.t 63),none,[5,8]⟩] 0 0 [
])
 (.cond (.t 64)
 (.reg [
  m1 65 13,
  m1 66 13,
  o1 67 (.ixa (.t 8) (.t 66) 2 1),
  o1 68 (.ld (.t 67) 1 false),
  m1 69 14,
  o1 70 (.bsl 1 3 [.t 68,.t 69]),
  o1 71 (.call 122 [.t 70]),
  o1 72 (.ixa (.t 8) (.t 65) 2 1),
  ⟨none,.st (.t 72) (.t 71) 1,none,[]⟩])
 .skip)))))
 (.reg [
 o1 73 (.bin .add (.t 45) (.c (.int .i64 1))),
 m1 45 73]))))))))))
 (.reg [
 o1 74 (.bin .add (.t 27) (.c (.int .i64 1))),
 m1 27 74])))))))
 (.seq (.reg [
 o1 75 (.ld (.t 8) 2 true),
 ⟨none,.st (.t 6) (.t 75) 2,none,[]⟩])
 .ret)))))
def r78:List RV:=[.cell 6 2 true]
theorem n78:Tryz.f78.ntmps=76:=by kernel_rfl
theorem b78:Zp Tryz.prog 78=true:=by kernel_rfl
theorem Zwq:Zy Tryz.prog c78 ((Tryz.f78.body).getD .skip)=true:=by kernel_rfl
theorem Zx9:ZA Tryz.prog r78 Tryz.f78.results.toList=true:=by kernel_rfl
theorem t78 {args:List SV} {res:SV} (ka:KFL args) (kr:KF res) (h:sx Tryz.prog Y0 0 c78 (st0 args 76) (ZQ r78 res)) (hA:Nat.ble args.length 76=true:=by rfl):Ct Tryz.prog 78 args res:=Zj Tryz.func78 rfl b78 Zwq Zx9 n78 (Nat.le_of_ble_eq_true hA) ka kr h
def c145:SC:=(.seq (.reg [
 o1 3 (.box (.t 0) 0 83),
 o1 5 (.box (.t 2) 0 27),
 o1 6 (.mv (.c (.int .i64 0)))])
 (.seq (.seq (.reg [
 o1 7 (.mv (.c (.int .i64 0)))])
 (.block 0 (.loop (.seq (.seq (.reg [
  m1 9 7,
  o1 10 (.addo (.t 3) 4),
  o1 11 (.ld (.t 10) 1 false),
  o1 12 (.len (.t 11)),
  o1 13 (.bin .lss (.t 9) (.t 12))])
  (.cond (.t 13)
  .skip
  (.exit 0)))
  (.seq (.block 1 (.seq (.reg [
   m1 16 1,
   o1 17 (.addo (.t 3) 4),
   o1 18 (.ld (.t 17) 1 false),
   m1 19 7,
   o1 20 (.ixs (.t 18) (.t 19) 4),
   o1 21 (.addo (.t 20) 0),
   o1 22 (.addo (.t 21) 0),
   o1 23 (.ld (.t 22) 1 false),
   o1 24 (.mm true [.t 16,.t 23]),
   m1 8 24])
   (.seq (.regd [0,1,2,3,4,5,6,7,8,9,10,11,12,13,14] [
   .op (m1 25 8),
   .op (o1 26 (.ld (.t 3) 5 true)),
   .op (o1 27 (.ld (.t 5) 2 true)),
   .op ⟨some 28,.call 149 [.t 26,.t 27],none,[1,2]⟩,
   .op ⟨some 29,.fld (.t 28) 0 1 false,none,[3]⟩,
   .op ⟨some 30,.bin .add (.t 25) (.t 29),none,[0,4]⟩,
   .op ⟨some 31,.bin .sub (.t 30) (.c (.int .i64 1)),none,[5]⟩,
   .op (o1 32 (.addo (.t 3) 4)),
   .op ⟨some 33,.ld (.t 32) 1 false,none,[7]⟩,
   .op (m1 34 7),
   .op ⟨some 35,.ixs (.t 33) (.t 34) 4,none,[8,9]⟩,
   .op ⟨some 36,.addo (.t 35) 2,none,[10]⟩,
   .op ⟨some 37,.addo (.t 36) 1,none,[11]⟩,
   .op ⟨some 38,.ld (.t 37) 1 false,none,[12]⟩,
   .op ⟨some 39,.bin .leq (.t 31) (.t 38),none,[6,13]⟩] 0 0 [
])
 (.cond (.t 39)
 (.seq (.reg [
  m1 40 8,
  m1 6 40])
  .ret)
 .skip))))
 (.reg [
 m1 14 7,
 o1 15 (.bin .add (.t 14) (.c (.int .i64 1))),
 m1 7 15]))))))
 (.seq (.reg [
 o1 6 (.mv (.c (.int .i64 100001)))])
 .ret)))
def r145:List RV:=[.tmp 6]
theorem n145:Tryz.f145.ntmps=41:=by kernel_rfl
theorem b145:Zp Tryz.prog 145=true:=by kernel_rfl
theorem ZpO:Zy Tryz.prog c145 ((Tryz.f145.body).getD .skip)=true:=by kernel_rfl
theorem ZrL:ZA Tryz.prog r145 Tryz.f145.results.toList=true:=by kernel_rfl
theorem t145 {args:List SV} {res:SV} (ka:KFL args) (kr:KF res) (h:sx Tryz.prog Y0 0 c145 (st0 args 41) (ZQ r145 res)) (hA:Nat.ble args.length 41=true:=by rfl):Ct Tryz.prog 145 args res:=Zj Tryz.func145 rfl b145 ZpO ZrL n145 (Nat.le_of_ble_eq_true hA) ka kr h
def c146:SC:=(.seq (.reg [
 o1 3 (.box (.t 0) 0 83),
 o1 5 (.box (.t 2) 0 27),
 o1 6 (.mv (.c (.int .i64 0)))])
 (.seq (.seq (.reg [
 o1 7 (.mv (.c (.int .i64 0)))])
 (.block 0 (.loop (.seq (.seq (.reg [
  m1 9 7,
  o1 10 (.addo (.t 3) 4),
  o1 11 (.ld (.t 10) 1 false),
  o1 12 (.len (.t 11)),
  o1 13 (.bin .lss (.t 9) (.t 12))])
  (.cond (.t 13)
  .skip
  (.exit 0)))
  (.seq (.block 1 (.seq (.reg [
   m1 16 1,
   o1 17 (.addo (.t 3) 4),
   o1 18 (.ld (.t 17) 1 false),
   m1 19 7,
   o1 20 (.ixs (.t 18) (.t 19) 4),
   o1 21 (.addo (.t 20) 0),
   o1 22 (.addo (.t 21) 1),
   o1 23 (.ld (.t 22) 1 false),
   o1 24 (.mm true [.t 16,.t 23]),
   m1 8 24])
   (.seq (.regd [0,1,2,3,4,5,6,7,8,9,10,11,12,13,14] [
   .op (m1 25 8),
   .op (o1 26 (.ld (.t 3) 5 true)),
   .op (o1 27 (.ld (.t 5) 2 true)),
   .op ⟨some 28,.call 149 [.t 26,.t 27],none,[1,2]⟩,
   .op ⟨some 29,.fld (.t 28) 1 1 false,none,[3]⟩,
   .op ⟨some 30,.bin .add (.t 25) (.t 29),none,[0,4]⟩,
   .op ⟨some 31,.bin .sub (.t 30) (.c (.int .i64 1)),none,[5]⟩,
   .op (o1 32 (.addo (.t 3) 4)),
   .op ⟨some 33,.ld (.t 32) 1 false,none,[7]⟩,
   .op (m1 34 7),
   .op ⟨some 35,.ixs (.t 33) (.t 34) 4,none,[8,9]⟩,
   .op ⟨some 36,.addo (.t 35) 2,none,[10]⟩,
   .op ⟨some 37,.addo (.t 36) 0,none,[11]⟩,
   .op ⟨some 38,.ld (.t 37) 1 false,none,[12]⟩,
   .op ⟨some 39,.bin .leq (.t 31) (.t 38),none,[6,13]⟩] 0 0 [
])
 (.cond (.t 39)
 (.seq (.reg [
  m1 40 8,
  m1 6 40])
  .ret)
 .skip))))
 (.reg [
 m1 14 7,
 o1 15 (.bin .add (.t 14) (.c (.int .i64 1))),
 m1 7 15]))))))
 (.seq (.reg [
 o1 6 (.mv (.c (.int .i64 100001)))])
 .ret)))
def r146:List RV:=[.tmp 6]
theorem n146:Tryz.f146.ntmps=41:=by kernel_rfl
theorem b146:Zp Tryz.prog 146=true:=by kernel_rfl
theorem ZsE:Zy Tryz.prog c146 ((Tryz.f146.body).getD .skip)=true:=by kernel_rfl
theorem ZuW:ZA Tryz.prog r146 Tryz.f146.results.toList=true:=by kernel_rfl
theorem t146 {args:List SV} {res:SV} (ka:KFL args) (kr:KF res) (h:sx Tryz.prog Y0 0 c146 (st0 args 41) (ZQ r146 res)) (hA:Nat.ble args.length 41=true:=by rfl):Ct Tryz.prog 146 args res:=Zj Tryz.func146 rfl b146 ZsE ZuW n146 (Nat.le_of_ble_eq_true hA) ka kr h
def c94:SC:=(.seq (.reg [
 o1 1 (.box (.t 0) 0 27),
 o1 2 (.mv (.c (.bool false)))])
 (.seq (.reg [
 o1 3 (.ld (.t 1) 2 true),
 o1 4 (.call 137 [.t 3,.c (.int .i64 1),.c (.int .i64 100000)]),
 m1 2 4])
 .ret))
def r94:List RV:=[.tmp 2]
theorem n94:Tryz.f94.ntmps=5:=by kernel_rfl
theorem b94:Zp Tryz.prog 94=true:=by kernel_rfl
theorem Zyp:Zy Tryz.prog c94 ((Tryz.f94.body).getD .skip)=true:=by kernel_rfl
theorem Zxj:ZA Tryz.prog r94 Tryz.f94.results.toList=true:=by kernel_rfl
theorem t94 {args:List SV} {res:SV} (ka:KFL args) (kr:KF res) (h:sx Tryz.prog Y0 0 c94 (st0 args 5) (ZQ r94 res)) (hA:Nat.ble args.length 5=true:=by rfl):Ct Tryz.prog 94 args res:=Zj Tryz.func94 rfl b94 Zyp Zxj n94 (Nat.le_of_ble_eq_true hA) ka kr h
def ZzQ:SC:=(.seq (.reg [
 o1 2 (.mv (.c (.int .i64 0)))])
 (.seq (.reg [
 m1 3 0,
 o1 4 (.bsl 1 3 [.c (.int .i64 100001)]),
 o1 5 (.app 1 8 3 (.t 3) (.t 4)),
 o1 6 (.call 71 [.t 5]),
 m1 2 6])
 .ret))
def ZzV:List RV:=[.tmp 2]
theorem n122:Tryz.f122.ntmps=7:=by kernel_rfl
theorem b122:Zp Tryz.prog 122=true:=by kernel_rfl
theorem ZrC:Zy Tryz.prog ZzQ ((Tryz.f122.body).getD .skip)=true:=by kernel_rfl
theorem Ztj:ZA Tryz.prog ZzV Tryz.f122.results.toList=true:=by kernel_rfl
theorem t122 {args:List SV} {res:SV} (ka:KFL args) (kr:KF res) (h:sx Tryz.prog Y0 0 ZzQ (st0 args 7) (ZQ ZzV res)) (hA:Nat.ble args.length 7=true:=by rfl):Ct Tryz.prog 122 args res:=Zj Tryz.func122 rfl b122 ZrC Ztj n122 (Nat.le_of_ble_eq_true hA) ka kr h
def c71:SC:=(.seq (.reg [
 o1 2 (.mv (.c (.int .i64 0)))])
 (.seq (.seq (.reg [
 m1 5 0,
 o1 6 (.len (.t 5)),
 o1 7 (.bin .lss (.t 6) (.c (.int .i64 1)))])
 (.cond (.t 7)
 (.reg [
  o1 8 (.raw (Go.Op.makeInterface 9 (Go.Operand.const (Go.Value.string { data:=#[115,108,105,99,101,115,46,77,105,110,58,32,101,109,112,116,121,32,108,105,115,116] }))) 20),
  ⟨none,.raw (Go.Op.panic (Go.Operand.tmp 8)) 0,none,[]⟩])
 .skip))
 (.seq (.reg [
 m1 9 0,
 o1 10 (.ixs (.t 9) (.c (.int .i64 0)) 1),
 o1 11 (.ld (.t 10) 1 false),
 m1 3 11])
 (.seq (.seq (.reg [
 o1 4 (.mv (.c (.int .i64 1)))])
 (.block 0 (.loop (.seq (.seq (.reg [
  m1 12 4,
  m1 13 0,
  o1 14 (.len (.t 13)),
  o1 15 (.bin .lss (.t 12) (.t 14))])
  (.cond (.t 15)
  .skip
  (.exit 0)))
  (.seq (.block 1 (.reg [
   m1 18 3,
   m1 19 0,
   m1 20 4,
   o1 21 (.ixs (.t 19) (.t 20) 1),
   o1 22 (.ld (.t 21) 1 false),
   o1 23 (.mm false [.t 18,.t 22]),
   m1 3 23]))
  (.reg [
  m1 16 4,
  o1 17 (.bin .add (.t 16) (.c (.int .i64 1))),
  m1 4 17]))))))
 (.seq (.reg [
 m1 24 3,
 m1 2 24])
 .ret)))))
def r71:List RV:=[.tmp 2]
theorem n71:Tryz.f71.ntmps=25:=by kernel_rfl
theorem b71:Zp Tryz.prog 71=true:=by kernel_rfl
theorem ZyJ:Zy Tryz.prog c71 ((Tryz.f71.body).getD .skip)=true:=by kernel_rfl
theorem Zxc:ZA Tryz.prog r71 Tryz.f71.results.toList=true:=by kernel_rfl
theorem t71 {args:List SV} {res:SV} (ka:KFL args) (kr:KF res) (h:sx Tryz.prog Y0 0 c71 (st0 args 25) (ZQ r71 res)) (hA:Nat.ble args.length 25=true:=by rfl):Ct Tryz.prog 71 args res:=Zj Tryz.func71 rfl b71 ZyJ Zxc n71 (Nat.le_of_ble_eq_true hA) ka kr h
end Go.Proofs.YtiigiflofnjilaaGreat
namespace Go.Azalai
structure Span where
 lo:Int
 hi:Int
deriving DecidableEq
structure Well where
 x:Int
 y:Int
 depth:Int
 yld:Span
 room:Int
 has:Span
 owner:Int
deriving DecidableEq
structure Gate where
 opens:Span
 shuts:Span
deriving DecidableEq
structure Leg where
 a:Int
 b:Int
 long:Span
 gates:List Gate
deriving DecidableEq
structure Land where
 wells:List Well
 legs:List Leg
deriving DecidableEq
structure Draw where
 well:Int
 day:Int
 water:Int
deriving DecidableEq
def inR (lo hi n:Int):Bool:=decide (lo≤n∧n≤hi)
def Z5 (lo hi:Int) (s:Span):Bool:=decide (lo≤s.lo∧s.lo≤s.hi∧s.hi≤hi)
def Yy (w:Well):Bool :=
 inR (-10000000) 10000000 w.x && inR (-10000000) 10000000 w.y && inR 0 200 w.depth && Z5 0 10000000 w.yld && inR 0 1000000000 w.room && Z5 0 w.room w.has && inR 0 9999 w.owner
def Ym (next:Int):List Gate→Bool
 | []=>true
 | g :: r=>Z5 0 100000 g.opens && Z5 0 100000 g.shuts && inR next g.shuts.hi g.opens.lo && Ym (g.shuts.hi+1) r
def XU (n:Int) (x:Leg):Bool :=
 inR 0 (n - 1) x.a && inR 0 (n - 1) x.b && x.a != x.b && Z5 1 1000000 x.long && decide (x.gates.length≤6) && Ym 0 x.gates
def ZU (l:Land):Bool :=
 inR 1 12 l.wells.length && decide (l.legs.length≤24) && l.wells.all Yy && l.legs.all (XU l.wells.length)
def XK {α : Type} (g:α→Bool):List α→Nat→Int
 | [],_=>-1
 | x :: l,k=>if g x then k else XK g l (k+1)
theorem ZdJ {α : Type} (g:α→Bool):∀ (l:List α) (k:Nat),decide (XK g l k ≥ 0)=l.any g
 | [],k=>by simp [XK]
 | x :: l,k=>by
  simp only [XK,List.any_cons]
  by_cases hg:g x=true
  · simp [hg]
  · simpa [hg] using ZdJ g l (k+1)
def YM (w:Well) (has:Span) (days:Int):Span:=⟨min w.room (has.lo+days * w.yld.lo),min w.room (has.hi+days * w.yld.hi)⟩
def YT (n last:Int):List Draw→Bool
 | []=>true
 | x :: r=>inR 0 (n - 1) x.well && inR last 100000 x.day && inR 0 1000000000 x.water && YT n x.day r
def XM (w:Well) (well day:Int) (now:Span) (evening:Int) (i:Nat):List Draw→Span × Int × Int
 | []=>(YM w now (day - 1 - evening),0,0)
 | x :: r =>
  if (x.well != well || decide (x.day ≥ day))=true then XM w well day now evening (i+1) r
  else
   let f:=YM w now (x.day - evening)
   if f.hi < x.water then (⟨0,0⟩,i,33) else XM w well day ⟨max 0 (f.lo - x.water),f.hi - x.water⟩ x.day (i+1) r
def Xd (l:Land) (well:Int) (draws:List Draw) (day:Int):Span × Int × Int :=
 if ZU l=false then (⟨0,0⟩,0,30)
 else if (inR 0 (l.wells.length - 1) well && inR 0 100000 day)=false then (⟨0,0⟩,0,2)
 else if draws.length > 200 then (⟨0,0⟩,0,4)
 else if YT l.wells.length 0 draws=false then (⟨0,0⟩,0,32)
 else match l.wells[well.toNat]? with
  | some w=>XM w well day w.has (-1) 0 draws
  | none=>(⟨0,0⟩,0,0)
def workF (l:Land) (well water teams:Int):Int × Int :=
 if ZU l=false then (0,30)
 else if (inR 0 (l.wells.length - 1) well && inR 0 1000000000 water && inR 1 100 teams)=false then (0,2)
 else match l.wells[well.toNat]? with
  | some w=>((water * w.depth+1000000 * teams - 1).tdiv (1000000 * teams),0)
  | none=>(0,0)
def Xr (l:Land):Prop:=l.wells.length≤1000∧l.legs.length≤1000∧∀ x ∈ l.legs,x.gates.length≤1000
def ZaK (l:Land):Bool:=decide (l.wells.length > 20) || decide (l.legs.length > 40) || l.legs.any fun x=>decide (x.gates.length > 20)
theorem Zag {l:Land} (h:ZU l=true):∀ w ∈ l.wells,Yy w=true:=by
 simp only [ZU,Bool.and_eq_true,List.all_eq_true] at h;exact h.1.2
theorem V6 {l:Land} (h:ZU l=true):1≤l.wells.length∧l.wells.length≤12∧l.legs.length≤24:=by
 simp only [ZU,Bool.and_eq_true,inR,decide_eq_true_eq] at h;omega
theorem Vh {n:Int}:∀ {l:List Draw} {last:Int},YT n last l=true→0≤last→∀ x ∈ l,0≤x.day∧x.day≤100000∧0≤x.water∧x.water≤1000000000
 | [],_,_,_,x,h=>by simp at h
 | y :: l,last,h,h0,x,hx=>by
  simp only [YT,Bool.and_eq_true,inR,decide_eq_true_eq] at h
  rcases List.mem_cons.1 hx with rfl | hx
  · omega
  · exact Vh h.2 (by omega) x hx
end Go.Azalai
set_option maxRecDepth 100000
set_option maxHeartbeats 4000000
namespace Go.Proofs.YtiigiflofnjilaaGreat
open Go Go.Sx Go.Azalai
def Zq (n:Int):List SV:=[I n]
def Zc (s:Span):List SV:=[I s.lo,I s.hi]
def Zg (g:Gate):List SV:=[I g.opens.lo,I g.opens.hi,I g.shuts.lo,I g.shuts.hi]
def Zf (w:Well):List SV:=[I w.x,I w.y,I w.depth,I w.yld.lo,I w.yld.hi,I w.room,I w.has.lo,I w.has.hi,I w.owner]
def Zm (x:Leg):List SV:=[I x.a,I x.b,I x.long.lo,I x.long.hi,.sl false 4 (x.gates.map Zg)]
def Zz (l:Land):List SV:=[.sl false 9 (l.wells.map Zf),.sl false 5 (l.legs.map Zm)]
def Z0 (d:Draw):List SV:=[I d.well,I d.day,I d.water]
theorem Wd {α : Type} (g:α→Bool) (l:List α):decide (XK g l 0 ≥ 0)=l.any g:=ZdJ g l 0
theorem Zh0 (h:Nat) (caps:List SV) (hk:KFL caps) (g:Int→Bool) (l:List Int) (hg:∀ x ∈ l,Ct Tryz.prog h (I x :: caps) (B (g x))) (hl:l.length < 4611686018427387904) {c:Bool} :
 Ct Tryz.prog 141 [.sl c 1 (l.map Zq),.cl h caps] (I (XK g l 0)):=by
 refine t141 ⟨by simp [KF,Za,KFL,Zq],hk,trivial⟩ (by simp [KF]) ?_
 dsimp only [ZzF,ZzN,go_sem,rA,rM,rS]
 refine Yx (fun k:Nat=>[(8,I k)]) (fun _=>[]) (fun k=>k≤l.length∧XK g (l.drop k) k=XK g l 0) (fun k=>l.length - k) 0 ⟨Nat.zero_le _,rfl⟩ ?_ ?_
 · (refine Zl ?_ ?_ ?_ rfl rfl<;>dsimp only [Zq,hk,id,go_sem,rA,rM,rS]<;>simp [Zq,hk,Za,Zi,KFR,KFL,KF,Zd,mtO,nbr])
 · intro k ⟨hk',hi⟩
   dsimp only [go_sem,rA,rM,rS]
   refine br ?_ ?_
   · intro hlt
     have hlt:k < l.length:=by simpa using hlt
     dsimp only [go_sem,rA,rM,rS]
     refine Zo k hlt rfl ?_
     dsimp only [Zq,go_sem,rA,rM,rS]
     refine call (hg l[k] (List.getElem_mem _)) ?_
     dsimp only [go_sem,rA,rM,rS]
     refine br ?_ ?_
     · intro hgx
       dsimp only [go_sem,rA,rM,rS]
       rw [← hi,List.drop_eq_getElem_cons hlt]
       simp [XK,hgx]
     · intro hgx
       dsimp only [go_sem,rA,rM,rS]
       refine ⟨k+1,⟨by omega,?_⟩,by omega,?_⟩
       · rw [← hi,List.drop_eq_getElem_cons hlt];simp [XK,hgx]
       · rw [Ze (by omega) (by omega)]
         (refine Zl ?_ ?_ ?_ rfl rfl<;>dsimp only [Zq,hk,id,go_sem,rA,rM,rS]<;>simp [Zq,hk,Za,Zi,KFR,KFL,KF,Zd,mtO,nbr])
   · intro hlt
     have hlt:k=l.length:=by simp at hlt;omega
     dsimp only [go_sem,rA,rM,rS]
     rw [← hi,hlt];simp [XK]
theorem ZwD (h:Nat) (caps:List SV) (hk:KFL caps) (g:Int→Bool) (l:List Int) (hg:∀ x ∈ l,Ct Tryz.prog h (I x :: caps) (B (g x))) (hl:l.length < 4611686018427387904) {c:Bool} :
 Ct Tryz.prog 98 [.sl c 1 (l.map Zq),.cl h caps] (B (l.any g)):=by
 refine t98 ⟨by simp [KF,Za,KFL,Zq],hk,trivial⟩ (by simp [KF]) ?_
 dsimp only [c98,r98,go_sem,rA,rM,rS]
 refine call (Zh0 h caps hk g l hg hl) ?_
 dsimp only [go_sem,rA,rM,rS]
 rw [Wd]
theorem idx95 (h:Nat) (caps:List SV) (hk:KFL caps) (g:Well→Bool) (l:List Well) (hg:∀ x ∈ l,Ct Tryz.prog h (.agg (Zf x) :: caps) (B (g x))) (hl:l.length < 4611686018427387904) {c:Bool} :
 Ct Tryz.prog 161 [.sl c 9 (l.map Zf),.cl h caps] (I (XK g l 0)):=by
 refine t161 ⟨by simp [KF,Za,KFL,Zf],hk,trivial⟩ (by simp [KF]) ?_
 dsimp only [c161,r161,go_sem,rA,rM,rS]
 refine Yx (fun k:Nat=>[(8,I k)]) (fun _=>[]) (fun k=>k≤l.length∧XK g (l.drop k) k=XK g l 0) (fun k=>l.length - k) 0 ⟨Nat.zero_le _,rfl⟩ ?_ ?_
 · (refine Zl ?_ ?_ ?_ rfl rfl<;>dsimp only [Zf,hk,id,go_sem,rA,rM,rS]<;>simp [Zf,hk,Za,Zi,KFR,KFL,KF,Zd,mtO,nbr])
 · intro k ⟨hk',hi⟩
   dsimp only [go_sem,rA,rM,rS]
   refine br ?_ ?_
   · intro hlt
     have hlt:k < l.length:=by simpa using hlt
     dsimp only [go_sem,rA,rM,rS]
     refine Zo k hlt rfl ?_
     dsimp only [Zf,go_sem,rA,rM,rS]
     refine call (hg l[k] (List.getElem_mem _)) ?_
     dsimp only [go_sem,rA,rM,rS]
     refine br ?_ ?_
     · intro hgx
       dsimp only [go_sem,rA,rM,rS]
       rw [← hi,List.drop_eq_getElem_cons hlt]
       simp [XK,hgx]
     · intro hgx
       dsimp only [go_sem,rA,rM,rS]
       refine ⟨k+1,⟨by omega,?_⟩,by omega,?_⟩
       · rw [← hi,List.drop_eq_getElem_cons hlt];simp [XK,hgx]
       · rw [Ze (by omega) (by omega)]
         (refine Zl ?_ ?_ ?_ rfl rfl<;>dsimp only [Zf,hk,id,go_sem,rA,rM,rS]<;>simp [Zf,hk,Za,Zi,KFR,KFL,KF,Zd,mtO,nbr])
   · intro hlt
     have hlt:k=l.length:=by simp at hlt;omega
     dsimp only [go_sem,rA,rM,rS]
     rw [← hi,hlt];simp [XK]
theorem con71 (h:Nat) (caps:List SV) (hk:KFL caps) (g:Well→Bool) (l:List Well) (hg:∀ x ∈ l,Ct Tryz.prog h (.agg (Zf x) :: caps) (B (g x))) (hl:l.length < 4611686018427387904) {c:Bool} :
 Ct Tryz.prog 129 [.sl c 9 (l.map Zf),.cl h caps] (B (l.any g)):=by
 refine t129 ⟨by simp [KF,Za,KFL,Zf],hk,trivial⟩ (by simp [KF]) ?_
 dsimp only [c129,r129,go_sem,rA,rM,rS]
 refine call (idx95 h caps hk g l hg hl) ?_
 dsimp only [go_sem,rA,rM,rS]
 rw [Wd]
theorem idx96 (h:Nat) (caps:List SV) (hk:KFL caps) (g:Leg→Bool) (l:List Leg) (hg:∀ x ∈ l,Ct Tryz.prog h (.agg (Zm x) :: caps) (B (g x))) (hl:l.length < 4611686018427387904) {c:Bool} :
 Ct Tryz.prog 162 [.sl c 5 (l.map Zm),.cl h caps] (I (XK g l 0)):=by
 refine t162 ⟨by simp [KF,Za,KFL,Zm,Zg],hk,trivial⟩ (by simp [KF]) ?_
 dsimp only [c162,r162,go_sem,rA,rM,rS]
 refine Yx (fun k:Nat=>[(8,I k)]) (fun _=>[]) (fun k=>k≤l.length∧XK g (l.drop k) k=XK g l 0) (fun k=>l.length - k) 0 ⟨Nat.zero_le _,rfl⟩ ?_ ?_
 · (refine Zl ?_ ?_ ?_ rfl rfl<;>dsimp only [Zm,Zg,hk,id,go_sem,rA,rM,rS]<;>simp [Zm,Zg,hk,Za,Zi,KFR,KFL,KF,Zd,mtO,nbr])
 · intro k ⟨hk',hi⟩
   dsimp only [go_sem,rA,rM,rS]
   refine br ?_ ?_
   · intro hlt
     have hlt:k < l.length:=by simpa using hlt
     dsimp only [go_sem,rA,rM,rS]
     refine Zo k hlt rfl ?_
     dsimp only [Zm,go_sem,rA,rM,rS]
     refine call (hg l[k] (List.getElem_mem _)) ?_
     dsimp only [go_sem,rA,rM,rS]
     refine br ?_ ?_
     · intro hgx
       dsimp only [go_sem,rA,rM,rS]
       rw [← hi,List.drop_eq_getElem_cons hlt]
       simp [XK,hgx]
     · intro hgx
       dsimp only [go_sem,rA,rM,rS]
       refine ⟨k+1,⟨by omega,?_⟩,by omega,?_⟩
       · rw [← hi,List.drop_eq_getElem_cons hlt];simp [XK,hgx]
       · rw [Ze (by omega) (by omega)]
         (refine Zl ?_ ?_ ?_ rfl rfl<;>dsimp only [Zm,Zg,hk,id,go_sem,rA,rM,rS]<;>simp [Zm,Zg,hk,Za,Zi,KFR,KFL,KF,Zd,mtO,nbr])
   · intro hlt
     have hlt:k=l.length:=by simp at hlt;omega
     dsimp only [go_sem,rA,rM,rS]
     rw [← hi,hlt];simp [XK]
theorem con74 (h:Nat) (caps:List SV) (hk:KFL caps) (g:Leg→Bool) (l:List Leg) (hg:∀ x ∈ l,Ct Tryz.prog h (.agg (Zm x) :: caps) (B (g x))) (hl:l.length < 4611686018427387904) {c:Bool} :
 Ct Tryz.prog 132 [.sl c 5 (l.map Zm),.cl h caps] (B (l.any g)):=by
 refine t132 ⟨by simp [KF,Za,KFL,Zm,Zg],hk,trivial⟩ (by simp [KF]) ?_
 dsimp only [c132,r132,go_sem,rA,rM,rS]
 refine call (idx96 h caps hk g l hg hl) ?_
 dsimp only [go_sem,rA,rM,rS]
 rw [Wd]
theorem ZyR (h:Nat) (caps:List SV) (hk:KFL caps) (g:Span→Bool) (l:List Span) (hg:∀ x ∈ l,Ct Tryz.prog h (.agg (Zc x) :: caps) (B (g x))) (hl:l.length < 4611686018427387904) {c:Bool} :
 Ct Tryz.prog 143 [.sl c 2 (l.map Zc),.cl h caps] (I (XK g l 0)):=by
 refine t143 ⟨by simp [KF,Za,KFL,Zc],hk,trivial⟩ (by simp [KF]) ?_
 dsimp only [Zzz,ZzJ,go_sem,rA,rM,rS]
 refine Yx (fun k:Nat=>[(8,I k)]) (fun _=>[]) (fun k=>k≤l.length∧XK g (l.drop k) k=XK g l 0) (fun k=>l.length - k) 0 ⟨Nat.zero_le _,rfl⟩ ?_ ?_
 · (refine Zl ?_ ?_ ?_ rfl rfl<;>dsimp only [Zc,hk,id,go_sem,rA,rM,rS]<;>simp [Zc,hk,Za,Zi,KFR,KFL,KF,Zd,mtO,nbr])
 · intro k ⟨hk',hi⟩
   dsimp only [go_sem,rA,rM,rS]
   refine br ?_ ?_
   · intro hlt
     have hlt:k < l.length:=by simpa using hlt
     dsimp only [go_sem,rA,rM,rS]
     refine Zo k hlt rfl ?_
     dsimp only [Zc,go_sem,rA,rM,rS]
     refine call (hg l[k] (List.getElem_mem _)) ?_
     dsimp only [go_sem,rA,rM,rS]
     refine br ?_ ?_
     · intro hgx
       dsimp only [go_sem,rA,rM,rS]
       rw [← hi,List.drop_eq_getElem_cons hlt]
       simp [XK,hgx]
     · intro hgx
       dsimp only [go_sem,rA,rM,rS]
       refine ⟨k+1,⟨by omega,?_⟩,by omega,?_⟩
       · rw [← hi,List.drop_eq_getElem_cons hlt];simp [XK,hgx]
       · rw [Ze (by omega) (by omega)]
         (refine Zl ?_ ?_ ?_ rfl rfl<;>dsimp only [Zc,hk,id,go_sem,rA,rM,rS]<;>simp [Zc,hk,Za,Zi,KFR,KFL,KF,Zd,mtO,nbr])
   · intro hlt
     have hlt:k=l.length:=by simp at hlt;omega
     dsimp only [go_sem,rA,rM,rS]
     rw [← hi,hlt];simp [XK]
theorem Zo8 (h:Nat) (caps:List SV) (hk:KFL caps) (g:Span→Bool) (l:List Span) (hg:∀ x ∈ l,Ct Tryz.prog h (.agg (Zc x) :: caps) (B (g x))) (hl:l.length < 4611686018427387904) {c:Bool} :
 Ct Tryz.prog 102 [.sl c 2 (l.map Zc),.cl h caps] (B (l.any g)):=by
 refine t102 ⟨by simp [KF,Za,KFL,Zc],hk,trivial⟩ (by simp [KF]) ?_
 dsimp only [ZzY,ZzB,go_sem,rA,rM,rS]
 refine call (ZyR h caps hk g l hg hl) ?_
 dsimp only [go_sem,rA,rM,rS]
 rw [Wd]
theorem Yc (n lo hi:Int):Ct Tryz.prog 88 [I n,I lo,I hi] (B (inR lo hi n)):=by
 refine t88 (by simp [KFL,KF]) (by simp [KFL,KF]) ?_
 dsimp only [c88,r88,go_sem,rA,rM,rS]
 refine gb ?_;dsimp only [go_sem,rA,rM,rS]
 refine gb ?_;dsimp only [go_sem,rA,rM,rS]
 refine gb ?_;dsimp only [go_sem,rA,rM,rS]
 simp [inR]
theorem ZD (s:Span) (lo hi:Int):Ct Tryz.prog 137 [.agg (Zc s),I lo,I hi] (B (Z5 lo hi s)):=by
 refine t137 (by simp [Zc,KFL,KF]) (by simp [KFL,KF]) ?_
 dsimp only [c137,r137,Zc,go_sem,rA,rM,rS]
 refine call (Yc _ _ _) ?_
 dsimp only [go_sem,rA,rM,rS]
 repeat (refine gb ?_;dsimp only [go_sem,rA,rM,rS])
 (simp only [Z5,inR,Option.some.injEq,SV.v.injEq,Value.bool.injEq]<;>grind)
theorem ZbW (lo hi x:Int):Ct Tryz.prog 121 [I x,.ps [I lo] 0,.ps [I hi] 0] (B (!inR lo hi x)):=by
 refine t121 (by simp [KFL,KF]) (by simp [KFL,KF]) ?_
 dsimp only [c121,r121,go_sem,rA,rM,rS]
 repeat (refine gb ?_;dsimp only [go_sem,rA,rM,rS])
 (simp only [inR,Option.some.injEq,SV.v.injEq,Value.bool.injEq]<;>grind)
theorem VK (lo hi:Int) (l:List Int) (hl:l.length < 4611686018427387904) (c:Bool):Ct Tryz.prog 76 [I lo,I hi,.sl c 1 (l.map Zq)] (B (l.all (inR lo hi))):=by
 refine t76 (by simp [Za,Zq,KFL,KF]) (by simp [KFL,KF]) ?_
 dsimp only [c76,r76,go_sem,rA,rM,rS]
 refine Zck (by simp [FLT]) (res:=B (l.any fun x=>!inR lo hi x)) ?_ ?_
 · dsimp only [go_sem,rA,rM,rS]
   exact ZwD 121 [.ps [I lo] 0,.ps [I hi] 0] (by simp [KFL,KF]) (fun x=>!inR lo hi x) l (fun x _=>ZbW lo hi x) hl
 · dsimp only [go_sem,rA,rM,rS]
   simp [List.all_eq_not_any_not]
theorem Ud (lo hi a:Int) (c:Bool):Ct Tryz.prog 76 [I lo,I hi,.sl c 1 [[I a]]] (B (inR lo hi a)):=by
 have:=VK lo hi [a] (by simp) c
 simpa [Zq] using this
theorem ZfF (lo hi a b:Int) (c:Bool):Ct Tryz.prog 76 [I lo,I hi,.sl c 1 [[I a],[I b]]] (B (inR lo hi a && inR lo hi b)):=by
 have:=VK lo hi [a,b] (by simp) c
 simpa [Zq] using this
theorem Vd (lo hi:Int) (s:Span):Ct Tryz.prog 158 [.agg (Zc s),.ps [I lo] 0,.ps [I hi] 0] (B (!Z5 lo hi s)):=by
 refine t158 (by simp [Zc,KFL,KF]) (by simp [KFL,KF]) ?_
 dsimp only [c158,r158,Zc,go_sem,rA,rM,rS]
 repeat (first | (refine gb ?_;dsimp only [go_sem,rA,rM,rS]) | (refine call (ZfF _ _ _ _ _) ?_;dsimp only [go_sem,rA,rM,rS]))
 (simp only [Z5,inR,Option.some.injEq,SV.v.injEq,Value.bool.injEq]<;>grind)
theorem YV (lo hi:Int) (l:List Span) (hl:l.length < 4611686018427387904) (c:Bool):Ct Tryz.prog 120 [I lo,I hi,.sl c 2 (l.map Zc)] (B (l.all (Z5 lo hi))):=by
 refine t120 (by simp [Za,Zc,KFL,KF]) (by simp [KFL,KF]) ?_
 dsimp only [c120,r120,go_sem,rA,rM,rS]
 refine Zck (by simp [FLT]) (res:=B (l.any fun x=>!Z5 lo hi x)) ?_ ?_
 · dsimp only [go_sem,rA,rM,rS]
   exact Zo8 158 [.ps [I lo] 0,.ps [I hi] 0] (by simp [KFL,KF]) (fun x=>!Z5 lo hi x) l (fun x _=>Vd lo hi x) hl
 · dsimp only [go_sem,rA,rM,rS]
   simp [List.all_eq_not_any_not]
theorem YR (lo hi:Int) (s:Span) (c:Bool):Ct Tryz.prog 120 [I lo,I hi,.sl c 2 [[I s.lo,I s.hi]]] (B (Z5 lo hi s)):=by
 have:=YV lo hi [s] (by simp) c
 simpa [Zc] using this
theorem Zbz (lo hi:Int) (s t:Span) (c:Bool):Ct Tryz.prog 120 [I lo,I hi,.sl c 2 [[I s.lo,I s.hi],[I t.lo,I t.hi]]] (B (Z5 lo hi s && Z5 lo hi t)):=by
 have:=YV lo hi [s,t] (by simp) c
 simpa [Zc] using this
theorem Zzk (w:Well):Ct Tryz.prog 131 [.agg (Zf w)] (B (Yy w)):=by
 refine t131 (by simp [Zf,KFL,KF]) (by simp [KFL,KF]) ?_
 dsimp only [c131,r131,Zf,go_sem,rA,rM,rS]
 repeat (first | (refine gb ?_;dsimp only [go_sem,rA,rM,rS]) | (refine call (Ud _ _ _ _) ?_;dsimp only [go_sem,rA,rM,rS]) | (refine call (ZfF _ _ _ _ _) ?_;dsimp only [go_sem,rA,rM,rS]) | (refine call (YR _ _ w.yld _) ?_;dsimp only [go_sem,rA,rM,rS]) | (refine call (YR _ _ w.has _) ?_;dsimp only [go_sem,rA,rM,rS]))
 simp [Yy,Bool.and_assoc]
theorem ZfG (x:Leg) (n:Int) (h0:0≤n) (h1:n≤1000) (hg:x.gates.length < 4611686018427387904):Ct Tryz.prog 134 [.agg (Zm x),I n] (B (XU n x)):=by
 have hw:IntKind.i64.wrap (n - 1)=n - 1:=Ze (by omega) (by omega)
 refine t134 (by simp [Zm,Za,Zg,KFL,KF]) (by simp [KFL,KF]) ?_
 dsimp only [c134,r134,Zm,hw,go_sem,rA,rM,rS]
 simp only [hw]
 repeat (first | (refine gb ?_;dsimp only [go_sem,rA,rM,rS]) | (refine call (ZfF _ _ _ _ _) ?_;dsimp only [go_sem,rA,rM,rS]) | (refine call (YR _ _ x.long _) ?_;dsimp only [go_sem,rA,rM,rS]))
 simp only [List.length_map]
 refine br ?_ ?_
 · intro h
   dsimp only [go_sem,rA,rM,rS]
   (simp only [XU,Option.some.injEq,SV.v.injEq,Value.bool.injEq]<;>grind)
 · intro h
   dsimp only [go_sem,rA,rM,rS]
   have hh:XU n x=Ym 0 x.gates:=by simp only [XU];grind
   rw [hh]
   refine Yx (fun s:Nat × Int=>[(40,I s.1),(5,I s.2)]) (fun _=>[]) (fun s=>s.1≤x.gates.length∧Ym s.2 (x.gates.drop s.1)=Ym 0 x.gates) (fun s=>x.gates.length - s.1) (0,0) ⟨Nat.zero_le _,rfl⟩ ?_ ?_
   · (refine Zl ?_ ?_ ?_ rfl rfl<;>dsimp only [Zg,id,go_sem,rA,rM,rS]<;>simp [Zg,Za,Zi,KFR,KFL,KF,Zd,mtO,nbr])
   · rintro ⟨k,next⟩ ⟨hk,hi⟩
     dsimp only [go_sem,rA,rM,rS]
     refine br ?_ ?_
     · intro hlt
       have hlt:k < x.gates.length:=by simpa using hlt
       dsimp only [go_sem,rA,rM,rS]
       refine Zo k hlt rfl ?_
       dsimp only [Zg,go_sem,rA,rM,rS]
       repeat (first | (refine gb ?_;dsimp only [go_sem,rA,rM,rS]) | (refine call (Zbz _ _ x.gates[k].opens x.gates[k].shuts _) ?_;dsimp only [go_sem,rA,rM,rS]) | (refine call (Ud _ _ _ _) ?_;dsimp only [go_sem,rA,rM,rS]))
       have hd:x.gates.drop k=x.gates[k] :: x.gates.drop (k+1):=List.drop_eq_getElem_cons hlt
       refine br ?_ ?_
       · intro hb
         dsimp only [go_sem,rA,rM,rS]
         rw [← hi,hd]
         (simp only [Ym,Option.some.injEq,SV.v.injEq,Value.bool.injEq]<;>grind)
       · intro hb
         dsimp only [go_sem,rA,rM,rS]
         have hs:Z5 0 100000 x.gates[k].shuts=true:=by grind
         simp only [Z5,decide_eq_true_eq] at hs
         rw [Ze (n:=x.gates[k].shuts.hi+1) (by omega) (by omega),Ze (n:=(k:Int)+1) (by omega) (by omega)]
         refine ⟨(k+1,x.gates[k].shuts.hi+1),⟨hlt,?_⟩,by simp only;omega,?_⟩
         · rw [← hi,hd];simp only [Ym];grind
         · (refine Zl ?_ ?_ ?_ rfl rfl<;>dsimp only [Zg,id,go_sem,rA,rM,rS]<;>simp [Zg,Za,Zi,KFR,KFL,KF,Zd,mtO,nbr])
     · intro hlt
       have hlt:k=x.gates.length:=by simp at hlt;omega
       dsimp only [go_sem,rA,rM,rS]
       rw [← hi,hlt];simp [Ym]
theorem Zup (l:Land) (x:Leg) (hs:Xr l) (hx:x ∈ l.legs):Ct Tryz.prog 133 [.agg (Zm x),.ps (Zz l) 0] (B (!XU l.wells.length x)):=by
 have hg:=hs.2.2 x hx
 refine t133 (by simp [Zm,Zz,Zf,Zg,Za,KFL,KF]) (by simp [KFL,KF]) ?_
 dsimp only [c133,r133,Zm,Zz,go_sem,rA,rM,rS]
 simp only [List.length_map]
 refine call (ZfG x l.wells.length (by omega) (by have:=hs.1;omega) (by omega)) ?_
 dsimp only [go_sem,rA,rM,rS]
theorem ZkH (w:Well):Ct Tryz.prog 130 [.agg (Zf w)] (B (!Yy w)):=by
 refine t130 (by simp [Zf,KFL,KF]) (by simp [KFL,KF]) ?_
 dsimp only [c130,r130,Zf,go_sem,rA,rM,rS]
 refine call (Zzk w) ?_
 dsimp only [go_sem,rA,rM,rS]
theorem ZbN (l:Land) (hs:Xr l):Ct Tryz.prog 85 [.agg (Zz l)] (I (if ZU l=true then 0 else 30)):=by
 refine t85 (by simp [Zz,Zf,Zm,Zg,Za,KFL,KF]) (by simp [KFL,KF]) ?_
 dsimp only [c85,r85,Zz,go_sem,rA,rM,rS]
 refine call (con71 130 [] (by simp [KFL]) (fun w=>!Yy w) l.wells (fun w _=>ZkH w) (by have:=hs.1;omega)) ?_
 dsimp only [go_sem,rA,rM,rS]
 refine Zck (res:=B (l.legs.any fun x=>!XU l.wells.length x)) (by simp [FLT]) ?_ ?_
 · dsimp only [go_sem,rA,rM,rS]
   exact con74 133 [.ps (Zz l) 0] (by simp [Zz,Zf,Zm,Zg,Za,KFL,KF]) (fun x=>!XU l.wells.length x) l.legs (fun x hx=>Zup l x hs hx) (by have:=hs.2.1;omega)
 dsimp only [go_sem,rA,rM,rS]
 repeat (first | (refine gb ?_;dsimp only [go_sem,rA,rM,rS]) | (refine call (Ud _ _ _ _) ?_;dsimp only [go_sem,rA,rM,rS]))
 simp only [List.length_map]
 have key:ZU l = !(!inR 1 12 l.wells.length || decide ((l.legs.length:Int) > 24) || !(!l.wells.any fun w=>!Yy w) || !(!l.legs.any fun x=>!XU l.wells.length x)):=by
  simp only [ZU,List.all_eq_not_any_not];grind
 rw [key]
 refine br ?_ ?_
 · intro h
   dsimp only [go_sem,rA,rM,rS]
   rw [h];rfl
 · intro h
   dsimp only [go_sem,rA,rM,rS]
   rw [h];rfl
theorem Zap {w:Well} {s:Span} {n:Int} (hw:Yy w=true) (h1:0≤s.lo) (h2:s.lo≤w.room) (h3:0≤s.hi) (h4:s.hi≤w.room) (h5:-200000≤n) (h6:n≤200000) :
 IntKind.i64.wrap (s.lo+IntKind.i64.wrap (n * w.yld.lo))=s.lo+n * w.yld.lo∧IntKind.i64.wrap (s.hi+IntKind.i64.wrap (n * w.yld.hi))=s.hi+n * w.yld.hi:=by
 simp only [Yy,Z5,inR,Bool.and_eq_true,decide_eq_true_eq] at hw
 have key:∀ y:Int,0≤y→y≤10000000→-2000000000000≤n * y∧n * y≤2000000000000:=fun y a b=>by
  constructor
  · have:=Int.mul_le_mul_of_nonneg_right h5 a;omega
  · have:=Int.mul_le_mul_of_nonneg_right h6 a;omega
 have k1:=key w.yld.lo (by omega) (by omega)
 have k2:=key w.yld.hi (by omega) (by omega)
 rw [Ze (n:=n * w.yld.lo) (by omega) (by omega),Ze (n:=n * w.yld.hi) (by omega) (by omega),Ze (by omega) (by omega),Ze (by omega) (by omega)]
 exact ⟨rfl,rfl⟩
theorem ZcD {w:Well} {s:Span} {n:Int} (hw:Yy w=true) (h1:0≤s.lo) (h2:s.lo≤w.room) (h3:0≤s.hi) (h4:s.hi≤w.room) (h5:-200000≤n) (h6:n≤200000):-2000000000000≤(YM w s n).lo:=by
 simp only [Yy,Z5,inR,Bool.and_eq_true,decide_eq_true_eq] at hw
 have k1:-2000000000000≤n * w.yld.lo:=by
  have:=Int.mul_le_mul_of_nonneg_right h5 (show 0≤w.yld.lo by omega);omega
 simp only [YM];omega
theorem Zcx (w:Well) (s:Span) (n:Int) (hw:Yy w=true) (h1:0≤s.lo) (h2:s.lo≤w.room) (h3:0≤s.hi) (h4:s.hi≤w.room) (h5:-200000≤n) (h6:n≤200000) :
 Ct Tryz.prog 86 [.agg (Zf w),.agg (Zc s),I n] (.agg (Zc (YM w s n))):=by
 obtain ⟨k1,k2⟩:=Zap hw h1 h2 h3 h4 h5 h6
 refine t86 (by simp [Zf,Zc,KFL,KF]) (by simp [Zc,KFL,KF]) ?_
 dsimp only [c86,r86,Zf,Zc,go_sem,rA,rM,rS]
 simp only [k1,k2,YM]
theorem Zbg (w:Well) (s:Span) (n:Int) (hw:Yy w=true) (h1:0≤s.lo) (h2:s.lo≤w.room) (h3:0≤s.hi) (h4:s.hi≤w.room) (h5:-200000≤n) (h6:n≤200000) :
 Ct Tryz.prog 152 [.agg (Zf w),.agg (Zc s),I n] (.agg (Zc (YM w s n))):=by
 obtain ⟨k1,k2⟩:=Zap hw h1 h2 h3 h4 h5 h6
 refine t152 (by simp [Zf,Zc,KFL,KF]) (by simp [Zc,KFL,KF]) ?_
 dsimp only [c152,r152,Zf,Zc,go_sem,rA,rM,rS]
 simp only [k1,k2,YM]
def ZcX (r:Span × Int × Int):SV:=.tup [.agg (Zc r.1),I r.2.1,I r.2.2]
theorem Zea {l:Land} {well:Int} (h:inR 0 (l.wells.length - 1) well=true):∃ (k:Nat) (hk:k < l.wells.length),well=(k:Int)∧l.wells[well.toNat]? = some l.wells[k]:=by
 simp only [inR,decide_eq_true_eq] at h
 refine ⟨well.toNat,by omega,by omega,?_⟩
 rw [List.getElem?_eq_getElem (by omega)]
theorem ZmN (l:Land) (hs:Xr l) (well day:Int) (draws:List Draw) (hd:draws.length≤1000) :
 Ct Tryz.prog 42 [.agg (Zz l),I well,.sl false 3 (draws.map Z0),I day] (ZcX (Xd l well draws day)):=by
 have hw1:IntKind.i64.wrap ((l.wells.length:Int) - 1)=(l.wells.length:Int) - 1:=Ze (by omega) (by have:=hs.1;omega)
 refine t42 (by simp [Zz,Zf,Zm,Zg,Z0,Za,KFL,KF]) (by simp [ZcX,Zc,KFL,KF]) ?_
 dsimp only [c42,r42,Zz,go_sem,rA,rM,rS]
 refine call (ZbN l hs) ?_
 dsimp only [go_sem,rA,rM,rS]
 by_cases ho:ZU l=true
 case neg =>
  rw [if_neg ho]
  refine Zt rfl ?_
  dsimp only [go_sem,rA,rM,rS]
  simp [Xd,ho,ZcX,Zc]
 rw [if_pos ho]
 refine Zu rfl ?_
 dsimp only [go_sem,rA,rM,rS]
 simp only [List.length_map,hw1]
 repeat (first | (refine gb ?_;dsimp only [go_sem,rA,rM,rS]) | (refine call (Ud _ _ _ _) ?_;dsimp only [go_sem,rA,rM,rS]))
 by_cases ha:(inR 0 (l.wells.length - 1) well && inR 0 100000 day)=true
 case neg =>
  refine Zt (by grind) ?_
  dsimp only [go_sem,rA,rM,rS]
  simp [Xd,ho,ZcX,Zc,ha]
 refine Zu (by grind) ?_
 dsimp only [go_sem,rA,rM,rS]
 by_cases hm:draws.length > 200
 case pos =>
  refine Zt (by simp;omega) ?_
  dsimp only [go_sem,rA,rM,rS]
  simp [Xd,ho,ZcX,Zc,ha,hm]
 refine Zu (by simp;omega) ?_
 dsimp only [go_sem,rA,rM,rS]
 refine Yx (fun s:Nat × Int=>[(50,I s.1),(12,I s.2)]) (fun _=>[]) (fun s=>s.1≤draws.length∧YT l.wells.length s.2 (draws.drop s.1)=YT l.wells.length 0 draws) (fun s=>draws.length - s.1) (0,0) ⟨Nat.zero_le _,rfl⟩ ?_ ?_
 · (refine Zl ?_ ?_ ?_ rfl rfl<;>dsimp only [Zg,Zf,Zm,Z0,id,go_sem,rA,rM,rS]<;>simp [Zg,Zf,Zm,Z0,Za,Zi,KFR,KFL,KF,Zd,mtO,nbr])
 · rintro ⟨k,last⟩ ⟨hk,hi⟩
   simp only at hk hi
   dsimp only [go_sem,rA,rM,rS]
   by_cases hlt:k < draws.length
   · refine Zt (by simpa using hlt) ?_
     dsimp only [go_sem,rA,rM,rS]
     refine Zo k hlt rfl ?_
     dsimp only [Z0,go_sem,rA,rM,rS]
     simp only [List.length_map,hw1]
     repeat (first | (refine gb ?_;dsimp only [go_sem,rA,rM,rS]) | (refine call (Ud _ _ _ _) ?_;dsimp only [go_sem,rA,rM,rS]))
     have hdr:draws.drop k=draws[k] :: draws.drop (k+1):=List.drop_eq_getElem_cons hlt
     rw [hdr] at hi
     simp only [YT] at hi
     refine br ?_ ?_
     · intro h
       dsimp only [go_sem,rA,rM,rS]
       have:YT l.wells.length 0 draws=false:=by rw [← hi];grind
       simp [Xd,ho,ZcX,Zc,ha,hm,this]
     · intro h
       dsimp only [go_sem,rA,rM,rS]
       rw [Ze (n:=(k:Int)+1) (by omega) (by omega)]
       refine ⟨(k+1,draws[k].day),⟨hlt,?_⟩,by simp only;omega,?_⟩
       · simp only;grind
       · (refine Zl ?_ ?_ ?_ rfl rfl<;>dsimp only [Zg,Zf,Zm,Z0,id,go_sem,rA,rM,rS]<;>simp [Zg,Zf,Zm,Z0,Za,Zi,KFR,KFL,KF,Zd,mtO,nbr])
   · refine Zu (by simp;omega) ?_
     dsimp only [go_sem,rA,rM,rS]
     have hk':k=draws.length:=by omega
     subst hk'
     simp only [List.drop_length,YT] at hi
     obtain ⟨kw,hkw,rfl,hget⟩:=Zea (Bool.and_eq_true_iff.1 ha).1
     refine Zo kw hkw rfl ?_
     dsimp only [Zf,go_sem,rA,rM,rS]
     have hwf:Xd l kw draws day=XM l.wells[kw] kw day l.wells[kw].has (-1) 0 draws:=by
      simp only [Xd,ho,ha,hm,← hi,hget];simp
     rw [hwf]
     have hok:=Zag ho l.wells[kw] (List.getElem_mem _)
     have hmem:=Vh hi.symm (Int.le_refl _)
     have hday:0≤day∧day≤100000:=by simp only [inR,Bool.and_eq_true,decide_eq_true_eq] at ha;omega
     have hroom:0≤l.wells[kw].has.lo∧l.wells[kw].has.lo≤l.wells[kw].room∧0≤l.wells[kw].has.hi∧l.wells[kw].has.hi≤l.wells[kw].room∧l.wells[kw].room≤1000000000:=by
      simp only [Yy,Z5,inR,Bool.and_eq_true,decide_eq_true_eq] at hok;omega
     have hroom2:∀ x:Int,x≤l.wells[kw].room→x≤1000000000:=fun x h=>by omega
     refine Yx (fun s:Nat × Span × Int=>[(91,I s.1),(17,I s.2.2)]) (fun s=>[(3,.cells (Zc s.2.1) 27)])
      (fun s=>s.1≤draws.length∧XM l.wells[kw] kw day s.2.1 s.2.2 s.1 (draws.drop s.1)=XM l.wells[kw] kw day l.wells[kw].has (-1) 0 draws ∧
       0≤s.2.1.lo∧s.2.1.lo≤l.wells[kw].room∧0≤s.2.1.hi∧s.2.1.hi≤l.wells[kw].room∧-1≤s.2.2∧s.2.2≤100000) (fun s=>draws.length - s.1) (0,l.wells[kw].has,-1)
      ⟨Nat.zero_le _,rfl,hroom.1,hroom.2.1,hroom.2.2.1,hroom.2.2.2.1,by simp,by simp⟩ ?_ ?_
     · (refine Zl ?_ ?_ ?_ rfl rfl<;>dsimp only [Zg,Zf,Zm,Z0,Zc,id,go_sem,rA,rM,rS]<;>simp [Zg,Zf,Zm,Z0,Zc,Za,Zi,KFR,KFL,KF,Zd,mtO,nbr])
     · rintro ⟨k,now,ev⟩ ⟨hk2,hi2,n1,n2,n3,n4,e1,e2⟩
       simp only at hk2 hi2 n1 n2 n3 n4 e1 e2
       dsimp only [Zc,go_sem,rA,rM,rS]
       by_cases hlt2:k < draws.length
       · refine Zt (by simpa using hlt2) ?_
         dsimp only [go_sem,rA,rM,rS]
         refine Zo k hlt2 rfl ?_
         dsimp only [Z0,go_sem,rA,rM,rS]
         repeat (first | (refine gb ?_;dsimp only [go_sem,rA,rM,rS]))
         have hx:=hmem draws[k] (List.getElem_mem _)
         have hdr:draws.drop k=draws[k] :: draws.drop (k+1):=List.drop_eq_getElem_cons hlt2
         rw [hdr] at hi2
         simp only [XM] at hi2
         by_cases hc:(draws[k].well != (kw:Int) || decide (draws[k].day ≥ day))=true
         · refine Zt hc ?_
           dsimp only [go_sem,rA,rM,rS]
           rw [if_pos hc] at hi2
           rw [Ze (n:=(k:Int)+1) (by omega) (by omega)]
           refine ⟨(k+1,now,ev),⟨hlt2,hi2,n1,n2,n3,n4,e1,e2⟩,by simp only;omega,?_⟩
           (refine Zl ?_ ?_ ?_ rfl rfl<;>dsimp only [Zg,Zf,Zm,Z0,Zc,id,go_sem,rA,rM,rS]<;>simp [Zg,Zf,Zm,Z0,Zc,Za,Zi,KFR,KFL,KF,Zd,mtO,nbr])
         · refine Zu (by simpa using hc) ?_
           rw [if_neg hc] at hi2
           dsimp only [go_sem,rA,rM,rS]
           rw [Ze (n:=draws[k].day - ev) (by omega) (by omega)]
           refine call (Zcx l.wells[kw] now (draws[k].day - ev) hok n1 n2 n3 n4 (by omega) (by omega)) ?_
           dsimp only [Zc,go_sem,rA,rM,rS]
           have hbig:-2000000000000≤(YM l.wells[kw] now (draws[k].day - ev)).lo:=ZcD hok n1 n2 n3 n4 (by omega) (by omega)
           have hf2:(YM l.wells[kw] now (draws[k].day - ev)).hi≤l.wells[kw].room:=by simp only [YM];omega
           have hf1:(YM l.wells[kw] now (draws[k].day - ev)).lo≤l.wells[kw].room:=by simp only [YM];omega
           generalize hF:YM l.wells[kw] now (draws[k].day - ev)=F at *
           by_cases hdry:F.hi < draws[k].water
           · refine Zt (by simpa using hdry) ?_
             dsimp only [go_sem,rA,rM,rS]
             rw [if_pos hdry] at hi2
             rw [← hi2];rfl
           · refine Zu (by simpa using hdry) ?_
             dsimp only [go_sem,rA,rM,rS]
             rw [if_neg hdry] at hi2
             rw [Ze (n:=F.lo - draws[k].water) (by omega) (by omega),Ze (n:=F.hi - draws[k].water) (by omega) (by omega),Ze (n:=(k:Int)+1) (by omega) (by omega)]
             refine ⟨(k+1,⟨max 0 (F.lo - draws[k].water),F.hi - draws[k].water⟩,draws[k].day),⟨hlt2,hi2,by simp only;omega,by simp only;omega,by simp only;omega,by simp only;omega,by simp only;omega,by simp only;omega⟩,by simp only;omega,?_⟩
             (refine Zl ?_ ?_ ?_ rfl rfl<;>dsimp only [Zg,Zf,Zm,Z0,Zc,id,go_sem,rA,rM,rS]<;>simp [Zg,Zf,Zm,Z0,Zc,Za,Zi,KFR,KFL,KF,Zd,mtO,nbr])
       · refine Zu (by simp;omega) ?_
         dsimp only [go_sem,rA,rM,rS]
         rw [Ze (n:=day - 1) (by omega) (by omega),Ze (n:=day - 1 - ev) (by omega) (by omega)]
         refine call (Zcx l.wells[kw] now (day - 1 - ev) hok n1 n2 n3 n4 (by omega) (by omega)) ?_
         dsimp only [Zc,go_sem,rA,rM,rS]
         have hk':k=draws.length:=by omega
         subst hk'
         simp only [List.drop_length,XM] at hi2
         rw [← hi2];rfl
end Go.Proofs.YtiigiflofnjilaaGreat
namespace Go.Azalai
structure Breed where
 full:Int
 fed:Int
 rest:Span
 heat:Span
 toil:Span
 burn:Span
 rub:Span
 milk:Span
 heal:Int
 strong:Span
deriving DecidableEq
structure Camel where
 water:Span
 fat:Span
 sore:Span
 milks:Bool
deriving DecidableEq
structure March where
 hours:Int
 load:Int
 heat:Span
 grass:Span
 drinks:Span
deriving DecidableEq
def Zw (b:Breed):Bool :=
 inR 1 1000000 b.full && inR 1 1000000 b.fed && inR 0 1000 b.heal && Z5 0 1000000 b.strong && Z5 0 100000 b.rest && Z5 0 100000 b.heat && Z5 0 100000 b.toil && Z5 0 100000 b.burn && Z5 0 100000 b.rub && Z5 0 100000 b.milk
def Zv (b:Breed) (c:Camel):Bool:=Z5 0 b.full c.water && Z5 0 b.fed c.fat && Z5 0 1000 c.sore
def ZO (m:March):Bool:=inR 0 24 m.hours && inR 0 1000000 m.load && Z5 0 60 m.heat && Z5 0 1000000 m.grass && Z5 0 1000000 m.drinks
def ZvO (b:Breed):Int:=if Zw b=true then 0 else 10
def VT (b:Breed) (c:Camel):Int:=if Zw b=false then 10 else if Zv b c=false then 11 else 0
def upF (a b:Int):Int:=(a+b - 1).tdiv b
def Xe:Span:=⟨0,0⟩
def UF (b:Breed) (c:Camel):Span :=
 ⟨min 1000 (min ((2000 * c.water.lo).tdiv b.full) (min ((2000 * c.fat.lo).tdiv b.fed) (1000 - c.sore.hi))),min 1000 (min (upF (2000 * c.water.hi) b.full) (min (upF (2000 * c.fat.hi) b.fed) (1000 - c.sore.lo)))⟩
def ZnJ (b:Breed) (c:Camel):Span:=⟨(b.strong.lo * (UF b c).lo).tdiv 1000,upF (b.strong.hi * (UF b c).hi) 1000⟩
def Yd (m:March):Int:=m.hours * (100000+m.load)
def Xx (b:Breed) (milks:Bool) (m:March):Span :=
 ⟨b.rest.lo+b.heat.lo * max 0 (m.heat.lo - 20)+(b.toil.lo * Yd m).tdiv 100000+(if milks then b.milk.lo else 0),b.rest.hi+b.heat.hi * max 0 (m.heat.hi - 20)+upF (b.toil.hi * Yd m) 100000+(if milks then b.milk.hi else 0)⟩
def XG (b:Breed) (m:March):Span:=⟨(b.burn.lo * Yd m).tdiv 100000,upF (b.burn.hi * Yd m) 100000⟩
theorem YS {a A d:Int} (h0:0≤a) (h1:a≤A) (hd:1≤d):0≤a.tdiv d∧a.tdiv d≤A :=
 ⟨Int.tdiv_nonneg h0 (by omega),Int.le_trans (Int.tdiv_le_self d h0) h1⟩
theorem Zdn {a A d:Int} (h0:0≤a) (h1:a≤A) (hd:1≤d):0≤upF a d∧upF a d≤A+d:=by
 have:=YS (a:=a+d - 1) (A:=A+d) (d:=d) (by omega) (by omega) hd
 exact this
end Go.Azalai
set_option maxRecDepth 100000
set_option maxHeartbeats 4000000
namespace Go.Proofs.YtiigiflofnjilaaGreat.Cm
open Go Go.Sx Go.Azalai
def breedL (b:Breed):List SV:=[I b.full,I b.fed,I b.rest.lo,I b.rest.hi,I b.heat.lo,I b.heat.hi,I b.toil.lo,I b.toil.hi,I b.burn.lo,I b.burn.hi,I b.rub.lo,I b.rub.hi,I b.milk.lo,I b.milk.hi,I b.heal,I b.strong.lo,I b.strong.hi]
def camelL (c:Camel):List SV:=[I c.water.lo,I c.water.hi,I c.fat.lo,I c.fat.hi,I c.sore.lo,I c.sore.hi,B c.milks]
def Yh (b:Breed) (c:Camel):List SV:=[I b.full,I b.fed,I b.rest.lo,I b.rest.hi,I b.heat.lo,I b.heat.hi,I b.toil.lo,I b.toil.hi,I b.burn.lo,I b.burn.hi,I b.rub.lo,I b.rub.hi,I b.milk.lo,I b.milk.hi,I b.heal,I b.strong.lo,I b.strong.hi,I c.water.lo,I c.water.hi,I c.fat.lo,I c.fat.hi,I c.sore.lo,I c.sore.hi,B c.milks]
def Z3 (m:March):List SV:=[I m.hours,I m.load,I m.heat.lo,I m.heat.hi,I m.grass.lo,I m.grass.hi,I m.drinks.lo,I m.drinks.hi]
theorem Wd {α : Type} (g:α→Bool) (l:List α):decide (XK g l 0 ≥ 0)=l.any g:=ZdJ g l 0
theorem Zh0 (h:Nat) (caps:List SV) (hk:KFL caps) (g:Int→Bool) (l:List Int) (hg:∀ x ∈ l,Ct Tryz.prog h (I x :: caps) (B (g x))) (hl:l.length < 4611686018427387904) {c:Bool} :
 Ct Tryz.prog 141 [.sl c 1 (l.map Zq),.cl h caps] (I (XK g l 0)):=by
 refine t141 ⟨by simp [KF,Za,KFL,Zq],hk,trivial⟩ (by simp [KF]) ?_
 dsimp only [ZzF,ZzN,go_sem,rA,rM,rS]
 refine Yx (fun k:Nat=>[(8,I k)]) (fun _=>[]) (fun k=>k≤l.length∧XK g (l.drop k) k=XK g l 0) (fun k=>l.length - k) 0 ⟨Nat.zero_le _,rfl⟩ ?_ ?_
 · (refine Zl ?_ ?_ ?_ rfl rfl<;>dsimp only [Zq,hk,id,go_sem,rA,rM,rS]<;>simp [Zq,hk,Za,Zi,KFR,KFL,KF,Zd,mtO,nbr])
 · intro k ⟨hk',hi⟩
   dsimp only [go_sem,rA,rM,rS]
   refine br ?_ ?_
   · intro hlt
     have hlt:k < l.length:=by simpa using hlt
     dsimp only [go_sem,rA,rM,rS]
     refine Zo k hlt rfl ?_
     dsimp only [Zq,go_sem,rA,rM,rS]
     refine call (hg l[k] (List.getElem_mem _)) ?_
     dsimp only [go_sem,rA,rM,rS]
     refine br ?_ ?_
     · intro hgx
       dsimp only [go_sem,rA,rM,rS]
       rw [← hi,List.drop_eq_getElem_cons hlt]
       simp [XK,hgx]
     · intro hgx
       dsimp only [go_sem,rA,rM,rS]
       refine ⟨k+1,⟨by omega,?_⟩,by omega,?_⟩
       · rw [← hi,List.drop_eq_getElem_cons hlt];simp [XK,hgx]
       · rw [Ze (by omega) (by omega)]
         (refine Zl ?_ ?_ ?_ rfl rfl<;>dsimp only [Zq,hk,id,go_sem,rA,rM,rS]<;>simp [Zq,hk,Za,Zi,KFR,KFL,KF,Zd,mtO,nbr])
   · intro hlt
     have hlt:k=l.length:=by simp at hlt;omega
     dsimp only [go_sem,rA,rM,rS]
     rw [← hi,hlt];simp [XK]
theorem con91 (h:Nat) (caps:List SV) (hk:KFL caps) (g:Int→Bool) (l:List Int) (hg:∀ x ∈ l,Ct Tryz.prog h (I x :: caps) (B (g x))) (hl:l.length < 4611686018427387904) {c:Bool} :
 Ct Tryz.prog 98 [.sl c 1 (l.map Zq),.cl h caps] (B (l.any g)):=by
 refine t98 ⟨by simp [KF,Za,KFL,Zq],hk,trivial⟩ (by simp [KF]) ?_
 dsimp only [c98,r98,go_sem,rA,rM,rS]
 refine call (Zh0 h caps hk g l hg hl) ?_
 dsimp only [go_sem,rA,rM,rS]
 rw [Wd]
theorem ZxU (h:Nat) (caps:List SV) (hk:KFL caps) (g:Span→Bool) (l:List Span) (hg:∀ x ∈ l,Ct Tryz.prog h (.agg (Zc x) :: caps) (B (g x))) (hl:l.length < 4611686018427387904) {c:Bool} :
 Ct Tryz.prog 143 [.sl c 2 (l.map Zc),.cl h caps] (I (XK g l 0)):=by
 refine t143 ⟨by simp [KF,Za,KFL,Zc],hk,trivial⟩ (by simp [KF]) ?_
 dsimp only [Zzz,ZzJ,go_sem,rA,rM,rS]
 refine Yx (fun k:Nat=>[(8,I k)]) (fun _=>[]) (fun k=>k≤l.length∧XK g (l.drop k) k=XK g l 0) (fun k=>l.length - k) 0 ⟨Nat.zero_le _,rfl⟩ ?_ ?_
 · (refine Zl ?_ ?_ ?_ rfl rfl<;>dsimp only [Zc,hk,id,go_sem,rA,rM,rS]<;>simp [Zc,hk,Za,Zi,KFR,KFL,KF,Zd,mtO,nbr])
 · intro k ⟨hk',hi⟩
   dsimp only [go_sem,rA,rM,rS]
   refine br ?_ ?_
   · intro hlt
     have hlt:k < l.length:=by simpa using hlt
     dsimp only [go_sem,rA,rM,rS]
     refine Zo k hlt rfl ?_
     dsimp only [Zc,go_sem,rA,rM,rS]
     refine call (hg l[k] (List.getElem_mem _)) ?_
     dsimp only [go_sem,rA,rM,rS]
     refine br ?_ ?_
     · intro hgx
       dsimp only [go_sem,rA,rM,rS]
       rw [← hi,List.drop_eq_getElem_cons hlt]
       simp [XK,hgx]
     · intro hgx
       dsimp only [go_sem,rA,rM,rS]
       refine ⟨k+1,⟨by omega,?_⟩,by omega,?_⟩
       · rw [← hi,List.drop_eq_getElem_cons hlt];simp [XK,hgx]
       · rw [Ze (by omega) (by omega)]
         (refine Zl ?_ ?_ ?_ rfl rfl<;>dsimp only [Zc,hk,id,go_sem,rA,rM,rS]<;>simp [Zc,hk,Za,Zi,KFR,KFL,KF,Zd,mtO,nbr])
   · intro hlt
     have hlt:k=l.length:=by simp at hlt;omega
     dsimp only [go_sem,rA,rM,rS]
     rw [← hi,hlt];simp [XK]
theorem con93 (h:Nat) (caps:List SV) (hk:KFL caps) (g:Span→Bool) (l:List Span) (hg:∀ x ∈ l,Ct Tryz.prog h (.agg (Zc x) :: caps) (B (g x))) (hl:l.length < 4611686018427387904) {c:Bool} :
 Ct Tryz.prog 102 [.sl c 2 (l.map Zc),.cl h caps] (B (l.any g)):=by
 refine t102 ⟨by simp [KF,Za,KFL,Zc],hk,trivial⟩ (by simp [KF]) ?_
 dsimp only [ZzY,ZzB,go_sem,rA,rM,rS]
 refine call (ZxU h caps hk g l hg hl) ?_
 dsimp only [go_sem,rA,rM,rS]
 rw [Wd]
theorem Yc (n lo hi:Int):Ct Tryz.prog 165 [I n,I lo,I hi] (B (inR lo hi n)):=by
 refine t165 (by simp [KFL,KF]) (by simp [KFL,KF]) ?_
 dsimp only [c165,r165,go_sem,rA,rM,rS]
 refine gb ?_;dsimp only [go_sem,rA,rM,rS]
 refine gb ?_;dsimp only [go_sem,rA,rM,rS]
 refine gb ?_;dsimp only [go_sem,rA,rM,rS]
 simp [inR]
theorem ZD (s:Span) (lo hi:Int):Ct Tryz.prog 166 [.agg (Zc s),I lo,I hi] (B (Z5 lo hi s)):=by
 refine t166 (by simp [Zc,KFL,KF]) (by simp [KFL,KF]) ?_
 dsimp only [c166,r166,Zc,go_sem,rA,rM,rS]
 refine call (Yc _ _ _) ?_
 dsimp only [go_sem,rA,rM,rS]
 repeat (refine gb ?_;dsimp only [go_sem,rA,rM,rS])
 (simp only [Z5,inR,Option.some.injEq,SV.v.injEq,Value.bool.injEq]<;>grind)
theorem ZbW (lo hi x:Int):Ct Tryz.prog 160 [I x,.ps [I lo] 0,.ps [I hi] 0] (B (!inR lo hi x)):=by
 refine t160 (by simp [KFL,KF]) (by simp [KFL,KF]) ?_
 dsimp only [c160,r160,go_sem,rA,rM,rS]
 repeat (refine gb ?_;dsimp only [go_sem,rA,rM,rS])
 (simp only [inR,Option.some.injEq,SV.v.injEq,Value.bool.injEq]<;>grind)
theorem VK (lo hi:Int) (l:List Int) (hl:l.length < 4611686018427387904) (c:Bool):Ct Tryz.prog 125 [I lo,I hi,.sl c 1 (l.map Zq)] (B (l.all (inR lo hi))):=by
 refine t125 (by simp [Za,Zq,KFL,KF]) (by simp [KFL,KF]) ?_
 dsimp only [c125,r125,go_sem,rA,rM,rS]
 refine Zck (by simp [FLT]) (res:=B (l.any fun x=>!inR lo hi x)) ?_ ?_
 · dsimp only [go_sem,rA,rM,rS]
   exact con91 160 [.ps [I lo] 0,.ps [I hi] 0] (by simp [KFL,KF]) (fun x=>!inR lo hi x) l (fun x _=>ZbW lo hi x) hl
 · dsimp only [go_sem,rA,rM,rS]
   simp [List.all_eq_not_any_not]
theorem Ud (lo hi a:Int) (c:Bool):Ct Tryz.prog 125 [I lo,I hi,.sl c 1 [[I a]]] (B (inR lo hi a)):=by
 have:=VK lo hi [a] (by simp) c
 simpa [Zq] using this
theorem ZfF (lo hi a b:Int) (c:Bool):Ct Tryz.prog 125 [I lo,I hi,.sl c 1 [[I a],[I b]]] (B (inR lo hi a && inR lo hi b)):=by
 have:=VK lo hi [a,b] (by simp) c
 simpa [Zq] using this
theorem Vd (lo hi:Int) (s:Span):Ct Tryz.prog 142 [.agg (Zc s),.ps [I lo] 0,.ps [I hi] 0] (B (!Z5 lo hi s)):=by
 refine t142 (by simp [Zc,KFL,KF]) (by simp [KFL,KF]) ?_
 dsimp only [c142,r142,Zc,go_sem,rA,rM,rS]
 repeat (first | (refine gb ?_;dsimp only [go_sem,rA,rM,rS]) | (refine call (ZfF _ _ _ _ _) ?_;dsimp only [go_sem,rA,rM,rS]))
 (simp only [Z5,inR,Option.some.injEq,SV.v.injEq,Value.bool.injEq]<;>grind)
theorem YV (lo hi:Int) (l:List Span) (hl:l.length < 4611686018427387904) (c:Bool):Ct Tryz.prog 101 [I lo,I hi,.sl c 2 (l.map Zc)] (B (l.all (Z5 lo hi))):=by
 refine t101 (by simp [Za,Zc,KFL,KF]) (by simp [KFL,KF]) ?_
 dsimp only [c101,r101,go_sem,rA,rM,rS]
 refine Zck (by simp [FLT]) (res:=B (l.any fun x=>!Z5 lo hi x)) ?_ ?_
 · dsimp only [go_sem,rA,rM,rS]
   exact con93 142 [.ps [I lo] 0,.ps [I hi] 0] (by simp [KFL,KF]) (fun x=>!Z5 lo hi x) l (fun x _=>Vd lo hi x) hl
 · dsimp only [go_sem,rA,rM,rS]
   simp [List.all_eq_not_any_not]
theorem YR (lo hi:Int) (s:Span) (c:Bool):Ct Tryz.prog 101 [I lo,I hi,.sl c 2 [[I s.lo,I s.hi]]] (B (Z5 lo hi s)):=by
 have:=YV lo hi [s] (by simp) c
 simpa [Zc] using this
theorem Zbz (lo hi:Int) (s t:Span) (c:Bool):Ct Tryz.prog 101 [I lo,I hi,.sl c 2 [[I s.lo,I s.hi],[I t.lo,I t.hi]]] (B (Z5 lo hi s && Z5 lo hi t)):=by
 have:=YV lo hi [s,t] (by simp) c
 simpa [Zc] using this
theorem Zlk (lo hi:Int) (a b c d e f:Span) (k:Bool):Ct Tryz.prog 101 [I lo,I hi,.sl k 2 [[I a.lo,I a.hi],[I b.lo,I b.hi],[I c.lo,I c.hi],[I d.lo,I d.hi],[I e.lo,I e.hi],[I f.lo,I f.hi]]]
 (B (Z5 lo hi a && (Z5 lo hi b && (Z5 lo hi c && (Z5 lo hi d && (Z5 lo hi e && Z5 lo hi f)))))):=by
 have:=YV lo hi [a,b,c,d,e,f] (by simp) k
 simpa [Zc] using this
theorem ZbK (b:Breed):Ct Tryz.prog 100 [.agg (breedL b)] (I (ZvO b)):=by
 refine t100 (by simp [breedL,KFL,KF]) (by simp [KFL,KF]) ?_
 dsimp only [c100,r100,breedL,go_sem,rA,rM,rS]
 repeat (first | (refine gb ?_;dsimp only [go_sem,rA,rM,rS]) | (refine call (Ud _ _ _ _) ?_;dsimp only [go_sem,rA,rM,rS]) | (refine call (ZfF _ _ _ _ _) ?_;dsimp only [go_sem,rA,rM,rS]) | (refine call (Zlk _ _ b.rest b.heat b.toil b.burn b.rub b.milk _) ?_;dsimp only [go_sem,rA,rM,rS]) | (refine call (YR _ _ b.strong _) ?_;dsimp only [go_sem,rA,rM,rS]))
 refine br ?_ ?_
 · intro h
   dsimp only [go_sem,rA,rM,rS]
   have:Zw b=false:=by simp only [Zw];grind
   simp [ZvO,this]
 · intro h
   dsimp only [go_sem,rA,rM,rS]
   have:Zw b=true:=by simp only [Zw];grind
   simp [ZvO,this]
theorem Zho (b:Breed):Ct Tryz.prog 138 [.agg (breedL b)] (B (Zw b)):=by
 refine t138 (by simp [breedL,KFL,KF]) (by simp [KFL,KF]) ?_
 dsimp only [c138,r138,breedL,go_sem,rA,rM,rS]
 repeat (first | (refine gb ?_;dsimp only [go_sem,rA,rM,rS]) | (refine call (Yc _ _ _) ?_;dsimp only [go_sem,rA,rM,rS]) | (refine call (ZD b.strong _ _) ?_;dsimp only [go_sem,rA,rM,rS]))
 refine br ?_ ?_
 · intro h
   dsimp only [go_sem,rA,rM,rS]
   have:Zw b=false:=by simp only [Zw];grind
   simp [this]
 · intro h
   dsimp only [go_sem,rA,rM,rS]
   repeat (first | (refine gb ?_;dsimp only [go_sem,rA,rM,rS]) | (refine call (ZD b.rest _ _) ?_;dsimp only [go_sem,rA,rM,rS]) | (refine call (ZD b.heat _ _) ?_;dsimp only [go_sem,rA,rM,rS]) | (refine call (ZD b.toil _ _) ?_;dsimp only [go_sem,rA,rM,rS]) | (refine call (ZD b.burn _ _) ?_;dsimp only [go_sem,rA,rM,rS]) | (refine call (ZD b.rub _ _) ?_;dsimp only [go_sem,rA,rM,rS]) | (refine call (ZD b.milk _ _) ?_;dsimp only [go_sem,rA,rM,rS]))
   (simp only [Zw,Option.some.injEq,SV.v.injEq,Value.bool.injEq]<;>grind)
theorem checkCamel_ok (b:Breed) (c:Camel):Ct Tryz.prog 54 [.agg (breedL b),.agg (camelL c)] (I (VT b c)):=by
 refine t54 (by simp [breedL,camelL,KFL,KF]) (by simp [KFL,KF]) ?_
 dsimp only [c54,r54,breedL,camelL,go_sem,rA,rM,rS]
 refine call (ZbK b) ?_
 dsimp only [go_sem,rA,rM,rS]
 by_cases hb:Zw b=true
 case neg =>
  refine Zt (by simp [ZvO,hb]) ?_
  dsimp only [go_sem,rA,rM,rS]
  simp [ZvO,VT,hb]
 refine Zu (by simp [ZvO,hb]) ?_
 dsimp only [go_sem,rA,rM,rS]
 repeat (first | (refine gb ?_;dsimp only [go_sem,rA,rM,rS]) | (refine call (YR _ _ c.water _) ?_;dsimp only [go_sem,rA,rM,rS]) | (refine call (YR _ _ c.fat _) ?_;dsimp only [go_sem,rA,rM,rS]) | (refine call (YR _ _ c.sore _) ?_;dsimp only [go_sem,rA,rM,rS]))
 refine br ?_ ?_
 · intro h
   dsimp only [go_sem,rA,rM,rS]
   have:Zv b c=false:=by simp only [Zv];grind
   simp [VT,this,hb]
 · intro h
   dsimp only [go_sem,rA,rM,rS]
   have:Zv b c=true:=by simp only [Zv];grind
   simp [VT,this,hb]
theorem ZjJ (b:Breed) (c:Camel):Ct Tryz.prog 139 [.agg (breedL b),.agg (camelL c)] (B (Zv b c)):=by
 refine t139 (by simp [breedL,camelL,KFL,KF]) (by simp [KFL,KF]) ?_
 dsimp only [c139,r139,breedL,camelL,go_sem,rA,rM,rS]
 repeat (first | (refine gb ?_;dsimp only [go_sem,rA,rM,rS]) | (refine call (ZD c.water _ _) ?_;dsimp only [go_sem,rA,rM,rS]) | (refine call (ZD c.fat _ _) ?_;dsimp only [go_sem,rA,rM,rS]) | (refine call (ZD c.sore _ _) ?_;dsimp only [go_sem,rA,rM,rS]))
 (simp only [Zv,Option.some.injEq,SV.v.injEq,Value.bool.injEq]<;>grind)
theorem checkCamelR_ok (b:Breed) (c:Camel):Ct Tryz.prog 95 [.agg (breedL b),.agg (camelL c)] (I (VT b c)):=by
 refine t95 (by simp [breedL,camelL,KFL,KF]) (by simp [KFL,KF]) ?_
 dsimp only [c95,r95,breedL,camelL,go_sem,rA,rM,rS]
 refine call (Zho b) ?_
 dsimp only [go_sem,rA,rM,rS]
 by_cases hb:Zw b=true
 case neg =>
  refine Zt (by simp [hb]) ?_
  dsimp only [go_sem,rA,rM,rS]
  simp [VT,hb]
 refine Zu (by simp [hb]) ?_
 dsimp only [go_sem,rA,rM,rS]
 refine call (ZjJ b c) ?_
 dsimp only [go_sem,rA,rM,rS]
 refine br ?_ ?_
 · intro h
   dsimp only [go_sem,rA,rM,rS]
   have:Zv b c=false:=by simpa using h
   simp [VT,this,hb]
 · intro h
   dsimp only [go_sem,rA,rM,rS]
   have:Zv b c=true:=by simpa using h
   simp [VT,this,hb]
theorem ZjB (m:March):Ct Tryz.prog 169 [.agg (Z3 m)] (B (ZO m)):=by
 refine t169 (by simp [Z3,KFL,KF]) (by simp [KFL,KF]) ?_
 dsimp only [c169,r169,Z3,go_sem,rA,rM,rS]
 repeat (first | (refine gb ?_;dsimp only [go_sem,rA,rM,rS]) | (refine call (Yc _ _ _) ?_;dsimp only [go_sem,rA,rM,rS]) | (refine call (ZD m.heat _ _) ?_;dsimp only [go_sem,rA,rM,rS]) | (refine call (ZD m.grass _ _) ?_;dsimp only [go_sem,rA,rM,rS]) | (refine call (ZD m.drinks _ _) ?_;dsimp only [go_sem,rA,rM,rS]))
 (simp only [ZO,Option.some.injEq,SV.v.injEq,Value.bool.injEq]<;>grind)
theorem Zcv (l:List March) (hl:l.length < 4611686018427387904) (c:Bool):Ct Tryz.prog 83 [.sl c 8 (l.map Z3)] (I (if l.all ZO=true then 0 else 12)):=by
 refine t83 (by simp [Z3,Za,KFL,KF]) (by simp [KFL,KF]) ?_
 dsimp only [c83,r83,go_sem,rA,rM,rS]
 refine Yx (fun k:Nat=>[(7,I k)]) (fun _=>[]) (fun k=>k≤l.length∧(l.drop k).all ZO=l.all ZO) (fun k=>l.length - k) 0 ⟨Nat.zero_le _,rfl⟩ ?_ ?_
 · (refine Zl ?_ ?_ ?_ rfl rfl<;>dsimp only [Z3,id,go_sem,rA,rM,rS]<;>simp [Z3,Za,Zi,KFR,KFL,KF,Zd,mtO,nbr])
 intro k ⟨hk,hi⟩
 dsimp only [go_sem,rA,rM,rS]
 by_cases hlt:k < l.length
 · refine Zt (by simpa using hlt) ?_
   dsimp only [go_sem,rA,rM,rS]
   refine Zo k hlt rfl ?_
   dsimp only [Z3,go_sem,rA,rM,rS]
   repeat (first | (refine gb ?_;dsimp only [go_sem,rA,rM,rS]) | (refine call (Ud _ _ _ _) ?_;dsimp only [go_sem,rA,rM,rS]) | (refine call (YR _ _ l[k].heat _) ?_;dsimp only [go_sem,rA,rM,rS]) | (refine call (Zbz _ _ l[k].grass l[k].drinks _) ?_;dsimp only [go_sem,rA,rM,rS]))
   rw [List.drop_eq_getElem_cons hlt,List.all_cons] at hi
   refine br ?_ ?_
   · intro h
     dsimp only [go_sem,rA,rM,rS]
     have:ZO l[k]=false:=by simp only [ZO];grind
     rw [← hi,this];rfl
   · intro h
     dsimp only [go_sem,rA,rM,rS]
     have:ZO l[k]=true:=by simp only [ZO];grind
     rw [this,Bool.true_and] at hi
     rw [Ze (n:=(k:Int)+1) (by omega) (by omega)]
     refine ⟨k+1,⟨hlt,hi⟩,by omega,?_⟩
     (refine Zl ?_ ?_ ?_ rfl rfl<;>dsimp only [Z3,id,go_sem,rA,rM,rS]<;>simp [Z3,Za,Zi,KFR,KFL,KF,Zd,mtO,nbr])
 · refine Zu (by simp;omega) ?_
   dsimp only [go_sem,rA,rM,rS]
   have hke:k=l.length:=by omega
   subst hke
   rw [List.drop_length] at hi
   rw [← hi];rfl
theorem ZjF (m:March) (c:Bool):Ct Tryz.prog 83 [.sl c 8 [Z3 m]] (I (if ZO m=true then 0 else 12)):=by
 have:=Zcv [m] (by simp) c
 simpa using this
end Go.Proofs.YtiigiflofnjilaaGreat.Cm
set_option maxRecDepth 100000
set_option maxHeartbeats 4000000
namespace Go.Proofs.YtiigiflofnjilaaGreat.Cm
open Go Go.Sx Go.Azalai
theorem ZgQ {a b A:Int} (h0:0≤a) (h1:a≤A) (hA:A≤1000000000000000) (hb:1≤b) (hb2:b≤1000000000) :
 IntKind.i64.wrap (a+b)=a+b∧IntKind.i64.wrap (a+b - 1)=a+b - 1∧IntKind.i64.wrap ((a+b - 1).tdiv b)=upF a b:=by
 have:=Zdn h0 h1 hb
 refine ⟨Ze (by omega) (by omega),Ze (by omega) (by omega),?_⟩
 unfold upF at *
 exact Ze (by omega) (by omega)
theorem Zdb (a b:Int) (h0:0≤a) (h1:a≤1000000000000000) (hb:1≤b) (hb2:b≤1000000000):Ct Tryz.prog 124 [I a,I b] (I (upF a b)):=by
 obtain ⟨q1,q2,q3⟩:=ZgQ h0 h1 (Int.le_refl _) hb hb2
 refine t124 (by simp [KFL,KF]) (by simp [KFL,KF]) ?_
 dsimp only [c124,r124,go_sem,rA,rM,rS]
 simp only [q1,q2]
 refine ZcL (by omega) ?_
 dsimp only [go_sem,rA,rM,rS]
 rw [q3]
theorem Ur (a b:Int) (h0:0≤a) (h1:a≤1000000000000000) (hb:1≤b) (hb2:b≤1000000000):Ct Tryz.prog 148 [I a,I b] (I (upF a b)):=by
 obtain ⟨q1,q2,q3⟩:=ZgQ h0 h1 (Int.le_refl _) hb hb2
 refine t148 (by simp [KFL,KF]) (by simp [KFL,KF]) ?_
 dsimp only [c148,r148,go_sem,rA,rM,rS]
 simp only [q1,q2]
 refine ZcL (by omega) ?_
 dsimp only [go_sem,rA,rM,rS]
 rw [q3]
def scl (s:Span) (b n:Int):Span:=⟨(s.lo * n).tdiv b,upF (s.hi * n) b⟩
theorem Zdh (s:Span) (b n A:Int) (c:Bool) (h1:0≤s.lo) (h2:s.lo≤s.hi) (h3:0≤n) (h4:s.hi * n≤100000000000000) (hb:1≤b) (hb2:b≤1000000000) :
 Ct Tryz.prog 128 [.agg (Zc s),I b,.sl c 1 [[I n]]] (.agg (Zc (scl s b n))):=by
 have k1:0≤s.lo * n:=Int.mul_nonneg h1 h3
 have k2:s.lo * n≤s.hi * n:=Int.mul_le_mul_of_nonneg_right h2 h3
 refine t128 (by simp [Zc,KFR,KFL,KF]) (by simp [Zc,KFL,KF]) ?_
 dsimp only [ZzO,ZzU,Zc,go_sem,rA,rM,rS]
 refine Y9 2 ?_
 dsimp only [Zb,go_sem,rA,rM,rS]
 refine Zt (by decide) ?_
 dsimp only [Zb,go_sem,rA,rM,rS]
 refine ixs 0 [I n] rfl rfl ?_
 dsimp only [Zb,go_sem,rA,rM,rS]
 refine Zu (by decide) ?_
 dsimp only [go_sem,rA,rM,rS]
 rw [Ze (n:=s.lo * n) (by omega) (by omega),Ze (n:=s.hi * n) (by omega) (by omega)]
 refine ZcL (by omega) ?_
 dsimp only [go_sem,rA,rM,rS]
 refine call (Zdb _ _ (by omega) (by omega) hb hb2) ?_
 dsimp only [go_sem,rA,rM,rS]
 have:=YS k1 (Int.le_trans k2 h4) hb
 rw [Ze (n:=(s.lo * n).tdiv b) (by omega) (by omega)]
 rfl
theorem V8 (s:Span) (b n m A:Int) (c:Bool) (h1:0≤s.lo) (h2:s.lo≤s.hi) (h3:0≤n) (h3':0≤m) (h4:s.hi * n≤100000000000000) (h5:s.hi * n * m≤100000000000000) (hb:1≤b) (hb2:b≤1000000000) :
 Ct Tryz.prog 128 [.agg (Zc s),I b,.sl c 1 [[I n],[I m]]] (.agg (Zc ⟨(s.lo * n * m).tdiv b,upF (s.hi * n * m) b⟩)):=by
 have k1:0≤s.lo * n:=Int.mul_nonneg h1 h3
 have k2:s.lo * n≤s.hi * n:=Int.mul_le_mul_of_nonneg_right h2 h3
 have k3:0≤s.lo * n * m:=Int.mul_nonneg k1 h3'
 have k4:s.lo * n * m≤s.hi * n * m:=Int.mul_le_mul_of_nonneg_right k2 h3'
 refine t128 (by simp [Zc,KFR,KFL,KF]) (by simp [Zc,KFL,KF]) ?_
 dsimp only [ZzO,ZzU,Zc,go_sem,rA,rM,rS]
 refine Y9 3 ?_
 dsimp only [Zb,go_sem,rA,rM,rS]
 refine Zt (by decide) ?_
 dsimp only [Zb,go_sem,rA,rM,rS]
 refine ixs 0 [I n] rfl rfl ?_
 dsimp only [Zb,go_sem,rA,rM,rS]
 refine Zt (by decide) ?_
 dsimp only [Zb,go_sem,rA,rM,rS]
 refine ixs 1 [I m] rfl rfl ?_
 dsimp only [Zb,go_sem,rA,rM,rS]
 refine Zu (by decide) ?_
 dsimp only [go_sem,rA,rM,rS]
 rw [Ze (n:=s.lo * n) (by omega) (by omega),Ze (n:=s.hi * n) (by omega) (by omega),Ze (n:=s.lo * n * m) (by omega) (by omega),Ze (n:=s.hi * n * m) (by omega) (by omega)]
 refine ZcL (by omega) ?_
 dsimp only [go_sem,rA,rM,rS]
 refine call (Zdb _ _ (by omega) (by omega) hb hb2) ?_
 dsimp only [go_sem,rA,rM,rS]
 have:=YS k3 (Int.le_trans k4 h5) hb
 rw [Ze (n:=(s.lo * n * m).tdiv b) (by omega) (by omega)]
def bdS (A:Int) (s:Span):Prop:=0≤s.lo∧s.lo≤A∧0≤s.hi∧s.hi≤A
theorem Va (s t:Span) (c:Bool) (h1:bdS 1000000000000000 s) (h2:bdS 1000000000000000 t):Ct Tryz.prog 127 [.sl c 2 [[I s.lo,I s.hi],[I t.lo,I t.hi]]] (.agg (Zc ⟨s.lo+t.lo,s.hi+t.hi⟩)):=by
 unfold bdS at h1 h2
 refine t127 (by simp [KFR,KFL,KF]) (by simp [Zc,KFL,KF]) ?_
 dsimp only [ZzH,ZzC,Zc,go_sem,rA,rM,rS]
 refine Y9 3 ?_
 dsimp only [Zb,go_sem,rA,rM,rS]
 refine Zt (by decide) ?_
 dsimp only [Zb,go_sem,rA,rM,rS]
 refine ixs 0 [I s.lo,I s.hi] rfl rfl ?_
 dsimp only [Zb,go_sem,rA,rM,rS]
 refine Zt (by decide) ?_
 dsimp only [Zb,go_sem,rA,rM,rS]
 refine ixs 1 [I t.lo,I t.hi] rfl rfl ?_
 dsimp only [Zb,go_sem,rA,rM,rS]
 refine Zu (by decide) ?_
 dsimp only [go_sem,rA,rM,rS]
 simp only [Int.zero_add]
 rw [Ze (n:=s.lo) (by omega) (by omega),Ze (n:=s.hi) (by omega) (by omega),Ze (n:=s.lo+t.lo) (by omega) (by omega),Ze (n:=s.hi+t.hi) (by omega) (by omega)]
theorem plus3 (s t u:Span) (c:Bool) (h1:bdS 1000000000000000 s) (h2:bdS 1000000000000000 t) (h3:bdS 1000000000000000 u):Ct Tryz.prog 127 [.sl c 2 [[I s.lo,I s.hi],[I t.lo,I t.hi],[I u.lo,I u.hi]]] (.agg (Zc ⟨s.lo+t.lo+u.lo,s.hi+t.hi+u.hi⟩)):=by
 unfold bdS at h1 h2 h3
 refine t127 (by simp [KFR,KFL,KF]) (by simp [Zc,KFL,KF]) ?_
 dsimp only [ZzH,ZzC,Zc,go_sem,rA,rM,rS]
 refine Y9 4 ?_
 dsimp only [Zb,go_sem,rA,rM,rS]
 refine Zt (by decide) ?_
 dsimp only [Zb,go_sem,rA,rM,rS]
 refine ixs 0 [I s.lo,I s.hi] rfl rfl ?_
 dsimp only [Zb,go_sem,rA,rM,rS]
 refine Zt (by decide) ?_
 dsimp only [Zb,go_sem,rA,rM,rS]
 refine ixs 1 [I t.lo,I t.hi] rfl rfl ?_
 dsimp only [Zb,go_sem,rA,rM,rS]
 refine Zt (by decide) ?_
 dsimp only [Zb,go_sem,rA,rM,rS]
 refine ixs 2 [I u.lo,I u.hi] rfl rfl ?_
 dsimp only [Zb,go_sem,rA,rM,rS]
 refine Zu (by decide) ?_
 dsimp only [go_sem,rA,rM,rS]
 simp only [Int.zero_add]
 rw [Ze (n:=s.lo) (by omega) (by omega),Ze (n:=s.hi) (by omega) (by omega),Ze (n:=s.lo+t.lo) (by omega) (by omega),Ze (n:=s.hi+t.hi) (by omega) (by omega),Ze (n:=s.lo+t.lo+u.lo) (by omega) (by omega),Ze (n:=s.hi+t.hi+u.hi) (by omega) (by omega)]
theorem Zqo (n:Int) (s:Span) (h1:0≤n) (h2:n≤1000000) (h3:bdS 1000000 s):Ct Tryz.prog 159 [I n,.agg (Zc s)] (.agg (Zc ⟨n - s.hi,n - s.lo⟩)):=by
 unfold bdS at h3
 refine t159 (by simp [Zc,KFL,KF]) (by simp [Zc,KFL,KF]) ?_
 dsimp only [c159,r159,Zc,go_sem,rA,rM,rS]
 rw [Ze (n:=n - s.hi) (by omega) (by omega),Ze (n:=n - s.lo) (by omega) (by omega)]
end Go.Proofs.YtiigiflofnjilaaGreat.Cm
set_option maxRecDepth 100000
set_option maxHeartbeats 4000000
namespace Go.Proofs.YtiigiflofnjilaaGreat.Cm
open Go Go.Sx Go.Azalai
theorem breed_bd {b:Breed} (h:Zw b=true):1≤b.full∧b.full≤1000000∧1≤b.fed∧b.fed≤1000000∧0≤b.heal∧b.heal≤1000∧(0≤b.strong.lo∧b.strong.lo≤b.strong.hi∧b.strong.hi≤1000000)∧(0≤b.rest.lo∧b.rest.lo≤b.rest.hi∧b.rest.hi≤100000) ∧
 (0≤b.heat.lo∧b.heat.lo≤b.heat.hi∧b.heat.hi≤100000)∧(0≤b.toil.lo∧b.toil.lo≤b.toil.hi∧b.toil.hi≤100000)∧(0≤b.burn.lo∧b.burn.lo≤b.burn.hi∧b.burn.hi≤100000)∧(0≤b.rub.lo∧b.rub.lo≤b.rub.hi∧b.rub.hi≤100000)∧(0≤b.milk.lo∧b.milk.lo≤b.milk.hi∧b.milk.hi≤100000):=by
 simp only [Zw,Z5,inR,Bool.and_eq_true,decide_eq_true_eq] at h;omega
theorem camel_bd {b:Breed} {c:Camel} (hb:Zw b=true) (h:Zv b c=true):(0≤c.water.lo∧c.water.lo≤c.water.hi∧c.water.hi≤b.full)∧(0≤c.fat.lo∧c.fat.lo≤c.fat.hi∧c.fat.hi≤b.fed)∧(0≤c.sore.lo∧c.sore.lo≤c.sore.hi∧c.sore.hi≤1000):=by
 simp only [Zv,Z5,Bool.and_eq_true,decide_eq_true_eq] at h;omega
theorem march_bd {m:March} (h:ZO m=true):0≤m.hours∧m.hours≤24∧0≤m.load∧m.load≤1000000∧(0≤m.heat.lo∧m.heat.lo≤m.heat.hi∧m.heat.hi≤60)∧(0≤m.grass.lo∧m.grass.lo≤m.grass.hi∧m.grass.hi≤1000000)∧(0≤m.drinks.lo∧m.drinks.lo≤m.drinks.hi∧m.drinks.hi≤1000000):=by
 simp only [ZO,Z5,inR,Bool.and_eq_true,decide_eq_true_eq] at h;omega
theorem Zwo (b:Breed) (c:Camel) (hb:Zw b=true) (hc:Zv b c=true):Ct Tryz.prog 123 [.agg (Yh b c)] (.agg (Zc (UF b c))):=by
 obtain ⟨b1,b2,b3,b4,_⟩:=breed_bd hb
 obtain ⟨⟨w1,w2,w3⟩,⟨f1,f2,f3⟩,⟨s1,s2,s3⟩⟩:=camel_bd hb hc
 refine t123 (by simp [Yh,KFL,KF]) (by simp [Zc,KFL,KF]) ?_
 dsimp only [c123,r123,Yh,go_sem,rA,rM,rS]
 refine call (V8 c.water b.full 2 1000 0 true w1 w2 (by omega) (by omega) (by omega) (by omega) b1 (by omega)) ?_
 dsimp only [Zc,go_sem,rA,rM,rS]
 refine call (V8 c.fat b.fed 2 1000 0 true f1 f2 (by omega) (by omega) (by omega) (by omega) b3 (by omega)) ?_
 dsimp only [Zc,go_sem,rA,rM,rS]
 refine call (Zqo 1000 c.sore (by omega) (by omega) ⟨by omega,by omega,by omega,by omega⟩) ?_
 dsimp only [Zc,go_sem,rA,rM,rS]
 refine Y9 4 ?_
 dsimp only [Zb,go_sem,rA,rM,rS]
 refine Zt (by decide) ?_
 dsimp only [Zb,go_sem,rA,rM,rS]
 refine ixa 0 rfl (by decide) ?_
 dsimp only [Zb,go_sem,rA,rM,rS]
 refine Zt (by decide) ?_
 dsimp only [Zb,go_sem,rA,rM,rS]
 refine ixa 1 rfl (by decide) ?_
 dsimp only [Zb,go_sem,rA,rM,rS]
 refine Zt (by decide) ?_
 dsimp only [Zb,go_sem,rA,rM,rS]
 refine ixa 2 rfl (by decide) ?_
 dsimp only [Zb,go_sem,rA,rM,rS]
 refine Zu (by decide) ?_
 dsimp only [go_sem,rA,rM,rS]
 have e1:c.water.lo * 2 * 1000=2000 * c.water.lo:=by omega
 have e2:c.water.hi * 2 * 1000=2000 * c.water.hi:=by omega
 have e3:c.fat.lo * 2 * 1000=2000 * c.fat.lo:=by omega
 have e4:c.fat.hi * 2 * 1000=2000 * c.fat.hi:=by omega
 simp only [e1,e2,e3,e4,UF,Int.min_assoc]
theorem Zvp (b:Breed) (c:Camel) (hb:Zw b=true) (hc:Zv b c=true):Ct Tryz.prog 168 [.agg (breedL b),.agg (camelL c)] (.agg (Zc (UF b c))):=by
 obtain ⟨b1,b2,b3,b4,_⟩:=breed_bd hb
 obtain ⟨⟨w1,w2,w3⟩,⟨f1,f2,f3⟩,⟨s1,s2,s3⟩⟩:=camel_bd hb hc
 refine t168 (by simp [breedL,camelL,KFL,KF]) (by simp [Zc,KFL,KF]) ?_
 dsimp only [c168,r168,breedL,camelL,Zc,go_sem,rA,rM,rS]
 rw [Ze (n:=2000 * c.water.lo) (by omega) (by omega)]
 refine ZcL (by omega) ?_
 dsimp only [go_sem,rA,rM,rS]
 rw [Ze (n:=2000 * c.fat.lo) (by omega) (by omega)]
 refine ZcL (by omega) ?_
 dsimp only [go_sem,rA,rM,rS]
 rw [Ze (n:=2000 * c.water.hi) (by omega) (by omega)]
 refine call (Ur _ _ (by omega) (by omega) (by omega) (by omega)) ?_
 dsimp only [go_sem,rA,rM,rS]
 rw [Ze (n:=2000 * c.fat.hi) (by omega) (by omega)]
 refine call (Ur _ _ (by omega) (by omega) (by omega) (by omega)) ?_
 dsimp only [go_sem,rA,rM,rS]
 have d1:=YS (a:=2000 * c.water.lo) (A:=2000000000) (d:=b.full) (by omega) (by omega) b1
 have d2:=YS (a:=2000 * c.fat.lo) (A:=2000000000) (d:=b.fed) (by omega) (by omega) b3
 rw [Ze (n:=1000 - c.sore.hi) (by omega) (by omega),Ze (n:=1000 - c.sore.lo) (by omega) (by omega),Ze (n:=(2000 * c.water.lo).tdiv b.full) (by omega) (by omega),Ze (n:=(2000 * c.fat.lo).tdiv b.fed) (by omega) (by omega)]
 simp only [UF,Int.min_assoc]
theorem Zpz {b:Breed} {c:Camel} (hb:Zw b=true) (hc:Zv b c=true):0≤(UF b c).lo∧(UF b c).lo≤1000∧0≤(UF b c).hi∧(UF b c).hi≤1000:=by
 obtain ⟨b1,b2,b3,b4,_⟩:=breed_bd hb
 obtain ⟨⟨w1,w2,w3⟩,⟨f1,f2,f3⟩,⟨s1,s2,s3⟩⟩:=camel_bd hb hc
 have d1:=YS (a:=2000 * c.water.lo) (A:=2000000000) (d:=b.full) (by omega) (by omega) b1
 have d2:=YS (a:=2000 * c.fat.lo) (A:=2000000000) (d:=b.fed) (by omega) (by omega) b3
 have d3:=Zdn (a:=2000 * c.water.hi) (A:=2000000000) (d:=b.full) (by omega) (by omega) b1
 have d4:=Zdn (a:=2000 * c.fat.hi) (A:=2000000000) (d:=b.fed) (by omega) (by omega) b3
 simp only [UF];omega
theorem Zy8 (b:Breed) (c:Camel) (hb:Zw b=true) (hc:Zv b c=true):Ct Tryz.prog 81 [.agg (Yh b c)] (.agg (Zc (ZnJ b c))):=by
 obtain ⟨b1,b2,b3,b4,_,_,⟨g1,g2,g3⟩,_⟩:=breed_bd hb
 obtain ⟨q1,q2,q3,q4⟩:=Zpz hb hc
 have k1:=XC (a:=b.strong.lo) (A:=1000000) (b:=(UF b c).lo) (B:=1000) (by omega) (by omega) q1 q2
 have k2:=XC (a:=b.strong.hi) (A:=1000000) (b:=(UF b c).hi) (B:=1000) (by omega) (by omega) q3 q4
 refine t81 (by simp [Yh,KFL,KF]) (by simp [Zc,KFL,KF]) ?_
 dsimp only [c81,r81,Yh,go_sem,rA,rM,rS]
 refine call (Zwo b c hb hc) ?_
 dsimp only [Zc,go_sem,rA,rM,rS]
 rw [Ze (n:=b.strong.lo * (UF b c).lo) (by omega) (by omega)]
 refine ZcL (by omega) ?_
 dsimp only [go_sem,rA,rM,rS]
 rw [Ze (n:=b.strong.hi * (UF b c).hi) (by omega) (by omega)]
 refine call (Zdb _ _ (by omega) (by omega) (by omega) (by omega)) ?_
 dsimp only [go_sem,rA,rM,rS]
 have d1:=YS (a:=b.strong.lo * (UF b c).lo) (d:=1000) k1.1 k1.2 (by omega)
 rw [Ze (n:=(b.strong.lo * (UF b c).lo).tdiv 1000) (by omega) (by omega)]
 rfl
def sres (b:Breed) (c:Camel) (s:Span):SV:=.tup [.agg (Zc (if VT b c=0 then s else Xe)),I (VT b c)]
theorem errC_0 {b:Breed} {c:Camel}:VT b c=0↔Zw b=true∧Zv b c=true:=by
 simp only [VT];cases Zw b<;>cases Zv b c<;>simp
theorem carries_ok (b:Breed) (c:Camel):Ct Tryz.prog 37 [.agg (breedL b),.agg (camelL c)] (sres b c (ZnJ b c)):=by
 refine t37 (by simp [breedL,camelL,KFL,KF]) (by simp [sres,Zc,KFL,KF]) ?_
 dsimp only [c37,r37,breedL,camelL,go_sem,rA,rM,rS]
 refine call (checkCamel_ok b c) ?_
 dsimp only [go_sem,rA,rM,rS]
 by_cases h:VT b c=0
 case neg =>
  refine Zt (by simpa using h) ?_
  dsimp only [sres,Zc,go_sem,rA,rM,rS]
  rw [if_neg h];rfl
 refine Zu (by simpa using h) ?_
 obtain ⟨hb,hc⟩:=errC_0.1 h
 dsimp only [go_sem,rA,rM,rS]
 refine call (Zy8 b c hb hc) ?_
 dsimp only [Zc,sres,go_sem,rA,rM,rS]
 rw [if_pos h,h]
theorem Zdm (b:Breed) (c:Camel):Ct Tryz.prog 147 [.agg (breedL b),.agg (camelL c)] (sres b c (UF b c)):=by
 refine t147 (by simp [breedL,camelL,KFL,KF]) (by simp [sres,Zc,KFL,KF]) ?_
 dsimp only [c147,r147,breedL,camelL,go_sem,rA,rM,rS]
 refine call (checkCamelR_ok b c) ?_
 dsimp only [go_sem,rA,rM,rS]
 by_cases h:VT b c=0
 case neg =>
  refine Zt (by simpa using h) ?_
  dsimp only [sres,Zc,go_sem,rA,rM,rS]
  rw [if_neg h];rfl
 refine Zu (by simpa using h) ?_
 obtain ⟨hb,hc⟩:=errC_0.1 h
 dsimp only [go_sem,rA,rM,rS]
 refine call (Zvp b c hb hc) ?_
 dsimp only [Zc,sres,go_sem,rA,rM,rS]
 rw [if_pos h,h]
theorem carriesR_ok (b:Breed) (c:Camel):Ct Tryz.prog 105 [.agg (breedL b),.agg (camelL c)] (sres b c (ZnJ b c)):=by
 refine t105 (by simp [breedL,camelL,KFL,KF]) (by simp [sres,Zc,KFL,KF]) ?_
 dsimp only [c105,r105,breedL,camelL,go_sem,rA,rM,rS]
 refine call (Zdm b c) ?_
 dsimp only [sres,Zc,go_sem,rA,rM,rS]
 by_cases h:VT b c=0
 case neg =>
  refine Zt (by simpa using h) ?_
  dsimp only [go_sem,rA,rM,rS]
  rw [if_neg h];rfl
 refine Zu (by simpa using h) ?_
 obtain ⟨hb,hc⟩:=errC_0.1 h
 obtain ⟨b1,b2,b3,b4,_,_,⟨g1,g2,g3⟩,_⟩:=breed_bd hb
 obtain ⟨q1,q2,q3,q4⟩:=Zpz hb hc
 have k1:=XC (a:=b.strong.lo) (A:=1000000) (b:=(UF b c).lo) (B:=1000) (by omega) (by omega) q1 q2
 have k2:=XC (a:=b.strong.hi) (A:=1000000) (b:=(UF b c).hi) (B:=1000) (by omega) (by omega) q3 q4
 dsimp only [go_sem,rA,rM,rS]
 rw [if_pos h]
 rw [Ze (n:=b.strong.lo * (UF b c).lo) (by omega) (by omega)]
 refine ZcL (by omega) ?_
 dsimp only [go_sem,rA,rM,rS]
 rw [Ze (n:=b.strong.hi * (UF b c).hi) (by omega) (by omega)]
 refine call (Ur _ _ (by omega) (by omega) (by omega) (by omega)) ?_
 dsimp only [go_sem,rA,rM,rS]
 have d1:=YS (a:=b.strong.lo * (UF b c).lo) (d:=1000) k1.1 k1.2 (by omega)
 rw [Ze (n:=(b.strong.lo * (UF b c).lo).tdiv 1000) (by omega) (by omega),if_pos h,h]
 rfl
end Go.Proofs.YtiigiflofnjilaaGreat.Cm
set_option maxRecDepth 100000
set_option maxHeartbeats 4000000
namespace Go.Proofs.YtiigiflofnjilaaGreat.Cm
open Go Go.Sx Go.Azalai
theorem work_bd {m:March} (h:ZO m=true):0≤Yd m∧Yd m≤26400000:=by
 obtain ⟨h1,h2,h3,h4,_⟩:=march_bd h
 have:=XC (a:=m.hours) (A:=24) (b:=100000+m.load) (B:=1100000) h1 h2 (by omega) (by omega)
 exact this
theorem toil_bd {m:March} {x:Int} (h:ZO m=true) (h0:0≤x) (h1:x≤100000):0≤x * Yd m∧x * Yd m≤2640000000000:=by
 obtain ⟨w1,w2⟩:=work_bd h
 exact XC h0 h1 w1 w2
theorem heat_bd {x y:Int} (h0:0≤x) (h1:x≤100000) (h2:0≤y) (h3:y≤60):0≤x * max 0 (y - 20)∧x * max 0 (y - 20)≤4000000 :=
 XC h0 h1 (B:=40) (by omega) (by omega)
theorem Zga (b:Breed) (k:Bool) (m:March) (hb:Zw b=true) (hm:ZO m=true):Ct Tryz.prog 126 [.agg (breedL b),B k,.agg (Z3 m)] (.agg [I (Xx b k m).lo,I (Xx b k m).hi,I (XG b m).lo,I (XG b m).hi]):=by
 obtain ⟨_,_,_,_,_,_,_,⟨r1,r2,r3⟩,⟨a1,a2,a3⟩,⟨t1,t2,t3⟩,⟨u1,u2,u3⟩,_,⟨k1,k2,k3⟩⟩:=breed_bd hb
 obtain ⟨m1,m2,m3,m4,⟨g1,g2,g3⟩,_⟩:=march_bd hm
 have w0:=work_bd hm
 have e1:=heat_bd (x:=b.heat.lo) (y:=m.heat.lo) (by omega) (by omega) (by omega) (by omega)
 have e2:=heat_bd (x:=b.heat.hi) (y:=m.heat.hi) (by omega) (by omega) (by omega) (by omega)
 have f1:=toil_bd (x:=b.toil.lo) hm (by omega) (by omega)
 have f2:=toil_bd (x:=b.toil.hi) hm (by omega) (by omega)
 have f3:=toil_bd (x:=b.burn.lo) hm (by omega) (by omega)
 have f4:=toil_bd (x:=b.burn.hi) hm (by omega) (by omega)
 have d1:=YS f1.1 f1.2 (d:=100000) (by omega)
 have d2:=Zdn f2.1 f2.2 (d:=100000) (by omega)
 have hw:IntKind.i64.wrap (m.hours * IntKind.i64.wrap (100000+m.load))=Yd m:=by
  rw [Ze (n:=100000+m.load) (by omega) (by omega)]
  unfold Yd at *
  exact Ze (by omega) (by omega)
 refine t126 (by simp [breedL,Z3,KFL,KF]) (by simp [KFL,KF]) ?_
 dsimp only [c126,r126,breedL,Z3,go_sem,rA,rM,rS]
 rw [hw,Ze (n:=m.heat.lo - 20) (by omega) (by omega),Ze (n:=m.heat.hi - 20) (by omega) (by omega),Ze (n:=b.heat.lo * max 0 (m.heat.lo - 20)) (by omega) (by omega),Ze (n:=b.heat.hi * max 0 (m.heat.hi - 20)) (by omega) (by omega)]
 refine call (Zdh b.toil 100000 (Yd m) 0 true t1 t2 w0.1 (by omega) (by omega) (by omega)) ?_
 dsimp only [Zc,go_sem,rA,rM,rS]
 refine call (plus3 b.rest ⟨b.heat.lo * max 0 (m.heat.lo - 20),b.heat.hi * max 0 (m.heat.hi - 20)⟩ (scl b.toil 100000 (Yd m)) true ⟨by omega,by omega,by omega,by omega⟩ ⟨e1.1,by simp only;omega,e2.1,by simp only;omega⟩
  ⟨d1.1,by simp only [scl];omega,d2.1,by simp only [scl];omega⟩) ?_
 dsimp only [Zc,go_sem,rA,rM,rS]
 refine br ?_ ?_
 · intro hk
   dsimp only [go_sem,rA,rM,rS]
   refine call (Va ⟨b.rest.lo+b.heat.lo * max 0 (m.heat.lo - 20)+(scl b.toil 100000 (Yd m)).lo,b.rest.hi+b.heat.hi * max 0 (m.heat.hi - 20)+(scl b.toil 100000 (Yd m)).hi⟩ b.milk true
    ⟨by simp only [scl];omega,by simp only [scl];omega,by simp only [scl];omega,by simp only [scl];omega⟩ ⟨by omega,by omega,by omega,by omega⟩) ?_
   dsimp only [Zc,go_sem,rA,rM,rS]
   refine call (Zdh b.burn 100000 (Yd m) 0 true u1 u2 w0.1 (by omega) (by omega) (by omega)) ?_
   dsimp only [Zc,go_sem,rA,rM,rS]
   simp only [Xx,XG,hk,scl,if_true]
 · intro hk
   dsimp only [go_sem,rA,rM,rS]
   refine call (Zdh b.burn 100000 (Yd m) 0 true u1 u2 w0.1 (by omega) (by omega) (by omega)) ?_
   dsimp only [Zc,go_sem,rA,rM,rS]
   simp only [Xx,XG,hk,scl,Bool.false_eq_true,if_false,Int.add_zero]
theorem Zle (b:Breed) (k:Bool) (m:March) (hb:Zw b=true) (hm:ZO m=true):Ct Tryz.prog 175 [.agg (breedL b),B k,.agg (Z3 m)] (.tup [.agg (Zc (Xx b k m)),.agg (Zc (XG b m))]):=by
 obtain ⟨_,_,_,_,_,_,_,⟨r1,r2,r3⟩,⟨a1,a2,a3⟩,⟨t1,t2,t3⟩,⟨u1,u2,u3⟩,_,⟨k1,k2,k3⟩⟩:=breed_bd hb
 obtain ⟨m1,m2,m3,m4,⟨g1,g2,g3⟩,_⟩:=march_bd hm
 have w0:=work_bd hm
 have e1:=heat_bd (x:=b.heat.lo) (y:=m.heat.lo) (by omega) (by omega) (by omega) (by omega)
 have e2:=heat_bd (x:=b.heat.hi) (y:=m.heat.hi) (by omega) (by omega) (by omega) (by omega)
 have f1:=toil_bd (x:=b.toil.lo) hm (by omega) (by omega)
 have f2:=toil_bd (x:=b.toil.hi) hm (by omega) (by omega)
 have f3:=toil_bd (x:=b.burn.lo) hm (by omega) (by omega)
 have f4:=toil_bd (x:=b.burn.hi) hm (by omega) (by omega)
 have d1:=YS f1.1 f1.2 (d:=100000) (by omega)
 have d2:=Zdn f2.1 f2.2 (d:=100000) (by omega)
 have d3:=YS f3.1 f3.2 (d:=100000) (by omega)
 have hw:IntKind.i64.wrap (m.hours * IntKind.i64.wrap (100000+m.load))=Yd m:=by
  rw [Ze (n:=100000+m.load) (by omega) (by omega)]
  unfold Yd at *
  exact Ze (by omega) (by omega)
 refine t175 (by simp [breedL,Z3,KFL,KF]) (by simp [Zc,KFL,KF]) ?_
 dsimp only [c175,r175,breedL,Z3,Zc,go_sem,rA,rM,rS]
 rw [hw]
 simp (disch:=omega) only [Ze]
 refine ZcL (by omega) ?_
 dsimp only [go_sem,rA,rM,rS]
 simp (disch:=omega) only [Ze]
 refine call (Ur _ _ (by omega) (by omega) (by omega) (by omega)) ?_
 dsimp only [go_sem,rA,rM,rS]
 simp (disch:=omega) only [Ze]
 refine br ?_ ?_
 · intro hk
   dsimp only [go_sem,rA,rM,rS]
   simp (disch:=omega) only [Ze]
   refine call (Ur _ _ (by omega) (by omega) (by omega) (by omega)) ?_
   dsimp only [go_sem,rA,rM,rS]
   refine ZcL (by omega) ?_
   dsimp only [go_sem,rA,rM,rS]
   simp (disch:=omega) only [Ze]
   simp only [Xx,XG,hk,if_true]
 · intro hk
   dsimp only [go_sem,rA,rM,rS]
   simp (disch:=omega) only [Ze]
   refine call (Ur _ _ (by omega) (by omega) (by omega) (by omega)) ?_
   dsimp only [go_sem,rA,rM,rS]
   refine ZcL (by omega) ?_
   dsimp only [go_sem,rA,rM,rS]
   simp (disch:=omega) only [Ze]
   simp only [Xx,XG,hk,Bool.false_eq_true,if_false,Int.add_zero]
def errM (b:Breed) (m:March):Int:=if Zw b=false then 10 else if ZO m=false then 12 else 0
def cres (b:Breed) (k:Bool) (m:March):SV:=.tup [.agg (Zc (if errM b m=0 then Xx b k m else Xe)),.agg (Zc (if errM b m=0 then XG b m else Xe)),I (errM b m)]
end Go.Proofs.YtiigiflofnjilaaGreat.Cm
set_option maxRecDepth 100000
set_option maxHeartbeats 4000000
namespace Go.Azalai
def ZzP (b:Breed) (c:Camel) (l:List March):Int:=if VT b c≠0 then VT b c else if l.length > 60 then 4 else if l.all ZO=false then 12 else 0
def ZiY (b:Breed) (sum:Span):List Camel→Span × Int
 | []=>(sum,0)
 | c :: r=>if Zv b c=false then (⟨0,0⟩,11) else ZiY b ⟨sum.lo+(b.full - c.water.hi),sum.hi+(b.full - c.water.lo)⟩ r
def thirstF (b:Breed) (l:List Camel):Span × Int :=
 if Zw b=false then (⟨0,0⟩,10) else if l.length > 30 then (⟨0,0⟩,4) else ZiY b ⟨0,0⟩ l
end Go.Azalai
namespace Go.Proofs.YtiigiflofnjilaaGreat.Cm
open Go Go.Sx Go.Azalai
def tres (r:Span × Int):SV:=.tup [.agg (Zc r.1),I r.2]
end Go.Proofs.YtiigiflofnjilaaGreat.Cm
set_option maxRecDepth 100000
set_option maxHeartbeats 4000000
namespace Go.Proofs.YtiigiflofnjilaaGreat.Cm
open Go Go.Sx Go.Azalai
end Go.Proofs.YtiigiflofnjilaaGreat.Cm
set_option maxRecDepth 100000
set_option maxHeartbeats 4000000
namespace Go.Azalai
def Yg:Camel:=⟨⟨0,0⟩,⟨0,0⟩,⟨0,0⟩,false⟩
def Vn (most:Int) (has cost gets:Span):Span:=⟨min most (max 0 (has.lo - cost.hi)+gets.lo),min most (has.hi - cost.lo+gets.hi)⟩
def VB (b:Breed) (s:Span) (m:March):Span :=
 if m.hours=0 then ⟨max 0 (s.lo - b.heal),max 0 (s.hi - b.heal)⟩
 else ⟨min 1000 (s.lo+(b.rub.lo * (m.hours * m.load)).tdiv 1000000),min 1000 (s.hi+upF (b.rub.hi * (m.hours * m.load)) 1000000)⟩
def ZZ (b:Breed) (c:Camel) (m:March):Camel × Int :=
 let w:=Xx b c.milks m
 let f:=XG b m
 if c.water.hi < w.lo∨c.fat.hi < f.lo then (Yg,2)
 else (⟨Vn b.full c.water w m.drinks,Vn b.fed c.fat f m.grass,VB b c.sore m,c.milks⟩,if c.water.lo ≥ w.hi∧c.fat.lo ≥ f.hi then 0 else 1)
theorem UI {b:Breed} {k:Bool} {m:March} (hb:Zw b=true) (hm:ZO m=true):0≤(Xx b k m).lo∧(Xx b k m).lo≤1000000000∧0≤(Xx b k m).hi∧(Xx b k m).hi≤1000000000:=by
 have h:=Go.Proofs.YtiigiflofnjilaaGreat.Cm.breed_bd hb
 have h2:=Go.Proofs.YtiigiflofnjilaaGreat.Cm.march_bd hm
 have q1:=Go.Proofs.YtiigiflofnjilaaGreat.Cm.toil_bd (x:=b.toil.lo) hm (by omega) (by omega)
 have q2:=Go.Proofs.YtiigiflofnjilaaGreat.Cm.toil_bd (x:=b.toil.hi) hm (by omega) (by omega)
 have q3:=Go.Proofs.YtiigiflofnjilaaGreat.Cm.heat_bd (x:=b.heat.lo) (y:=m.heat.lo) (by omega) (by omega) (by omega) (by omega)
 have q4:=Go.Proofs.YtiigiflofnjilaaGreat.Cm.heat_bd (x:=b.heat.hi) (y:=m.heat.hi) (by omega) (by omega) (by omega) (by omega)
 have r1:0≤(b.toil.lo * Yd m).tdiv 100000∧(b.toil.lo * Yd m).tdiv 100000≤26400000:=by
  rw [Int.tdiv_eq_ediv_of_nonneg q1.1];omega
 have r2:0≤upF (b.toil.hi * Yd m) 100000∧upF (b.toil.hi * Yd m) 100000≤26400001:=by
  unfold upF;rw [Int.tdiv_eq_ediv_of_nonneg (by omega)];omega
 simp only [Xx]
 cases k<;>simp<;>omega
theorem UC {b:Breed} {m:March} (hb:Zw b=true) (hm:ZO m=true):0≤(XG b m).lo∧(XG b m).lo≤1000000000∧0≤(XG b m).hi∧(XG b m).hi≤1000000000:=by
 have h:=Go.Proofs.YtiigiflofnjilaaGreat.Cm.breed_bd hb
 have q1:=Go.Proofs.YtiigiflofnjilaaGreat.Cm.toil_bd (x:=b.burn.lo) hm (by omega) (by omega)
 have q2:=Go.Proofs.YtiigiflofnjilaaGreat.Cm.toil_bd (x:=b.burn.hi) hm (by omega) (by omega)
 have r1:0≤(b.burn.lo * Yd m).tdiv 100000∧(b.burn.lo * Yd m).tdiv 100000≤26400000:=by
  rw [Int.tdiv_eq_ediv_of_nonneg q1.1];omega
 have r2:0≤upF (b.burn.hi * Yd m) 100000∧upF (b.burn.hi * Yd m) 100000≤26400001:=by
  unfold upF;rw [Int.tdiv_eq_ediv_of_nonneg (by omega)];omega
 simp only [XG]
 omega
end Go.Azalai
namespace Go.Proofs.YtiigiflofnjilaaGreat.Cm
open Go Go.Sx Go.Azalai
theorem Zgd (b:Breed) (c:Camel) (m:March) (hb:Zw b=true) (hc:Zv b c=true) (hm:ZO m=true) :
 Ct Tryz.prog 170 [.agg (breedL b),.agg (camelL c),.agg (Z3 m)] (.tup [.agg (camelL (ZZ b c m).1),I (ZZ b c m).2]):=by
 have h1:=breed_bd hb
 have h2:=camel_bd hb hc
 have h3:=march_bd hm
 have w1:=UI (k:=c.milks) hb hm
 have w2:=UC hb hm
 refine t170 (by simp [breedL,camelL,Z3,KFL,KF]) (by simp [camelL,KFL,KF]) ?_
 dsimp only [c170,r170,breedL,camelL,Z3,go_sem,rA,rM,rS]
 refine call (Zle b c.milks m hb hm) ?_
 dsimp only [Zc,go_sem,rA,rM,rS]
 have k0:=XC (a:=m.hours) (b:=m.load) (A:=24) (B:=1000000) (by omega) (by omega) (by omega) (by omega)
 have k1:=XC (a:=b.rub.lo) (b:=m.hours * m.load) (A:=100000) (B:=24000000) (by omega) (by omega) (by omega) (by omega)
 have k2:=XC (a:=b.rub.hi) (b:=m.hours * m.load) (A:=100000) (B:=24000000) (by omega) (by omega) (by omega) (by omega)
 have k3:=YS k1.1 k1.2 (d:=1000000) (by omega)
 have k4:=Zdn k2.1 k2.2 (d:=1000000) (by omega)
 generalize hW:Xx b c.milks m=W at w1
 generalize hF:XG b m=F at w2
 repeat (refine gb ?_;dsimp only [go_sem,rA,rM,rS])
 by_cases hd:c.water.hi < W.lo∨c.fat.hi < F.lo
 case pos =>
  refine Zt (by grind) ?_
  dsimp only [go_sem,rA,rM,rS]
  simp [ZZ,hW,hF,hd,Yg,camelL]
 refine Zu (by grind) ?_
 dsimp only [go_sem,rA,rM,rS]
 repeat (refine gb ?_;dsimp only [go_sem,rA,rM,rS])
 refine br ?_ ?_
 · intro hk
   dsimp only [go_sem,rA,rM,rS]
   simp (disch:=omega) only [Ze]
   refine ZcL (by omega) ?_
   dsimp only [go_sem,rA,rM,rS]
   simp (disch:=omega) only [Ze]
   refine call (Ur _ _ (by omega) (by omega) (by omega) (by omega)) ?_
   dsimp only [go_sem,rA,rM,rS]
   simp (disch:=omega) only [Ze]
   refine br ?_ ?_
   · intro hz
     dsimp only [go_sem,rA,rM,rS]
     simp (disch:=omega) only [Ze]
     have e:(if c.water.lo ≥ W.hi∧c.fat.lo ≥ F.hi then (0:Int) else 1)=0:=if_pos (by grind)
     have hz':m.hours=0:=by simpa using hz
     simp only [ZZ,hW,hF,if_neg hd,Vn,VB,camelL,e,if_pos hz']
   · intro hz
     dsimp only [go_sem,rA,rM,rS]
     have e:(if c.water.lo ≥ W.hi∧c.fat.lo ≥ F.hi then (0:Int) else 1)=0:=if_pos (by grind)
     have hz':¬ m.hours=0:=by simpa using hz
     simp only [ZZ,hW,hF,if_neg hd,Vn,VB,camelL,e,if_neg hz']
 · intro hk
   dsimp only [go_sem,rA,rM,rS]
   simp (disch:=omega) only [Ze]
   refine ZcL (by omega) ?_
   dsimp only [go_sem,rA,rM,rS]
   simp (disch:=omega) only [Ze]
   refine call (Ur _ _ (by omega) (by omega) (by omega) (by omega)) ?_
   dsimp only [go_sem,rA,rM,rS]
   simp (disch:=omega) only [Ze]
   refine br ?_ ?_
   · intro hz
     dsimp only [go_sem,rA,rM,rS]
     simp (disch:=omega) only [Ze]
     have e:(if c.water.lo ≥ W.hi∧c.fat.lo ≥ F.hi then (0:Int) else 1)=1:=if_neg (by grind)
     have hz':m.hours=0:=by simpa using hz
     simp only [ZZ,hW,hF,if_neg hd,Vn,VB,camelL,e,if_pos hz']
   · intro hz
     dsimp only [go_sem,rA,rM,rS]
     have e:(if c.water.lo ≥ W.hi∧c.fat.lo ≥ F.hi then (0:Int) else 1)=1:=if_neg (by grind)
     have hz':¬ m.hours=0:=by simpa using hz
     simp only [ZZ,hW,hF,if_neg hd,Vn,VB,camelL,e,if_neg hz']
end Go.Proofs.YtiigiflofnjilaaGreat.Cm
set_option maxRecDepth 100000
set_option maxHeartbeats 4000000
namespace Go.Proofs.YtiigiflofnjilaaGreat.Cm
open Go Go.Sx Go.Azalai
theorem ZyQ (b:Breed) (c:Camel) (m:March) (hb:Zw b=true) (hc:Zv b c=true) (hm:ZO m=true) (hd:(ZZ b c m).2≠2) :
 Ct Tryz.prog 84 [.agg (Yh b c),.agg (Z3 m)] (.tup [.agg (Yh b (ZZ b c m).1),.v (.int .u8 (ZZ b c m).2)]):=by
 have h1:=breed_bd hb
 have h2:=camel_bd hb hc
 have h3:=march_bd hm
 have w1:=UI (k:=c.milks) hb hm
 have w2:=UC hb hm
 have k0:=XC (a:=m.hours) (b:=m.load) (A:=24) (B:=1000000) (by omega) (by omega) (by omega) (by omega)
 have k1:=XC (a:=b.rub.lo) (b:=m.hours * m.load) (A:=100000) (B:=24000000) (by omega) (by omega) (by omega) (by omega)
 have k2:=XC (a:=b.rub.hi) (b:=m.hours * m.load) (A:=100000) (B:=24000000) (by omega) (by omega) (by omega) (by omega)
 have k3:=YS k1.1 k1.2 (d:=1000000) (by omega)
 have k4:=Zdn k2.1 k2.2 (d:=1000000) (by omega)
 refine t84 (by simp [Yh,Z3,KFL,KF]) (by simp [Yh,KFL,KF]) ?_
 dsimp only [c84,r84,Yh,Z3,go_sem,rA,rM,rS]
 refine call (Zga b c.milks m hb hm) ?_
 dsimp only [go_sem,rA,rM,rS]
 generalize hW:Xx b c.milks m=W at w1
 generalize hF:XG b m=F at w2
 have hd':W.lo≤c.water.hi∧F.lo≤c.fat.hi:=by
  by_cases h:c.water.hi < W.lo∨c.fat.hi < F.lo
  · exact absurd (by simp only [ZZ,hW,hF,if_pos h]) hd
  · omega
 clear hd
 have k5:=XC (a:=b.rub.hi) (b:=m.hours) (A:=100000) (B:=24) (by omega) (by omega) (by omega) (by omega)
 have k6:b.rub.hi * m.hours * m.load≤100000000000000:=by rw [Int.mul_assoc];omega
 have hd0:¬ (c.water.hi < W.lo∨c.fat.hi < F.lo):=by omega
 by_cases hp:c.water.lo < W.hi<;>by_cases hq:c.fat.lo < F.hi
 · refine Y9 3 ?_
   dsimp only [Zb,go_sem,rA,rM,rS]
   refine Zt (by decide) ?_
   dsimp only [Zb,go_sem,rA,rM,rS]
   repeat (first | (refine ixa 0 rfl (by decide) ?_;dsimp only [Zb,go_sem,rA,rM,rS]) | (refine Zu (by simp;omega) ?_;dsimp only [Zb,go_sem,rA,rM,rS]) | (refine Zt (by simp;omega) ?_;dsimp only [Zb,go_sem,rA,rM,rS]))
   simp (disch:=omega) only [Ze]
   refine call (Va ⟨max 0 (c.water.lo - W.hi),c.water.hi - W.lo⟩ m.drinks _ (by unfold bdS;simp only;omega) (by unfold bdS;omega)) ?_
   dsimp only [Zb,Zc,go_sem,rA,rM,rS]
   repeat (first | (refine ixa 0 rfl (by decide) ?_;dsimp only [Zb,go_sem,rA,rM,rS]) | (refine Zu (by simp;omega) ?_;dsimp only [Zb,go_sem,rA,rM,rS]) | (refine Zt (by simp;omega) ?_;dsimp only [Zb,go_sem,rA,rM,rS]))
   simp (disch:=omega) only [Ze]
   refine Zt (by decide) ?_
   dsimp only [Zb,go_sem,rA,rM,rS]
   repeat (first | (refine ixa 1 rfl (by decide) ?_;dsimp only [Zb,go_sem,rA,rM,rS]) | (refine Zu (by simp;omega) ?_;dsimp only [Zb,go_sem,rA,rM,rS]) | (refine Zt (by simp;omega) ?_;dsimp only [Zb,go_sem,rA,rM,rS]))
   simp (disch:=omega) only [Ze]
   refine call (Va ⟨max 0 (c.fat.lo - F.hi),c.fat.hi - F.lo⟩ m.grass _ (by unfold bdS;simp only;omega) (by unfold bdS;omega)) ?_
   dsimp only [Zb,Zc,go_sem,rA,rM,rS]
   repeat (first | (refine ixa 1 rfl (by decide) ?_;dsimp only [Zb,go_sem,rA,rM,rS]) | (refine Zu (by simp;omega) ?_;dsimp only [Zb,go_sem,rA,rM,rS]) | (refine Zt (by simp;omega) ?_;dsimp only [Zb,go_sem,rA,rM,rS]))
   refine Zu (by decide) ?_
   dsimp only [go_sem,rA,rM,rS]
   have e:(if c.water.lo ≥ W.hi∧c.fat.lo ≥ F.hi then (0:Int) else 1)=1:=if_neg (by omega)
   by_cases hz:m.hours=0
   · refine Zt (by simpa using hz) ?_
     dsimp only [go_sem,rA,rM,rS]
     simp (disch:=omega) only [Ze]
     simp only [ZZ,hW,hF,if_neg hd0,Vn,VB,Yh,e,if_pos hz]
   · refine Zu (by simpa using hz) ?_
     dsimp only [go_sem,rA,rM,rS]
     refine call (V8 b.rub 1000000 m.hours m.load 0 _ (by omega) (by omega) (by omega) (by omega) (by omega) k6 (by omega) (by omega)) ?_
     dsimp only [Zc,go_sem,rA,rM,rS]
     simp only [Int.mul_assoc]
     refine call (Va c.sore ⟨(b.rub.lo * (m.hours * m.load)).tdiv 1000000,upF (b.rub.hi * (m.hours * m.load)) 1000000⟩ _ (by unfold bdS;omega) (by unfold bdS;simp only;omega)) ?_
     dsimp only [Zc,go_sem,rA,rM,rS]
     simp only [ZZ,hW,hF,if_neg hd0,Vn,VB,Yh,e,if_neg hz]
 · refine Y9 3 ?_
   dsimp only [Zb,go_sem,rA,rM,rS]
   refine Zt (by decide) ?_
   dsimp only [Zb,go_sem,rA,rM,rS]
   repeat (first | (refine ixa 0 rfl (by decide) ?_;dsimp only [Zb,go_sem,rA,rM,rS]) | (refine Zu (by simp;omega) ?_;dsimp only [Zb,go_sem,rA,rM,rS]) | (refine Zt (by simp;omega) ?_;dsimp only [Zb,go_sem,rA,rM,rS]))
   simp (disch:=omega) only [Ze]
   refine call (Va ⟨max 0 (c.water.lo - W.hi),c.water.hi - W.lo⟩ m.drinks _ (by unfold bdS;simp only;omega) (by unfold bdS;omega)) ?_
   dsimp only [Zb,Zc,go_sem,rA,rM,rS]
   repeat (first | (refine ixa 0 rfl (by decide) ?_;dsimp only [Zb,go_sem,rA,rM,rS]) | (refine Zu (by simp;omega) ?_;dsimp only [Zb,go_sem,rA,rM,rS]) | (refine Zt (by simp;omega) ?_;dsimp only [Zb,go_sem,rA,rM,rS]))
   simp (disch:=omega) only [Ze]
   refine Zt (by decide) ?_
   dsimp only [Zb,go_sem,rA,rM,rS]
   repeat (first | (refine ixa 1 rfl (by decide) ?_;dsimp only [Zb,go_sem,rA,rM,rS]) | (refine Zu (by simp;omega) ?_;dsimp only [Zb,go_sem,rA,rM,rS]) | (refine Zt (by simp;omega) ?_;dsimp only [Zb,go_sem,rA,rM,rS]))
   simp (disch:=omega) only [Ze]
   refine call (Va ⟨max 0 (c.fat.lo - F.hi),c.fat.hi - F.lo⟩ m.grass _ (by unfold bdS;simp only;omega) (by unfold bdS;omega)) ?_
   dsimp only [Zb,Zc,go_sem,rA,rM,rS]
   repeat (first | (refine ixa 1 rfl (by decide) ?_;dsimp only [Zb,go_sem,rA,rM,rS]) | (refine Zu (by simp;omega) ?_;dsimp only [Zb,go_sem,rA,rM,rS]) | (refine Zt (by simp;omega) ?_;dsimp only [Zb,go_sem,rA,rM,rS]))
   refine Zu (by decide) ?_
   dsimp only [go_sem,rA,rM,rS]
   have e:(if c.water.lo ≥ W.hi∧c.fat.lo ≥ F.hi then (0:Int) else 1)=1:=if_neg (by omega)
   by_cases hz:m.hours=0
   · refine Zt (by simpa using hz) ?_
     dsimp only [go_sem,rA,rM,rS]
     simp (disch:=omega) only [Ze]
     simp only [ZZ,hW,hF,if_neg hd0,Vn,VB,Yh,e,if_pos hz]
   · refine Zu (by simpa using hz) ?_
     dsimp only [go_sem,rA,rM,rS]
     refine call (V8 b.rub 1000000 m.hours m.load 0 _ (by omega) (by omega) (by omega) (by omega) (by omega) k6 (by omega) (by omega)) ?_
     dsimp only [Zc,go_sem,rA,rM,rS]
     simp only [Int.mul_assoc]
     refine call (Va c.sore ⟨(b.rub.lo * (m.hours * m.load)).tdiv 1000000,upF (b.rub.hi * (m.hours * m.load)) 1000000⟩ _ (by unfold bdS;omega) (by unfold bdS;simp only;omega)) ?_
     dsimp only [Zc,go_sem,rA,rM,rS]
     simp only [ZZ,hW,hF,if_neg hd0,Vn,VB,Yh,e,if_neg hz]
 · refine Y9 3 ?_
   dsimp only [Zb,go_sem,rA,rM,rS]
   refine Zt (by decide) ?_
   dsimp only [Zb,go_sem,rA,rM,rS]
   repeat (first | (refine ixa 0 rfl (by decide) ?_;dsimp only [Zb,go_sem,rA,rM,rS]) | (refine Zu (by simp;omega) ?_;dsimp only [Zb,go_sem,rA,rM,rS]) | (refine Zt (by simp;omega) ?_;dsimp only [Zb,go_sem,rA,rM,rS]))
   simp (disch:=omega) only [Ze]
   refine call (Va ⟨max 0 (c.water.lo - W.hi),c.water.hi - W.lo⟩ m.drinks _ (by unfold bdS;simp only;omega) (by unfold bdS;omega)) ?_
   dsimp only [Zb,Zc,go_sem,rA,rM,rS]
   repeat (first | (refine ixa 0 rfl (by decide) ?_;dsimp only [Zb,go_sem,rA,rM,rS]) | (refine Zu (by simp;omega) ?_;dsimp only [Zb,go_sem,rA,rM,rS]) | (refine Zt (by simp;omega) ?_;dsimp only [Zb,go_sem,rA,rM,rS]))
   simp (disch:=omega) only [Ze]
   refine Zt (by decide) ?_
   dsimp only [Zb,go_sem,rA,rM,rS]
   repeat (first | (refine ixa 1 rfl (by decide) ?_;dsimp only [Zb,go_sem,rA,rM,rS]) | (refine Zu (by simp;omega) ?_;dsimp only [Zb,go_sem,rA,rM,rS]) | (refine Zt (by simp;omega) ?_;dsimp only [Zb,go_sem,rA,rM,rS]))
   simp (disch:=omega) only [Ze]
   refine call (Va ⟨max 0 (c.fat.lo - F.hi),c.fat.hi - F.lo⟩ m.grass _ (by unfold bdS;simp only;omega) (by unfold bdS;omega)) ?_
   dsimp only [Zb,Zc,go_sem,rA,rM,rS]
   repeat (first | (refine ixa 1 rfl (by decide) ?_;dsimp only [Zb,go_sem,rA,rM,rS]) | (refine Zu (by simp;omega) ?_;dsimp only [Zb,go_sem,rA,rM,rS]) | (refine Zt (by simp;omega) ?_;dsimp only [Zb,go_sem,rA,rM,rS]))
   refine Zu (by decide) ?_
   dsimp only [go_sem,rA,rM,rS]
   have e:(if c.water.lo ≥ W.hi∧c.fat.lo ≥ F.hi then (0:Int) else 1)=1:=if_neg (by omega)
   by_cases hz:m.hours=0
   · refine Zt (by simpa using hz) ?_
     dsimp only [go_sem,rA,rM,rS]
     simp (disch:=omega) only [Ze]
     simp only [ZZ,hW,hF,if_neg hd0,Vn,VB,Yh,e,if_pos hz]
   · refine Zu (by simpa using hz) ?_
     dsimp only [go_sem,rA,rM,rS]
     refine call (V8 b.rub 1000000 m.hours m.load 0 _ (by omega) (by omega) (by omega) (by omega) (by omega) k6 (by omega) (by omega)) ?_
     dsimp only [Zc,go_sem,rA,rM,rS]
     simp only [Int.mul_assoc]
     refine call (Va c.sore ⟨(b.rub.lo * (m.hours * m.load)).tdiv 1000000,upF (b.rub.hi * (m.hours * m.load)) 1000000⟩ _ (by unfold bdS;omega) (by unfold bdS;simp only;omega)) ?_
     dsimp only [Zc,go_sem,rA,rM,rS]
     simp only [ZZ,hW,hF,if_neg hd0,Vn,VB,Yh,e,if_neg hz]
 · refine Y9 3 ?_
   dsimp only [Zb,go_sem,rA,rM,rS]
   refine Zt (by decide) ?_
   dsimp only [Zb,go_sem,rA,rM,rS]
   repeat (first | (refine ixa 0 rfl (by decide) ?_;dsimp only [Zb,go_sem,rA,rM,rS]) | (refine Zu (by simp;omega) ?_;dsimp only [Zb,go_sem,rA,rM,rS]) | (refine Zt (by simp;omega) ?_;dsimp only [Zb,go_sem,rA,rM,rS]))
   simp (disch:=omega) only [Ze]
   refine call (Va ⟨max 0 (c.water.lo - W.hi),c.water.hi - W.lo⟩ m.drinks _ (by unfold bdS;simp only;omega) (by unfold bdS;omega)) ?_
   dsimp only [Zb,Zc,go_sem,rA,rM,rS]
   repeat (first | (refine ixa 0 rfl (by decide) ?_;dsimp only [Zb,go_sem,rA,rM,rS]) | (refine Zu (by simp;omega) ?_;dsimp only [Zb,go_sem,rA,rM,rS]) | (refine Zt (by simp;omega) ?_;dsimp only [Zb,go_sem,rA,rM,rS]))
   simp (disch:=omega) only [Ze]
   refine Zt (by decide) ?_
   dsimp only [Zb,go_sem,rA,rM,rS]
   repeat (first | (refine ixa 1 rfl (by decide) ?_;dsimp only [Zb,go_sem,rA,rM,rS]) | (refine Zu (by simp;omega) ?_;dsimp only [Zb,go_sem,rA,rM,rS]) | (refine Zt (by simp;omega) ?_;dsimp only [Zb,go_sem,rA,rM,rS]))
   simp (disch:=omega) only [Ze]
   refine call (Va ⟨max 0 (c.fat.lo - F.hi),c.fat.hi - F.lo⟩ m.grass _ (by unfold bdS;simp only;omega) (by unfold bdS;omega)) ?_
   dsimp only [Zb,Zc,go_sem,rA,rM,rS]
   repeat (first | (refine ixa 1 rfl (by decide) ?_;dsimp only [Zb,go_sem,rA,rM,rS]) | (refine Zu (by simp;omega) ?_;dsimp only [Zb,go_sem,rA,rM,rS]) | (refine Zt (by simp;omega) ?_;dsimp only [Zb,go_sem,rA,rM,rS]))
   refine Zu (by decide) ?_
   dsimp only [go_sem,rA,rM,rS]
   have e:(if c.water.lo ≥ W.hi∧c.fat.lo ≥ F.hi then (0:Int) else 1)=0:=if_pos (by omega)
   by_cases hz:m.hours=0
   · refine Zt (by simpa using hz) ?_
     dsimp only [go_sem,rA,rM,rS]
     simp (disch:=omega) only [Ze]
     simp only [ZZ,hW,hF,if_neg hd0,Vn,VB,Yh,e,if_pos hz]
   · refine Zu (by simpa using hz) ?_
     dsimp only [go_sem,rA,rM,rS]
     refine call (V8 b.rub 1000000 m.hours m.load 0 _ (by omega) (by omega) (by omega) (by omega) (by omega) k6 (by omega) (by omega)) ?_
     dsimp only [Zc,go_sem,rA,rM,rS]
     simp only [Int.mul_assoc]
     refine call (Va c.sore ⟨(b.rub.lo * (m.hours * m.load)).tdiv 1000000,upF (b.rub.hi * (m.hours * m.load)) 1000000⟩ _ (by unfold bdS;omega) (by unfold bdS;simp only;omega)) ?_
     dsimp only [Zc,go_sem,rA,rM,rS]
     simp only [ZZ,hW,hF,if_neg hd0,Vn,VB,Yh,e,if_neg hz]
end Go.Proofs.YtiigiflofnjilaaGreat.Cm
set_option maxRecDepth 100000
set_option maxHeartbeats 4000000
namespace Go.Azalai
def Zgh (b:Breed) (load:Int) (c:Camel):List March→Bool
 | []=>true
 | m :: r=>if m.hours > 0∧load > (ZnJ b c).lo then false else if (ZZ b c { m with load:=load }).2≠0 then false else Zgh b load (ZZ b c { m with load:=load }).1 r
theorem ZcZ {x y d:Int} (hd:1≤d) (h0:0≤x) (h:x≤y):x.tdiv d≤upF y d:=by
 unfold upF
 rw [Int.tdiv_eq_ediv_of_nonneg h0,Int.tdiv_eq_ediv_of_nonneg (by omega)]
 exact Int.ediv_le_ediv (by omega) (by omega)
theorem Znf {b:Breed} {k:Bool} {m:March} (hb:Zw b=true) (hm:ZO m=true):(Xx b k m).lo≤(Xx b k m).hi:=by
 have h:=Go.Proofs.YtiigiflofnjilaaGreat.Cm.breed_bd hb
 have h2:=Go.Proofs.YtiigiflofnjilaaGreat.Cm.march_bd hm
 have hw:=Go.Proofs.YtiigiflofnjilaaGreat.Cm.work_bd hm
 have q1:(b.toil.lo * Yd m).tdiv 100000≤upF (b.toil.hi * Yd m) 100000:=ZcZ (by omega) (Int.mul_nonneg (by omega) hw.1) (Int.mul_le_mul_of_nonneg_right (by omega) hw.1)
 have q2:b.heat.lo * max 0 (m.heat.lo - 20)≤b.heat.hi * max 0 (m.heat.hi - 20):=Int.mul_le_mul (by omega) (by omega) (by omega) (by omega)
 simp only [Xx]
 cases k<;>simp<;>omega
theorem Zkp {b:Breed} {m:March} (hb:Zw b=true) (hm:ZO m=true):(XG b m).lo≤(XG b m).hi:=by
 have h:=Go.Proofs.YtiigiflofnjilaaGreat.Cm.breed_bd hb
 have hw:=Go.Proofs.YtiigiflofnjilaaGreat.Cm.work_bd hm
 exact ZcZ (by omega) (Int.mul_nonneg (by omega) hw.1) (Int.mul_le_mul_of_nonneg_right (by omega) hw.1)
theorem after_ok {b:Breed} {c:Camel} {m:March} (hb:Zw b=true) (hc:Zv b c=true) (hm:ZO m=true) (hd:(ZZ b c m).2≠2):Zv b (ZZ b c m).1=true:=by
 have h1:=Go.Proofs.YtiigiflofnjilaaGreat.Cm.breed_bd hb
 have h2:=Go.Proofs.YtiigiflofnjilaaGreat.Cm.camel_bd hb hc
 have h3:=Go.Proofs.YtiigiflofnjilaaGreat.Cm.march_bd hm
 have w1:=UI (k:=c.milks) hb hm
 have w2:=UC hb hm
 have hlo:(Xx b c.milks m).lo≤(Xx b c.milks m).hi:=Znf hb hm
 have hlf:(XG b m).lo≤(XG b m).hi:=Zkp hb hm
 have hr:(b.rub.lo * (m.hours * m.load)).tdiv 1000000≤upF (b.rub.hi * (m.hours * m.load)) 1000000 :=
  ZcZ (by omega) (Int.mul_nonneg (by omega) (Int.mul_nonneg (by omega) (by omega))) (Int.mul_le_mul_of_nonneg_right (by omega) (Int.mul_nonneg (by omega) (by omega)))
 have hr0:0≤(b.rub.lo * (m.hours * m.load)).tdiv 1000000 :=
  Int.tdiv_nonneg (Int.mul_nonneg (by omega) (Int.mul_nonneg (by omega) (by omega))) (by omega)
 unfold ZZ at hd ⊢
 simp only at hd ⊢
 split at hd
 · exact absurd rfl hd
 · rename_i h
   rw [if_neg h]
   simp only [Zv,Z5,Vn,VB,Bool.and_eq_true,decide_eq_true_eq]
   by_cases hz:m.hours=0
   · simp only [if_pos hz,Bool.and_eq_true,decide_eq_true_eq]
     refine ⟨⟨decide_eq_true ⟨by omega,by omega,by omega⟩,decide_eq_true ⟨by omega,by omega,by omega⟩⟩,by omega,by omega,by omega⟩
   · simp only [if_neg hz,Bool.and_eq_true,decide_eq_true_eq]
     refine ⟨⟨decide_eq_true ⟨by omega,by omega,by omega⟩,decide_eq_true ⟨by omega,by omega,by omega⟩⟩,by omega,by omega,by omega⟩
end Go.Azalai
namespace Go.Proofs.YtiigiflofnjilaaGreat.Cm
open Go Go.Sx Go.Azalai
end Go.Proofs.YtiigiflofnjilaaGreat.Cm
set_option maxRecDepth 100000
set_option maxHeartbeats 4000000
namespace Go.Azalai
def Zq1 (g:Int→Bool):Nat→Int→Int→Int
 | 0,lo,_=>lo
 | n+1,lo,hi=>if lo < hi then (if g ((lo+hi+1).tdiv 2) then Zq1 g n ((lo+hi+1).tdiv 2) hi else Zq1 g n lo ((lo+hi+1).tdiv 2 - 1)) else lo
def heavyF (b:Breed) (c:Camel) (l:List March):Int × Int :=
 if ZzP b c l≠0 then (0,ZzP b c l) else if Zgh b 0 c l=false then (0,13) else (Zq1 (fun n=>Zgh b n c l) 2000000 0 1000000,0)
end Go.Azalai
namespace Go.Proofs.YtiigiflofnjilaaGreat.Cm
open Go Go.Sx Go.Azalai
end Go.Proofs.YtiigiflofnjilaaGreat.Cm
set_option maxRecDepth 100000
set_option maxHeartbeats 4000000
namespace Go.Proofs.YtiigiflofnjilaaGreat.Cm
open Go Go.Sx Go.Azalai
theorem ZmI (b:Breed) (c:Camel) (m:March) (hb:Zw b=true) (hc:Zv b c=true) (hm:ZO m=true) (hd:(ZZ b c m).2=2) :
 Ct Tryz.prog 84 [.agg (Yh b c),.agg (Z3 m)] (.tup [.agg (Yh ⟨0,0,⟨0,0⟩,⟨0,0⟩,⟨0,0⟩,⟨0,0⟩,⟨0,0⟩,⟨0,0⟩,0,⟨0,0⟩⟩ Yg),.v (.int .u8 2)]):=by
 have h1:=breed_bd hb
 have h2:=camel_bd hb hc
 have h3:=march_bd hm
 have w1:=UI (k:=c.milks) hb hm
 have w2:=UC hb hm
 refine t84 (by simp [Yh,Z3,KFL,KF]) (by simp [Yh,Yg,KFL,KF]) ?_
 dsimp only [c84,r84,Yh,Z3,go_sem,rA,rM,rS]
 refine call (Zga b c.milks m hb hm) ?_
 dsimp only [go_sem,rA,rM,rS]
 generalize hW:Xx b c.milks m=W at w1
 generalize hF:XG b m=F at w2
 have hd':c.water.hi < W.lo∨c.fat.hi < F.lo:=by
  by_cases h:c.water.hi < W.lo∨c.fat.hi < F.lo
  · exact h
  · simp only [ZZ,hW,hF,if_neg h] at hd
    split at hd<;>cases hd
 by_cases hw:c.water.hi < W.lo
 · refine Y9 3 ?_
   dsimp only [Zb,go_sem,rA,rM,rS]
   refine Zt (by decide) ?_
   dsimp only [Zb,go_sem,rA,rM,rS]
   repeat (first | (refine ixa 0 rfl (by decide) ?_;dsimp only [Zb,go_sem,rA,rM,rS]) | (refine Zt (by simp;omega) ?_;dsimp only [Zb,Yg,go_sem,rA,rM,rS]))
 · have hf:c.fat.hi < F.lo:=by omega
   by_cases hp:c.water.lo < W.hi
   · refine Y9 3 ?_
     dsimp only [Zb,go_sem,rA,rM,rS]
     refine Zt (by decide) ?_
     dsimp only [Zb,go_sem,rA,rM,rS]
     repeat (first | (refine ixa 0 rfl (by decide) ?_;dsimp only [Zb,go_sem,rA,rM,rS]) | (refine Zu (by simp;omega) ?_;dsimp only [Zb,go_sem,rA,rM,rS]) | (refine Zt (by simp;omega) ?_;dsimp only [Zb,go_sem,rA,rM,rS]))
     simp (disch:=omega) only [Ze]
     refine call (Va ⟨max 0 (c.water.lo - W.hi),c.water.hi - W.lo⟩ m.drinks _ (by unfold bdS;simp only;omega) (by unfold bdS;omega)) ?_
     dsimp only [Zb,Zc,go_sem,rA,rM,rS]
     repeat (first | (refine ixa 0 rfl (by decide) ?_;dsimp only [Zb,go_sem,rA,rM,rS]) | (refine Zu (by simp;omega) ?_;dsimp only [Zb,go_sem,rA,rM,rS]) | (refine Zt (by simp;omega) ?_;dsimp only [Zb,go_sem,rA,rM,rS]))
     simp (disch:=omega) only [Ze]
     refine Zt (by decide) ?_
     dsimp only [Zb,go_sem,rA,rM,rS]
     repeat (first | (refine ixa 1 rfl (by decide) ?_;dsimp only [Zb,go_sem,rA,rM,rS]) | (refine Zt (by simp;omega) ?_;dsimp only [Zb,Yg,go_sem,rA,rM,rS]))
   · refine Y9 3 ?_
     dsimp only [Zb,go_sem,rA,rM,rS]
     refine Zt (by decide) ?_
     dsimp only [Zb,go_sem,rA,rM,rS]
     repeat (first | (refine ixa 0 rfl (by decide) ?_;dsimp only [Zb,go_sem,rA,rM,rS]) | (refine Zu (by simp;omega) ?_;dsimp only [Zb,go_sem,rA,rM,rS]) | (refine Zt (by simp;omega) ?_;dsimp only [Zb,go_sem,rA,rM,rS]))
     simp (disch:=omega) only [Ze]
     refine call (Va ⟨max 0 (c.water.lo - W.hi),c.water.hi - W.lo⟩ m.drinks _ (by unfold bdS;simp only;omega) (by unfold bdS;omega)) ?_
     dsimp only [Zb,Zc,go_sem,rA,rM,rS]
     repeat (first | (refine ixa 0 rfl (by decide) ?_;dsimp only [Zb,go_sem,rA,rM,rS]) | (refine Zu (by simp;omega) ?_;dsimp only [Zb,go_sem,rA,rM,rS]) | (refine Zt (by simp;omega) ?_;dsimp only [Zb,go_sem,rA,rM,rS]))
     simp (disch:=omega) only [Ze]
     refine Zt (by decide) ?_
     dsimp only [Zb,go_sem,rA,rM,rS]
     repeat (first | (refine ixa 1 rfl (by decide) ?_;dsimp only [Zb,go_sem,rA,rM,rS]) | (refine Zt (by simp;omega) ?_;dsimp only [Zb,Yg,go_sem,rA,rM,rS]))
end Go.Proofs.YtiigiflofnjilaaGreat.Cm
set_option maxRecDepth 100000
set_option maxHeartbeats 4000000
namespace Go.Proofs.YtiigiflofnjilaaGreat.Cm
open Go Go.Sx Go.Azalai
end Go.Proofs.YtiigiflofnjilaaGreat.Cm
set_option maxRecDepth 100000
set_option maxHeartbeats 4000000
namespace Go.Azalai
def Yo (b:Breed) (c:Camel) (m:March):Camel × Int × Int :=
 if VT b c≠0 then (Yg,0,VT b c) else if ZO m=false then (Yg,0,12) else if (ZZ b c m).2=2 then (Yg,0,13) else ((ZZ b c m).1,(ZZ b c m).2,0)
def ZxG (b:Breed) (c:Camel) (out:List Camel) (worst:Int):List March→List Camel × Int × Int × Int
 | []=>(out,worst,0,0)
 | m :: r=>if (ZZ b c m).2=2 then ([],2,out.length,13) else ZxG b (ZZ b c m).1 (out ++ [(ZZ b c m).1]) (max worst (ZZ b c m).2) r
def daysFc (b:Breed) (c:Camel) (l:List March):List Camel × Int × Int × Int:=if ZzP b c l≠0 then ([],0,0,ZzP b c l) else ZxG b c [] 0 l
end Go.Azalai
namespace Go.Proofs.YtiigiflofnjilaaGreat.Cm
open Go Go.Sx Go.Azalai
def rowsE (e:Int) (l:List Camel):SV:=if e=0 then .sl false 7 (l.map camelL) else .v (.slice none 0 0)
def U8 (n:Int):SV:=.v (.int .u8 n)
theorem after1_ok (b:Breed) (c:Camel) (m:March):Ct Tryz.prog 40 [.agg (breedL b),.agg (camelL c),.agg (Z3 m)] (.tup [.agg (camelL (Yo b c m).1),U8 (Yo b c m).2.1,I (Yo b c m).2.2]):=by
 refine t40 (by simp [breedL,camelL,Z3,KFL,KF]) (by simp [camelL,U8,KFL,KF]) ?_
 dsimp only [c40,r40,breedL,camelL,Z3,go_sem,rA,rM,rS]
 refine call (checkCamel_ok b c) ?_
 dsimp only [go_sem,rA,rM,rS]
 by_cases h0:VT b c=0
 case neg =>
  refine Zt (by simpa using h0) ?_
  dsimp only [go_sem,rA,rM,rS]
  simp [Yo,h0,Yg,U8,camelL]
 refine Zu (by simpa using h0) ?_
 dsimp only [go_sem,rA,rM,rS]
 obtain ⟨hb,hc⟩:=errC_0.1 h0
 refine call (ZjF m true) ?_
 dsimp only [go_sem,rA,rM,rS]
 by_cases hm:ZO m=true
 case neg =>
  refine Zt (by simp [hm]) ?_
  dsimp only [go_sem,rA,rM,rS]
  simp [Yo,h0,hm,Yg,U8,camelL]
 refine Zu (by simp [hm]) ?_
 dsimp only [go_sem,rA,rM,rS]
 by_cases hd:(ZZ b c m).2=2
 · refine call (ZmI b c m hb hc hm hd) ?_
   dsimp only [Yh,Yg,go_sem,rA,rM,rS]
   refine Zt (by decide) ?_
   dsimp only [go_sem,rA,rM,rS]
   simp [Yo,h0,hm,hd,Yg,U8,camelL]
 refine call (ZyQ b c m hb hc hm hd) ?_
 dsimp only [Yh,go_sem,rA,rM,rS]
 refine Zu (by simpa using hd) ?_
 dsimp only [go_sem,rA,rM,rS]
 simp [Yo,h0,hm,hd,U8,camelL]
theorem after2_ok (b:Breed) (c:Camel) (m:March):Ct Tryz.prog 150 [.agg (breedL b),.agg (camelL c),.agg (Z3 m)] (.tup [.agg (camelL (Yo b c m).1),I (Yo b c m).2.1,I (Yo b c m).2.2]):=by
 refine t150 (by simp [breedL,camelL,Z3,KFL,KF]) (by simp [camelL,KFL,KF]) ?_
 dsimp only [c150,r150,breedL,camelL,Z3,go_sem,rA,rM,rS]
 refine call (checkCamelR_ok b c) ?_
 dsimp only [go_sem,rA,rM,rS]
 by_cases h0:VT b c=0
 case neg =>
  refine Zt (by simpa using h0) ?_
  dsimp only [go_sem,rA,rM,rS]
  simp [Yo,h0,Yg,camelL]
 refine Zu (by simpa using h0) ?_
 dsimp only [go_sem,rA,rM,rS]
 obtain ⟨hb,hc⟩:=errC_0.1 h0
 refine call (ZjB m) ?_
 dsimp only [go_sem,rA,rM,rS]
 by_cases hm:ZO m=true
 case neg =>
  refine Zt (by simp [hm]) ?_
  dsimp only [go_sem,rA,rM,rS]
  simp [Yo,h0,hm,Yg,camelL]
 refine Zu (by simp [hm]) ?_
 dsimp only [go_sem,rA,rM,rS]
 refine call (Zgd b c m hb hc hm) ?_
 dsimp only [camelL,go_sem,rA,rM,rS]
 by_cases hd:(ZZ b c m).2=2
 · refine Zt (by simpa using hd) ?_
   dsimp only [go_sem,rA,rM,rS]
   simp [Yo,h0,hm,hd,Yg,camelL]
 refine Zu (by simpa using hd) ?_
 dsimp only [go_sem,rA,rM,rS]
 simp [Yo,h0,hm,hd,camelL]
end Go.Proofs.YtiigiflofnjilaaGreat.Cm
set_option maxRecDepth 100000
set_option maxHeartbeats 4000000
namespace Go.Proofs.YtiigiflofnjilaaGreat
open Go Go.Sx Go.Azalai
def wkres (r:Int × Int):SV:=.tup [I r.1,I r.2]
end Go.Proofs.YtiigiflofnjilaaGreat
set_option maxRecDepth 100000
set_option maxHeartbeats 4000000
namespace Go.Proofs.YtiigiflofnjilaaGreat
open Go Go.Sx Go.Azalai
theorem Zbx (l:Land) (hs:Xr l):Ct Tryz.prog 136 [.agg (Zz l)] (B (ZU l)):=by
 have hw1:IntKind.i64.wrap ((l.wells.length:Int) - 1)=(l.wells.length:Int) - 1:=Ze (by omega) (by have:=hs.1;omega)
 refine t136 (by simp [Zz,Zf,Zm,Zg,Za,KFL,KF]) (by simp [KFL,KF]) ?_
 dsimp only [c136,r136,Zz,go_sem,rA,rM,rS]
 refine call (Yc _ _ _) ?_
 dsimp only [go_sem,rA,rM,rS]
 repeat (refine gb ?_;dsimp only [go_sem,rA,rM,rS])
 simp only [List.length_map]
 refine br ?_ ?_
 · intro h
   dsimp only [go_sem,rA,rM,rS]
   have:ZU l=false:=by simp only [ZU];grind
   rw [this]
 intro h
 dsimp only [go_sem,rA,rM,rS]
 have ho1:ZU l=(l.wells.all Yy && l.legs.all (XU l.wells.length)):=by simp only [ZU];grind
 refine Yx (fun k:Nat=>[(3,I k)]) (fun _=>[]) (fun k=>k≤l.wells.length∧(l.wells.drop k).all Yy=l.wells.all Yy) (fun k=>l.wells.length - k) 0 ⟨Nat.zero_le _,rfl⟩ ?_ ?_
 · (refine Zl ?_ ?_ ?_ rfl rfl<;>dsimp only [Zg,Zf,Zm,id,go_sem,rA,rM,rS]<;>simp [Zg,Zf,Zm,Za,Zi,KFR,KFL,KF,Zd,mtO,nbr])
 intro k ⟨hk,hi⟩
 dsimp only [go_sem,rA,rM,rS]
 by_cases hlt:k < l.wells.length
 · refine Zt (by simpa using hlt) ?_
   dsimp only [go_sem,rA,rM,rS]
   refine Zo k hlt rfl ?_
   dsimp only [Zf,go_sem,rA,rM,rS]
   repeat (first | (refine gb ?_;dsimp only [go_sem,rA,rM,rS]) | (refine call (Yc _ _ _) ?_;dsimp only [go_sem,rA,rM,rS]) | (refine call (ZD l.wells[k].yld _ _) ?_;dsimp only [go_sem,rA,rM,rS]) | (refine call (ZD l.wells[k].has _ _) ?_;dsimp only [go_sem,rA,rM,rS]))
   rw [List.drop_eq_getElem_cons hlt,List.all_cons] at hi
   refine br ?_ ?_
   · intro hb
     dsimp only [go_sem,rA,rM,rS]
     have:Yy l.wells[k]=false:=by simp only [Yy];grind
     rw [ho1,← hi,this];rfl
   · intro hb
     dsimp only [go_sem,rA,rM,rS]
     rw [Ze (n:=(k:Int)+1) (by omega) (by have:=hs.1;omega)]
     have:Yy l.wells[k]=true:=by simp only [Yy];grind
     rw [this,Bool.true_and] at hi
     refine ⟨k+1,⟨hlt,hi⟩,by omega,?_⟩
     (refine Zl ?_ ?_ ?_ rfl rfl<;>dsimp only [Zg,Zf,Zm,id,go_sem,rA,rM,rS]<;>simp [Zg,Zf,Zm,Za,Zi,KFR,KFL,KF,Zd,mtO,nbr])
 refine Zu (by simp;omega) ?_
 dsimp only [go_sem,rA,rM,rS]
 have hke:k=l.wells.length:=by omega
 subst hke
 rw [List.drop_length] at hi
 rw [← hi] at ho1
 rw [show ZU l=l.legs.all (XU l.wells.length) from by rw [ho1];simp]
 refine Yx (fun k:Nat=>[(5,I k)]) (fun _=>[]) (fun k=>k≤l.legs.length∧(l.legs.drop k).all (XU l.wells.length)=l.legs.all (XU l.wells.length)) (fun k=>l.legs.length - k) 0 ⟨Nat.zero_le _,rfl⟩ ?_ ?_
 · (refine Zl ?_ ?_ ?_ rfl rfl<;>dsimp only [Zg,Zf,Zm,id,go_sem,rA,rM,rS]<;>simp [Zg,Zf,Zm,Za,Zi,KFR,KFL,KF,Zd,mtO,nbr])
 intro k ⟨hk,hi⟩
 dsimp only [go_sem,rA,rM,rS]
 by_cases hlt:k < l.legs.length
 · refine Zt (by simpa using hlt) ?_
   dsimp only [go_sem,rA,rM,rS]
   refine Zo k hlt rfl ?_
   dsimp only [Zm,go_sem,rA,rM,rS]
   simp only [List.length_map,hw1]
   repeat (first | (refine gb ?_;dsimp only [go_sem,rA,rM,rS]) | (refine call (Yc _ _ _) ?_;dsimp only [go_sem,rA,rM,rS]) | (refine call (ZD l.legs[k].long _ _) ?_;dsimp only [go_sem,rA,rM,rS]))
   rw [List.drop_eq_getElem_cons hlt,List.all_cons] at hi
   simp only [List.length_map]
   have hgl:=hs.2.2 l.legs[k] (List.getElem_mem _)
   generalize l.legs[k]=x at *
   refine br ?_ ?_
   · intro hb
     dsimp only [go_sem,rA,rM,rS]
     have:XU l.wells.length x=false:=by simp only [XU];grind
     rw [← hi,this];rfl
   · intro hb
     dsimp only [go_sem,rA,rM,rS]
     have hx:XU l.wells.length x=Ym 0 x.gates:=by simp only [XU];grind
     refine Yx (fun s:Nat × Int=>[(8,I s.1),(7,I s.2)]) (fun _=>[]) (fun s=>s.1≤x.gates.length∧Ym (s.2+1) (x.gates.drop s.1)=Ym 0 x.gates) (fun s=>x.gates.length - s.1) (0,-1) ⟨Nat.zero_le _,rfl⟩ ?_ ?_
     · (refine Zl ?_ ?_ ?_ rfl rfl<;>dsimp only [Zg,Zf,Zm,id,go_sem,rA,rM,rS]<;>simp [Zg,Zf,Zm,Za,Zi,KFR,KFL,KF,Zd,mtO,nbr])
     rintro ⟨j,last⟩ ⟨hj,hji⟩
     simp only at hj hji
     dsimp only [go_sem,rA,rM,rS]
     by_cases hlt2:j < x.gates.length
     · refine Zt (by simpa using hlt2) ?_
       dsimp only [go_sem,rA,rM,rS]
       refine Zo j hlt2 rfl ?_
       dsimp only [Zg,go_sem,rA,rM,rS]
       repeat (first | (refine gb ?_;dsimp only [go_sem,rA,rM,rS]) | (refine call (ZD x.gates[j].opens _ _) ?_;dsimp only [go_sem,rA,rM,rS]) | (refine call (ZD x.gates[j].shuts _ _) ?_;dsimp only [go_sem,rA,rM,rS]))
       rw [List.drop_eq_getElem_cons hlt2] at hji
       simp only [Ym] at hji
       refine br ?_ ?_
       · intro hb2
         dsimp only [go_sem,rA,rM,rS]
         have:XU l.wells.length x=false:=by rw [hx,← hji];simp only [inR];grind
         rw [← hi,this];rfl
       · intro hb2
         dsimp only [go_sem,rA,rM,rS]
         rw [Ze (n:=(j:Int)+1) (by omega) (by omega)]
         refine ⟨(j+1,x.gates[j].shuts.hi),⟨hlt2,?_⟩,by simp only;omega,?_⟩
         · simp only;rw [← hji];simp only [inR];grind
         · (refine Zl ?_ ?_ ?_ rfl rfl<;>dsimp only [Zg,Zf,Zm,id,go_sem,rA,rM,rS]<;>simp [Zg,Zf,Zm,Za,Zi,KFR,KFL,KF,Zd,mtO,nbr])
     · refine Zu (by simp;omega) ?_
       dsimp only [go_sem,rA,rM,rS]
       rw [Ze (n:=(k:Int)+1) (by omega) (by have:=hs.2.1;omega)]
       have hje:j=x.gates.length:=by omega
       subst hje
       rw [List.drop_length] at hji
       simp only [Ym] at hji
       rw [hx,← hji,Bool.true_and] at hi
       refine ⟨k+1,⟨hlt,hi⟩,by omega,?_⟩
       (refine Zl ?_ ?_ ?_ rfl rfl<;>dsimp only [Zg,Zf,Zm,id,go_sem,rA,rM,rS]<;>simp [Zg,Zf,Zm,Za,Zi,KFR,KFL,KF,Zd,mtO,nbr])
 refine Zu (by simp;omega) ?_
 dsimp only [go_sem,rA,rM,rS]
 have hke:k=l.legs.length:=by omega
 subst hke
 rw [List.drop_length] at hi
 rw [← hi];rfl
theorem Zmb (l:Land):Ct Tryz.prog 46 [.agg (Zz l)] (B (ZaK l)):=by
 refine t46 (by simp [Zz,Zf,Zm,Zg,Za,KFL,KF]) (by simp [KFL,KF]) ?_
 dsimp only [c46,r46,Zz,go_sem,rA,rM,rS]
 repeat (refine gb ?_;dsimp only [go_sem,rA,rM,rS])
 simp only [List.length_map]
 refine br ?_ ?_
 · intro h
   dsimp only [go_sem,rA,rM,rS]
   (simp only [ZaK,Option.some.injEq,SV.v.injEq,Value.bool.injEq]<;>grind)
 intro h
 dsimp only [go_sem,rA,rM,rS]
 have hg:ZaK l=l.legs.any fun x=>decide (x.gates.length > 20):=by simp only [ZaK];grind
 have hlen:l.legs.length≤40:=by grind
 rw [hg]
 refine Yx (fun k:Nat=>[(3,I k)]) (fun _=>[]) (fun k=>k≤l.legs.length∧((l.legs.drop k).any fun x=>decide (x.gates.length > 20))=l.legs.any fun x=>decide (x.gates.length > 20)) (fun k=>l.legs.length - k) 0 ⟨Nat.zero_le _,rfl⟩ ?_ ?_
 · (refine Zl ?_ ?_ ?_ rfl rfl<;>dsimp only [Zg,Zf,Zm,id,go_sem,rA,rM,rS]<;>simp [Zg,Zf,Zm,Za,Zi,KFR,KFL,KF,Zd,mtO,nbr])
 intro k ⟨hk,hi⟩
 dsimp only [go_sem,rA,rM,rS]
 by_cases hlt:k < l.legs.length
 · refine Zt (by simpa using hlt) ?_
   dsimp only [go_sem,rA,rM,rS]
   refine Zo k hlt rfl ?_
   dsimp only [Zm,go_sem,rA,rM,rS]
   rw [List.drop_eq_getElem_cons hlt,List.any_cons] at hi
   refine br ?_ ?_
   · intro hb
     dsimp only [go_sem,rA,rM,rS]
     have:decide (l.legs[k].gates.length > 20)=true:=by simp at hb ⊢;omega
     rw [← hi,this];rfl
   · intro hb
     dsimp only [go_sem,rA,rM,rS]
     rw [Ze (n:=(k:Int)+1) (by omega) (by omega)]
     have:decide (l.legs[k].gates.length > 20)=false:=by simp at hb ⊢;omega
     rw [this,Bool.false_or] at hi
     refine ⟨k+1,⟨hlt,hi⟩,by omega,?_⟩
     (refine Zl ?_ ?_ ?_ rfl rfl<;>dsimp only [Zg,Zf,Zm,id,go_sem,rA,rM,rS]<;>simp [Zg,Zf,Zm,Za,Zi,KFR,KFL,KF,Zd,mtO,nbr])
 refine Zu (by simp;omega) ?_
 dsimp only [go_sem,rA,rM,rS]
 have hke:k=l.legs.length:=by omega
 subst hke
 rw [List.drop_length] at hi
 rw [← hi];rfl
end Go.Proofs.YtiigiflofnjilaaGreat
set_option maxRecDepth 100000
set_option maxHeartbeats 4000000
namespace Go.Proofs.YtiigiflofnjilaaGreat
open Go Go.Sx Go.Azalai
theorem ZgN (l:Land) (hs:Xr l) (draws:List Draw) (hd:draws.length≤1000):Ct Tryz.prog 45 [.agg (Zz l),.sl false 3 (draws.map Z0)] (B (YT l.wells.length 0 draws)):=by
 have hw1:IntKind.i64.wrap ((l.wells.length:Int) - 1)=(l.wells.length:Int) - 1:=Ze (by omega) (by have:=hs.1;omega)
 refine t45 (by simp [Zz,Zf,Zm,Zg,Z0,Za,KFL,KF]) (by simp [KFL,KF]) ?_
 dsimp only [c45,r45,Zz,go_sem,rA,rM,rS]
 refine Yx (fun s:Nat × Int=>[(5,I s.1)]) (fun _=>[]) (fun s=>s.1≤draws.length∧YT l.wells.length s.2 (draws.drop s.1)=YT l.wells.length 0 draws∧(s.1=0→s.2=0)∧0≤s.2∧(∀ h:s.1 - 1 < draws.length,0 < s.1→s.2=draws[s.1 - 1].day)) (fun s=>draws.length - s.1) (0,0)
  ⟨Nat.zero_le _,rfl,fun _=>rfl,Int.le_refl _,fun _ h=>absurd h (by simp)⟩ ?_ ?_
 · (refine Zl ?_ ?_ ?_ rfl rfl<;>dsimp only [Zg,Zf,Zm,Z0,id,go_sem,rA,rM,rS]<;>simp [Zg,Zf,Zm,Z0,Za,Zi,KFR,KFL,KF,Zd,mtO,nbr])
 rintro ⟨k,last⟩ ⟨hk,hi,hz,h0,hl⟩
 simp only at hk hi hz h0 hl
 dsimp only [go_sem,rA,rM,rS]
 by_cases hlt:k < draws.length
 · refine Zt (by simpa using hlt) ?_
   dsimp only [go_sem,rA,rM,rS]
   refine Zo k hlt rfl ?_
   dsimp only [Z0,go_sem,rA,rM,rS]
   simp only [List.length_map,hw1]
   repeat (first | (refine gb ?_;dsimp only [go_sem,rA,rM,rS]) | (refine call (Yc _ _ _) ?_;dsimp only [go_sem,rA,rM,rS]))
   refine ZdR (k - 1) (Z0 (draws[k - 1]'(by omega))) rfl ?_ ?_
   · intro hb
     have hb:k > 0:=by simpa using hb
     exact ⟨by rw [Ze (by omega) (by omega)];omega,by rw [List.getElem?_map,List.getElem?_eq_getElem (by omega)];rfl⟩
   dsimp only [Z0,go_sem,rA,rM,rS]
   repeat (refine gb ?_;dsimp only [go_sem,rA,rM,rS])
   have hdr:draws.drop k=draws[k] :: draws.drop (k+1):=List.drop_eq_getElem_cons hlt
   rw [hdr] at hi
   simp only [YT] at hi
   have hlast:(!(decide ((k:Int) > 0) && decide (draws[k].day < (draws[k - 1]'(by omega)).day)) && inR 0 100000 draws[k].day)=inR last 100000 draws[k].day:=by
    by_cases hk0:k=0
    · subst hk0;rw [hz rfl];simp
    · have:=hl (by omega) (by omega)
      rw [this] at h0 ⊢
      simp only [inR];grind
   refine br ?_ ?_
   · intro hb
     dsimp only [go_sem,rA,rM,rS]
     rw [← hi,← hlast]
     (simp only [Option.some.injEq,SV.v.injEq,Value.bool.injEq]<;>grind)
   · intro hb
     dsimp only [go_sem,rA,rM,rS]
     rw [Ze (n:=(k:Int)+1) (by omega) (by omega)]
     refine ⟨(k+1,draws[k].day),⟨hlt,?_,fun h=>by simp at h,?_,fun h _=>by simp⟩,by simp only;omega,?_⟩
     · rw [← hi,← hlast];grind
     · simp only [inR] at hb;grind
     · (refine Zl ?_ ?_ ?_ rfl rfl<;>dsimp only [Zg,Zf,Zm,Z0,id,go_sem,rA,rM,rS]<;>simp [Zg,Zf,Zm,Z0,Za,Zi,KFR,KFL,KF,Zd,mtO,nbr])
 · refine Zu (by simp;omega) ?_
   dsimp only [go_sem,rA,rM,rS]
   have hke:k=draws.length:=by omega
   subst hke
   rw [List.drop_length] at hi
   rw [← hi];rfl
theorem Zii (l:Land) (hs:Xr l) (well day:Int) (draws:List Draw) (hd:draws.length≤1000) :
 Ct Tryz.prog 108 [.agg (Zz l),I well,.sl false 3 (draws.map Z0),I day] (ZcX (Xd l well draws day)):=by
 have hw1:IntKind.i64.wrap ((l.wells.length:Int) - 1)=(l.wells.length:Int) - 1:=Ze (by omega) (by have:=hs.1;omega)
 refine t108 (by simp [Zz,Zf,Zm,Zg,Z0,Za,KFL,KF]) (by simp [ZcX,Zc,KFL,KF]) ?_
 dsimp only [c108,r108,Zz,go_sem,rA,rM,rS]
 refine call (Zbx l hs) ?_
 dsimp only [go_sem,rA,rM,rS]
 by_cases ho:ZU l=true
 case neg =>
  refine Zt (by simp [ho]) ?_
  dsimp only [go_sem,rA,rM,rS]
  simp [Xd,ho,ZcX,Zc]
 refine Zu (by simp [ho]) ?_
 dsimp only [go_sem,rA,rM,rS]
 simp only [List.length_map,hw1]
 repeat (first | (refine gb ?_;dsimp only [go_sem,rA,rM,rS]) | (refine call (Yc _ _ _) ?_;dsimp only [go_sem,rA,rM,rS]))
 by_cases ha:(inR 0 (l.wells.length - 1) well && inR 0 100000 day)=true
 case neg =>
  refine Zt (by grind) ?_
  dsimp only [go_sem,rA,rM,rS]
  simp [Xd,ho,ZcX,Zc,ha]
 refine Zu (by grind) ?_
 dsimp only [go_sem,rA,rM,rS]
 by_cases hm:draws.length > 200
 case pos =>
  refine Zt (by simp;omega) ?_
  dsimp only [go_sem,rA,rM,rS]
  simp [Xd,ho,ZcX,Zc,ha,hm]
 refine Zu (by simp;omega) ?_
 dsimp only [go_sem,rA,rM,rS]
 refine call (ZgN l hs draws hd) ?_
 dsimp only [go_sem,rA,rM,rS]
 by_cases hi:YT l.wells.length 0 draws=true
 case neg =>
  refine Zt (by simp [hi]) ?_
  dsimp only [go_sem,rA,rM,rS]
  simp [Xd,ho,ZcX,Zc,ha,hm,hi]
 refine Zu (by simp [hi]) ?_
 dsimp only [go_sem,rA,rM,rS]
 obtain ⟨kw,hkw,rfl,hget⟩:=Zea (Bool.and_eq_true_iff.1 ha).1
 refine Zo kw hkw rfl ?_
 dsimp only [Zf,go_sem,rA,rM,rS]
 have hwf:Xd l kw draws day=XM l.wells[kw] kw day l.wells[kw].has (-1) 0 draws:=by
  simp only [Xd,ho,ha,hm,hi,hget];simp
 rw [hwf]
 have hok:=Zag ho l.wells[kw] (List.getElem_mem _)
 have hmem:=Vh hi (Int.le_refl _)
 have hday:0≤day∧day≤100000:=by simp only [inR,Bool.and_eq_true,decide_eq_true_eq] at ha;omega
 have hroom:0≤l.wells[kw].has.lo∧l.wells[kw].has.lo≤l.wells[kw].room∧0≤l.wells[kw].has.hi∧l.wells[kw].has.hi≤l.wells[kw].room∧l.wells[kw].room≤1000000000:=by
  simp only [Yy,Z5,inR,Bool.and_eq_true,decide_eq_true_eq] at hok;omega
 have hroom2:∀ x:Int,x≤l.wells[kw].room→x≤1000000000:=fun x h=>by omega
 refine Yx (fun s:Nat × Span × Int=>[(14,I s.1),(13,I (s.2.2+1))]) (fun s=>[(3,.cells (Zc s.2.1) 27)])
  (fun s=>s.1≤draws.length∧XM l.wells[kw] kw day s.2.1 s.2.2 s.1 (draws.drop s.1)=XM l.wells[kw] kw day l.wells[kw].has (-1) 0 draws ∧
   0≤s.2.1.lo∧s.2.1.lo≤l.wells[kw].room∧0≤s.2.1.hi∧s.2.1.hi≤l.wells[kw].room∧-1≤s.2.2∧s.2.2≤100000) (fun s=>draws.length - s.1) (0,l.wells[kw].has,-1)
  ⟨Nat.zero_le _,rfl,hroom.1,hroom.2.1,hroom.2.2.1,hroom.2.2.2.1,by simp,by simp⟩ ?_ ?_
 · (refine Zl ?_ ?_ ?_ rfl rfl<;>dsimp only [Zg,Zf,Zm,Z0,Zc,id,go_sem,rA,rM,rS]<;>simp [Zg,Zf,Zm,Z0,Zc,Za,Zi,KFR,KFL,KF,Zd,mtO,nbr])
 · rintro ⟨k,now,ev⟩ ⟨hk2,hi2,n1,n2,n3,n4,e1,e2⟩
   simp only at hk2 hi2 n1 n2 n3 n4 e1 e2
   dsimp only [Zc,go_sem,rA,rM,rS]
   by_cases hlt2:k < draws.length
   · refine Zt (by simpa using hlt2) ?_
     dsimp only [go_sem,rA,rM,rS]
     refine Zo k hlt2 rfl ?_
     dsimp only [Z0,go_sem,rA,rM,rS]
     repeat (first | (refine gb ?_;dsimp only [go_sem,rA,rM,rS]))
     have hx:=hmem draws[k] (List.getElem_mem _)
     have hdr:draws.drop k=draws[k] :: draws.drop (k+1):=List.drop_eq_getElem_cons hlt2
     rw [hdr] at hi2
     simp only [XM] at hi2
     by_cases hc:(draws[k].well != (kw:Int) || decide (draws[k].day ≥ day))=true
     · refine Zt hc ?_
       dsimp only [go_sem,rA,rM,rS]
       rw [if_pos hc] at hi2
       rw [Ze (n:=(k:Int)+1) (by omega) (by omega)]
       refine ⟨(k+1,now,ev),⟨hlt2,hi2,n1,n2,n3,n4,e1,e2⟩,by simp only;omega,?_⟩
       (refine Zl ?_ ?_ ?_ rfl rfl<;>dsimp only [Zg,Zf,Zm,Z0,Zc,id,go_sem,rA,rM,rS]<;>simp [Zg,Zf,Zm,Z0,Zc,Za,Zi,KFR,KFL,KF,Zd,mtO,nbr])
     · refine Zu (by simpa using hc) ?_
       rw [if_neg hc] at hi2
       dsimp only [go_sem,rA,rM,rS]
       rw [Ze (n:=draws[k].day+1) (by omega) (by omega),Ze (n:=draws[k].day+1 - (ev+1)) (by omega) (by omega),show draws[k].day+1 - (ev+1)=draws[k].day - ev from by omega]
       refine call (Zbg l.wells[kw] now (draws[k].day - ev) hok n1 n2 n3 n4 (by omega) (by omega)) ?_
       dsimp only [Zc,go_sem,rA,rM,rS]
       have hbig:-2000000000000≤(YM l.wells[kw] now (draws[k].day - ev)).lo:=ZcD hok n1 n2 n3 n4 (by omega) (by omega)
       have hf2:(YM l.wells[kw] now (draws[k].day - ev)).hi≤l.wells[kw].room:=by simp only [YM];omega
       have hf1:(YM l.wells[kw] now (draws[k].day - ev)).lo≤l.wells[kw].room:=by simp only [YM];omega
       generalize hF:YM l.wells[kw] now (draws[k].day - ev)=F at *
       by_cases hdry:F.hi < draws[k].water
       · refine Zt (by simpa using hdry) ?_
         dsimp only [go_sem,rA,rM,rS]
         rw [if_pos hdry] at hi2
         rw [← hi2];rfl
       · refine Zu (by simpa using hdry) ?_
         dsimp only [go_sem,rA,rM,rS]
         rw [if_neg hdry] at hi2
         rw [Ze (n:=draws[k].day+1) (by omega) (by omega),Ze (n:=F.lo - draws[k].water) (by omega) (by omega),Ze (n:=F.hi - draws[k].water) (by omega) (by omega),Ze (n:=(k:Int)+1) (by omega) (by omega)]
         refine ⟨(k+1,⟨max 0 (F.lo - draws[k].water),F.hi - draws[k].water⟩,draws[k].day),⟨hlt2,hi2,by simp only;omega,by simp only;omega,by simp only;omega,by simp only;omega,by simp only;omega,by simp only;omega⟩,by simp only;omega,?_⟩
         (refine Zl ?_ ?_ ?_ rfl rfl<;>dsimp only [Zg,Zf,Zm,Z0,Zc,id,go_sem,rA,rM,rS]<;>simp [Zg,Zf,Zm,Z0,Zc,Za,Zi,KFR,KFL,KF,Zd,mtO,nbr])
   · refine Zu (by simp;omega) ?_
     dsimp only [go_sem,rA,rM,rS]
     rw [Ze (n:=day - (ev+1)) (by omega) (by omega),show day - (ev+1)=day - 1 - ev from by omega]
     refine call (Zbg l.wells[kw] now (day - 1 - ev) hok n1 n2 n3 n4 (by omega) (by omega)) ?_
     dsimp only [Zc,go_sem,rA,rM,rS]
     have hk':k=draws.length:=by omega
     subst hk'
     simp only [List.drop_length,XM] at hi2
     rw [← hi2];rfl
end Go.Proofs.YtiigiflofnjilaaGreat
