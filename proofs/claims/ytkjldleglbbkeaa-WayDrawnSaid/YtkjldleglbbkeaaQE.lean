/- Walks and plain laws that lead to the given statement, part 5 of 9. -/
import Derived.Test.YtkjldleglbbkeaaQD
import Derived.Test.YtkjldleglbbkeaaProg
set_option maxRecDepth 100000
set_option maxHeartbeats 4000000
set_option linter.all false
open Nat renaming reduceAdd->rA,reduceMul->rM,reduceSub->rS,beq_refl->nbr
namespace Go.Sx
def m1 (d t:Nat):Ins:=⟨some d,.mv (.t t),none,[]⟩
def o1 (d:Nat) (i:SI):Ins:=⟨some d,i,none,[]⟩
def sr1 (l:List Ins) (c:SC):SC:=.seq (.reg l) c
attribute [go_sem] m1 o1 sr1
open Go
structure Qt1 (P:Program) (f:FuncId) (c:SC) (r:List RV) (N:Nat):Prop where
 h:∀ {args:List SV} {res:SV},KFL args->KF res->sx P Y0 0 c (st0 args N) (Zwf r res)->(hA:Nat.ble args.length N=true:=by rfl)->Ct P f args res
theorem YU {P:Program} {f:FuncId} {fn:Func} {c:SC} {r:List RV} {N:Nat} (hf:P.funcs[f]?=some fn) (hd:fn.body.isSome=true) (hb:Xp P f=true) (hc:XY P c (fn.body.getD .skip)=true) (hr:Vn P r fn.results.toList=true) (hN:fn.ntmps=N):Qt1 P f c r N:=⟨fun {args res} ka kr h hA=>by
 cases hq:fn.body with
 | none=>rw [hq] at hd;cases hd
 | some code=>rw [hq] at hc;exact Zll hf hq hb hc hr hN (Nat.le_of_ble_eq_true hA) ka kr h⟩
def zv0:List Value:=[.int .i64 0,.int .i64 0,.int .i64 0,.int .i64 0,.int .i64 0,.int .i64 0,.int .i64 0,.int .i64 0,.int .i64 0]
def zv1:List Value:=[.int .i64 0,.int .i64 0,.int .i64 0,.int .i64 0,.slice none 0 0]
def zv2:List Value:=[.int .i64 0,.int .i64 0,.int .i64 0,.int .i64 0,.int .i64 0,.int .i64 0]
attribute [go_sem] zv0 zv1 zv2
end Go.Sx
namespace Go.Proofs.Ytkjldleglbbkeaa
open Go Go.Sx
def c3:SC:=(sr1 [
 o1 6 (.box (.t 0) 0 25),
 o1 12 (.mv (.c (.bool false)))]
 (.seq (sr1 [
 o1 25 (.ld (.t 6) 2 true),
 o1 26 (.call 16 [.t 25]),
 m1 27 26,
 ⟨some 28,.mv (.t 2),some (27,false),[]⟩,
 ⟨some 29,.len (.t 28),some (27,false),[]⟩,
 ⟨some 30,.bin .gtr (.t 29) (.c (.int .i64 250)),some (27,false),[]⟩,
 o1 31 (.pick (.t 27) (.c (.bool true)) (.t 30))]
 (.cond (.t 31)
 (sr1 [
  o1 12 (.mv (.c (.bool true)))]
  .ret)
 .skip))
 (sr1 [
 o1 32 (.bsl 3 40 []),
 m1 33 2,
 o1 34 (.app 3 24 40 (.t 32) (.t 33)),
 m1 13 34]
 (sr1 [
 o1 36 (.ld (.t 6) 2 true),
 m1 37 1,
 m1 38 13,
 m1 39 3,
 o1 40 (.call 17 [.t 36,.t 37,.t 38,.t 39]),
 m1 35 40,
 o1 41 (.ext (.t 35) 0),
 o1 42 (.ext (.t 35) 1),
 o1 43 (.ext (.t 35) 2),
 o1 14 (.alloc [.int .i64 0,.int .i64 0] 29),
 ⟨none,.st (.t 14) (.t 41) 2,none,[]⟩,
 m1 15 42,
 m1 16 43]
 (sr1 [
 o1 45 (.ld (.t 6) 2 true),
 m1 46 1,
 m1 47 2,
 m1 48 3,
 o1 49 (.call 18 [.t 45,.t 46,.t 47,.t 48]),
 m1 44 49,
 o1 50 (.ext (.t 44) 0),
 o1 51 (.ext (.t 44) 1),
 o1 52 (.ext (.t 44) 2),
 o1 17 (.alloc [.int .i64 0,.int .i64 0] 29),
 ⟨none,.st (.t 17) (.t 50) 2,none,[]⟩,
 m1 18 51,
 m1 19 52]
 (sr1 [
 o1 54 (.ld (.t 6) 2 true),
 m1 55 1,
 m1 56 4,
 m1 57 5,
 o1 58 (.call 19 [.t 54,.t 55,.t 56,.t 57]),
 m1 53 58,
 o1 59 (.ext (.t 53) 0),
 o1 60 (.ext (.t 53) 1),
 m1 20 59,
 m1 21 60]
 (sr1 [
 o1 62 (.ld (.t 6) 2 true),
 m1 63 1,
 m1 64 4,
 m1 65 5,
 o1 66 (.call 20 [.t 62,.t 63,.t 64,.t 65]),
 m1 61 66,
 o1 67 (.ext (.t 61) 0),
 o1 68 (.ext (.t 61) 1),
 m1 22 67,
 m1 23 68]
 (.seq (sr1 [
 m1 69 2,
 o1 70 (.len (.t 69)),
 o1 71 (.mv (.c (.int .i64 0)))]
 (.block 0 (.loop (sr1 [
  o1 72 (.bin .lss (.t 71) (.t 70))]
  (.seq (.cond (.t 72)
  .skip
  (.exit 0))
  (.seq (.block 1 (sr1 [
   m1 73 71,
   m1 24 73]
   (.seq (.regd [0,1,2,3,4,5,6,7,8] [
   .op (m1 74 13),
   .op (m1 75 24),
   .op ⟨some 76,.ixs (.t 74) (.t 75) 3,none,[0,1]⟩,
   .op ⟨some 77,.ld (.t 76) 3 true,none,[2]⟩,
   .op (m1 78 2),
   .op (m1 79 24),
   .op ⟨some 80,.ixs (.t 78) (.t 79) 3,none,[4,5]⟩,
   .op ⟨some 81,.ld (.t 80) 3 true,none,[6]⟩,
   .op ⟨some 82,.eqs true true [1,1,1] (.t 77) (.t 81),none,[3,7]⟩] 0 0 [
])
 (.cond (.t 82)
 (sr1 [
  o1 12 (.mv (.c (.bool false)))]
  .ret)
 .skip))))
 (.reg [
 o1 83 (.bin .add (.t 71) (.c (.int .i64 1))),
 m1 71 83])))))))
 (sr1 [
 o1 84 (.ld (.t 14) 2 true),
 o1 85 (.ld (.t 17) 2 true),
 o1 86 (.eqs false true [1,1] (.t 84) (.t 85)),
 m1 87 86,
 ⟨some 88,.mv (.t 15),some (87,true),[]⟩,
 ⟨some 89,.mv (.t 18),some (87,true),[]⟩,
 ⟨some 90,.bin .eql (.t 88) (.t 89),some (87,true),[]⟩,
 o1 91 (.pick (.t 87) (.t 90) (.c (.bool false))),
 m1 92 91,
 ⟨some 93,.mv (.t 16),some (92,true),[]⟩,
 ⟨some 94,.mv (.t 19),some (92,true),[]⟩,
 ⟨some 95,.bin .eql (.t 93) (.t 94),some (92,true),[]⟩,
 o1 96 (.pick (.t 92) (.t 95) (.c (.bool false))),
 m1 97 96,
 ⟨some 98,.mv (.t 20),some (97,true),[]⟩,
 ⟨some 99,.mv (.t 22),some (97,true),[]⟩,
 ⟨some 100,.bin .eql (.t 98) (.t 99),some (97,true),[]⟩,
 o1 101 (.pick (.t 97) (.t 100) (.c (.bool false))),
 m1 102 101,
 ⟨some 103,.mv (.t 21),some (102,true),[]⟩,
 ⟨some 104,.mv (.t 23),some (102,true),[]⟩,
 ⟨some 105,.bin .eql (.t 103) (.t 104),some (102,true),[]⟩,
 o1 106 (.pick (.t 102) (.t 105) (.c (.bool false))),
 m1 12 106]
 .ret)))))))))
def r3:List RV:=[.tmp 12]
theorem n3:Try.f3.ntmps=107:=by kernel_rfl
theorem b3:Xp Try.prog 3=true:=by kernel_rfl
theorem t3:Qt1 Try.prog 3 c3 r3 107:=YU Try.func3 rfl b3 (by kernel_rfl) (by kernel_rfl) n3
def c16:SC:=(sr1 [
 o1 1 (.box (.t 0) 0 25),
 o1 2 (.mv (.c (.bool false)))]
 (.seq (sr1 [
 o1 4 (.addo (.t 1) 0),
 o1 5 (.ld (.t 4) 1 false),
 o1 6 (.len (.t 5)),
 o1 7 (.bin .gtr (.t 6) (.c (.int .i64 20))),
 m1 8 7,
 ⟨some 9,.addo (.t 1) 1,some (8,false),[]⟩,
 ⟨some 10,.ld (.t 9) 1 false,some (8,false),[]⟩,
 ⟨some 11,.len (.t 10),some (8,false),[]⟩,
 ⟨some 12,.bin .gtr (.t 11) (.c (.int .i64 40)),some (8,false),[]⟩,
 o1 13 (.pick (.t 8) (.c (.bool true)) (.t 12))]
 (.cond (.t 13)
 (sr1 [
  o1 2 (.mv (.c (.bool true)))]
  .ret)
 .skip))
 (.seq (sr1 [
 o1 3 (.mv (.c (.int .i64 0)))]
 (.block 0 (.loop (.seq (sr1 [
  m1 14 3,
  o1 15 (.addo (.t 1) 1),
  o1 16 (.ld (.t 15) 1 false),
  o1 17 (.len (.t 16)),
  o1 18 (.bin .lss (.t 14) (.t 17))]
  (.cond (.t 18)
  .skip
  (.exit 0)))
  (.seq (.block 1 (sr1 [
   o1 21 (.addo (.t 1) 1),
   o1 22 (.ld (.t 21) 1 false),
   m1 23 3,
   o1 24 (.ixs (.t 22) (.t 23) 5),
   o1 25 (.addo (.t 24) 4),
   o1 26 (.ld (.t 25) 1 false),
   o1 27 (.len (.t 26)),
   o1 28 (.bin .gtr (.t 27) (.c (.int .i64 20)))]
   (.cond (.t 28)
   (sr1 [
    o1 2 (.mv (.c (.bool true)))]
    .ret)
   .skip)))
  (.reg [
  m1 19 3,
  o1 20 (.bin .add (.t 19) (.c (.int .i64 1))),
  m1 3 20]))))))
 (sr1 [
 o1 2 (.mv (.c (.bool false)))]
 .ret))))
def r16:List RV:=[.tmp 2]
theorem t16:Qt1 Try.prog 16 c16 r16 29:=YU Try.func16 rfl (by kernel_rfl) (by kernel_rfl) (by kernel_rfl) (by kernel_rfl)
def c17:SC:=(sr1 [
 o1 4 (.box (.t 0) 0 25),
 o1 8 (.alloc [.int .i64 0,.int .i64 0] 29),
 o1 9 (.mv (.c (.int .i64 0))),
 o1 10 (.mv (.c (.int .i64 0)))]
 (.seq (sr1 [
 o1 20 (.ld (.t 4) 2 true),
 o1 21 (.call 26 [.t 20]),
 m1 11 21]
 (.block 0 (sr1 [
  m1 23 11,
  o1 24 (.bin .neq (.t 23) (.c (.int .i64 0))),
  m1 22 24]
  (.cond (.t 22)
  (sr1 [
   o1 25 (.ld (.t 8) 2 true),
   m1 26 11,
   ⟨none,.st (.t 8) (.t 25) 2,none,[]⟩,
   o1 9 (.mv (.c (.int .i64 0))),
   m1 10 26]
   .ret)
  (sr1 [
   o1 28 (.addo (.t 4) 0),
   o1 29 (.ld (.t 28) 1 false),
   o1 30 (.len (.t 29)),
   o1 31 (.bin .sub (.t 30) (.c (.int .i64 1))),
   m1 32 1,
   o1 33 (.bsl 1 3 [.t 32]),
   o1 34 (.call 58 [.c (.int .i64 0),.t 31,.t 33]),
   o1 35 (.un .not (.t 34)),
   m1 36 35,
   ⟨some 37,.mv (.t 3),some (36,false),[]⟩,
   ⟨some 38,.bsl 1 3 [.t 37],some (36,false),[]⟩,
   ⟨some 39,.call 58 [.c (.int .i64 0),.c (.int .i64 100000),.t 38],some (36,false),[]⟩,
   ⟨some 40,.un .not (.t 39),some (36,false),[]⟩,
   o1 41 (.pick (.t 36) (.c (.bool true)) (.t 40)),
   m1 27 41]
   (.cond (.t 27)
   (sr1 [
    o1 42 (.ld (.t 8) 2 true),
    ⟨none,.st (.t 8) (.t 42) 2,none,[]⟩,
    o1 9 (.mv (.c (.int .i64 0))),
    o1 10 (.mv (.c (.int .i64 2)))]
    .ret)
   (sr1 [
    m1 44 2,
    o1 45 (.len (.t 44)),
    o1 46 (.bin .gtr (.t 45) (.c (.int .i64 200))),
    m1 43 46]
    (.cond (.t 43)
    (sr1 [
     o1 47 (.ld (.t 8) 2 true),
     ⟨none,.st (.t 8) (.t 47) 2,none,[]⟩,
     o1 9 (.mv (.c (.int .i64 0))),
     o1 10 (.mv (.c (.int .i64 4)))]
     .ret)
    .skip))))))))
 (sr1 [
 o1 12 (.mv (.c (.int .i64 0)))]
 (.seq (sr1 [
 m1 48 2,
 o1 49 (.len (.t 48)),
 o1 50 (.mv (.c (.int .i64 0)))]
 (.block 1 (.loop (sr1 [
  o1 51 (.bin .lss (.t 50) (.t 49))]
  (.seq (.cond (.t 51)
  .skip
  (.exit 1))
  (.seq (.block 2 (sr1 [
   o1 52 (.ixs (.t 48) (.t 50) 3),
   o1 53 (.ld (.t 52) 3 true),
   o1 14 (.alloc [.int .i64 0,.int .i64 0,.int .i64 0] 40),
   ⟨none,.st (.t 14) (.t 53) 3,none,[]⟩]
   (.seq (sr1 [
   o1 54 (.addo (.t 4) 0),
   o1 55 (.ld (.t 54) 1 false),
   o1 56 (.len (.t 55)),
   o1 57 (.bin .sub (.t 56) (.c (.int .i64 1))),
   o1 58 (.addo (.t 14) 0),
   o1 59 (.ld (.t 58) 1 false),
   o1 60 (.bsl 1 3 [.t 59]),
   o1 61 (.call 58 [.c (.int .i64 0),.t 57,.t 60]),
   o1 62 (.un .not (.t 61)),
   m1 63 62,
   ⟨some 64,.mv (.t 12),some (63,false),[]⟩,
   ⟨some 65,.addo (.t 14) 1,some (63,false),[]⟩,
   ⟨some 66,.ld (.t 65) 1 false,some (63,false),[]⟩,
   ⟨some 67,.bsl 1 3 [.t 66],some (63,false),[]⟩,
   ⟨some 68,.call 58 [.t 64,.c (.int .i64 100000),.t 67],some (63,false),[]⟩,
   ⟨some 69,.un .not (.t 68),some (63,false),[]⟩,
   o1 70 (.pick (.t 63) (.c (.bool true)) (.t 69)),
   m1 71 70,
   ⟨some 72,.addo (.t 14) 2,some (71,false),[]⟩,
   ⟨some 73,.ld (.t 72) 1 false,some (71,false),[]⟩,
   ⟨some 74,.bsl 1 3 [.t 73],some (71,false),[]⟩,
   ⟨some 75,.call 58 [.c (.int .i64 0),.c (.int .i64 1000000000),.t 74],some (71,false),[]⟩,
   ⟨some 76,.un .not (.t 75),some (71,false),[]⟩,
   o1 77 (.pick (.t 71) (.c (.bool true)) (.t 76))]
   (.cond (.t 77)
   (sr1 [
    o1 78 (.ld (.t 8) 2 true),
    ⟨none,.st (.t 8) (.t 78) 2,none,[]⟩,
    o1 9 (.mv (.c (.int .i64 0))),
    o1 10 (.mv (.c (.int .i64 32)))]
    .ret)
   .skip))
   (.reg [
   o1 79 (.addo (.t 14) 1),
   o1 80 (.ld (.t 79) 1 false),
   m1 12 80]))))
  (.reg [
  o1 81 (.bin .add (.t 50) (.c (.int .i64 1))),
  m1 50 81])))))))
 (sr1 [
 o1 82 (.addo (.t 4) 0),
 o1 83 (.ld (.t 82) 1 false),
 m1 84 1,
 o1 85 (.ixs (.t 83) (.t 84) 9),
 o1 86 (.ld (.t 85) 9 true),
 o1 15 (.alloc zv0 109),
 ⟨none,.st (.t 15) (.t 86) 9,none,[]⟩]
 (sr1 [
 o1 87 (.addo (.t 15) 6),
 o1 88 (.ld (.t 87) 2 true),
 o1 16 (.alloc [.int .i64 0,.int .i64 0] 29),
 ⟨none,.st (.t 16) (.t 88) 2,none,[]⟩,
 o1 17 (.mv (.c (.int .i64 (-1))))]
 (.seq (sr1 [
 m1 89 2,
 o1 90 (.len (.t 89)),
 o1 91 (.mv (.c (.int .i64 0)))]
 (.block 3 (.loop (sr1 [
  o1 92 (.bin .lss (.t 91) (.t 90))]
  (.seq (.cond (.t 92)
  .skip
  (.exit 3))
  (.seq (.block 4 (sr1 [
   m1 93 91,
   o1 94 (.ixs (.t 89) (.t 91) 3),
   o1 95 (.ld (.t 94) 3 true),
   o1 19 (.alloc [.int .i64 0,.int .i64 0,.int .i64 0] 40),
   m1 18 93,
   ⟨none,.st (.t 19) (.t 95) 3,none,[]⟩]
   (.seq (sr1 [
   o1 96 (.addo (.t 19) 0),
   o1 97 (.ld (.t 96) 1 false),
   m1 98 1,
   o1 99 (.bin .neq (.t 97) (.t 98)),
   m1 100 99,
   ⟨some 101,.addo (.t 19) 1,some (100,false),[]⟩,
   ⟨some 102,.ld (.t 101) 1 false,some (100,false),[]⟩,
   ⟨some 103,.mv (.t 3),some (100,false),[]⟩,
   ⟨some 104,.bin .geq (.t 102) (.t 103),some (100,false),[]⟩,
   o1 105 (.pick (.t 100) (.c (.bool true)) (.t 104))]
   (.cond (.t 105)
   (.exit 4)
   .skip))
   (sr1 [
   o1 106 (.ld (.t 15) 9 true),
   o1 107 (.ld (.t 16) 2 true),
   o1 108 (.addo (.t 19) 1),
   o1 109 (.ld (.t 108) 1 false),
   m1 110 17,
   o1 111 (.bin .sub (.t 109) (.t 110)),
   o1 112 (.call 59 [.t 106,.t 107,.t 111]),
   ⟨none,.st (.t 16) (.t 112) 2,none,[]⟩]
   (sr1 [
   o1 113 (.addo (.t 19) 1),
   o1 114 (.ld (.t 113) 1 false),
   m1 17 114]
   (.seq (sr1 [
   o1 115 (.addo (.t 16) 1),
   o1 116 (.ld (.t 115) 1 false),
   o1 117 (.addo (.t 19) 2),
   o1 118 (.ld (.t 117) 1 false),
   o1 119 (.bin .lss (.t 116) (.t 118))]
   (.cond (.t 119)
   (sr1 [
    o1 120 (.ld (.t 8) 2 true),
    m1 121 18,
    ⟨none,.st (.t 8) (.t 120) 2,none,[]⟩,
    m1 9 121,
    o1 10 (.mv (.c (.int .i64 33)))]
    .ret)
   .skip))
   (.reg [
   o1 122 (.addo (.t 16) 0),
   o1 123 (.ld (.t 122) 1 false),
   o1 124 (.addo (.t 19) 2),
   o1 125 (.ld (.t 124) 1 false),
   o1 126 (.bin .sub (.t 123) (.t 125)),
   o1 127 (.mm true [.c (.int .i64 0),.t 126]),
   o1 128 (.addo (.t 16) 1),
   o1 129 (.ld (.t 128) 1 false),
   o1 130 (.addo (.t 19) 2),
   o1 131 (.ld (.t 130) 1 false),
   o1 132 (.bin .sub (.t 129) (.t 131)),
   o1 133 (.build [.int .i64 0,.int .i64 0] [(0,1,.t 127),(1,1,.t 132)]),
   ⟨none,.st (.t 16) (.t 133) 2,none,[]⟩])))))))
  (.reg [
  o1 134 (.bin .add (.t 91) (.c (.int .i64 1))),
  m1 91 134])))))))
 (sr1 [
 o1 135 (.ld (.t 15) 9 true),
 o1 136 (.ld (.t 16) 2 true),
 m1 137 3,
 o1 138 (.bin .sub (.t 137) (.c (.int .i64 1))),
 m1 139 17,
 o1 140 (.bin .sub (.t 138) (.t 139)),
 o1 141 (.call 59 [.t 135,.t 136,.t 140]),
 ⟨none,.st (.t 8) (.t 141) 2,none,[]⟩,
 o1 9 (.mv (.c (.int .i64 0))),
 o1 10 (.mv (.c (.int .i64 0)))]
 .ret))))))))
def r17:List RV:=[.cell 8 2 true,.tmp 9,.tmp 10]
theorem t17:Qt1 Try.prog 17 c17 r17 142:=YU Try.func17 rfl (by kernel_rfl) (by kernel_rfl) (by kernel_rfl) (by kernel_rfl)
def c19:SC:=(sr1 [
 o1 4 (.box (.t 0) 0 25),
 o1 8 (.mv (.c (.int .i64 0))),
 o1 9 (.mv (.c (.int .i64 0)))]
 (.seq (sr1 [
 o1 12 (.ld (.t 4) 2 true),
 o1 13 (.call 26 [.t 12]),
 m1 10 13]
 (sr1 [
 m1 14 10,
 o1 15 (.bin .neq (.t 14) (.c (.int .i64 0)))]
 (.cond (.t 15)
 (sr1 [
  m1 16 10,
  o1 8 (.mv (.c (.int .i64 0))),
  m1 9 16]
  .ret)
 .skip)))
 (.seq (sr1 [
 o1 17 (.addo (.t 4) 0),
 o1 18 (.ld (.t 17) 1 false),
 o1 19 (.len (.t 18)),
 o1 20 (.bin .sub (.t 19) (.c (.int .i64 1))),
 m1 21 1,
 o1 22 (.bsl 1 3 [.t 21]),
 o1 23 (.call 58 [.c (.int .i64 0),.t 20,.t 22]),
 o1 24 (.un .not (.t 23)),
 m1 25 24,
 ⟨some 26,.mv (.t 2),some (25,false),[]⟩,
 ⟨some 27,.bsl 1 3 [.t 26],some (25,false),[]⟩,
 ⟨some 28,.call 58 [.c (.int .i64 0),.c (.int .i64 1000000000),.t 27],some (25,false),[]⟩,
 ⟨some 29,.un .not (.t 28),some (25,false),[]⟩,
 o1 30 (.pick (.t 25) (.c (.bool true)) (.t 29)),
 m1 31 30,
 ⟨some 32,.mv (.t 3),some (31,false),[]⟩,
 ⟨some 33,.bsl 1 3 [.t 32],some (31,false),[]⟩,
 ⟨some 34,.call 58 [.c (.int .i64 1),.c (.int .i64 100),.t 33],some (31,false),[]⟩,
 ⟨some 35,.un .not (.t 34),some (31,false),[]⟩,
 o1 36 (.pick (.t 31) (.c (.bool true)) (.t 35))]
 (.cond (.t 36)
 (sr1 [
  o1 8 (.mv (.c (.int .i64 0))),
  o1 9 (.mv (.c (.int .i64 2)))]
  .ret)
 .skip))
 (sr1 [
 m1 37 3,
 o1 38 (.bin .mul (.c (.int .i64 1000000)) (.t 37)),
 m1 11 38]
 (sr1 [
 m1 39 2,
 o1 40 (.addo (.t 4) 0),
 o1 41 (.ld (.t 40) 1 false),
 m1 42 1,
 o1 43 (.ixs (.t 41) (.t 42) 9),
 o1 44 (.addo (.t 43) 2),
 o1 45 (.ld (.t 44) 1 false),
 o1 46 (.bin .mul (.t 39) (.t 45)),
 m1 47 11,
 o1 48 (.bin .add (.t 46) (.t 47)),
 o1 49 (.bin .sub (.t 48) (.c (.int .i64 1))),
 m1 50 11,
 o1 51 (.div .quo (.t 49) (.t 50)),
 m1 8 51,
 o1 9 (.mv (.c (.int .i64 0)))]
 .ret)))))
def r19:List RV:=[.tmp 8,.tmp 9]
theorem t19:Qt1 Try.prog 19 c19 r19 52:=YU Try.func19 rfl (by kernel_rfl) (by kernel_rfl) (by kernel_rfl) (by kernel_rfl)
def c26:SC:=(sr1 [
 o1 1 (.box (.t 0) 0 25),
 o1 2 (.mv (.c (.int .i64 0)))]
 (sr1 [
 o1 5 (.addo (.t 1) 0),
 o1 6 (.ld (.t 5) 1 false),
 o1 7 (.call 71 [.t 6,.f 72]),
 o1 8 (.un .not (.t 7)),
 m1 3 8]
 (sr1 [
 o1 9 (.addo (.t 1) 1),
 o1 10 (.ld (.t 9) 1 false),
 o1 11 (.mkf 75 [.t 1]),
 o1 12 (.call 74 [.t 10,.t 11]),
 o1 13 (.un .not (.t 12)),
 m1 4 13]
 (.seq (sr1 [
 o1 14 (.addo (.t 1) 0),
 o1 15 (.ld (.t 14) 1 false),
 o1 16 (.len (.t 15)),
 o1 17 (.bsl 1 3 [.t 16]),
 o1 18 (.call 58 [.c (.int .i64 1),.c (.int .i64 12),.t 17]),
 o1 19 (.un .not (.t 18)),
 m1 20 19,
 ⟨some 21,.addo (.t 1) 1,some (20,false),[]⟩,
 ⟨some 22,.ld (.t 21) 1 false,some (20,false),[]⟩,
 ⟨some 23,.len (.t 22),some (20,false),[]⟩,
 ⟨some 24,.bin .gtr (.t 23) (.c (.int .i64 24)),some (20,false),[]⟩,
 o1 25 (.pick (.t 20) (.c (.bool true)) (.t 24)),
 m1 26 25,
 ⟨some 27,.mv (.t 3),some (26,false),[]⟩,
 ⟨some 28,.un .not (.t 27),some (26,false),[]⟩,
 o1 29 (.pick (.t 26) (.c (.bool true)) (.t 28)),
 m1 30 29,
 ⟨some 31,.mv (.t 4),some (30,false),[]⟩,
 ⟨some 32,.un .not (.t 31),some (30,false),[]⟩,
 o1 33 (.pick (.t 30) (.c (.bool true)) (.t 32))]
 (.cond (.t 33)
 (sr1 [
  o1 2 (.mv (.c (.int .i64 30)))]
  .ret)
 .skip))
 (sr1 [
 o1 2 (.mv (.c (.int .i64 0)))]
 .ret)))))
def r26:List RV:=[.tmp 2]
theorem t26:Qt1 Try.prog 26 c26 r26 34:=YU Try.func26 rfl (by kernel_rfl) (by kernel_rfl) (by kernel_rfl) (by kernel_rfl)
def c55:SC:=(sr1 [
 o1 2 (.box (.t 0) 0 25),
 o1 4 (.mv (.c (.bool false)))]
 (.seq (sr1 [
 o1 5 (.mv (.c (.int .i64 0)))]
 (.block 0 (.loop (.seq (sr1 [
  m1 7 5,
  m1 8 1,
  o1 9 (.len (.t 8)),
  o1 10 (.bin .lss (.t 7) (.t 9))]
  (.cond (.t 10)
  .skip
  (.exit 0)))
  (.seq (.block 1 (sr1 [
   m1 13 1,
   m1 14 5,
   o1 15 (.ixs (.t 13) (.t 14) 3),
   o1 16 (.ld (.t 15) 3 true),
   o1 6 (.alloc [.int .i64 0,.int .i64 0,.int .i64 0] 40),
   ⟨none,.st (.t 6) (.t 16) 3,none,[]⟩]
   (.seq (.regd [0,1,2,3,4,5,6,7,8,9,10,11,12,13,14,15,16,17,18,19,20,21,22,23,24,25,26,27,28,29,30,31,32,33,34] [
   .op (o1 17 (.addo (.t 6) 0)),
   .op ⟨some 18,.ld (.t 17) 1 false,none,[0]⟩,
   .op (o1 19 (.addo (.t 2) 0)),
   .op ⟨some 20,.ld (.t 19) 1 false,none,[2]⟩,
   .op ⟨some 21,.len (.t 20),none,[3]⟩,
   .op ⟨some 22,.bin .sub (.t 21) (.c (.int .i64 1)),none,[4]⟩,
   .op ⟨some 23,.call 61 [.t 18,.c (.int .i64 0),.t 22],none,[1,5]⟩,
   .op ⟨some 24,.un .not (.t 23),none,[6]⟩,
   .op ⟨some 25,.mv (.t 24),none,[6,7]⟩,
   .op ⟨some 26,.addo (.t 6) 1,some (25,false),[8]⟩,
   .op ⟨some 27,.ld (.t 26) 1 false,some (25,false),[8,9]⟩,
   .op ⟨some 28,.call 61 [.t 27,.c (.int .i64 0),.c (.int .i64 100000)],some (25,false),[8,10]⟩,
   .op ⟨some 29,.un .not (.t 28),some (25,false),[8,11]⟩,
   .op ⟨some 30,.pick (.t 25) (.c (.bool true)) (.t 29),none,[8,12]⟩,
   .op ⟨some 31,.mv (.t 30),none,[11,13]⟩,
   .op ⟨some 32,.addo (.t 6) 2,some (31,false),[14]⟩,
   .op ⟨some 33,.ld (.t 32) 1 false,some (31,false),[14,15]⟩,
   .op ⟨some 34,.call 61 [.t 33,.c (.int .i64 0),.c (.int .i64 1000000000)],some (31,false),[14,16]⟩,
   .op ⟨some 35,.un .not (.t 34),some (31,false),[14,17]⟩,
   .op ⟨some 36,.pick (.t 31) (.c (.bool true)) (.t 35),none,[14,18]⟩,
   .op ⟨some 37,.mv (.t 36),none,[17,19]⟩,
   .op ⟨some 38,.mv (.t 5),some (37,false),[20]⟩,
   .op ⟨some 39,.bin .gtr (.t 38) (.c (.int .i64 0)),some (37,false),[20,21]⟩,
   .op ⟨some 40,.mv (.t 39),some (37,false),[20,22]⟩,
   .op ⟨some 41,.addo (.t 6) 1,some (40,true),[23]⟩,
   .op ⟨some 42,.ld (.t 41) 1 false,some (40,true),[23,24]⟩,
   .op ⟨some 43,.mv (.t 1),some (40,true),[23]⟩,
   .op ⟨some 44,.mv (.t 5),some (40,true),[23]⟩,
   .op ⟨some 45,.bin .sub (.t 44) (.c (.int .i64 1)),some (40,true),[23,27]⟩,
   .op ⟨some 46,.ixs (.t 43) (.t 45) 3,some (40,true),[23,26,28]⟩,
   .op ⟨some 47,.addo (.t 46) 1,some (40,true),[23,29]⟩,
   .op ⟨some 48,.ld (.t 47) 1 false,some (40,true),[23,30]⟩,
   .op ⟨some 49,.bin .lss (.t 42) (.t 48),some (40,true),[23,25,31]⟩,
   .op ⟨some 50,.pick (.t 40) (.t 49) (.c (.bool false)),some (37,false),[20,23,32]⟩,
   .op ⟨some 51,.pick (.t 37) (.c (.bool true)) (.t 50),none,[20,33]⟩] 0 0 [
])
 (.cond (.t 51)
 (sr1 [
  o1 4 (.mv (.c (.bool false)))]
  .ret)
 .skip))))
 (.reg [
 m1 11 5,
 o1 12 (.bin .add (.t 11) (.c (.int .i64 1))),
 m1 5 12]))))))
 (sr1 [
 o1 4 (.mv (.c (.bool true)))]
 .ret)))
def r55:List RV:=[.tmp 4]
theorem t55:Qt1 Try.prog 55 c55 r55 52:=YU Try.func55 rfl (by kernel_rfl) (by kernel_rfl) (by kernel_rfl) (by kernel_rfl)
def c58:SC:=(sr1 [
 o1 3 (.box (.t 0) 0 3),
 o1 4 (.box (.t 1) 0 3),
 o1 6 (.mv (.c (.bool false)))]
 (sr1 [
 m1 7 2,
 o1 8 (.mkf 91 [.t 3,.t 4]),
 o1 9 (.call 90 [.t 7,.t 8]),
 o1 10 (.un .not (.t 9)),
 m1 6 10]
 .ret))
def r58:List RV:=[.tmp 6]
theorem t58:Qt1 Try.prog 58 c58 r58 11:=YU Try.func58 rfl (by kernel_rfl) (by kernel_rfl) (by kernel_rfl) (by kernel_rfl)
def c59:SC:=(sr1 [
 o1 3 (.box (.t 0) 0 109),
 o1 4 (.box (.t 1) 0 29),
 o1 6 (.alloc [.int .i64 0,.int .i64 0] 29)]
 (sr1 [
 o1 7 (.addo (.t 3) 5),
 o1 8 (.ld (.t 7) 1 false),
 o1 9 (.addo (.t 4) 0),
 o1 10 (.ld (.t 9) 1 false),
 m1 11 2,
 o1 12 (.addo (.t 3) 3),
 o1 13 (.addo (.t 12) 0),
 o1 14 (.ld (.t 13) 1 false),
 o1 15 (.bin .mul (.t 11) (.t 14)),
 o1 16 (.bin .add (.t 10) (.t 15)),
 o1 17 (.mm false [.t 8,.t 16]),
 o1 18 (.addo (.t 3) 5),
 o1 19 (.ld (.t 18) 1 false),
 o1 20 (.addo (.t 4) 1),
 o1 21 (.ld (.t 20) 1 false),
 m1 22 2,
 o1 23 (.addo (.t 3) 3),
 o1 24 (.addo (.t 23) 1),
 o1 25 (.ld (.t 24) 1 false),
 o1 26 (.bin .mul (.t 22) (.t 25)),
 o1 27 (.bin .add (.t 21) (.t 26)),
 o1 28 (.mm false [.t 19,.t 27]),
 o1 29 (.build [.int .i64 0,.int .i64 0] [(0,1,.t 17),(1,1,.t 28)]),
 ⟨none,.st (.t 6) (.t 29) 2,none,[]⟩]
 .ret))
def r59:List RV:=[.cell 6 2 true]
theorem t59:Qt1 Try.prog 59 c59 r59 30:=YU Try.func59 rfl (by kernel_rfl) (by kernel_rfl) (by kernel_rfl) (by kernel_rfl)
def c60:SC:=(sr1 [
 o1 1 (.box (.t 0) 0 25),
 o1 2 (.mv (.c (.bool false)))]
 (.seq (sr1 [
 o1 10 (.addo (.t 1) 0),
 o1 11 (.ld (.t 10) 1 false),
 o1 12 (.len (.t 11)),
 o1 13 (.call 61 [.t 12,.c (.int .i64 1),.c (.int .i64 12)]),
 o1 14 (.un .not (.t 13)),
 m1 15 14,
 ⟨some 16,.addo (.t 1) 1,some (15,false),[]⟩,
 ⟨some 17,.ld (.t 16) 1 false,some (15,false),[]⟩,
 ⟨some 18,.len (.t 17),some (15,false),[]⟩,
 ⟨some 19,.bin .gtr (.t 18) (.c (.int .i64 24)),some (15,false),[]⟩,
 o1 20 (.pick (.t 15) (.c (.bool true)) (.t 19))]
 (.cond (.t 20)
 (sr1 [
  o1 2 (.mv (.c (.bool false)))]
  .ret)
 .skip))
 (.seq (sr1 [
 o1 3 (.mv (.c (.int .i64 0)))]
 (.block 0 (.loop (.seq (sr1 [
  m1 21 3,
  o1 22 (.addo (.t 1) 0),
  o1 23 (.ld (.t 22) 1 false),
  o1 24 (.len (.t 23)),
  o1 25 (.bin .lss (.t 21) (.t 24))]
  (.cond (.t 25)
  .skip
  (.exit 0)))
  (.seq (.block 1 (sr1 [
   o1 28 (.addo (.t 1) 0),
   o1 29 (.ld (.t 28) 1 false),
   m1 30 3,
   o1 31 (.ixs (.t 29) (.t 30) 9),
   o1 32 (.ld (.t 31) 9 true),
   o1 4 (.alloc zv0 109),
   ⟨none,.st (.t 4) (.t 32) 9,none,[]⟩]
   (sr1 [
   o1 33 (.addo (.t 4) 0),
   o1 34 (.ld (.t 33) 1 false),
   o1 35 (.call 61 [.t 34,.c (.int .i64 (-10000000)),.c (.int .i64 10000000)]),
   o1 36 (.un .not (.t 35)),
   m1 37 36,
   ⟨some 38,.addo (.t 4) 1,some (37,false),[]⟩,
   ⟨some 39,.ld (.t 38) 1 false,some (37,false),[]⟩,
   ⟨some 40,.call 61 [.t 39,.c (.int .i64 (-10000000)),.c (.int .i64 10000000)],some (37,false),[]⟩,
   ⟨some 41,.un .not (.t 40),some (37,false),[]⟩,
   o1 42 (.pick (.t 37) (.c (.bool true)) (.t 41)),
   m1 43 42,
   ⟨some 44,.addo (.t 4) 2,some (43,false),[]⟩,
   ⟨some 45,.ld (.t 44) 1 false,some (43,false),[]⟩,
   ⟨some 46,.call 61 [.t 45,.c (.int .i64 0),.c (.int .i64 200)],some (43,false),[]⟩,
   ⟨some 47,.un .not (.t 46),some (43,false),[]⟩,
   o1 48 (.pick (.t 43) (.c (.bool true)) (.t 47)),
   m1 49 48,
   ⟨some 50,.addo (.t 4) 3,some (49,false),[]⟩,
   ⟨some 51,.ld (.t 50) 2 true,some (49,false),[]⟩,
   ⟨some 52,.call 92 [.t 51,.c (.int .i64 0),.c (.int .i64 10000000)],some (49,false),[]⟩,
   ⟨some 53,.un .not (.t 52),some (49,false),[]⟩,
   o1 54 (.pick (.t 49) (.c (.bool true)) (.t 53)),
   m1 55 54,
   ⟨some 56,.addo (.t 4) 5,some (55,false),[]⟩,
   ⟨some 57,.ld (.t 56) 1 false,some (55,false),[]⟩,
   ⟨some 58,.call 61 [.t 57,.c (.int .i64 0),.c (.int .i64 1000000000)],some (55,false),[]⟩,
   ⟨some 59,.un .not (.t 58),some (55,false),[]⟩,
   o1 60 (.pick (.t 55) (.c (.bool true)) (.t 59)),
   m1 61 60,
   ⟨some 62,.addo (.t 4) 6,some (61,false),[]⟩,
   ⟨some 63,.ld (.t 62) 2 true,some (61,false),[]⟩,
   ⟨some 64,.addo (.t 4) 5,some (61,false),[]⟩,
   ⟨some 65,.ld (.t 64) 1 false,some (61,false),[]⟩,
   ⟨some 66,.call 92 [.t 63,.c (.int .i64 0),.t 65],some (61,false),[]⟩,
   ⟨some 67,.un .not (.t 66),some (61,false),[]⟩,
   o1 68 (.pick (.t 61) (.c (.bool true)) (.t 67)),
   m1 69 68,
   ⟨some 70,.addo (.t 4) 8,some (69,false),[]⟩,
   ⟨some 71,.ld (.t 70) 1 false,some (69,false),[]⟩,
   ⟨some 72,.call 61 [.t 71,.c (.int .i64 0),.c (.int .i64 9999)],some (69,false),[]⟩,
   ⟨some 73,.un .not (.t 72),some (69,false),[]⟩,
   o1 74 (.pick (.t 69) (.c (.bool true)) (.t 73))]
   (.cond (.t 74)
   (sr1 [
    o1 2 (.mv (.c (.bool false)))]
    .ret)
   .skip))))
  (.reg [
  m1 26 3,
  o1 27 (.bin .add (.t 26) (.c (.int .i64 1))),
  m1 3 27]))))))
 (.seq (sr1 [
 o1 5 (.mv (.c (.int .i64 0)))]
 (.block 2 (.loop (.seq (sr1 [
  m1 75 5,
  o1 76 (.addo (.t 1) 1),
  o1 77 (.ld (.t 76) 1 false),
  o1 78 (.len (.t 77)),
  o1 79 (.bin .lss (.t 75) (.t 78))]
  (.cond (.t 79)
  .skip
  (.exit 2)))
  (.seq (.block 3 (sr1 [
   o1 82 (.addo (.t 1) 1),
   o1 83 (.ld (.t 82) 1 false),
   m1 84 5,
   o1 85 (.ixs (.t 83) (.t 84) 5),
   o1 86 (.ld (.t 85) 5 true),
   o1 6 (.alloc zv1 86),
   ⟨none,.st (.t 6) (.t 86) 5,none,[]⟩]
   (.seq (sr1 [
   o1 87 (.addo (.t 6) 0),
   o1 88 (.ld (.t 87) 1 false),
   o1 89 (.addo (.t 1) 0),
   o1 90 (.ld (.t 89) 1 false),
   o1 91 (.len (.t 90)),
   o1 92 (.bin .sub (.t 91) (.c (.int .i64 1))),
   o1 93 (.call 61 [.t 88,.c (.int .i64 0),.t 92]),
   o1 94 (.un .not (.t 93)),
   m1 95 94,
   ⟨some 96,.addo (.t 6) 1,some (95,false),[]⟩,
   ⟨some 97,.ld (.t 96) 1 false,some (95,false),[]⟩,
   ⟨some 98,.addo (.t 1) 0,some (95,false),[]⟩,
   ⟨some 99,.ld (.t 98) 1 false,some (95,false),[]⟩,
   ⟨some 100,.len (.t 99),some (95,false),[]⟩,
   ⟨some 101,.bin .sub (.t 100) (.c (.int .i64 1)),some (95,false),[]⟩,
   ⟨some 102,.call 61 [.t 97,.c (.int .i64 0),.t 101],some (95,false),[]⟩,
   ⟨some 103,.un .not (.t 102),some (95,false),[]⟩,
   o1 104 (.pick (.t 95) (.c (.bool true)) (.t 103)),
   m1 105 104,
   ⟨some 106,.addo (.t 6) 0,some (105,false),[]⟩,
   ⟨some 107,.ld (.t 106) 1 false,some (105,false),[]⟩,
   ⟨some 108,.addo (.t 6) 1,some (105,false),[]⟩,
   ⟨some 109,.ld (.t 108) 1 false,some (105,false),[]⟩,
   ⟨some 110,.bin .eql (.t 107) (.t 109),some (105,false),[]⟩,
   o1 111 (.pick (.t 105) (.c (.bool true)) (.t 110)),
   m1 112 111,
   ⟨some 113,.addo (.t 6) 2,some (112,false),[]⟩,
   ⟨some 114,.ld (.t 113) 2 true,some (112,false),[]⟩,
   ⟨some 115,.call 92 [.t 114,.c (.int .i64 1),.c (.int .i64 1000000)],some (112,false),[]⟩,
   ⟨some 116,.un .not (.t 115),some (112,false),[]⟩,
   o1 117 (.pick (.t 112) (.c (.bool true)) (.t 116)),
   m1 118 117,
   ⟨some 119,.addo (.t 6) 4,some (118,false),[]⟩,
   ⟨some 120,.ld (.t 119) 1 false,some (118,false),[]⟩,
   ⟨some 121,.len (.t 120),some (118,false),[]⟩,
   ⟨some 122,.bin .gtr (.t 121) (.c (.int .i64 6)),some (118,false),[]⟩,
   o1 123 (.pick (.t 118) (.c (.bool true)) (.t 122))]
   (.cond (.t 123)
   (sr1 [
    o1 2 (.mv (.c (.bool false)))]
    .ret)
   .skip))
   (sr1 [
   o1 7 (.mv (.c (.int .i64 (-1))))]
   (sr1 [
   o1 8 (.mv (.c (.int .i64 0)))]
   (.block 4 (.loop (.seq (sr1 [
    m1 124 8,
    o1 125 (.addo (.t 6) 4),
    o1 126 (.ld (.t 125) 1 false),
    o1 127 (.len (.t 126)),
    o1 128 (.bin .lss (.t 124) (.t 127))]
    (.cond (.t 128)
    .skip
    (.exit 4)))
    (.seq (.block 5 (sr1 [
     o1 131 (.addo (.t 6) 4),
     o1 132 (.ld (.t 131) 1 false),
     m1 133 8,
     o1 134 (.ixs (.t 132) (.t 133) 4),
     o1 135 (.ld (.t 134) 4 true),
     o1 9 (.alloc [.int .i64 0,.int .i64 0,.int .i64 0,.int .i64 0] 95),
     ⟨none,.st (.t 9) (.t 135) 4,none,[]⟩]
     (.seq (sr1 [
     o1 136 (.addo (.t 9) 0),
     o1 137 (.ld (.t 136) 2 true),
     o1 138 (.call 92 [.t 137,.c (.int .i64 0),.c (.int .i64 100000)]),
     o1 139 (.un .not (.t 138)),
     m1 140 139,
     ⟨some 141,.addo (.t 9) 2,some (140,false),[]⟩,
     ⟨some 142,.ld (.t 141) 2 true,some (140,false),[]⟩,
     ⟨some 143,.call 92 [.t 142,.c (.int .i64 0),.c (.int .i64 100000)],some (140,false),[]⟩,
     ⟨some 144,.un .not (.t 143),some (140,false),[]⟩,
     o1 145 (.pick (.t 140) (.c (.bool true)) (.t 144)),
     m1 146 145,
     ⟨some 147,.addo (.t 9) 0,some (146,false),[]⟩,
     ⟨some 148,.addo (.t 147) 0,some (146,false),[]⟩,
     ⟨some 149,.ld (.t 148) 1 false,some (146,false),[]⟩,
     ⟨some 150,.addo (.t 9) 2,some (146,false),[]⟩,
     ⟨some 151,.addo (.t 150) 1,some (146,false),[]⟩,
     ⟨some 152,.ld (.t 151) 1 false,some (146,false),[]⟩,
     ⟨some 153,.bin .gtr (.t 149) (.t 152),some (146,false),[]⟩,
     o1 154 (.pick (.t 146) (.c (.bool true)) (.t 153)),
     m1 155 154,
     ⟨some 156,.addo (.t 9) 0,some (155,false),[]⟩,
     ⟨some 157,.addo (.t 156) 0,some (155,false),[]⟩,
     ⟨some 158,.ld (.t 157) 1 false,some (155,false),[]⟩,
     ⟨some 159,.mv (.t 7),some (155,false),[]⟩,
     ⟨some 160,.bin .leq (.t 158) (.t 159),some (155,false),[]⟩,
     o1 161 (.pick (.t 155) (.c (.bool true)) (.t 160))]
     (.cond (.t 161)
     (sr1 [
      o1 2 (.mv (.c (.bool false)))]
      .ret)
     .skip))
     (.reg [
     o1 162 (.addo (.t 9) 2),
     o1 163 (.addo (.t 162) 1),
     o1 164 (.ld (.t 163) 1 false),
     m1 7 164]))))
    (.reg [
    m1 129 8,
    o1 130 (.bin .add (.t 129) (.c (.int .i64 1))),
    m1 8 130]))))))))))
  (.reg [
  m1 80 5,
  o1 81 (.bin .add (.t 80) (.c (.int .i64 1))),
  m1 5 81]))))))
 (sr1 [
 o1 2 (.mv (.c (.bool true)))]
 .ret)))))
def r60:List RV:=[.tmp 2]
theorem t60:Qt1 Try.prog 60 c60 r60 165:=YU Try.func60 rfl (by kernel_rfl) (by kernel_rfl) (by kernel_rfl) (by kernel_rfl)
def c61:SC:=(sr1 [
 o1 6 (.mv (.c (.bool false)))]
 (sr1 [
 m1 7 0,
 m1 8 1,
 o1 9 (.bin .geq (.t 7) (.t 8)),
 m1 10 9,
 ⟨some 11,.mv (.t 0),some (10,true),[]⟩,
 ⟨some 12,.mv (.t 2),some (10,true),[]⟩,
 ⟨some 13,.bin .leq (.t 11) (.t 12),some (10,true),[]⟩,
 o1 14 (.pick (.t 10) (.t 13) (.c (.bool false))),
 m1 6 14]
 .ret))
def r61:List RV:=[.tmp 6]
theorem t61:Qt1 Try.prog 61 c61 r61 15:=YU Try.func61 rfl (by kernel_rfl) (by kernel_rfl) (by kernel_rfl) (by kernel_rfl)
def c71:SC:=(sr1 [
 o1 4 (.mv (.c (.bool false)))]
 (sr1 [
 m1 5 0,
 m1 6 1,
 o1 7 (.call 95 [.t 5,.t 6]),
 o1 8 (.bin .geq (.t 7) (.c (.int .i64 0))),
 m1 4 8]
 .ret))
def r71:List RV:=[.tmp 4]
theorem t71:Qt1 Try.prog 71 c71 r71 9:=YU Try.func71 rfl (by kernel_rfl) (by kernel_rfl) (by kernel_rfl) (by kernel_rfl)
def c72:SC:=(sr1 [
 o1 1 (.box (.t 0) 0 109),
 o1 2 (.mv (.c (.bool false)))]
 (sr1 [
 o1 3 (.ld (.t 1) 9 true),
 o1 4 (.call 73 [.t 3]),
 o1 5 (.un .not (.t 4)),
 m1 2 5]
 .ret))
def r72:List RV:=[.tmp 2]
theorem t72:Qt1 Try.prog 72 c72 r72 6:=YU Try.func72 rfl (by kernel_rfl) (by kernel_rfl) (by kernel_rfl) (by kernel_rfl)
def c73:SC:=(sr1 [
 o1 1 (.box (.t 0) 0 109),
 o1 2 (.mv (.c (.bool false)))]
 (sr1 [
 o1 3 (.addo (.t 1) 0),
 o1 4 (.ld (.t 3) 1 false),
 o1 5 (.addo (.t 1) 1),
 o1 6 (.ld (.t 5) 1 false),
 o1 7 (.bsl 1 3 [.t 4,.t 6]),
 o1 8 (.call 58 [.c (.int .i64 (-10000000)),.c (.int .i64 10000000),.t 7]),
 m1 9 8,
 ⟨some 10,.addo (.t 1) 2,some (9,true),[]⟩,
 ⟨some 11,.ld (.t 10) 1 false,some (9,true),[]⟩,
 ⟨some 12,.bsl 1 3 [.t 11],some (9,true),[]⟩,
 ⟨some 13,.call 58 [.c (.int .i64 0),.c (.int .i64 200),.t 12],some (9,true),[]⟩,
 o1 14 (.pick (.t 9) (.t 13) (.c (.bool false))),
 m1 15 14,
 ⟨some 16,.addo (.t 1) 3,some (15,true),[]⟩,
 ⟨some 17,.ld (.t 16) 2 true,some (15,true),[]⟩,
 ⟨some 18,.bsl 2 29 [.t 17],some (15,true),[]⟩,
 ⟨some 19,.call 93 [.c (.int .i64 0),.c (.int .i64 10000000),.t 18],some (15,true),[]⟩,
 o1 20 (.pick (.t 15) (.t 19) (.c (.bool false))),
 m1 21 20,
 ⟨some 22,.addo (.t 1) 5,some (21,true),[]⟩,
 ⟨some 23,.ld (.t 22) 1 false,some (21,true),[]⟩,
 ⟨some 24,.bsl 1 3 [.t 23],some (21,true),[]⟩,
 ⟨some 25,.call 58 [.c (.int .i64 0),.c (.int .i64 1000000000),.t 24],some (21,true),[]⟩,
 o1 26 (.pick (.t 21) (.t 25) (.c (.bool false))),
 m1 27 26,
 ⟨some 28,.addo (.t 1) 5,some (27,true),[]⟩,
 ⟨some 29,.ld (.t 28) 1 false,some (27,true),[]⟩,
 ⟨some 30,.addo (.t 1) 6,some (27,true),[]⟩,
 ⟨some 31,.ld (.t 30) 2 true,some (27,true),[]⟩,
 ⟨some 32,.bsl 2 29 [.t 31],some (27,true),[]⟩,
 ⟨some 33,.call 93 [.c (.int .i64 0),.t 29,.t 32],some (27,true),[]⟩,
 o1 34 (.pick (.t 27) (.t 33) (.c (.bool false))),
 m1 35 34,
 ⟨some 36,.addo (.t 1) 8,some (35,true),[]⟩,
 ⟨some 37,.ld (.t 36) 1 false,some (35,true),[]⟩,
 ⟨some 38,.bsl 1 3 [.t 37],some (35,true),[]⟩,
 ⟨some 39,.call 58 [.c (.int .i64 0),.c (.int .i64 9999),.t 38],some (35,true),[]⟩,
 o1 40 (.pick (.t 35) (.t 39) (.c (.bool false))),
 m1 2 40]
 .ret))
def r73:List RV:=[.tmp 2]
theorem t73:Qt1 Try.prog 73 c73 r73 41:=YU Try.func73 rfl (by kernel_rfl) (by kernel_rfl) (by kernel_rfl) (by kernel_rfl)
def c74:SC:=(sr1 [
 o1 4 (.mv (.c (.bool false)))]
 (sr1 [
 m1 5 0,
 m1 6 1,
 o1 7 (.call 96 [.t 5,.t 6]),
 o1 8 (.bin .geq (.t 7) (.c (.int .i64 0))),
 m1 4 8]
 .ret))
def r74:List RV:=[.tmp 4]
theorem t74:Qt1 Try.prog 74 c74 r74 9:=YU Try.func74 rfl (by kernel_rfl) (by kernel_rfl) (by kernel_rfl) (by kernel_rfl)
def c75:SC:=(sr1 [
 o1 2 (.box (.t 0) 0 86),
 o1 3 (.mv (.c (.bool false)))]
 (sr1 [
 o1 4 (.ld (.t 2) 5 true),
 o1 5 (.addo (.t 1) 0),
 o1 6 (.ld (.t 5) 1 false),
 o1 7 (.len (.t 6)),
 o1 8 (.call 76 [.t 4,.t 7]),
 o1 9 (.un .not (.t 8)),
 m1 3 9]
 .ret))
def r75:List RV:=[.tmp 3]
theorem t75:Qt1 Try.prog 75 c75 r75 10:=YU Try.func75 rfl (by kernel_rfl) (by kernel_rfl) (by kernel_rfl) (by kernel_rfl)
def c76:SC:=(sr1 [
 o1 2 (.box (.t 0) 0 86),
 o1 4 (.mv (.c (.bool false)))]
 (.seq (sr1 [
 m1 8 1,
 o1 9 (.bin .sub (.t 8) (.c (.int .i64 1))),
 o1 10 (.addo (.t 2) 0),
 o1 11 (.ld (.t 10) 1 false),
 o1 12 (.addo (.t 2) 1),
 o1 13 (.ld (.t 12) 1 false),
 o1 14 (.bsl 1 3 [.t 11,.t 13]),
 o1 15 (.call 58 [.c (.int .i64 0),.t 9,.t 14]),
 o1 16 (.un .not (.t 15)),
 m1 17 16,
 ⟨some 18,.addo (.t 2) 0,some (17,false),[]⟩,
 ⟨some 19,.ld (.t 18) 1 false,some (17,false),[]⟩,
 ⟨some 20,.addo (.t 2) 1,some (17,false),[]⟩,
 ⟨some 21,.ld (.t 20) 1 false,some (17,false),[]⟩,
 ⟨some 22,.bin .eql (.t 19) (.t 21),some (17,false),[]⟩,
 o1 23 (.pick (.t 17) (.c (.bool true)) (.t 22)),
 m1 24 23,
 ⟨some 25,.addo (.t 2) 2,some (24,false),[]⟩,
 ⟨some 26,.ld (.t 25) 2 true,some (24,false),[]⟩,
 ⟨some 27,.bsl 2 29 [.t 26],some (24,false),[]⟩,
 ⟨some 28,.call 93 [.c (.int .i64 1),.c (.int .i64 1000000),.t 27],some (24,false),[]⟩,
 ⟨some 29,.un .not (.t 28),some (24,false),[]⟩,
 o1 30 (.pick (.t 24) (.c (.bool true)) (.t 29)),
 m1 31 30,
 ⟨some 32,.addo (.t 2) 4,some (31,false),[]⟩,
 ⟨some 33,.ld (.t 32) 1 false,some (31,false),[]⟩,
 ⟨some 34,.len (.t 33),some (31,false),[]⟩,
 ⟨some 35,.bin .gtr (.t 34) (.c (.int .i64 6)),some (31,false),[]⟩,
 o1 36 (.pick (.t 31) (.c (.bool true)) (.t 35))]
 (.cond (.t 36)
 (sr1 [
  o1 4 (.mv (.c (.bool false)))]
  .ret)
 .skip))
 (sr1 [
 o1 5 (.mv (.c (.int .i64 0)))]
 (.seq (sr1 [
 o1 37 (.addo (.t 2) 4),
 o1 38 (.ld (.t 37) 1 false),
 o1 39 (.len (.t 38)),
 o1 40 (.mv (.c (.int .i64 0)))]
 (.block 0 (.loop (sr1 [
  o1 41 (.bin .lss (.t 40) (.t 39))]
  (.seq (.cond (.t 41)
  .skip
  (.exit 0))
  (.seq (.block 1 (sr1 [
   o1 42 (.ixs (.t 38) (.t 40) 4),
   o1 43 (.ld (.t 42) 4 true),
   o1 7 (.alloc [.int .i64 0,.int .i64 0,.int .i64 0,.int .i64 0] 95),
   ⟨none,.st (.t 7) (.t 43) 4,none,[]⟩]
   (.seq (sr1 [
   o1 44 (.addo (.t 7) 0),
   o1 45 (.ld (.t 44) 2 true),
   o1 46 (.addo (.t 7) 2),
   o1 47 (.ld (.t 46) 2 true),
   o1 48 (.bsl 2 29 [.t 45,.t 47]),
   o1 49 (.call 93 [.c (.int .i64 0),.c (.int .i64 100000),.t 48]),
   o1 50 (.un .not (.t 49)),
   m1 51 50,
   ⟨some 52,.mv (.t 5),some (51,false),[]⟩,
   ⟨some 53,.addo (.t 7) 2,some (51,false),[]⟩,
   ⟨some 54,.addo (.t 53) 1,some (51,false),[]⟩,
   ⟨some 55,.ld (.t 54) 1 false,some (51,false),[]⟩,
   ⟨some 56,.addo (.t 7) 0,some (51,false),[]⟩,
   ⟨some 57,.addo (.t 56) 0,some (51,false),[]⟩,
   ⟨some 58,.ld (.t 57) 1 false,some (51,false),[]⟩,
   ⟨some 59,.bsl 1 3 [.t 58],some (51,false),[]⟩,
   ⟨some 60,.call 58 [.t 52,.t 55,.t 59],some (51,false),[]⟩,
   ⟨some 61,.un .not (.t 60),some (51,false),[]⟩,
   o1 62 (.pick (.t 51) (.c (.bool true)) (.t 61))]
   (.cond (.t 62)
   (sr1 [
    o1 4 (.mv (.c (.bool false)))]
    .ret)
   .skip))
   (.reg [
   o1 63 (.addo (.t 7) 2),
   o1 64 (.addo (.t 63) 1),
   o1 65 (.ld (.t 64) 1 false),
   o1 66 (.bin .add (.t 65) (.c (.int .i64 1))),
   m1 5 66]))))
  (.reg [
  o1 67 (.bin .add (.t 40) (.c (.int .i64 1))),
  m1 40 67])))))))
 (sr1 [
 o1 4 (.mv (.c (.bool true)))]
 .ret)))))
def r76:List RV:=[.tmp 4]
theorem t76:Qt1 Try.prog 76 c76 r76 68:=YU Try.func76 rfl (by kernel_rfl) (by kernel_rfl) (by kernel_rfl) (by kernel_rfl)
def c90:SC:=(sr1 [
 o1 4 (.mv (.c (.bool false)))]
 (sr1 [
 m1 5 0,
 m1 6 1,
 o1 7 (.call 101 [.t 5,.t 6]),
 o1 8 (.bin .geq (.t 7) (.c (.int .i64 0))),
 m1 4 8]
 .ret))
def r90:List RV:=[.tmp 4]
theorem t90:Qt1 Try.prog 90 c90 r90 9:=YU Try.func90 rfl (by kernel_rfl) (by kernel_rfl) (by kernel_rfl) (by kernel_rfl)
def c91:SC:=(sr1 [
 o1 4 (.mv (.c (.bool false)))]
 (sr1 [
 m1 5 0,
 o1 6 (.ld (.t 1) 1 false),
 o1 7 (.bin .lss (.t 5) (.t 6)),
 m1 8 7,
 ⟨some 9,.mv (.t 0),some (8,false),[]⟩,
 ⟨some 10,.ld (.t 2) 1 false,some (8,false),[]⟩,
 ⟨some 11,.bin .gtr (.t 9) (.t 10),some (8,false),[]⟩,
 o1 12 (.pick (.t 8) (.c (.bool true)) (.t 11)),
 m1 4 12]
 .ret))
def r91:List RV:=[.tmp 4]
theorem t91:Qt1 Try.prog 91 c91 r91 13:=YU Try.func91 rfl (by kernel_rfl) (by kernel_rfl) (by kernel_rfl) (by kernel_rfl)
def c92:SC:=(sr1 [
 o1 3 (.box (.t 0) 0 29),
 o1 6 (.mv (.c (.bool false)))]
 (sr1 [
 o1 7 (.addo (.t 3) 0),
 o1 8 (.ld (.t 7) 1 false),
 m1 9 1,
 o1 10 (.addo (.t 3) 1),
 o1 11 (.ld (.t 10) 1 false),
 o1 12 (.call 61 [.t 8,.t 9,.t 11]),
 m1 13 12,
 ⟨some 14,.addo (.t 3) 1,some (13,true),[]⟩,
 ⟨some 15,.ld (.t 14) 1 false,some (13,true),[]⟩,
 ⟨some 16,.mv (.t 2),some (13,true),[]⟩,
 ⟨some 17,.bin .leq (.t 15) (.t 16),some (13,true),[]⟩,
 o1 18 (.pick (.t 13) (.t 17) (.c (.bool false))),
 m1 6 18]
 .ret))
def r92:List RV:=[.tmp 6]
theorem t92:Qt1 Try.prog 92 c92 r92 19:=YU Try.func92 rfl (by kernel_rfl) (by kernel_rfl) (by kernel_rfl) (by kernel_rfl)
def c93:SC:=(sr1 [
 o1 3 (.box (.t 0) 0 3),
 o1 4 (.box (.t 1) 0 3),
 o1 6 (.mv (.c (.bool false)))]
 (sr1 [
 m1 7 2,
 o1 8 (.mkf 103 [.t 3,.t 4]),
 o1 9 (.call 102 [.t 7,.t 8]),
 o1 10 (.un .not (.t 9)),
 m1 6 10]
 .ret))
def r93:List RV:=[.tmp 6]
theorem t93:Qt1 Try.prog 93 c93 r93 11:=YU Try.func93 rfl (by kernel_rfl) (by kernel_rfl) (by kernel_rfl) (by kernel_rfl)
def c95:SC:=(sr1 [
 o1 4 (.mv (.c (.int .i64 0)))]
 (.seq (sr1 [
 m1 6 0,
 o1 7 (.len (.t 6)),
 o1 8 (.mv (.c (.int .i64 0)))]
 (.block 0 (.loop (sr1 [
  o1 9 (.bin .lss (.t 8) (.t 7))]
  (.seq (.cond (.t 9)
  .skip
  (.exit 0))
  (.seq (.block 1 (sr1 [
   m1 10 8,
   m1 5 10]
   (sr1 [
   m1 11 1,
   m1 12 0,
   m1 13 5,
   o1 14 (.ixs (.t 12) (.t 13) 9),
   o1 15 (.ld (.t 14) 9 true),
   o1 16 (.calv (.t 11) [.t 15])]
   (.cond (.t 16)
   (sr1 [
    m1 17 5,
    m1 4 17]
    .ret)
   .skip))))
  (.reg [
  o1 18 (.bin .add (.t 8) (.c (.int .i64 1))),
  m1 8 18])))))))
 (sr1 [
 o1 4 (.mv (.c (.int .i64 (-1))))]
 .ret)))
def r95:List RV:=[.tmp 4]
theorem t95:Qt1 Try.prog 95 c95 r95 19:=YU Try.func95 rfl (by kernel_rfl) (by kernel_rfl) (by kernel_rfl) (by kernel_rfl)
def c96:SC:=(sr1 [
 o1 4 (.mv (.c (.int .i64 0)))]
 (.seq (sr1 [
 m1 6 0,
 o1 7 (.len (.t 6)),
 o1 8 (.mv (.c (.int .i64 0)))]
 (.block 0 (.loop (sr1 [
  o1 9 (.bin .lss (.t 8) (.t 7))]
  (.seq (.cond (.t 9)
  .skip
  (.exit 0))
  (.seq (.block 1 (sr1 [
   m1 10 8,
   m1 5 10]
   (sr1 [
   m1 11 1,
   m1 12 0,
   m1 13 5,
   o1 14 (.ixs (.t 12) (.t 13) 5),
   o1 15 (.ld (.t 14) 5 true),
   o1 16 (.calv (.t 11) [.t 15])]
   (.cond (.t 16)
   (sr1 [
    m1 17 5,
    m1 4 17]
    .ret)
   .skip))))
  (.reg [
  o1 18 (.bin .add (.t 8) (.c (.int .i64 1))),
  m1 8 18])))))))
 (sr1 [
 o1 4 (.mv (.c (.int .i64 (-1))))]
 .ret)))
def r96:List RV:=[.tmp 4]
theorem t96:Qt1 Try.prog 96 c96 r96 19:=YU Try.func96 rfl (by kernel_rfl) (by kernel_rfl) (by kernel_rfl) (by kernel_rfl)
def c101:SC:=(sr1 [
 o1 4 (.mv (.c (.int .i64 0)))]
 (.seq (sr1 [
 m1 6 0,
 o1 7 (.len (.t 6)),
 o1 8 (.mv (.c (.int .i64 0)))]
 (.block 0 (.loop (sr1 [
  o1 9 (.bin .lss (.t 8) (.t 7))]
  (.seq (.cond (.t 9)
  .skip
  (.exit 0))
  (.seq (.block 1 (sr1 [
   m1 10 8,
   m1 5 10]
   (sr1 [
   m1 11 1,
   m1 12 0,
   m1 13 5,
   o1 14 (.ixs (.t 12) (.t 13) 1),
   o1 15 (.ld (.t 14) 1 false),
   o1 16 (.calv (.t 11) [.t 15])]
   (.cond (.t 16)
   (sr1 [
    m1 17 5,
    m1 4 17]
    .ret)
   .skip))))
  (.reg [
  o1 18 (.bin .add (.t 8) (.c (.int .i64 1))),
  m1 8 18])))))))
 (sr1 [
 o1 4 (.mv (.c (.int .i64 (-1))))]
 .ret)))
def r101:List RV:=[.tmp 4]
theorem t101:Qt1 Try.prog 101 c101 r101 19:=YU Try.func101 rfl (by kernel_rfl) (by kernel_rfl) (by kernel_rfl) (by kernel_rfl)
def c102:SC:=(sr1 [
 o1 4 (.mv (.c (.bool false)))]
 (sr1 [
 m1 5 0,
 m1 6 1,
 o1 7 (.call 107 [.t 5,.t 6]),
 o1 8 (.bin .geq (.t 7) (.c (.int .i64 0))),
 m1 4 8]
 .ret))
def r102:List RV:=[.tmp 4]
theorem t102:Qt1 Try.prog 102 c102 r102 9:=YU Try.func102 rfl (by kernel_rfl) (by kernel_rfl) (by kernel_rfl) (by kernel_rfl)
def c103:SC:=(sr1 [
 o1 3 (.box (.t 0) 0 29),
 o1 4 (.mv (.c (.bool false)))]
 (sr1 [
 o1 5 (.addo (.t 3) 0),
 o1 6 (.ld (.t 5) 1 false),
 o1 7 (.addo (.t 3) 1),
 o1 8 (.ld (.t 7) 1 false),
 o1 9 (.bin .gtr (.t 6) (.t 8)),
 m1 10 9,
 ⟨some 11,.ld (.t 1) 1 false,some (10,false),[]⟩,
 ⟨some 12,.ld (.t 2) 1 false,some (10,false),[]⟩,
 ⟨some 13,.addo (.t 3) 0,some (10,false),[]⟩,
 ⟨some 14,.ld (.t 13) 1 false,some (10,false),[]⟩,
 ⟨some 15,.addo (.t 3) 1,some (10,false),[]⟩,
 ⟨some 16,.ld (.t 15) 1 false,some (10,false),[]⟩,
 ⟨some 17,.bsl 1 3 [.t 14,.t 16],some (10,false),[]⟩,
 ⟨some 18,.call 58 [.t 11,.t 12,.t 17],some (10,false),[]⟩,
 ⟨some 19,.un .not (.t 18),some (10,false),[]⟩,
 o1 20 (.pick (.t 10) (.c (.bool true)) (.t 19)),
 m1 4 20]
 .ret))
def r103:List RV:=[.tmp 4]
theorem t103:Qt1 Try.prog 103 c103 r103 21:=YU Try.func103 rfl (by kernel_rfl) (by kernel_rfl) (by kernel_rfl) (by kernel_rfl)
def c107:SC:=(sr1 [
 o1 4 (.mv (.c (.int .i64 0)))]
 (.seq (sr1 [
 m1 6 0,
 o1 7 (.len (.t 6)),
 o1 8 (.mv (.c (.int .i64 0)))]
 (.block 0 (.loop (sr1 [
  o1 9 (.bin .lss (.t 8) (.t 7))]
  (.seq (.cond (.t 9)
  .skip
  (.exit 0))
  (.seq (.block 1 (sr1 [
   m1 10 8,
   m1 5 10]
   (sr1 [
   m1 11 1,
   m1 12 0,
   m1 13 5,
   o1 14 (.ixs (.t 12) (.t 13) 2),
   o1 15 (.ld (.t 14) 2 true),
   o1 16 (.calv (.t 11) [.t 15])]
   (.cond (.t 16)
   (sr1 [
    m1 17 5,
    m1 4 17]
    .ret)
   .skip))))
  (.reg [
  o1 18 (.bin .add (.t 8) (.c (.int .i64 1))),
  m1 8 18])))))))
 (sr1 [
 o1 4 (.mv (.c (.int .i64 (-1))))]
 .ret)))
def r107:List RV:=[.tmp 4]
theorem t107:Qt1 Try.prog 107 c107 r107 19:=YU Try.func107 rfl (by kernel_rfl) (by kernel_rfl) (by kernel_rfl) (by kernel_rfl)
def c4:SC:=(sr1 [
 o1 4 (.box (.t 0) 0 25),
 o1 7 (.box (.t 3) 0 29),
 o1 8 (.mv (.c (.bool false)))]
 (.seq (sr1 [
 o1 18 (.ld (.t 4) 2 true),
 o1 19 (.call 16 [.t 18])]
 (.cond (.t 19)
 (sr1 [
  o1 8 (.mv (.c (.bool true)))]
  .ret)
 .skip))
 (sr1 [
 o1 20 (.ld (.t 4) 2 true),
 o1 21 (.call 21 [.t 20]),
 o1 9 (.alloc [.slice none 0 0,.slice none 0 0] 25),
 ⟨none,.st (.t 9) (.t 21) 2,none,[]⟩]
 (sr1 [
 o1 23 (.ld (.t 9) 2 true),
 m1 24 1,
 o1 25 (.ld (.t 7) 2 true),
 o1 26 (.call 22 [.t 23,.t 24,.t 25]),
 m1 22 26,
 o1 27 (.ext (.t 22) 0),
 o1 28 (.ext (.t 22) 1),
 o1 10 (.alloc [.int .i64 0,.int .i64 0] 29),
 ⟨none,.st (.t 10) (.t 27) 2,none,[]⟩,
 m1 11 28]
 (sr1 [
 o1 30 (.ld (.t 4) 2 true),
 m1 31 1,
 o1 32 (.ld (.t 7) 2 true),
 o1 33 (.call 23 [.t 30,.t 31,.t 32]),
 m1 29 33,
 o1 34 (.ext (.t 29) 0),
 o1 35 (.ext (.t 29) 1),
 o1 12 (.alloc [.int .i64 0,.int .i64 0] 29),
 ⟨none,.st (.t 12) (.t 34) 2,none,[]⟩,
 m1 13 35]
 (sr1 [
 o1 37 (.ld (.t 9) 2 true),
 m1 38 1,
 m1 39 2,
 o1 40 (.ld (.t 7) 2 true),
 o1 41 (.call 24 [.t 37,.t 38,.t 39,.t 40]),
 m1 36 41,
 o1 42 (.ext (.t 36) 0),
 o1 43 (.ext (.t 36) 1),
 o1 14 (.alloc [.int .i64 0,.int .i64 0] 29),
 ⟨none,.st (.t 14) (.t 42) 2,none,[]⟩,
 m1 15 43]
 (sr1 [
 o1 45 (.ld (.t 4) 2 true),
 m1 46 1,
 m1 47 2,
 o1 48 (.ld (.t 7) 2 true),
 o1 49 (.call 25 [.t 45,.t 46,.t 47,.t 48]),
 m1 44 49,
 o1 50 (.ext (.t 44) 0),
 o1 51 (.ext (.t 44) 1),
 o1 16 (.alloc [.int .i64 0,.int .i64 0] 29),
 ⟨none,.st (.t 16) (.t 50) 2,none,[]⟩,
 m1 17 51]
 (.seq (.regd [0,1,2,3,4,5,6,7,8,9,10,11,12,13,14,15,16,17,18,19,20,21,22,23,24,25,26,27,28,29,30] [
 .op (o1 52 (.ld (.t 9) 2 true)),
 .op ⟨some 53,.call 26 [.t 52],none,[0]⟩,
 .op (o1 54 (.ld (.t 4) 2 true)),
 .op ⟨some 55,.call 27 [.t 54],none,[1,2]⟩,
 .op ⟨some 56,.bin .eql (.t 53) (.t 55),none,[1,3]⟩,
 .op ⟨some 57,.mv (.t 56),none,[3,4]⟩,
 .op ⟨some 58,.ld (.t 10) 2 true,some (57,true),[5]⟩,
 .op ⟨some 59,.ld (.t 12) 2 true,some (57,true),[5]⟩,
 .op ⟨some 60,.eqs false true [1,1] (.t 58) (.t 59),some (57,true),[5,6,7]⟩,
 .op ⟨some 61,.pick (.t 57) (.t 60) (.c (.bool false)),none,[5,8]⟩,
 .op ⟨some 62,.mv (.t 61),none,[5,9]⟩,
 .op ⟨some 63,.mv (.t 11),some (62,true),[10]⟩,
 .op ⟨some 64,.mv (.t 13),some (62,true),[10]⟩,
 .op ⟨some 65,.bin .eql (.t 63) (.t 64),some (62,true),[10,11,12]⟩,
 .op ⟨some 66,.pick (.t 62) (.t 65) (.c (.bool false)),none,[10,13]⟩,
 .op ⟨some 67,.mv (.t 66),none,[10,14]⟩,
 .op ⟨some 68,.ld (.t 14) 2 true,some (67,true),[15]⟩,
 .op ⟨some 69,.ld (.t 16) 2 true,some (67,true),[15]⟩,
 .op ⟨some 70,.eqs false true [1,1] (.t 68) (.t 69),some (67,true),[15,16,17]⟩,
 .op ⟨some 71,.pick (.t 67) (.t 70) (.c (.bool false)),none,[15,18]⟩,
 .op ⟨some 72,.mv (.t 71),none,[15,19]⟩,
 .op ⟨some 73,.mv (.t 15),some (72,true),[20]⟩,
 .op ⟨some 74,.mv (.t 17),some (72,true),[20]⟩,
 .op ⟨some 75,.bin .eql (.t 73) (.t 74),some (72,true),[20,21,22]⟩,
 .op ⟨some 76,.pick (.t 72) (.t 75) (.c (.bool false)),none,[20,23]⟩,
 .op ⟨some 77,.mv (.t 76),none,[20,24]⟩,
 .op ⟨some 78,.ld (.t 9) 2 true,some (77,true),[25]⟩,
 .op ⟨some 79,.ld (.t 4) 2 true,some (77,true),[25]⟩,
 .op ⟨some 80,.call 28 [.t 78,.t 79],some (77,true),[25,26,27]⟩,
 .op ⟨some 81,.pick (.t 77) (.t 80) (.c (.bool false)),none,[25,28]⟩,
 .op ⟨some 8,.mv (.t 81),none,[0,1,2,3,4,5,6,7,8,9,10,11,12,13,14,15,16,17,18,19,20,21,22,23,24,25,26,27,28,29]⟩] 0 0 [
])
 .ret))))))))
def r4:List RV:=[.tmp 8]
theorem n4:Try.f4.ntmps=82:=by kernel_rfl
theorem b4:Xp Try.prog 4=true:=by kernel_rfl
theorem t4:Qt1 Try.prog 4 c4 r4 82:=YU Try.func4 rfl b4 (by kernel_rfl) (by kernel_rfl) n4
def c22:SC:=(sr1 [
 o1 3 (.box (.t 0) 0 25),
 o1 5 (.box (.t 2) 0 29),
 o1 6 (.alloc [.int .i64 0,.int .i64 0] 29),
 o1 7 (.mv (.c (.int .i64 0)))]
 (sr1 [
 o1 11 (.ld (.t 3) 2 true),
 o1 12 (.ld (.t 5) 2 true),
 o1 13 (.call 63 [.t 11,.t 12]),
 m1 10 13,
 o1 14 (.ext (.t 10) 0),
 o1 15 (.ext (.t 10) 1),
 o1 8 (.alloc [.slice none 0 0,.slice none 0 0,.int .i64 0,.int .i64 0] 119),
 ⟨none,.st (.t 8) (.t 14) 4,none,[]⟩,
 m1 9 15]
 (.seq (.block 0 (sr1 [
  m1 17 9,
  o1 18 (.bin .neq (.t 17) (.c (.int .i64 0))),
  m1 16 18]
  (.cond (.t 16)
  (sr1 [
   o1 19 (.build [.int .i64 0,.int .i64 0] []),
   m1 20 9,
   ⟨none,.st (.t 6) (.t 19) 2,none,[]⟩,
   m1 7 20]
   .ret)
  (sr1 [
   o1 22 (.addo (.t 3) 1),
   o1 23 (.ld (.t 22) 1 false),
   o1 24 (.len (.t 23)),
   o1 25 (.bin .sub (.t 24) (.c (.int .i64 1))),
   m1 26 1,
   o1 27 (.bsl 1 3 [.t 26]),
   o1 28 (.call 58 [.c (.int .i64 0),.t 25,.t 27]),
   o1 29 (.un .not (.t 28)),
   m1 21 29]
   (.cond (.t 21)
   (sr1 [
    o1 30 (.build [.int .i64 0,.int .i64 0] []),
    ⟨none,.st (.t 6) (.t 30) 2,none,[]⟩,
    o1 7 (.mv (.c (.int .i64 2)))]
    .ret)
   .skip)))))
 (sr1 [
 o1 31 (.ld (.t 8) 4 true),
 m1 32 1,
 o1 33 (.call 64 [.t 31,.t 32]),
 o1 34 (.call 65 [.t 33]),
 ⟨none,.st (.t 6) (.t 34) 2,none,[]⟩,
 o1 7 (.mv (.c (.int .i64 0)))]
 .ret))))
def r22:List RV:=[.cell 6 2 true,.tmp 7]
theorem t22:Qt1 Try.prog 22 c22 r22 35:=YU Try.func22 rfl (by kernel_rfl) (by kernel_rfl) (by kernel_rfl) (by kernel_rfl)
def c24:SC:=(sr1 [
 o1 4 (.box (.t 0) 0 25),
 o1 7 (.box (.t 3) 0 29),
 o1 8 (.alloc [.int .i64 0,.int .i64 0] 29),
 o1 9 (.mv (.c (.int .i64 0)))]
 (sr1 [
 o1 13 (.ld (.t 4) 2 true),
 o1 14 (.ld (.t 7) 2 true),
 o1 15 (.call 63 [.t 13,.t 14]),
 m1 12 15,
 o1 16 (.ext (.t 12) 0),
 o1 17 (.ext (.t 12) 1),
 o1 10 (.alloc [.slice none 0 0,.slice none 0 0,.int .i64 0,.int .i64 0] 119),
 ⟨none,.st (.t 10) (.t 16) 4,none,[]⟩,
 m1 11 17]
 (.seq (.block 0 (sr1 [
  m1 19 11,
  o1 20 (.bin .neq (.t 19) (.c (.int .i64 0))),
  m1 18 20]
  (.cond (.t 18)
  (sr1 [
   o1 21 (.build [.int .i64 0,.int .i64 0] []),
   m1 22 11,
   ⟨none,.st (.t 8) (.t 21) 2,none,[]⟩,
   m1 9 22]
   .ret)
  (sr1 [
   o1 24 (.addo (.t 4) 1),
   o1 25 (.ld (.t 24) 1 false),
   o1 26 (.len (.t 25)),
   o1 27 (.bin .sub (.t 26) (.c (.int .i64 1))),
   m1 28 1,
   o1 29 (.bsl 1 3 [.t 28]),
   o1 30 (.call 58 [.c (.int .i64 0),.t 27,.t 29]),
   o1 31 (.un .not (.t 30)),
   m1 32 31,
   ⟨some 33,.mv (.t 2),some (32,false),[]⟩,
   ⟨some 34,.bsl 1 3 [.t 33],some (32,false),[]⟩,
   ⟨some 35,.call 58 [.c (.int .i64 0),.c (.int .i64 100000),.t 34],some (32,false),[]⟩,
   ⟨some 36,.un .not (.t 35),some (32,false),[]⟩,
   o1 37 (.pick (.t 32) (.c (.bool true)) (.t 36)),
   m1 23 37]
   (.cond (.t 23)
   (sr1 [
    o1 38 (.build [.int .i64 0,.int .i64 0] []),
    ⟨none,.st (.t 8) (.t 38) 2,none,[]⟩,
    o1 9 (.mv (.c (.int .i64 2)))]
    .ret)
   .skip)))))
 (sr1 [
 o1 39 (.ld (.t 10) 4 true),
 m1 40 1,
 m1 41 2,
 m1 42 2,
 o1 43 (.build [.int .i64 0,.int .i64 0] [(0,1,.t 41),(1,1,.t 42)]),
 o1 44 (.call 68 [.t 39,.t 40,.t 43]),
 o1 45 (.call 65 [.t 44]),
 ⟨none,.st (.t 8) (.t 45) 2,none,[]⟩,
 o1 9 (.mv (.c (.int .i64 0)))]
 .ret))))
def r24:List RV:=[.cell 8 2 true,.tmp 9]
theorem t24:Qt1 Try.prog 24 c24 r24 46:=YU Try.func24 rfl (by kernel_rfl) (by kernel_rfl) (by kernel_rfl) (by kernel_rfl)
def c27:SC:=(sr1 [
 o1 1 (.box (.t 0) 0 25),
 o1 2 (.mv (.c (.int .i64 0)))]
 (.seq (sr1 [
 o1 3 (.ld (.t 1) 2 true),
 o1 4 (.call 60 [.t 3]),
 o1 5 (.un .not (.t 4))]
 (.cond (.t 5)
 (sr1 [
  o1 2 (.mv (.c (.int .i64 30)))]
  .ret)
 .skip))
 (sr1 [
 o1 2 (.mv (.c (.int .i64 0)))]
 .ret)))
def r27:List RV:=[.tmp 2]
theorem t27:Qt1 Try.prog 27 c27 r27 6:=YU Try.func27 rfl (by kernel_rfl) (by kernel_rfl) (by kernel_rfl) (by kernel_rfl)
def c63:SC:=(sr1 [
 o1 2 (.box (.t 0) 0 25),
 o1 3 (.box (.t 1) 0 29),
 o1 4 (.alloc [.slice none 0 0,.slice none 0 0,.int .i64 0,.int .i64 0] 119),
 o1 5 (.mv (.c (.int .i64 0)))]
 (.seq (sr1 [
 o1 7 (.ld (.t 2) 2 true),
 o1 8 (.call 26 [.t 7]),
 m1 6 8]
 (sr1 [
 m1 9 6,
 o1 10 (.bin .neq (.t 9) (.c (.int .i64 0)))]
 (.cond (.t 10)
 (sr1 [
  o1 11 (.build [.slice none 0 0,.slice none 0 0,.int .i64 0,.int .i64 0] []),
  m1 12 6,
  ⟨none,.st (.t 4) (.t 11) 4,none,[]⟩,
  m1 5 12]
  .ret)
 .skip)))
 (.seq (sr1 [
 o1 13 (.ld (.t 3) 2 true),
 o1 14 (.bsl 2 29 [.t 13]),
 o1 15 (.call 93 [.c (.int .i64 1),.c (.int .i64 100000),.t 14]),
 o1 16 (.un .not (.t 15))]
 (.cond (.t 16)
 (sr1 [
  o1 17 (.build [.slice none 0 0,.slice none 0 0,.int .i64 0,.int .i64 0] []),
  ⟨none,.st (.t 4) (.t 17) 4,none,[]⟩,
  o1 5 (.mv (.c (.int .i64 31)))]
  .ret)
 .skip))
 (sr1 [
 o1 18 (.ld (.t 2) 2 true),
 o1 19 (.ld (.t 3) 2 true),
 o1 20 (.build [.slice none 0 0,.slice none 0 0,.int .i64 0,.int .i64 0] [(0,2,.t 18),(2,2,.t 19)]),
 ⟨none,.st (.t 4) (.t 20) 4,none,[]⟩,
 o1 5 (.mv (.c (.int .i64 0)))]
 .ret))))
def r63:List RV:=[.cell 4 4 true,.tmp 5]
theorem t63:Qt1 Try.prog 63 c63 r63 21:=YU Try.func63 rfl (by kernel_rfl) (by kernel_rfl) (by kernel_rfl) (by kernel_rfl)
def c64:SC:=(sr1 [
 o1 2 (.box (.t 0) 0 119),
 o1 4 (.alloc [.int .i64 0,.int .i64 0] 123)]
 (sr1 [
 o1 6 (.addo (.t 2) 0),
 o1 7 (.addo (.t 6) 1),
 o1 8 (.ld (.t 7) 1 false),
 m1 9 1,
 o1 10 (.ixs (.t 8) (.t 9) 5),
 o1 11 (.addo (.t 10) 2),
 o1 12 (.ld (.t 11) 2 true),
 o1 5 (.alloc [.int .i64 0,.int .i64 0] 29),
 ⟨none,.st (.t 5) (.t 12) 2,none,[]⟩]
 (.seq (.regd [0,1,2,3,4,5,6,7,8,9,10,11,12,13,14,15,16,17,18,19,20,21,22,23] [
 .op (o1 13 (.addo (.t 5) 0)),
 .op ⟨some 14,.ld (.t 13) 1 false,none,[0]⟩,
 .op (o1 15 (.addo (.t 2) 2)),
 .op ⟨some 16,.addo (.t 15) 1,none,[2]⟩,
 .op ⟨some 17,.ld (.t 16) 1 false,none,[3]⟩,
 .op ⟨some 18,.bin .add (.t 14) (.t 17),none,[1,4]⟩,
 .op ⟨some 19,.bin .sub (.t 18) (.c (.int .i64 1)),none,[5]⟩,
 .op (o1 20 (.addo (.t 2) 2)),
 .op ⟨some 21,.addo (.t 20) 1,none,[7]⟩,
 .op ⟨some 22,.ld (.t 21) 1 false,none,[8]⟩,
 .op ⟨some 23,.div .quo (.t 19) (.t 22),none,[6,9]⟩,
 .op (o1 24 (.addo (.t 5) 1)),
 .op ⟨some 25,.ld (.t 24) 1 false,none,[11]⟩,
 .op (o1 26 (.addo (.t 2) 2)),
 .op ⟨some 27,.addo (.t 26) 0,none,[13]⟩,
 .op ⟨some 28,.ld (.t 27) 1 false,none,[14]⟩,
 .op ⟨some 29,.bin .add (.t 25) (.t 28),none,[12,15]⟩,
 .op ⟨some 30,.bin .sub (.t 29) (.c (.int .i64 1)),none,[16]⟩,
 .op (o1 31 (.addo (.t 2) 2)),
 .op ⟨some 32,.addo (.t 31) 0,none,[18]⟩,
 .op ⟨some 33,.ld (.t 32) 1 false,none,[19]⟩,
 .op ⟨some 34,.div .quo (.t 30) (.t 33),none,[17,20]⟩,
 .op ⟨some 35,.build [.int .i64 0,.int .i64 0] [(0,1,.t 23),(1,1,.t 34)],none,[10,21]⟩] 0 1 [
 ⟨none,.st (.t 4) (.t 35) 2,none,[0,1,2,3,4,5,6,7,8,9,10,11,12,13,14,15,16,17,18,19,20,21,22]⟩])
 .ret)))
def r64:List RV:=[.cell 4 2 true]
theorem t64:Qt1 Try.prog 64 c64 r64 36:=YU Try.func64 rfl (by kernel_rfl) (by kernel_rfl) (by kernel_rfl) (by kernel_rfl)
def c65:SC:=(sr1 [
 o1 1 (.box (.t 0) 0 123),
 o1 2 (.alloc [.int .i64 0,.int .i64 0] 29)]
 (sr1 [
 o1 3 (.ixa (.t 1) (.c (.int .i64 0)) 2 1),
 o1 4 (.ld (.t 3) 1 false),
 o1 5 (.ixa (.t 1) (.c (.int .i64 1)) 2 1),
 o1 6 (.ld (.t 5) 1 false),
 o1 7 (.build [.int .i64 0,.int .i64 0] [(0,1,.t 4),(1,1,.t 6)]),
 ⟨none,.st (.t 2) (.t 7) 2,none,[]⟩]
 .ret))
def r65:List RV:=[.cell 2 2 true]
theorem t65:Qt1 Try.prog 65 c65 r65 8:=YU Try.func65 rfl (by kernel_rfl) (by kernel_rfl) (by kernel_rfl) (by kernel_rfl)
def c68:SC:=(sr1 [
 o1 3 (.box (.t 0) 0 119),
 o1 5 (.box (.t 2) 0 123),
 o1 6 (.alloc [.int .i64 0,.int .i64 0] 123)]
 (sr1 [
 o1 15 (.ld (.t 3) 4 true),
 m1 16 1,
 o1 17 (.call 64 [.t 15,.t 16]),
 o1 7 (.alloc [.int .i64 0,.int .i64 0] 123),
 ⟨none,.st (.t 7) (.t 17) 2,none,[]⟩]
 (sr1 [
 o1 18 (.build [.int .i64 0,.int .i64 0] [(0,1,.c (.int .i64 100001)),(1,1,.c (.int .i64 100001))]),
 o1 8 (.alloc [.int .i64 0,.int .i64 0] 123),
 ⟨none,.st (.t 8) (.t 18) 2,none,[]⟩]
 (.seq (sr1 [
 o1 19 (.addo (.t 3) 0),
 o1 20 (.addo (.t 19) 1),
 o1 21 (.ld (.t 20) 1 false),
 m1 22 1,
 o1 23 (.ixs (.t 21) (.t 22) 5),
 o1 24 (.addo (.t 23) 4),
 o1 25 (.ld (.t 24) 1 false),
 o1 26 (.len (.t 25)),
 o1 27 (.mv (.c (.int .i64 0)))]
 (.block 0 (.loop (sr1 [
  o1 28 (.bin .lss (.t 27) (.t 26))]
  (.seq (.cond (.t 28)
  .skip
  (.exit 0))
  (.seq (.block 1 (sr1 [
   o1 29 (.ixs (.t 25) (.t 27) 4),
   o1 30 (.ld (.t 29) 4 true),
   o1 10 (.alloc [.int .i64 0,.int .i64 0,.int .i64 0,.int .i64 0] 95),
   ⟨none,.st (.t 10) (.t 30) 4,none,[]⟩]
   (.seq (.regd [0,1,2,3,4,5,6,7,8,9,10,11,12,13,14,15,16,17] [
   .op (o1 31 (.addo (.t 10) 0)),
   .op ⟨some 32,.addo (.t 31) 0,none,[0]⟩,
   .op ⟨some 33,.ld (.t 32) 1 false,none,[1]⟩,
   .op (o1 34 (.addo (.t 10) 0)),
   .op ⟨some 35,.addo (.t 34) 1,none,[3]⟩,
   .op ⟨some 36,.ld (.t 35) 1 false,none,[4]⟩,
   .op ⟨some 37,.build [.int .i64 0,.int .i64 0] [(0,1,.t 33),(1,1,.t 36)],none,[2,5]⟩,
   .op (o1 38 (.addo (.t 10) 2)),
   .op ⟨some 39,.addo (.t 38) 1,none,[7]⟩,
   .op ⟨some 40,.ld (.t 39) 1 false,none,[8]⟩,
   .op (o1 41 (.addo (.t 10) 2)),
   .op ⟨some 42,.addo (.t 41) 0,none,[10]⟩,
   .op ⟨some 43,.ld (.t 42) 1 false,none,[11]⟩,
   .op ⟨some 44,.build [.int .i64 0,.int .i64 0] [(0,1,.t 40),(1,1,.t 43)],none,[9,12]⟩] 2 2 [
   o1 11 (.alloc [.int .i64 0,.int .i64 0] 123),
   o1 12 (.alloc [.int .i64 0,.int .i64 0] 123),
   ⟨none,.st (.t 11) (.t 37) 2,none,[0,1,2,3,4,5,6,14,15]⟩,
   ⟨none,.st (.t 12) (.t 44) 2,none,[0,1,2,3,4,5,6,7,8,9,10,11,12,13,14,15,16]⟩])
   (sr1 [
   o1 45 (.mv (.c (.int .i64 0)))]
   (.block 2 (.loop (sr1 [
    o1 46 (.bin .lss (.t 45) (.c (.int .i64 2)))]
    (.seq (.cond (.t 46)
    .skip
    (.exit 2))
    (.seq (.block 3 (sr1 [
     m1 47 45,
     m1 13 47]
     (.seq (.regd [0,1,2,3,4,5,6,7] [
     .op (m1 48 13),
     .op ⟨some 49,.ixa (.t 5) (.t 48) 2 1,none,[0]⟩,
     .op ⟨some 50,.ld (.t 49) 1 false,none,[1]⟩,
     .op (m1 51 13),
     .op ⟨some 52,.ixa (.t 11) (.t 51) 2 1,none,[3]⟩,
     .op ⟨some 53,.ld (.t 52) 1 false,none,[4]⟩,
     .op ⟨some 54,.mm true [.t 50,.t 53],none,[2,5]⟩,
     .op ⟨some 14,.mv (.t 54),none,[0,1,2,3,4,5,6]⟩] 0 0 [
])
 (.seq (.regd [0,1,2,3,4,5,6,7,8,9] [
 .op (m1 55 14),
 .op (m1 56 13),
 .op ⟨some 57,.ixa (.t 7) (.t 56) 2 1,none,[1]⟩,
 .op ⟨some 58,.ld (.t 57) 1 false,none,[2]⟩,
 .op ⟨some 59,.bin .add (.t 55) (.t 58),none,[0,3]⟩,
 .op ⟨some 60,.bin .sub (.t 59) (.c (.int .i64 1)),none,[4]⟩,
 .op (m1 61 13),
 .op ⟨some 62,.ixa (.t 12) (.t 61) 2 1,none,[6]⟩,
 .op ⟨some 63,.ld (.t 62) 1 false,none,[7]⟩,
 .op ⟨some 64,.bin .leq (.t 60) (.t 63),none,[5,8]⟩] 0 0 [
])
 (.cond (.t 64)
 (.reg [
  m1 65 13,
  m1 66 13,
  o1 67 (.ixa (.t 8) (.t 66) 2 1),
  o1 68 (.ld (.t 67) 1 false),
  m1 69 14,
  o1 70 (.bsl 1 3 [.t 68,.t 69]),
  o1 71 (.call 94 [.t 70]),
  o1 72 (.ixa (.t 8) (.t 65) 2 1),
  ⟨none,.st (.t 72) (.t 71) 1,none,[]⟩])
 .skip)))))
 (.reg [
 o1 73 (.bin .add (.t 45) (.c (.int .i64 1))),
 m1 45 73]))))))))))
 (.reg [
 o1 74 (.bin .add (.t 27) (.c (.int .i64 1))),
 m1 27 74])))))))
 (sr1 [
 o1 75 (.ld (.t 8) 2 true),
 ⟨none,.st (.t 6) (.t 75) 2,none,[]⟩]
 .ret)))))
def r68:List RV:=[.cell 6 2 true]
theorem t68:Qt1 Try.prog 68 c68 r68 76:=YU Try.func68 rfl (by kernel_rfl) (by kernel_rfl) (by kernel_rfl) (by kernel_rfl)
def c94:SC:=(sr1 [
 o1 2 (.mv (.c (.int .i64 0)))]
 (sr1 [
 m1 3 0,
 o1 4 (.bsl 1 3 [.c (.int .i64 100001)]),
 o1 5 (.app 1 8 3 (.t 3) (.t 4)),
 o1 6 (.call 104 [.t 5]),
 m1 2 6]
 .ret))
def r94:List RV:=[.tmp 2]
theorem t94:Qt1 Try.prog 94 c94 r94 7:=YU Try.func94 rfl (by kernel_rfl) (by kernel_rfl) (by kernel_rfl) (by kernel_rfl)
def c104:SC:=(sr1 [
 o1 2 (.mv (.c (.int .i64 0)))]
 (.seq (sr1 [
 m1 5 0,
 o1 6 (.len (.t 5)),
 o1 7 (.bin .lss (.t 6) (.c (.int .i64 1)))]
 (.cond (.t 7)
 (.reg [
  o1 8 (.raw (Go.Op.makeInterface 9 (Go.Operand.const (Go.Value.string { data:=#[115,108,105,99,101,115,46,77,105,110,58,32,101,109,112,116,121,32,108,105,115,116] }))) 20),
  ⟨none,.raw (Go.Op.panic (Go.Operand.tmp 8)) 0,none,[]⟩])
 .skip))
 (sr1 [
 m1 9 0,
 o1 10 (.ixs (.t 9) (.c (.int .i64 0)) 1),
 o1 11 (.ld (.t 10) 1 false),
 m1 3 11]
 (.seq (sr1 [
 o1 4 (.mv (.c (.int .i64 1)))]
 (.block 0 (.loop (.seq (sr1 [
  m1 12 4,
  m1 13 0,
  o1 14 (.len (.t 13)),
  o1 15 (.bin .lss (.t 12) (.t 14))]
  (.cond (.t 15)
  .skip
  (.exit 0)))
  (.seq (.block 1 (.reg [
   m1 18 3,
   m1 19 0,
   m1 20 4,
   o1 21 (.ixs (.t 19) (.t 20) 1),
   o1 22 (.ld (.t 21) 1 false),
   o1 23 (.mm false [.t 18,.t 22]),
   m1 3 23]))
  (.reg [
  m1 16 4,
  o1 17 (.bin .add (.t 16) (.c (.int .i64 1))),
  m1 4 17]))))))
 (sr1 [
 m1 24 3,
 m1 2 24]
 .ret)))))
def r104:List RV:=[.tmp 2]
theorem t104:Qt1 Try.prog 104 c104 r104 25:=YU Try.func104 rfl (by kernel_rfl) (by kernel_rfl) (by kernel_rfl) (by kernel_rfl)
end Go.Proofs.Ytkjldleglbbkeaa
namespace Go.Azalai
structure Span where
 lo:Int
 hi:Int
deriving DecidableEq
structure Well where
 x:Int
 y:Int
 depth:Int
 yld:Span
 room:Int
 has:Span
 owner:Int
deriving DecidableEq
structure Gate where
 opens:Span
 shuts:Span
deriving DecidableEq
structure Leg where
 a:Int
 b:Int
 long:Span
 gates:List Gate
deriving DecidableEq
structure Land where
 wells:List Well
 legs:List Leg
deriving DecidableEq
structure Draw where
 well:Int
 day:Int
 water:Int
deriving DecidableEq
def inR (lo hi n:Int):Bool:=decide (lo<=n/\n<=hi)
def W3 (lo hi:Int) (s:Span):Bool:=decide (lo<=s.lo/\s.lo<=s.hi/\s.hi<=hi)
def Yj (w:Well):Bool :=
 inR (-10000000) 10000000 w.x && inR (-10000000) 10000000 w.y && inR 0 200 w.depth && W3 0 10000000 w.yld && inR 0 1000000000 w.room && W3 0 w.room w.has && inR 0 9999 w.owner
def Yr (next:Int):List Gate->Bool
 | []=>true
 | g :: r=>W3 0 100000 g.opens && W3 0 100000 g.shuts && inR next g.shuts.hi g.opens.lo && Yr (g.shuts.hi+1) r
def XR (n:Int) (x:Leg):Bool :=
 inR 0 (n - 1) x.a && inR 0 (n - 1) x.b && x.a != x.b && W3 1 1000000 x.long && decide (x.gates.length<=6) && Yr 0 x.gates
def ZW (l:Land):Bool :=
 inR 1 12 l.wells.length && decide (l.legs.length<=24) && l.wells.all Yj && l.legs.all (XR l.wells.length)
def VF {α : Type} (g:α->Bool):List α->Nat->Int
 | [],_=>-1
 | x :: l,k=>if g x then k else VF g l (k+1)
theorem ZhS {α : Type} (g:α->Bool):∀ (l:List α) (k:Nat),decide (VF g l k ≥ 0)=l.any g
 | [],k=>by simp [VF]
 | x :: l,k=>by
  simp only [VF,List.any_cons]
  by_cases hg:g x=true
  . simp [hg]
  . simpa [hg] using ZhS g l (k+1)
def YO (w:Well) (has:Span) (days:Int):Span:=⟨min w.room (has.lo+days * w.yld.lo),min w.room (has.hi+days * w.yld.hi)⟩
def ZY (n last:Int):List Draw->Bool
 | []=>true
 | x :: r=>inR 0 (n - 1) x.well && inR last 100000 x.day && inR 0 1000000000 x.water && ZY n x.day r
def Yc (w:Well) (well day:Int) (now:Span) (evening:Int) (i:Nat):List Draw->Span × Int × Int
 | []=>(YO w now (day - 1 - evening),0,0)
 | x :: r =>
  if (x.well != well || decide (x.day ≥ day))=true then Yc w well day now evening (i+1) r
  else
   let f:=YO w now (x.day - evening)
   if f.hi < x.water then (⟨0,0⟩,i,33) else Yc w well day ⟨max 0 (f.lo - x.water),f.hi - x.water⟩ x.day (i+1) r
def Z4 (l:Land) (well:Int) (draws:List Draw) (day:Int):Span × Int × Int :=
 if ZW l=false then (⟨0,0⟩,0,30)
 else if (inR 0 (l.wells.length - 1) well && inR 0 100000 day)=false then (⟨0,0⟩,0,2)
 else if draws.length > 200 then (⟨0,0⟩,0,4)
 else if ZY l.wells.length 0 draws=false then (⟨0,0⟩,0,32)
 else match l.wells[well.toNat]? with
  | some w=>Yc w well day w.has (-1) 0 draws
  | none=>(⟨0,0⟩,0,0)
def Ze8 (l:Land) (well water teams:Int):Int × Int :=
 if ZW l=false then (0,30)
 else if (inR 0 (l.wells.length - 1) well && inR 0 1000000000 water && inR 1 100 teams)=false then (0,2)
 else match l.wells[well.toNat]? with
  | some w=>((water * w.depth+1000000 * teams - 1).tdiv (1000000 * teams),0)
  | none=>(0,0)
def XE (l:Land):Prop:=l.wells.length<=1000/\l.legs.length<=1000/\∀ x ∈ l.legs,x.gates.length<=1000
def Zap (l:Land):Bool:=decide (l.wells.length > 20) || decide (l.legs.length > 40) || l.legs.any fun x=>decide (x.gates.length > 20)
theorem YY {l:Land} (h:ZW l=true):∀ w ∈ l.wells,Yj w=true:=by
 simp only [ZW,Bool.and_eq_true,List.all_eq_true] at h;exact h.1.2
theorem XN {l:Land} (h:ZW l=true):1<=l.wells.length/\l.wells.length<=12/\l.legs.length<=24:=by
 simp only [ZW,Bool.and_eq_true,inR,decide_eq_true_eq] at h;omega
theorem Vc {n:Int}:∀ {l:List Draw} {last:Int},ZY n last l=true->0<=last->∀ x ∈ l,0<=x.day/\x.day<=100000/\0<=x.water/\x.water<=1000000000
 | [],_,_,_,x,h=>by simp at h
 | y :: l,last,h,h0,x,hx=>by
  simp only [ZY,Bool.and_eq_true,inR,decide_eq_true_eq] at h
  rcases List.mem_cons.1 hx with rfl | hx
  . omega
  . exact Vc h.2 (by omega) x hx
end Go.Azalai
namespace Go.Proofs.Ytkjldleglbbkeaa
open Go Go.Sx Go.Azalai
def ZO (n:Int):List SV:=[I n]
def Ze (s:Span):List SV:=[I s.lo,I s.hi]
def Zg (g:Gate):List SV:=[I g.opens.lo,I g.opens.hi,I g.shuts.lo,I g.shuts.hi]
def Zc (w:Well):List SV:=[I w.x,I w.y,I w.depth,I w.yld.lo,I w.yld.hi,I w.room,I w.has.lo,I w.has.hi,I w.owner]
def Zj (x:Leg):List SV:=[I x.a,I x.b,I x.long.lo,I x.long.hi,.sl false 4 (x.gates.map Zg)]
def Zf (l:Land):List SV:=[.sl false 9 (l.wells.map Zc),.sl false 5 (l.legs.map Zj)]
def Zh (d:Draw):List SV:=[I d.well,I d.day,I d.water]
theorem US {α : Type} (g:α->Bool) (l:List α):decide (VF g l 0 ≥ 0)=l.any g:=ZhS g l 0
theorem ZvK (h:Nat) (caps:List SV) (hk:KFL caps) (g:Int->Bool) (l:List Int) (hg:∀ x ∈ l,Ct Try.prog h (I x :: caps) (B (g x))) (hl:l.length < 4611686018427387904) {c:Bool} :
 Ct Try.prog 101 [.sl c 1 (l.map ZO),.cl h caps] (I (VF g l 0)):=by
 refine t101.1 ⟨by simp [KF,Za,KFL,ZO],hk,trivial⟩ (by simp [KF]) ?_
 dsimp only [c101,r101,go_sem,rA,rM,rS]
 refine YR (fun k:Nat=>[(8,I k)]) (fun _=>[]) (fun k=>k<=l.length/\VF g (l.drop k) k=VF g l 0) (fun k=>l.length - k) 0 ⟨Nat.zero_le _,rfl⟩ ?_ ?_
 . (refine Zi ?_ ?_ ?_ rfl rfl<;>dsimp only [ZO,hk,id,go_sem,rA,rM,rS]<;>simp [ZO,hk,Za,Zd,KFR,KFL,KF,Zb,mtO,nbr])
 . intro k ⟨hk',hi⟩
   dsimp only [go_sem,rA,rM,rS]
   refine br ?_ ?_
   . intro hlt
     have hlt:k < l.length:=by simpa using hlt
     dsimp only [go_sem,rA,rM,rS]
     refine Zy k hlt rfl ?_
     dsimp only [ZO,go_sem,rA,rM,rS]
     refine call (hg l[k] (List.getElem_mem _)) ?_
     dsimp only [go_sem,rA,rM,rS]
     refine br ?_ ?_
     . intro hgx
       dsimp only [go_sem,rA,rM,rS]
       rw [<- hi,List.drop_eq_getElem_cons hlt]
       simp [VF,hgx]
     . intro hgx
       dsimp only [go_sem,rA,rM,rS]
       refine ⟨k+1,⟨by omega,?_⟩,by omega,?_⟩
       . rw [<- hi,List.drop_eq_getElem_cons hlt];simp [VF,hgx]
       . rw [Zp (by omega) (by omega)]
         (refine Zi ?_ ?_ ?_ rfl rfl<;>dsimp only [ZO,hk,id,go_sem,rA,rM,rS]<;>simp [ZO,hk,Za,Zd,KFR,KFL,KF,Zb,mtO,nbr])
   . intro hlt
     have hlt:k=l.length:=by simp at hlt;omega
     dsimp only [go_sem,rA,rM,rS]
     rw [<- hi,hlt];simp [VF]
theorem con90 (h:Nat) (caps:List SV) (hk:KFL caps) (g:Int->Bool) (l:List Int) (hg:∀ x ∈ l,Ct Try.prog h (I x :: caps) (B (g x))) (hl:l.length < 4611686018427387904) {c:Bool} :
 Ct Try.prog 90 [.sl c 1 (l.map ZO),.cl h caps] (B (l.any g)):=by
 refine t90.1 ⟨by simp [KF,Za,KFL,ZO],hk,trivial⟩ (by simp [KF]) ?_
 dsimp only [c90,r90,go_sem,rA,rM,rS]
 refine call (ZvK h caps hk g l hg hl) ?_
 dsimp only [go_sem,rA,rM,rS]
 rw [US]
theorem idx95 (h:Nat) (caps:List SV) (hk:KFL caps) (g:Well->Bool) (l:List Well) (hg:∀ x ∈ l,Ct Try.prog h (.agg (Zc x) :: caps) (B (g x))) (hl:l.length < 4611686018427387904) {c:Bool} :
 Ct Try.prog 95 [.sl c 9 (l.map Zc),.cl h caps] (I (VF g l 0)):=by
 refine t95.1 ⟨by simp [KF,Za,KFL,Zc],hk,trivial⟩ (by simp [KF]) ?_
 dsimp only [c95,r95,go_sem,rA,rM,rS]
 refine YR (fun k:Nat=>[(8,I k)]) (fun _=>[]) (fun k=>k<=l.length/\VF g (l.drop k) k=VF g l 0) (fun k=>l.length - k) 0 ⟨Nat.zero_le _,rfl⟩ ?_ ?_
 . (refine Zi ?_ ?_ ?_ rfl rfl<;>dsimp only [Zc,hk,id,go_sem,rA,rM,rS]<;>simp [Zc,hk,Za,Zd,KFR,KFL,KF,Zb,mtO,nbr])
 . intro k ⟨hk',hi⟩
   dsimp only [go_sem,rA,rM,rS]
   refine br ?_ ?_
   . intro hlt
     have hlt:k < l.length:=by simpa using hlt
     dsimp only [go_sem,rA,rM,rS]
     refine Zy k hlt rfl ?_
     dsimp only [Zc,go_sem,rA,rM,rS]
     refine call (hg l[k] (List.getElem_mem _)) ?_
     dsimp only [go_sem,rA,rM,rS]
     refine br ?_ ?_
     . intro hgx
       dsimp only [go_sem,rA,rM,rS]
       rw [<- hi,List.drop_eq_getElem_cons hlt]
       simp [VF,hgx]
     . intro hgx
       dsimp only [go_sem,rA,rM,rS]
       refine ⟨k+1,⟨by omega,?_⟩,by omega,?_⟩
       . rw [<- hi,List.drop_eq_getElem_cons hlt];simp [VF,hgx]
       . rw [Zp (by omega) (by omega)]
         (refine Zi ?_ ?_ ?_ rfl rfl<;>dsimp only [Zc,hk,id,go_sem,rA,rM,rS]<;>simp [Zc,hk,Za,Zd,KFR,KFL,KF,Zb,mtO,nbr])
   . intro hlt
     have hlt:k=l.length:=by simp at hlt;omega
     dsimp only [go_sem,rA,rM,rS]
     rw [<- hi,hlt];simp [VF]
theorem con71 (h:Nat) (caps:List SV) (hk:KFL caps) (g:Well->Bool) (l:List Well) (hg:∀ x ∈ l,Ct Try.prog h (.agg (Zc x) :: caps) (B (g x))) (hl:l.length < 4611686018427387904) {c:Bool} :
 Ct Try.prog 71 [.sl c 9 (l.map Zc),.cl h caps] (B (l.any g)):=by
 refine t71.1 ⟨by simp [KF,Za,KFL,Zc],hk,trivial⟩ (by simp [KF]) ?_
 dsimp only [c71,r71,go_sem,rA,rM,rS]
 refine call (idx95 h caps hk g l hg hl) ?_
 dsimp only [go_sem,rA,rM,rS]
 rw [US]
theorem idx96 (h:Nat) (caps:List SV) (hk:KFL caps) (g:Leg->Bool) (l:List Leg) (hg:∀ x ∈ l,Ct Try.prog h (.agg (Zj x) :: caps) (B (g x))) (hl:l.length < 4611686018427387904) {c:Bool} :
 Ct Try.prog 96 [.sl c 5 (l.map Zj),.cl h caps] (I (VF g l 0)):=by
 refine t96.1 ⟨by simp [KF,Za,KFL,Zj,Zg],hk,trivial⟩ (by simp [KF]) ?_
 dsimp only [c96,r96,go_sem,rA,rM,rS]
 refine YR (fun k:Nat=>[(8,I k)]) (fun _=>[]) (fun k=>k<=l.length/\VF g (l.drop k) k=VF g l 0) (fun k=>l.length - k) 0 ⟨Nat.zero_le _,rfl⟩ ?_ ?_
 . (refine Zi ?_ ?_ ?_ rfl rfl<;>dsimp only [Zj,Zg,hk,id,go_sem,rA,rM,rS]<;>simp [Zj,Zg,hk,Za,Zd,KFR,KFL,KF,Zb,mtO,nbr])
 . intro k ⟨hk',hi⟩
   dsimp only [go_sem,rA,rM,rS]
   refine br ?_ ?_
   . intro hlt
     have hlt:k < l.length:=by simpa using hlt
     dsimp only [go_sem,rA,rM,rS]
     refine Zy k hlt rfl ?_
     dsimp only [Zj,go_sem,rA,rM,rS]
     refine call (hg l[k] (List.getElem_mem _)) ?_
     dsimp only [go_sem,rA,rM,rS]
     refine br ?_ ?_
     . intro hgx
       dsimp only [go_sem,rA,rM,rS]
       rw [<- hi,List.drop_eq_getElem_cons hlt]
       simp [VF,hgx]
     . intro hgx
       dsimp only [go_sem,rA,rM,rS]
       refine ⟨k+1,⟨by omega,?_⟩,by omega,?_⟩
       . rw [<- hi,List.drop_eq_getElem_cons hlt];simp [VF,hgx]
       . rw [Zp (by omega) (by omega)]
         (refine Zi ?_ ?_ ?_ rfl rfl<;>dsimp only [Zj,Zg,hk,id,go_sem,rA,rM,rS]<;>simp [Zj,Zg,hk,Za,Zd,KFR,KFL,KF,Zb,mtO,nbr])
   . intro hlt
     have hlt:k=l.length:=by simp at hlt;omega
     dsimp only [go_sem,rA,rM,rS]
     rw [<- hi,hlt];simp [VF]
theorem con74 (h:Nat) (caps:List SV) (hk:KFL caps) (g:Leg->Bool) (l:List Leg) (hg:∀ x ∈ l,Ct Try.prog h (.agg (Zj x) :: caps) (B (g x))) (hl:l.length < 4611686018427387904) {c:Bool} :
 Ct Try.prog 74 [.sl c 5 (l.map Zj),.cl h caps] (B (l.any g)):=by
 refine t74.1 ⟨by simp [KF,Za,KFL,Zj,Zg],hk,trivial⟩ (by simp [KF]) ?_
 dsimp only [c74,r74,go_sem,rA,rM,rS]
 refine call (idx96 h caps hk g l hg hl) ?_
 dsimp only [go_sem,rA,rM,rS]
 rw [US]
theorem Zv2 (h:Nat) (caps:List SV) (hk:KFL caps) (g:Span->Bool) (l:List Span) (hg:∀ x ∈ l,Ct Try.prog h (.agg (Ze x) :: caps) (B (g x))) (hl:l.length < 4611686018427387904) {c:Bool} :
 Ct Try.prog 107 [.sl c 2 (l.map Ze),.cl h caps] (I (VF g l 0)):=by
 refine t107.1 ⟨by simp [KF,Za,KFL,Ze],hk,trivial⟩ (by simp [KF]) ?_
 dsimp only [c107,r107,go_sem,rA,rM,rS]
 refine YR (fun k:Nat=>[(8,I k)]) (fun _=>[]) (fun k=>k<=l.length/\VF g (l.drop k) k=VF g l 0) (fun k=>l.length - k) 0 ⟨Nat.zero_le _,rfl⟩ ?_ ?_
 . (refine Zi ?_ ?_ ?_ rfl rfl<;>dsimp only [Ze,hk,id,go_sem,rA,rM,rS]<;>simp [Ze,hk,Za,Zd,KFR,KFL,KF,Zb,mtO,nbr])
 . intro k ⟨hk',hi⟩
   dsimp only [go_sem,rA,rM,rS]
   refine br ?_ ?_
   . intro hlt
     have hlt:k < l.length:=by simpa using hlt
     dsimp only [go_sem,rA,rM,rS]
     refine Zy k hlt rfl ?_
     dsimp only [Ze,go_sem,rA,rM,rS]
     refine call (hg l[k] (List.getElem_mem _)) ?_
     dsimp only [go_sem,rA,rM,rS]
     refine br ?_ ?_
     . intro hgx
       dsimp only [go_sem,rA,rM,rS]
       rw [<- hi,List.drop_eq_getElem_cons hlt]
       simp [VF,hgx]
     . intro hgx
       dsimp only [go_sem,rA,rM,rS]
       refine ⟨k+1,⟨by omega,?_⟩,by omega,?_⟩
       . rw [<- hi,List.drop_eq_getElem_cons hlt];simp [VF,hgx]
       . rw [Zp (by omega) (by omega)]
         (refine Zi ?_ ?_ ?_ rfl rfl<;>dsimp only [Ze,hk,id,go_sem,rA,rM,rS]<;>simp [Ze,hk,Za,Zd,KFR,KFL,KF,Zb,mtO,nbr])
   . intro hlt
     have hlt:k=l.length:=by simp at hlt;omega
     dsimp only [go_sem,rA,rM,rS]
     rw [<- hi,hlt];simp [VF]
theorem ZuX (h:Nat) (caps:List SV) (hk:KFL caps) (g:Span->Bool) (l:List Span) (hg:∀ x ∈ l,Ct Try.prog h (.agg (Ze x) :: caps) (B (g x))) (hl:l.length < 4611686018427387904) {c:Bool} :
 Ct Try.prog 102 [.sl c 2 (l.map Ze),.cl h caps] (B (l.any g)):=by
 refine t102.1 ⟨by simp [KF,Za,KFL,Ze],hk,trivial⟩ (by simp [KF]) ?_
 dsimp only [c102,r102,go_sem,rA,rM,rS]
 refine call (Zv2 h caps hk g l hg hl) ?_
 dsimp only [go_sem,rA,rM,rS]
 rw [US]
theorem Wk (n lo hi:Int):Ct Try.prog 61 [I n,I lo,I hi] (B (inR lo hi n)):=by
 refine t61.1 (by simp [KFL,KF]) (by simp [KFL,KF]) ?_
 dsimp only [c61,r61,go_sem,rA,rM,rS]
 refine gb ?_;dsimp only [go_sem,rA,rM,rS]
 refine gb ?_;dsimp only [go_sem,rA,rM,rS]
 refine gb ?_;dsimp only [go_sem,rA,rM,rS]
 simp [inR]
theorem XK (s:Span) (lo hi:Int):Ct Try.prog 92 [.agg (Ze s),I lo,I hi] (B (W3 lo hi s)):=by
 refine t92.1 (by simp [Ze,KFL,KF]) (by simp [KFL,KF]) ?_
 dsimp only [c92,r92,Ze,go_sem,rA,rM,rS]
 refine call (Wk _ _ _) ?_
 dsimp only [go_sem,rA,rM,rS]
 repeat (refine gb ?_;dsimp only [go_sem,rA,rM,rS])
 (simp only [W3,inR,Option.some.injEq,SV.v.injEq,Value.bool.injEq]<;>grind)
theorem Zos (lo hi x:Int):Ct Try.prog 91 [I x,.ps [I lo] 0,.ps [I hi] 0] (B (!inR lo hi x)):=by
 refine t91.1 (by simp [KFL,KF]) (by simp [KFL,KF]) ?_
 dsimp only [c91,r91,go_sem,rA,rM,rS]
 repeat (refine gb ?_;dsimp only [go_sem,rA,rM,rS])
 (simp only [inR,Option.some.injEq,SV.v.injEq,Value.bool.injEq]<;>grind)
theorem Zd1 (lo hi:Int) (l:List Int) (hl:l.length < 4611686018427387904) (c:Bool):Ct Try.prog 58 [I lo,I hi,.sl c 1 (l.map ZO)] (B (l.all (inR lo hi))):=by
 refine t58.1 (by simp [Za,ZO,KFL,KF]) (by simp [KFL,KF]) ?_
 dsimp only [c58,r58,go_sem,rA,rM,rS]
 refine Zf4 (by simp [FLT]) (res:=B (l.any fun x=>!inR lo hi x)) ?_ ?_
 . dsimp only [go_sem,rA,rM,rS]
   exact con90 91 [.ps [I lo] 0,.ps [I hi] 0] (by simp [KFL,KF]) (fun x=>!inR lo hi x) l (fun x _=>Zos lo hi x) hl
 . dsimp only [go_sem,rA,rM,rS]
   simp [List.all_eq_not_any_not]
theorem V4 (lo hi a:Int) (c:Bool):Ct Try.prog 58 [I lo,I hi,.sl c 1 [[I a]]] (B (inR lo hi a)):=by
 have:=Zd1 lo hi [a] (by simp) c
 simpa [ZO] using this
theorem Zfg (lo hi a b:Int) (c:Bool):Ct Try.prog 58 [I lo,I hi,.sl c 1 [[I a],[I b]]] (B (inR lo hi a && inR lo hi b)):=by
 have:=Zd1 lo hi [a,b] (by simp) c
 simpa [ZO] using this
theorem Zdm (lo hi:Int) (s:Span):Ct Try.prog 103 [.agg (Ze s),.ps [I lo] 0,.ps [I hi] 0] (B (!W3 lo hi s)):=by
 refine t103.1 (by simp [Ze,KFL,KF]) (by simp [KFL,KF]) ?_
 dsimp only [c103,r103,Ze,go_sem,rA,rM,rS]
 repeat (first | (refine gb ?_;dsimp only [go_sem,rA,rM,rS]) | (refine call (Zfg _ _ _ _ _) ?_;dsimp only [go_sem,rA,rM,rS]))
 (simp only [W3,inR,Option.some.injEq,SV.v.injEq,Value.bool.injEq]<;>grind)
theorem UW (lo hi:Int) (l:List Span) (hl:l.length < 4611686018427387904) (c:Bool):Ct Try.prog 93 [I lo,I hi,.sl c 2 (l.map Ze)] (B (l.all (W3 lo hi))):=by
 refine t93.1 (by simp [Za,Ze,KFL,KF]) (by simp [KFL,KF]) ?_
 dsimp only [c93,r93,go_sem,rA,rM,rS]
 refine Zf4 (by simp [FLT]) (res:=B (l.any fun x=>!W3 lo hi x)) ?_ ?_
 . dsimp only [go_sem,rA,rM,rS]
   exact ZuX 103 [.ps [I lo] 0,.ps [I hi] 0] (by simp [KFL,KF]) (fun x=>!W3 lo hi x) l (fun x _=>Zdm lo hi x) hl
 . dsimp only [go_sem,rA,rM,rS]
   simp [List.all_eq_not_any_not]
theorem Vy (lo hi:Int) (s:Span) (c:Bool):Ct Try.prog 93 [I lo,I hi,.sl c 2 [[I s.lo,I s.hi]]] (B (W3 lo hi s)):=by
 have:=UW lo hi [s] (by simp) c
 simpa [Ze] using this
theorem Zmd (lo hi:Int) (s t:Span) (c:Bool):Ct Try.prog 93 [I lo,I hi,.sl c 2 [[I s.lo,I s.hi],[I t.lo,I t.hi]]] (B (W3 lo hi s && W3 lo hi t)):=by
 have:=UW lo hi [s,t] (by simp) c
 simpa [Ze] using this
theorem ZuM (w:Well):Ct Try.prog 73 [.agg (Zc w)] (B (Yj w)):=by
 refine t73.1 (by simp [Zc,KFL,KF]) (by simp [KFL,KF]) ?_
 dsimp only [c73,r73,Zc,go_sem,rA,rM,rS]
 repeat (first | (refine gb ?_;dsimp only [go_sem,rA,rM,rS]) | (refine call (V4 _ _ _ _) ?_;dsimp only [go_sem,rA,rM,rS]) | (refine call (Zfg _ _ _ _ _) ?_;dsimp only [go_sem,rA,rM,rS]) | (refine call (Vy _ _ w.yld _) ?_;dsimp only [go_sem,rA,rM,rS]) | (refine call (Vy _ _ w.has _) ?_;dsimp only [go_sem,rA,rM,rS]))
 simp [Yj,Bool.and_assoc]
theorem Ze7 (x:Leg) (n:Int) (h0:0<=n) (h1:n<=1000) (hg:x.gates.length < 4611686018427387904):Ct Try.prog 76 [.agg (Zj x),I n] (B (XR n x)):=by
 have hw:IntKind.i64.wrap (n - 1)=n - 1:=Zp (by omega) (by omega)
 refine t76.1 (by simp [Zj,Za,Zg,KFL,KF]) (by simp [KFL,KF]) ?_
 dsimp only [c76,r76,Zj,hw,go_sem,rA,rM,rS]
 simp only [hw]
 repeat (first | (refine gb ?_;dsimp only [go_sem,rA,rM,rS]) | (refine call (Zfg _ _ _ _ _) ?_;dsimp only [go_sem,rA,rM,rS]) | (refine call (Vy _ _ x.long _) ?_;dsimp only [go_sem,rA,rM,rS]))
 simp only [List.length_map]
 refine br ?_ ?_
 . intro h
   dsimp only [go_sem,rA,rM,rS]
   (simp only [XR,Option.some.injEq,SV.v.injEq,Value.bool.injEq]<;>grind)
 . intro h
   dsimp only [go_sem,rA,rM,rS]
   have hh:XR n x=Yr 0 x.gates:=by simp only [XR];grind
   rw [hh]
   refine YR (fun s:Nat × Int=>[(40,I s.1),(5,I s.2)]) (fun _=>[]) (fun s=>s.1<=x.gates.length/\Yr s.2 (x.gates.drop s.1)=Yr 0 x.gates) (fun s=>x.gates.length - s.1) (0,0) ⟨Nat.zero_le _,rfl⟩ ?_ ?_
   . (refine Zi ?_ ?_ ?_ rfl rfl<;>dsimp only [Zg,id,go_sem,rA,rM,rS]<;>simp [Zg,Za,Zd,KFR,KFL,KF,Zb,mtO,nbr])
   . rintro ⟨k,next⟩ ⟨hk,hi⟩
     dsimp only [go_sem,rA,rM,rS]
     refine br ?_ ?_
     . intro hlt
       have hlt:k < x.gates.length:=by simpa using hlt
       dsimp only [go_sem,rA,rM,rS]
       refine Zy k hlt rfl ?_
       dsimp only [Zg,go_sem,rA,rM,rS]
       repeat (first | (refine gb ?_;dsimp only [go_sem,rA,rM,rS]) | (refine call (Zmd _ _ x.gates[k].opens x.gates[k].shuts _) ?_;dsimp only [go_sem,rA,rM,rS]) | (refine call (V4 _ _ _ _) ?_;dsimp only [go_sem,rA,rM,rS]))
       have hd:x.gates.drop k=x.gates[k] :: x.gates.drop (k+1):=List.drop_eq_getElem_cons hlt
       refine br ?_ ?_
       . intro hb
         dsimp only [go_sem,rA,rM,rS]
         rw [<- hi,hd]
         (simp only [Yr,Option.some.injEq,SV.v.injEq,Value.bool.injEq]<;>grind)
       . intro hb
         dsimp only [go_sem,rA,rM,rS]
         have hs:W3 0 100000 x.gates[k].shuts=true:=by grind
         simp only [W3,decide_eq_true_eq] at hs
         rw [Zp (n:=x.gates[k].shuts.hi+1) (by omega) (by omega),Zp (n:=(k:Int)+1) (by omega) (by omega)]
         refine ⟨(k+1,x.gates[k].shuts.hi+1),⟨hlt,?_⟩,by simp only;omega,?_⟩
         . rw [<- hi,hd];simp only [Yr];grind
         . (refine Zi ?_ ?_ ?_ rfl rfl<;>dsimp only [Zg,id,go_sem,rA,rM,rS]<;>simp [Zg,Za,Zd,KFR,KFL,KF,Zb,mtO,nbr])
     . intro hlt
       have hlt:k=x.gates.length:=by simp at hlt;omega
       dsimp only [go_sem,rA,rM,rS]
       rw [<- hi,hlt];simp [Yr]
theorem ZqP (l:Land) (x:Leg) (hs:XE l) (hx:x ∈ l.legs):Ct Try.prog 75 [.agg (Zj x),.ps (Zf l) 0] (B (!XR l.wells.length x)):=by
 have hg:=hs.2.2 x hx
 refine t75.1 (by simp [Zj,Zf,Zc,Zg,Za,KFL,KF]) (by simp [KFL,KF]) ?_
 dsimp only [c75,r75,Zj,Zf,go_sem,rA,rM,rS]
 simp only [List.length_map]
 refine call (Ze7 x l.wells.length (by omega) (by have:=hs.1;omega) (by omega)) ?_
 dsimp only [go_sem,rA,rM,rS]
theorem Zks (w:Well):Ct Try.prog 72 [.agg (Zc w)] (B (!Yj w)):=by
 refine t72.1 (by simp [Zc,KFL,KF]) (by simp [KFL,KF]) ?_
 dsimp only [c72,r72,Zc,go_sem,rA,rM,rS]
 refine call (ZuM w) ?_
 dsimp only [go_sem,rA,rM,rS]
theorem UH (l:Land) (hs:XE l):Ct Try.prog 26 [.agg (Zf l)] (I (if ZW l=true then 0 else 30)):=by
 refine t26.1 (by simp [Zf,Zc,Zj,Zg,Za,KFL,KF]) (by simp [KFL,KF]) ?_
 dsimp only [c26,r26,Zf,go_sem,rA,rM,rS]
 refine call (con71 72 [] (by simp [KFL]) (fun w=>!Yj w) l.wells (fun w _=>Zks w) (by have:=hs.1;omega)) ?_
 dsimp only [go_sem,rA,rM,rS]
 refine Zf4 (res:=B (l.legs.any fun x=>!XR l.wells.length x)) (by simp [FLT]) ?_ ?_
 . dsimp only [go_sem,rA,rM,rS]
   exact con74 75 [.ps (Zf l) 0] (by simp [Zf,Zc,Zj,Zg,Za,KFL,KF]) (fun x=>!XR l.wells.length x) l.legs (fun x hx=>ZqP l x hs hx) (by have:=hs.2.1;omega)
 dsimp only [go_sem,rA,rM,rS]
 repeat (first | (refine gb ?_;dsimp only [go_sem,rA,rM,rS]) | (refine call (V4 _ _ _ _) ?_;dsimp only [go_sem,rA,rM,rS]))
 simp only [List.length_map]
 have key:ZW l = !(!inR 1 12 l.wells.length || decide ((l.legs.length:Int) > 24) || !(!l.wells.any fun w=>!Yj w) || !(!l.legs.any fun x=>!XR l.wells.length x)):=by
  simp only [ZW,List.all_eq_not_any_not];grind
 rw [key]
 refine br ?_ ?_
 . intro h
   dsimp only [go_sem,rA,rM,rS]
   rw [h];rfl
 . intro h
   dsimp only [go_sem,rA,rM,rS]
   rw [h];rfl
theorem Zdw {w:Well} {s:Span} {n:Int} (hw:Yj w=true) (h1:0<=s.lo) (h2:s.lo<=w.room) (h3:0<=s.hi) (h4:s.hi<=w.room) (h5:-200000<=n) (h6:n<=200000) :
 IntKind.i64.wrap (s.lo+IntKind.i64.wrap (n * w.yld.lo))=s.lo+n * w.yld.lo/\IntKind.i64.wrap (s.hi+IntKind.i64.wrap (n * w.yld.hi))=s.hi+n * w.yld.hi:=by
 simp only [Yj,W3,inR,Bool.and_eq_true,decide_eq_true_eq] at hw
 have key:∀ y:Int,0<=y->y<=10000000->-2000000000000<=n * y/\n * y<=2000000000000:=fun y a b=>by
  constructor
  . have:=Int.mul_le_mul_of_nonneg_right h5 a;omega
  . have:=Int.mul_le_mul_of_nonneg_right h6 a;omega
 have k1:=key w.yld.lo (by omega) (by omega)
 have k2:=key w.yld.hi (by omega) (by omega)
 rw [Zp (n:=n * w.yld.lo) (by omega) (by omega),Zp (n:=n * w.yld.hi) (by omega) (by omega),Zp (by omega) (by omega),Zp (by omega) (by omega)]
 exact ⟨rfl,rfl⟩
theorem Zf1 {w:Well} {s:Span} {n:Int} (hw:Yj w=true) (h1:0<=s.lo) (h2:s.lo<=w.room) (h3:0<=s.hi) (h4:s.hi<=w.room) (h5:-200000<=n) (h6:n<=200000):-2000000000000<=(YO w s n).lo:=by
 simp only [Yj,W3,inR,Bool.and_eq_true,decide_eq_true_eq] at hw
 have k1:-2000000000000<=n * w.yld.lo:=by
  have:=Int.mul_le_mul_of_nonneg_right h5 (show 0<=w.yld.lo by omega);omega
 simp only [YO];omega
theorem ZcD (w:Well) (s:Span) (n:Int) (hw:Yj w=true) (h1:0<=s.lo) (h2:s.lo<=w.room) (h3:0<=s.hi) (h4:s.hi<=w.room) (h5:-200000<=n) (h6:n<=200000) :
 Ct Try.prog 59 [.agg (Zc w),.agg (Ze s),I n] (.agg (Ze (YO w s n))):=by
 obtain ⟨k1,k2⟩:=Zdw hw h1 h2 h3 h4 h5 h6
 refine t59.1 (by simp [Zc,Ze,KFL,KF]) (by simp [Ze,KFL,KF]) ?_
 dsimp only [c59,r59,Zc,Ze,go_sem,rA,rM,rS]
 simp only [k1,k2,YO]
def ZcP (r:Span × Int × Int):SV:=.tup [.agg (Ze r.1),I r.2.1,I r.2.2]
theorem ZdQ {l:Land} {well:Int} (h:inR 0 (l.wells.length - 1) well=true):∃ (k:Nat) (hk:k < l.wells.length),well=(k:Int)/\l.wells[well.toNat]? = some l.wells[k]:=by
 simp only [inR,decide_eq_true_eq] at h
 refine ⟨well.toNat,by omega,by omega,?_⟩
 rw [List.getElem?_eq_getElem (by omega)]
theorem UG (l:Land) (hs:XE l) (well day:Int) (draws:List Draw) (hd:draws.length<=1000) :
 Ct Try.prog 17 [.agg (Zf l),I well,.sl false 3 (draws.map Zh),I day] (ZcP (Z4 l well draws day)):=by
 have hw1:IntKind.i64.wrap ((l.wells.length:Int) - 1)=(l.wells.length:Int) - 1:=Zp (by omega) (by have:=hs.1;omega)
 refine t17.1 (by simp [Zf,Zc,Zj,Zg,Zh,Za,KFL,KF]) (by simp [ZcP,Ze,KFL,KF]) ?_
 dsimp only [c17,r17,Zf,go_sem,rA,rM,rS]
 refine call (UH l hs) ?_
 dsimp only [go_sem,rA,rM,rS]
 by_cases ho:ZW l=true
 case neg =>
  rw [if_neg ho]
  refine ZP rfl ?_
  dsimp only [go_sem,rA,rM,rS]
  simp [Z4,ho,ZcP,Ze]
 rw [if_pos ho]
 refine ZF rfl ?_
 dsimp only [go_sem,rA,rM,rS]
 simp only [List.length_map,hw1]
 repeat (first | (refine gb ?_;dsimp only [go_sem,rA,rM,rS]) | (refine call (V4 _ _ _ _) ?_;dsimp only [go_sem,rA,rM,rS]))
 by_cases ha:(inR 0 (l.wells.length - 1) well && inR 0 100000 day)=true
 case neg =>
  refine ZP (by grind) ?_
  dsimp only [go_sem,rA,rM,rS]
  simp [Z4,ho,ZcP,Ze,ha]
 refine ZF (by grind) ?_
 dsimp only [go_sem,rA,rM,rS]
 by_cases hm:draws.length > 200
 case pos =>
  refine ZP (by simp;omega) ?_
  dsimp only [go_sem,rA,rM,rS]
  simp [Z4,ho,ZcP,Ze,ha,hm]
 refine ZF (by simp;omega) ?_
 dsimp only [go_sem,rA,rM,rS]
 refine YR (fun s:Nat × Int=>[(50,I s.1),(12,I s.2)]) (fun _=>[]) (fun s=>s.1<=draws.length/\ZY l.wells.length s.2 (draws.drop s.1)=ZY l.wells.length 0 draws) (fun s=>draws.length - s.1) (0,0) ⟨Nat.zero_le _,rfl⟩ ?_ ?_
 . (refine Zi ?_ ?_ ?_ rfl rfl<;>dsimp only [Zg,Zc,Zj,Zh,id,go_sem,rA,rM,rS]<;>simp [Zg,Zc,Zj,Zh,Za,Zd,KFR,KFL,KF,Zb,mtO,nbr])
 . rintro ⟨k,last⟩ ⟨hk,hi⟩
   simp only at hk hi
   dsimp only [go_sem,rA,rM,rS]
   by_cases hlt:k < draws.length
   . refine ZP (by simpa using hlt) ?_
     dsimp only [go_sem,rA,rM,rS]
     refine Zy k hlt rfl ?_
     dsimp only [Zh,go_sem,rA,rM,rS]
     simp only [List.length_map,hw1]
     repeat (first | (refine gb ?_;dsimp only [go_sem,rA,rM,rS]) | (refine call (V4 _ _ _ _) ?_;dsimp only [go_sem,rA,rM,rS]))
     have hdr:draws.drop k=draws[k] :: draws.drop (k+1):=List.drop_eq_getElem_cons hlt
     rw [hdr] at hi
     simp only [ZY] at hi
     refine br ?_ ?_
     . intro h
       dsimp only [go_sem,rA,rM,rS]
       have:ZY l.wells.length 0 draws=false:=by rw [<- hi];grind
       simp [Z4,ho,ZcP,Ze,ha,hm,this]
     . intro h
       dsimp only [go_sem,rA,rM,rS]
       rw [Zp (n:=(k:Int)+1) (by omega) (by omega)]
       refine ⟨(k+1,draws[k].day),⟨hlt,?_⟩,by simp only;omega,?_⟩
       . simp only;grind
       . (refine Zi ?_ ?_ ?_ rfl rfl<;>dsimp only [Zg,Zc,Zj,Zh,id,go_sem,rA,rM,rS]<;>simp [Zg,Zc,Zj,Zh,Za,Zd,KFR,KFL,KF,Zb,mtO,nbr])
   . refine ZF (by simp;omega) ?_
     dsimp only [go_sem,rA,rM,rS]
     have hk':k=draws.length:=by omega
     subst hk'
     simp only [List.drop_length,ZY] at hi
     obtain ⟨kw,hkw,rfl,hget⟩:=ZdQ (Bool.and_eq_true_iff.1 ha).1
     refine Zy kw hkw rfl ?_
     dsimp only [Zc,go_sem,rA,rM,rS]
     have hwf:Z4 l kw draws day=Yc l.wells[kw] kw day l.wells[kw].has (-1) 0 draws:=by
      simp only [Z4,ho,ha,hm,<- hi,hget];simp
     rw [hwf]
     have hok:=YY ho l.wells[kw] (List.getElem_mem _)
     have hmem:=Vc hi.symm (Int.le_refl _)
     have hday:0<=day/\day<=100000:=by simp only [inR,Bool.and_eq_true,decide_eq_true_eq] at ha;omega
     have hroom:0<=l.wells[kw].has.lo/\l.wells[kw].has.lo<=l.wells[kw].room/\0<=l.wells[kw].has.hi/\l.wells[kw].has.hi<=l.wells[kw].room/\l.wells[kw].room<=1000000000:=by
      simp only [Yj,W3,inR,Bool.and_eq_true,decide_eq_true_eq] at hok;omega
     have hroom2:∀ x:Int,x<=l.wells[kw].room->x<=1000000000:=fun x h=>by omega
     refine YR (fun s:Nat × Span × Int=>[(91,I s.1),(17,I s.2.2)]) (fun s=>[(3,.cells (Ze s.2.1) 29)])
      (fun s=>s.1<=draws.length/\Yc l.wells[kw] kw day s.2.1 s.2.2 s.1 (draws.drop s.1)=Yc l.wells[kw] kw day l.wells[kw].has (-1) 0 draws /\
       0<=s.2.1.lo/\s.2.1.lo<=l.wells[kw].room/\0<=s.2.1.hi/\s.2.1.hi<=l.wells[kw].room/\-1<=s.2.2/\s.2.2<=100000) (fun s=>draws.length - s.1) (0,l.wells[kw].has,-1)
      ⟨Nat.zero_le _,rfl,hroom.1,hroom.2.1,hroom.2.2.1,hroom.2.2.2.1,by simp,by simp⟩ ?_ ?_
     . (refine Zi ?_ ?_ ?_ rfl rfl<;>dsimp only [Zg,Zc,Zj,Zh,Ze,id,go_sem,rA,rM,rS]<;>simp [Zg,Zc,Zj,Zh,Ze,Za,Zd,KFR,KFL,KF,Zb,mtO,nbr])
     . rintro ⟨k,now,ev⟩ ⟨hk2,hi2,n1,n2,n3,n4,e1,e2⟩
       simp only at hk2 hi2 n1 n2 n3 n4 e1 e2
       dsimp only [Ze,go_sem,rA,rM,rS]
       by_cases hlt2:k < draws.length
       . refine ZP (by simpa using hlt2) ?_
         dsimp only [go_sem,rA,rM,rS]
         refine Zy k hlt2 rfl ?_
         dsimp only [Zh,go_sem,rA,rM,rS]
         repeat (first | (refine gb ?_;dsimp only [go_sem,rA,rM,rS]))
         have hx:=hmem draws[k] (List.getElem_mem _)
         have hdr:draws.drop k=draws[k] :: draws.drop (k+1):=List.drop_eq_getElem_cons hlt2
         rw [hdr] at hi2
         simp only [Yc] at hi2
         by_cases hc:(draws[k].well != (kw:Int) || decide (draws[k].day ≥ day))=true
         . refine ZP hc ?_
           dsimp only [go_sem,rA,rM,rS]
           rw [if_pos hc] at hi2
           rw [Zp (n:=(k:Int)+1) (by omega) (by omega)]
           refine ⟨(k+1,now,ev),⟨hlt2,hi2,n1,n2,n3,n4,e1,e2⟩,by simp only;omega,?_⟩
           (refine Zi ?_ ?_ ?_ rfl rfl<;>dsimp only [Zg,Zc,Zj,Zh,Ze,id,go_sem,rA,rM,rS]<;>simp [Zg,Zc,Zj,Zh,Ze,Za,Zd,KFR,KFL,KF,Zb,mtO,nbr])
         . refine ZF (by simpa using hc) ?_
           rw [if_neg hc] at hi2
           dsimp only [go_sem,rA,rM,rS]
           rw [Zp (n:=draws[k].day - ev) (by omega) (by omega)]
           refine call (ZcD l.wells[kw] now (draws[k].day - ev) hok n1 n2 n3 n4 (by omega) (by omega)) ?_
           dsimp only [Ze,go_sem,rA,rM,rS]
           have hbig:-2000000000000<=(YO l.wells[kw] now (draws[k].day - ev)).lo:=Zf1 hok n1 n2 n3 n4 (by omega) (by omega)
           have hf2:(YO l.wells[kw] now (draws[k].day - ev)).hi<=l.wells[kw].room:=by simp only [YO];omega
           have hf1:(YO l.wells[kw] now (draws[k].day - ev)).lo<=l.wells[kw].room:=by simp only [YO];omega
           generalize hF:YO l.wells[kw] now (draws[k].day - ev)=F at *
           by_cases hdry:F.hi < draws[k].water
           . refine ZP (by simpa using hdry) ?_
             dsimp only [go_sem,rA,rM,rS]
             rw [if_pos hdry] at hi2
             rw [<- hi2];rfl
           . refine ZF (by simpa using hdry) ?_
             dsimp only [go_sem,rA,rM,rS]
             rw [if_neg hdry] at hi2
             rw [Zp (n:=F.lo - draws[k].water) (by omega) (by omega),Zp (n:=F.hi - draws[k].water) (by omega) (by omega),Zp (n:=(k:Int)+1) (by omega) (by omega)]
             refine ⟨(k+1,⟨max 0 (F.lo - draws[k].water),F.hi - draws[k].water⟩,draws[k].day),⟨hlt2,hi2,by simp only;omega,by simp only;omega,by simp only;omega,by simp only;omega,by simp only;omega,by simp only;omega⟩,by simp only;omega,?_⟩
             (refine Zi ?_ ?_ ?_ rfl rfl<;>dsimp only [Zg,Zc,Zj,Zh,Ze,id,go_sem,rA,rM,rS]<;>simp [Zg,Zc,Zj,Zh,Ze,Za,Zd,KFR,KFL,KF,Zb,mtO,nbr])
       . refine ZF (by simp;omega) ?_
         dsimp only [go_sem,rA,rM,rS]
         rw [Zp (n:=day - 1) (by omega) (by omega),Zp (n:=day - 1 - ev) (by omega) (by omega)]
         refine call (ZcD l.wells[kw] now (day - 1 - ev) hok n1 n2 n3 n4 (by omega) (by omega)) ?_
         dsimp only [Ze,go_sem,rA,rM,rS]
         have hk':k=draws.length:=by omega
         subst hk'
         simp only [List.drop_length,Yc] at hi2
         rw [<- hi2];rfl
def Zcr (r:Int × Int):SV:=.tup [I r.1,I r.2]
theorem Zgh {w:Well} {water teams:Int} (hw:Yj w=true) (h1:inR 0 1000000000 water=true) (h2:inR 1 100 teams=true) :
 IntKind.i64.wrap (1000000 * teams)=1000000 * teams/\IntKind.i64.wrap (water * w.depth)=water * w.depth/\IntKind.i64.wrap (water * w.depth+1000000 * teams)=water * w.depth+1000000 * teams /\
 IntKind.i64.wrap (water * w.depth+1000000 * teams - 1)=water * w.depth+1000000 * teams - 1/\1000000 * teams≠0 /\
 IntKind.i64.wrap ((water * w.depth+1000000 * teams - 1).tdiv (1000000 * teams))=(water * w.depth+1000000 * teams - 1).tdiv (1000000 * teams):=by
 simp only [Yj,W3,inR,Bool.and_eq_true,decide_eq_true_eq] at hw h1 h2
 have k1:0<=water * w.depth:=Int.mul_nonneg h1.1 (by omega)
 have k2:water * w.depth<=1000000000 * 200:=Int.mul_le_mul h1.2 (by omega) (by omega) (by omega)
 refine ⟨Zp (by omega) (by omega),Zp (by omega) (by omega),Zp (by omega) (by omega),Zp (by omega) (by omega),by omega,Zp ?_ ?_⟩
 . have:=Int.tdiv_nonneg (a:=water * w.depth+1000000 * teams - 1) (b:=1000000 * teams) (by omega) (by omega);omega
 . have:=Int.tdiv_le_self (a:=water * w.depth+1000000 * teams - 1) (1000000 * teams) (by omega);omega
theorem Zdh (l:Land) (hs:XE l) (well water teams:Int):Ct Try.prog 19 [.agg (Zf l),I well,I water,I teams] (Zcr (Ze8 l well water teams)):=by
 have hw1:IntKind.i64.wrap ((l.wells.length:Int) - 1)=(l.wells.length:Int) - 1:=Zp (by omega) (by have:=hs.1;omega)
 refine t19.1 (by simp [Zf,Zc,Zj,Zg,Za,KFL,KF]) (by simp [Zcr,KFL,KF]) ?_
 dsimp only [c19,r19,Zf,go_sem,rA,rM,rS]
 refine call (UH l hs) ?_
 dsimp only [go_sem,rA,rM,rS]
 by_cases ho:ZW l=true
 case neg =>
  rw [if_neg ho]
  refine ZP rfl ?_
  dsimp only [go_sem,rA,rM,rS]
  simp [Ze8,ho,Zcr]
 rw [if_pos ho]
 refine ZF rfl ?_
 dsimp only [go_sem,rA,rM,rS]
 simp only [List.length_map,hw1]
 repeat (first | (refine gb ?_;dsimp only [go_sem,rA,rM,rS]) | (refine call (V4 _ _ _ _) ?_;dsimp only [go_sem,rA,rM,rS]))
 by_cases ha:(inR 0 (l.wells.length - 1) well && inR 0 1000000000 water && inR 1 100 teams)=true
 case neg =>
  refine ZP (by grind) ?_
  dsimp only [go_sem,rA,rM,rS]
  simp only [Ze8,ho,Zcr]
  rw [if_neg (by simp),if_pos (by grind)]
 refine ZF (by grind) ?_
 dsimp only [go_sem,rA,rM,rS]
 simp only [Bool.and_eq_true] at ha
 obtain ⟨⟨a1,a2⟩,a3⟩:=ha
 obtain ⟨kw,hkw,rfl,hget⟩:=ZdQ a1
 refine Zy kw hkw rfl ?_
 dsimp only [Zc,go_sem,rA,rM,rS]
 obtain ⟨q1,q2,q3,q4,q5,q6⟩:=Zgh (YY ho l.wells[kw] (List.getElem_mem _)) a2 a3
 simp only [q1,q2,q3,q4]
 refine div0 q5 ?_
 dsimp only [go_sem,rA,rM,rS]
 rw [q6]
 simp only [Ze8,ho,hget,Zcr,a1,a2,a3]
 rfl
theorem ZmW (l:Land) (hs:XE l):Ct Try.prog 60 [.agg (Zf l)] (B (ZW l)):=by
 have hw1:IntKind.i64.wrap ((l.wells.length:Int) - 1)=(l.wells.length:Int) - 1:=Zp (by omega) (by have:=hs.1;omega)
 refine t60.1 (by simp [Zf,Zc,Zj,Zg,Za,KFL,KF]) (by simp [KFL,KF]) ?_
 dsimp only [c60,r60,Zf,go_sem,rA,rM,rS]
 refine call (Wk _ _ _) ?_
 dsimp only [go_sem,rA,rM,rS]
 repeat (refine gb ?_;dsimp only [go_sem,rA,rM,rS])
 simp only [List.length_map]
 refine br ?_ ?_
 . intro h
   dsimp only [go_sem,rA,rM,rS]
   have:ZW l=false:=by simp only [ZW];grind
   rw [this]
 intro h
 dsimp only [go_sem,rA,rM,rS]
 have ho1:ZW l=(l.wells.all Yj && l.legs.all (XR l.wells.length)):=by simp only [ZW];grind
 refine YR (fun k:Nat=>[(3,I k)]) (fun _=>[]) (fun k=>k<=l.wells.length/\(l.wells.drop k).all Yj=l.wells.all Yj) (fun k=>l.wells.length - k) 0 ⟨Nat.zero_le _,rfl⟩ ?_ ?_
 . (refine Zi ?_ ?_ ?_ rfl rfl<;>dsimp only [Zg,Zc,Zj,id,go_sem,rA,rM,rS]<;>simp [Zg,Zc,Zj,Za,Zd,KFR,KFL,KF,Zb,mtO,nbr])
 intro k ⟨hk,hi⟩
 dsimp only [go_sem,rA,rM,rS]
 by_cases hlt:k < l.wells.length
 . refine ZP (by simpa using hlt) ?_
   dsimp only [go_sem,rA,rM,rS]
   refine Zy k hlt rfl ?_
   dsimp only [Zc,go_sem,rA,rM,rS]
   repeat (first | (refine gb ?_;dsimp only [go_sem,rA,rM,rS]) | (refine call (Wk _ _ _) ?_;dsimp only [go_sem,rA,rM,rS]) | (refine call (XK l.wells[k].yld _ _) ?_;dsimp only [go_sem,rA,rM,rS]) | (refine call (XK l.wells[k].has _ _) ?_;dsimp only [go_sem,rA,rM,rS]))
   rw [List.drop_eq_getElem_cons hlt,List.all_cons] at hi
   refine br ?_ ?_
   . intro hb
     dsimp only [go_sem,rA,rM,rS]
     have:Yj l.wells[k]=false:=by simp only [Yj];grind
     rw [ho1,<- hi,this];rfl
   . intro hb
     dsimp only [go_sem,rA,rM,rS]
     rw [Zp (n:=(k:Int)+1) (by omega) (by have:=hs.1;omega)]
     have:Yj l.wells[k]=true:=by simp only [Yj];grind
     rw [this,Bool.true_and] at hi
     refine ⟨k+1,⟨hlt,hi⟩,by omega,?_⟩
     (refine Zi ?_ ?_ ?_ rfl rfl<;>dsimp only [Zg,Zc,Zj,id,go_sem,rA,rM,rS]<;>simp [Zg,Zc,Zj,Za,Zd,KFR,KFL,KF,Zb,mtO,nbr])
 refine ZF (by simp;omega) ?_
 dsimp only [go_sem,rA,rM,rS]
 have hke:k=l.wells.length:=by omega
 subst hke
 rw [List.drop_length] at hi
 rw [<- hi] at ho1
 rw [show ZW l=l.legs.all (XR l.wells.length) from by rw [ho1];simp]
 refine YR (fun k:Nat=>[(5,I k)]) (fun _=>[]) (fun k=>k<=l.legs.length/\(l.legs.drop k).all (XR l.wells.length)=l.legs.all (XR l.wells.length)) (fun k=>l.legs.length - k) 0 ⟨Nat.zero_le _,rfl⟩ ?_ ?_
 . (refine Zi ?_ ?_ ?_ rfl rfl<;>dsimp only [Zg,Zc,Zj,id,go_sem,rA,rM,rS]<;>simp [Zg,Zc,Zj,Za,Zd,KFR,KFL,KF,Zb,mtO,nbr])
 intro k ⟨hk,hi⟩
 dsimp only [go_sem,rA,rM,rS]
 by_cases hlt:k < l.legs.length
 . refine ZP (by simpa using hlt) ?_
   dsimp only [go_sem,rA,rM,rS]
   refine Zy k hlt rfl ?_
   dsimp only [Zj,go_sem,rA,rM,rS]
   simp only [List.length_map,hw1]
   repeat (first | (refine gb ?_;dsimp only [go_sem,rA,rM,rS]) | (refine call (Wk _ _ _) ?_;dsimp only [go_sem,rA,rM,rS]) | (refine call (XK l.legs[k].long _ _) ?_;dsimp only [go_sem,rA,rM,rS]))
   rw [List.drop_eq_getElem_cons hlt,List.all_cons] at hi
   simp only [List.length_map]
   have hgl:=hs.2.2 l.legs[k] (List.getElem_mem _)
   generalize l.legs[k]=x at *
   refine br ?_ ?_
   . intro hb
     dsimp only [go_sem,rA,rM,rS]
     have:XR l.wells.length x=false:=by simp only [XR];grind
     rw [<- hi,this];rfl
   . intro hb
     dsimp only [go_sem,rA,rM,rS]
     have hx:XR l.wells.length x=Yr 0 x.gates:=by simp only [XR];grind
     refine YR (fun s:Nat × Int=>[(8,I s.1),(7,I s.2)]) (fun _=>[]) (fun s=>s.1<=x.gates.length/\Yr (s.2+1) (x.gates.drop s.1)=Yr 0 x.gates) (fun s=>x.gates.length - s.1) (0,-1) ⟨Nat.zero_le _,rfl⟩ ?_ ?_
     . (refine Zi ?_ ?_ ?_ rfl rfl<;>dsimp only [Zg,Zc,Zj,id,go_sem,rA,rM,rS]<;>simp [Zg,Zc,Zj,Za,Zd,KFR,KFL,KF,Zb,mtO,nbr])
     rintro ⟨j,last⟩ ⟨hj,hji⟩
     simp only at hj hji
     dsimp only [go_sem,rA,rM,rS]
     by_cases hlt2:j < x.gates.length
     . refine ZP (by simpa using hlt2) ?_
       dsimp only [go_sem,rA,rM,rS]
       refine Zy j hlt2 rfl ?_
       dsimp only [Zg,go_sem,rA,rM,rS]
       repeat (first | (refine gb ?_;dsimp only [go_sem,rA,rM,rS]) | (refine call (XK x.gates[j].opens _ _) ?_;dsimp only [go_sem,rA,rM,rS]) | (refine call (XK x.gates[j].shuts _ _) ?_;dsimp only [go_sem,rA,rM,rS]))
       rw [List.drop_eq_getElem_cons hlt2] at hji
       simp only [Yr] at hji
       refine br ?_ ?_
       . intro hb2
         dsimp only [go_sem,rA,rM,rS]
         have:XR l.wells.length x=false:=by rw [hx,<- hji];simp only [inR];grind
         rw [<- hi,this];rfl
       . intro hb2
         dsimp only [go_sem,rA,rM,rS]
         rw [Zp (n:=(j:Int)+1) (by omega) (by omega)]
         refine ⟨(j+1,x.gates[j].shuts.hi),⟨hlt2,?_⟩,by simp only;omega,?_⟩
         . simp only;rw [<- hji];simp only [inR];grind
         . (refine Zi ?_ ?_ ?_ rfl rfl<;>dsimp only [Zg,Zc,Zj,id,go_sem,rA,rM,rS]<;>simp [Zg,Zc,Zj,Za,Zd,KFR,KFL,KF,Zb,mtO,nbr])
     . refine ZF (by simp;omega) ?_
       dsimp only [go_sem,rA,rM,rS]
       rw [Zp (n:=(k:Int)+1) (by omega) (by have:=hs.2.1;omega)]
       have hje:j=x.gates.length:=by omega
       subst hje
       rw [List.drop_length] at hji
       simp only [Yr] at hji
       rw [hx,<- hji,Bool.true_and] at hi
       refine ⟨k+1,⟨hlt,hi⟩,by omega,?_⟩
       (refine Zi ?_ ?_ ?_ rfl rfl<;>dsimp only [Zg,Zc,Zj,id,go_sem,rA,rM,rS]<;>simp [Zg,Zc,Zj,Za,Zd,KFR,KFL,KF,Zb,mtO,nbr])
 refine ZF (by simp;omega) ?_
 dsimp only [go_sem,rA,rM,rS]
 have hke:k=l.legs.length:=by omega
 subst hke
 rw [List.drop_length] at hi
 rw [<- hi];rfl
theorem ZmV (l:Land):Ct Try.prog 16 [.agg (Zf l)] (B (Zap l)):=by
 refine t16.1 (by simp [Zf,Zc,Zj,Zg,Za,KFL,KF]) (by simp [KFL,KF]) ?_
 dsimp only [c16,r16,Zf,go_sem,rA,rM,rS]
 repeat (refine gb ?_;dsimp only [go_sem,rA,rM,rS])
 simp only [List.length_map]
 refine br ?_ ?_
 . intro h
   dsimp only [go_sem,rA,rM,rS]
   (simp only [Zap,Option.some.injEq,SV.v.injEq,Value.bool.injEq]<;>grind)
 intro h
 dsimp only [go_sem,rA,rM,rS]
 have hg:Zap l=l.legs.any fun x=>decide (x.gates.length > 20):=by simp only [Zap];grind
 have hlen:l.legs.length<=40:=by grind
 rw [hg]
 refine YR (fun k:Nat=>[(3,I k)]) (fun _=>[]) (fun k=>k<=l.legs.length/\((l.legs.drop k).any fun x=>decide (x.gates.length > 20))=l.legs.any fun x=>decide (x.gates.length > 20)) (fun k=>l.legs.length - k) 0 ⟨Nat.zero_le _,rfl⟩ ?_ ?_
 . (refine Zi ?_ ?_ ?_ rfl rfl<;>dsimp only [Zg,Zc,Zj,id,go_sem,rA,rM,rS]<;>simp [Zg,Zc,Zj,Za,Zd,KFR,KFL,KF,Zb,mtO,nbr])
 intro k ⟨hk,hi⟩
 dsimp only [go_sem,rA,rM,rS]
 by_cases hlt:k < l.legs.length
 . refine ZP (by simpa using hlt) ?_
   dsimp only [go_sem,rA,rM,rS]
   refine Zy k hlt rfl ?_
   dsimp only [Zj,go_sem,rA,rM,rS]
   rw [List.drop_eq_getElem_cons hlt,List.any_cons] at hi
   refine br ?_ ?_
   . intro hb
     dsimp only [go_sem,rA,rM,rS]
     have:decide (l.legs[k].gates.length > 20)=true:=by simp at hb ⊢;omega
     rw [<- hi,this];rfl
   . intro hb
     dsimp only [go_sem,rA,rM,rS]
     rw [Zp (n:=(k:Int)+1) (by omega) (by omega)]
     have:decide (l.legs[k].gates.length > 20)=false:=by simp at hb ⊢;omega
     rw [this,Bool.false_or] at hi
     refine ⟨k+1,⟨hlt,hi⟩,by omega,?_⟩
     (refine Zi ?_ ?_ ?_ rfl rfl<;>dsimp only [Zg,Zc,Zj,id,go_sem,rA,rM,rS]<;>simp [Zg,Zc,Zj,Za,Zd,KFR,KFL,KF,Zb,mtO,nbr])
 refine ZF (by simp;omega) ?_
 dsimp only [go_sem,rA,rM,rS]
 have hke:k=l.legs.length:=by omega
 subst hke
 rw [List.drop_length] at hi
 rw [<- hi];rfl
theorem Zgo (l:Land) (hs:XE l) (draws:List Draw) (hd:draws.length<=1000):Ct Try.prog 55 [.agg (Zf l),.sl false 3 (draws.map Zh)] (B (ZY l.wells.length 0 draws)):=by
 have hw1:IntKind.i64.wrap ((l.wells.length:Int) - 1)=(l.wells.length:Int) - 1:=Zp (by omega) (by have:=hs.1;omega)
 refine t55.1 (by simp [Zf,Zc,Zj,Zg,Zh,Za,KFL,KF]) (by simp [KFL,KF]) ?_
 dsimp only [c55,r55,Zf,go_sem,rA,rM,rS]
 refine YR (fun s:Nat × Int=>[(5,I s.1)]) (fun _=>[]) (fun s=>s.1<=draws.length/\ZY l.wells.length s.2 (draws.drop s.1)=ZY l.wells.length 0 draws/\(s.1=0->s.2=0)/\0<=s.2/\(∀ h:s.1 - 1 < draws.length,0 < s.1->s.2=draws[s.1 - 1].day)) (fun s=>draws.length - s.1) (0,0)
  ⟨Nat.zero_le _,rfl,fun _=>rfl,Int.le_refl _,fun _ h=>absurd h (by simp)⟩ ?_ ?_
 . (refine Zi ?_ ?_ ?_ rfl rfl<;>dsimp only [Zg,Zc,Zj,Zh,id,go_sem,rA,rM,rS]<;>simp [Zg,Zc,Zj,Zh,Za,Zd,KFR,KFL,KF,Zb,mtO,nbr])
 rintro ⟨k,last⟩ ⟨hk,hi,hz,h0,hl⟩
 simp only at hk hi hz h0 hl
 dsimp only [go_sem,rA,rM,rS]
 by_cases hlt:k < draws.length
 . refine ZP (by simpa using hlt) ?_
   dsimp only [go_sem,rA,rM,rS]
   refine Zy k hlt rfl ?_
   dsimp only [Zh,go_sem,rA,rM,rS]
   simp only [List.length_map,hw1]
   repeat (first | (refine gb ?_;dsimp only [go_sem,rA,rM,rS]) | (refine call (Wk _ _ _) ?_;dsimp only [go_sem,rA,rM,rS]))
   refine ZoW (k - 1) (Zh (draws[k - 1]'(by omega))) rfl ?_ ?_
   . intro hb
     have hb:k > 0:=by simpa using hb
     exact ⟨by rw [Zp (by omega) (by omega)];omega,by rw [List.getElem?_map,List.getElem?_eq_getElem (by omega)];rfl⟩
   dsimp only [Zh,go_sem,rA,rM,rS]
   repeat (refine gb ?_;dsimp only [go_sem,rA,rM,rS])
   have hdr:draws.drop k=draws[k] :: draws.drop (k+1):=List.drop_eq_getElem_cons hlt
   rw [hdr] at hi
   simp only [ZY] at hi
   have hlast:(!(decide ((k:Int) > 0) && decide (draws[k].day < (draws[k - 1]'(by omega)).day)) && inR 0 100000 draws[k].day)=inR last 100000 draws[k].day:=by
    by_cases hk0:k=0
    . subst hk0;rw [hz rfl];simp
    . have:=hl (by omega) (by omega)
      rw [this] at h0 ⊢
      simp only [inR];grind
   refine br ?_ ?_
   . intro hb
     dsimp only [go_sem,rA,rM,rS]
     rw [<- hi,<- hlast]
     (simp only [Option.some.injEq,SV.v.injEq,Value.bool.injEq]<;>grind)
   . intro hb
     dsimp only [go_sem,rA,rM,rS]
     rw [Zp (n:=(k:Int)+1) (by omega) (by omega)]
     refine ⟨(k+1,draws[k].day),⟨hlt,?_,fun h=>by simp at h,?_,fun h _=>by simp⟩,by simp only;omega,?_⟩
     . rw [<- hi,<- hlast];grind
     . simp only [inR] at hb;grind
     . (refine Zi ?_ ?_ ?_ rfl rfl<;>dsimp only [Zg,Zc,Zj,Zh,id,go_sem,rA,rM,rS]<;>simp [Zg,Zc,Zj,Zh,Za,Zd,KFR,KFL,KF,Zb,mtO,nbr])
 . refine ZF (by simp;omega) ?_
   dsimp only [go_sem,rA,rM,rS]
   have hke:k=draws.length:=by omega
   subst hke
   rw [List.drop_length] at hi
   rw [<- hi];rfl
end Go.Proofs.Ytkjldleglbbkeaa
namespace Go.Azalai
def Yo (p:Span):Bool:=W3 1 100000 p
def Vz (l:Land) (p:Span):Int:=if ZW l=false then 30 else if Yo p=false then 31 else 0
def Za1 (x:Leg) (p:Span):Span:=⟨(x.long.lo+p.hi - 1).tdiv p.hi,(x.long.hi+p.lo - 1).tdiv p.lo⟩
def UA (n day:Int) (o s:Gate->Int):List Gate->Int
 | []=>100001
 | g :: r=>if max day (o g)+n - 1<=s g then max day (o g) else UA n day o s r
def ZbT (n day:Int) (o s:Gate->Int) (acc:Int):List Gate->Int
 | []=>acc
 | g :: r=>ZbT n day o s (if max day (o g)+n - 1<=s g then min (min acc (max day (o g))) 100001 else acc) r
def Zrq (x:Leg) (p:Span) (day:Int):Int:=UA (Za1 x p).lo day (·.opens.lo) (·.shuts.hi) x.gates
def Zo6 (x:Leg) (p:Span) (day:Int):Int:=UA (Za1 x p).hi day (·.opens.hi) (·.shuts.lo) x.gates
def Zjp (l:Land) (leg:Int) (p:Span):Span × Int :=
 if Vz l p≠0 then (⟨0,0⟩,Vz l p)
 else if inR 0 (l.legs.length - 1) leg=false then (⟨0,0⟩,2)
 else match l.legs[leg.toNat]? with
  | some x=>(Za1 x p,0)
  | none=>(⟨0,0⟩,0)
def ZcH (l:Land) (leg day:Int) (p:Span):Span × Int :=
 if Vz l p≠0 then (⟨0,0⟩,Vz l p)
 else if (inR 0 (l.legs.length - 1) leg && inR 0 100000 day)=false then (⟨0,0⟩,2)
 else match l.legs[leg.toNat]? with
  | some x=>(⟨Zrq x p day,Zo6 x p day⟩,0)
  | none=>(⟨0,0⟩,0)
structure GoodLeg (x:Leg):Prop where
 l1:1<=x.long.lo
 l2:x.long.lo<=x.long.hi
 l3:x.long.hi<=1000000
 g1:x.gates.length<=6
 g2:Yr 0 x.gates=true
theorem YH {l:Land} (h:ZW l=true):∀ x ∈ l.legs,GoodLeg x:=by
 simp only [ZW,Bool.and_eq_true,List.all_eq_true] at h
 intro x hx
 have:=h.2 x hx
 simp only [XR,W3,Bool.and_eq_true,decide_eq_true_eq] at this
 exact ⟨by omega,by omega,by omega,by omega,this.2⟩
theorem YZ:∀ {l:List Gate} {next:Int},Yr next l=true->0<=next->∀ g ∈ l,0<=g.opens.lo/\g.opens.lo<=g.opens.hi/\g.opens.hi<=100000/\0<=g.shuts.lo/\g.shuts.lo<=g.shuts.hi/\g.shuts.hi<=100000/\next<=g.opens.lo
 | [],_,_,_,g,hg=>by simp at hg
 | x :: l,next,h,h0,g,hg=>by
  simp only [Yr,W3,inR,Bool.and_eq_true,decide_eq_true_eq] at h
  rcases List.mem_cons.1 hg with rfl | hg
  . omega
  . have:=YZ h.2 (by omega) g hg;omega
theorem Zbs {n day:Int} {o s:Gate->Int} (hn:1<=n) (ho:∀ g,(0<=g.opens.lo/\g.opens.lo<=g.opens.hi/\g.opens.hi<=100000/\0<=g.shuts.lo/\g.shuts.lo<=g.shuts.hi/\g.shuts.hi<=100000)->g.opens.lo<=o g/\s g<=g.shuts.hi) :
 ∀ {l:List Gate} {next acc:Int},Yr next l=true->0<=next->acc<=100001->ZbT n day o s acc l=min acc (UA n day o s l)
 | [],next,acc,_,_,ha=>by simp only [ZbT,UA];omega
 | x :: l,next,acc,h,h0,ha=>by
  have hm:=YZ h h0 x (by simp)
  simp only [Yr,W3,inR,Bool.and_eq_true,decide_eq_true_eq] at h
  have h1:=ho x ⟨hm.1,hm.2.1,hm.2.2.1,hm.2.2.2.1,hm.2.2.2.2.1,hm.2.2.2.2.2.1⟩
  have hrest:∀ (l:List Gate),(∀ g ∈ l,x.shuts.hi+1<=o g)->x.shuts.hi+1<=UA n day o s l:=fun l=>by
   induction l with
   | nil=>intro _;simp only [UA];omega
   | cons g l ih=>intro hg;simp only [UA];have:=hg g (by simp);have:=ih (fun g' h'=>hg g' (by simp [h']));split<;>omega
  have hr:=hrest l (fun g hg=>by
   have q:=YZ h.2 (by omega) g hg
   have:=ho g ⟨q.1,q.2.1,q.2.2.1,q.2.2.2.1,q.2.2.2.2.1,q.2.2.2.2.2.1⟩
   omega)
  simp only [ZbT,UA]
  rw [Zbs hn ho h.2 (by omega) (by split<;>omega)]
  repeat' split
  all_goals first | rfl | omega
theorem ZdY {x:Leg} {p:Span} (h:GoodLeg x) (hp:Yo p=true):1<=(Za1 x p).lo/\(Za1 x p).lo<=1000000/\1<=(Za1 x p).hi/\(Za1 x p).hi<=1000000:=by
 simp only [Yo,W3,decide_eq_true_eq] at hp
 obtain ⟨p1,p2,p3⟩:=hp
 obtain ⟨h1,h2,h3,_,_⟩:=h
 simp only [Za1]
 have key:∀ a b:Int,1<=a->a<=1000000->1<=b->1<=(a+b - 1).tdiv b/\(a+b - 1).tdiv b<=1000000:=fun a b ha ha2 hb=>by
  rw [Int.tdiv_eq_ediv_of_nonneg (by omega)]
  constructor
  . exact Int.le_ediv_of_mul_le (by omega) (by omega)
  . refine Int.le_of_lt_add_one (Int.ediv_lt_of_lt_mul (by omega) ?_)
    have:1 * a<=b * a:=Int.mul_le_mul_of_nonneg_right hb (by omega)
    have e:(1000000+1) * b=b * 1000000+b:=by rw [Int.add_mul];omega
    have:b * a<=b * 1000000:=Int.mul_le_mul_of_nonneg_left ha2 (by omega)
    rw [e]
    have:=Int.mul_le_mul_of_nonneg_left ha2 (show (0:Int)<=b - 1 by omega)
    have q:(b - 1) * a=b * a - a:=by rw [Int.sub_mul];omega
    have q2:(b - 1) * 1000000=b * 1000000 - 1000000:=by rw [Int.sub_mul];omega
    omega
 exact ⟨(key _ _ h1 (by omega) (by omega)).1,(key _ _ h1 (by omega) (by omega)).2,(key _ _ (by omega) h3 p1).1,(key _ _ (by omega) h3 p1).2⟩
end Go.Azalai
namespace Go.Proofs.Ytkjldleglbbkeaa
open Go Go.Sx Go.Azalai
def ZfT (r:Span × Int):SV:=.tup [.agg (Ze r.1),I r.2]
theorem ZiN (l:Land) (hs:XE l):Ct Try.prog 27 [.agg (Zf l)] (I (if ZW l=true then 0 else 30)):=by
 refine t27.1 (by simp [Zf,Zc,Zj,Zg,Za,KFL,KF]) (by simp [KFL,KF]) ?_
 dsimp only [c27,r27,Zf,go_sem,rA,rM,rS]
 refine call (ZmW l hs) ?_
 dsimp only [go_sem,rA,rM,rS]
 refine br ?_ ?_
 . intro h
   dsimp only [go_sem,rA,rM,rS]
   have:ZW l=false:=by simpa using h
   simp [this]
 . intro h
   dsimp only [go_sem,rA,rM,rS]
   have:ZW l=true:=by simpa using h
   simp [this]
theorem ZhM {l:Land} {leg:Int} (h:inR 0 (l.legs.length - 1) leg=true):∃ (k:Nat) (hk:k < l.legs.length),leg=(k:Int)/\l.legs[leg.toNat]? = some l.legs[k]:=by
 simp only [inR,decide_eq_true_eq] at h
 refine ⟨leg.toNat,by omega,by omega,?_⟩
 rw [List.getElem?_eq_getElem (by omega)]
theorem ask0 {l:Land} {p:Span} (h:Vz l p=0):ZW l=true/\Yo p=true:=by
 unfold Vz at h
 cases h1:ZW l<;>cases h2:Yo p<;>simp_all
theorem Zp5 (a b d:Int) (c:Bool):Ct Try.prog 104 [.sl c 1 [[I a],[I b],[I d]]] (I (min (min a b) d)):=by
 refine t104.1 (by simp [KFR,KFL,KF]) (by simp [KFL,KF]) ?_
 dsimp only [c104,r104,go_sem,rA,rM,rS]
 refine ZF (by decide) ?_
 dsimp only [go_sem,rA,rM,rS]
 refine ixs 0 [I a] rfl rfl ?_
 dsimp only [go_sem,rA,rM,rS]
 refine ZdD 3 ?_
 dsimp only [Zs,go_sem,rA,rM,rS]
 refine ZP (by decide) ?_
 dsimp only [Zs,go_sem,rA,rM,rS]
 refine ixs 1 [I b] rfl rfl ?_
 dsimp only [Zs,go_sem,rA,rM,rS]
 refine ZP (by decide) ?_
 dsimp only [Zs,go_sem,rA,rM,rS]
 refine ixs 2 [I d] rfl rfl ?_
 dsimp only [Zs,go_sem,rA,rM,rS]
 refine ZF (by decide) ?_
 dsimp only [go_sem,rA,rM,rS]
theorem WL (a b:Int):Ct Try.prog 94 [.sl true 1 [[I a],[I b]]] (I (min (min a b) 100001)):=by
 refine t94.1 (by simp [KFR,KFL,KF]) (by simp [KFL,KF]) ?_
 dsimp only [c94,r94,go_sem,rA,rM,rS]
 refine Zwz (by simp) ?_
 dsimp only [go_sem,rA,rM,rS]
 refine call (Zp5 a b 100001 false) ?_
 dsimp only [go_sem,rA,rM,rS]
theorem Zdg {n day:Int} {o s:Gate->Int} (hn:1<=n):∀ {l:List Gate},(∀ g ∈ l,s g<=100000)->UA n day o s l<=100001
 | [],_=>by simp only [UA];omega
 | x :: l,h=>by
  have:=h x (by simp)
  have:=Zdg (day:=day) (o:=o) (s:=s) (l:=l) hn (fun g hg=>h g (by simp [hg]))
  simp only [UA];split<;>omega
def Zx (l:Land) (p:Span):List SV:=[.sl false 9 (l.wells.map Zc),.sl false 5 (l.legs.map Zj),I p.lo,I p.hi]
theorem Uj (l:Land) (hs:XE l) (p:Span) (ha:Vz l p=0):Ct Try.prog 63 [.agg (Zf l),.agg (Ze p)] (.tup [.agg (Zx l p),I 0]):=by
 obtain ⟨h1,h2⟩:=ask0 ha
 refine t63.1 (by simp [Zf,Zc,Zj,Zg,Ze,Za,KFL,KF]) (by simp [Zx,Zc,Zj,Zg,Ze,Za,KFL,KF]) ?_
 dsimp only [c63,r63,Zf,Ze,go_sem,rA,rM,rS]
 refine call (UH l hs) ?_
 dsimp only [go_sem,rA,rM,rS]
 refine ZF (by simp [h1]) ?_
 dsimp only [go_sem,rA,rM,rS]
 refine call (Vy 1 100000 p _) ?_
 dsimp only [go_sem,rA,rM,rS]
 refine ZF (by simpa [Yo] using h2) ?_
 dsimp only [Zx,go_sem,rA,rM,rS]
theorem WG (l:Land) (hs:XE l) (p:Span) (ha:Vz l p≠0):Ct Try.prog 63 [.agg (Zf l),.agg (Ze p)] (.tup [.agg [.v (.slice none 0 0),.v (.slice none 0 0),I 0,I 0],I (Vz l p)]):=by
 refine t63.1 (by simp [Zf,Zc,Zj,Zg,Ze,Za,KFL,KF]) (by simp [KFL,KF]) ?_
 dsimp only [c63,r63,Zf,Ze,go_sem,rA,rM,rS]
 refine call (UH l hs) ?_
 dsimp only [go_sem,rA,rM,rS]
 by_cases h1:ZW l=true
 case neg =>
  refine ZP (by simp [h1]) ?_
  dsimp only [go_sem,rA,rM,rS]
  simp [Vz,h1]
 refine ZF (by simp [h1]) ?_
 dsimp only [go_sem,rA,rM,rS]
 refine call (Vy 1 100000 p _) ?_
 dsimp only [go_sem,rA,rM,rS]
 have h2:Yo p=false:=by
  by_cases h2:Yo p=true
  . exact absurd (by simp [Vz,h1,h2]) ha
  . simpa using h2
 refine ZP (by simpa [Yo] using h2) ?_
 dsimp only [go_sem,rA,rM,rS]
 simp [Vz,h1,h2]
theorem Zbq (l:Land) (p:Span) (k:Nat) (hk:k < l.legs.length) (hx:GoodLeg l.legs[k]) (hp:Yo p=true):Ct Try.prog 64 [.agg (Zx l p),I k] (.agg (Ze (Za1 l.legs[k] p))):=by
 have hb:=ZdY hx hp
 have hp':=hp
 simp only [Yo,W3,decide_eq_true_eq] at hp'
 obtain ⟨h1,h2,h3,h4,h5⟩:=hx
 refine t64.1 (by simp [Zx,Zc,Zj,Zg,Ze,Za,KFL,KF]) (by simp [Ze,KFL,KF]) ?_
 dsimp only [c64,r64,Zx,go_sem,rA,rM,rS]
 refine Zy k hk rfl ?_
 dsimp only [Zj,go_sem,rA,rM,rS]
 rw [Zp (n:=l.legs[k].long.lo+p.hi) (by omega) (by omega),Zp (n:=l.legs[k].long.lo+p.hi - 1) (by omega) (by omega)]
 refine div0 (by omega) ?_
 dsimp only [go_sem,rA,rM,rS]
 rw [Zp (n:=l.legs[k].long.hi+p.lo) (by omega) (by omega),Zp (n:=l.legs[k].long.hi+p.lo - 1) (by omega) (by omega)]
 refine div0 (by omega) ?_
 dsimp only [Ze,go_sem,rA,rM,rS]
 simp only [Za1] at hb ⊢
 rw [Zp (n:=(l.legs[k].long.lo+p.hi - 1).tdiv p.hi) (by omega) (by omega),Zp (n:=(l.legs[k].long.hi+p.lo - 1).tdiv p.lo) (by omega) (by omega)]
theorem UL (a b:Int):Ct Try.prog 65 [.agg [I a,I b]] (.agg [I a,I b]):=by
 refine t65.1 (by simp [KFL,KF]) (by simp [KFL,KF]) ?_
 dsimp only [c65,r65,go_sem,rA,rM,rS]
 refine ixa 0 rfl (by decide) ?_
 dsimp only [go_sem,rA,rM,rS]
 refine ixa 1 rfl (by decide) ?_
 dsimp only [go_sem,rA,rM,rS]
theorem ZmJ (l:Land) (hs:XE l) (leg:Int) (p:Span):Ct Try.prog 22 [.agg (Zf l),I leg,.agg (Ze p)] (ZfT (Zjp l leg p)):=by
 have hw1:IntKind.i64.wrap ((l.legs.length:Int) - 1)=(l.legs.length:Int) - 1:=Zp (by omega) (by have:=hs.2.1;omega)
 refine t22.1 (by simp [Zf,Zc,Zj,Zg,Ze,Za,KFL,KF]) (by simp [ZfT,Ze,KFL,KF]) ?_
 dsimp only [c22,r22,Zf,Ze,go_sem,rA,rM,rS]
 by_cases ha:Vz l p=0
 case neg =>
  refine call (WG l hs p ha) ?_
  dsimp only [go_sem,rA,rM,rS]
  refine ZP (by simpa using ha) ?_
  dsimp only [go_sem,rA,rM,rS]
  simp [Zjp,ha,ZfT,Ze]
 refine call (Uj l hs p ha) ?_
 dsimp only [Zx,go_sem,rA,rM,rS]
 refine ZF (by decide) ?_
 dsimp only [go_sem,rA,rM,rS]
 simp only [List.length_map,hw1]
 repeat (first | (refine gb ?_;dsimp only [go_sem,rA,rM,rS]) | (refine call (V4 _ _ _ _) ?_;dsimp only [go_sem,rA,rM,rS]))
 by_cases hr:inR 0 (l.legs.length - 1) leg=true
 case neg =>
  refine ZP (by grind) ?_
  dsimp only [go_sem,rA,rM,rS]
  simp [Zjp,ha,hr,ZfT,Ze]
 refine ZF (by grind) ?_
 dsimp only [go_sem,rA,rM,rS]
 obtain ⟨k,hk,rfl,hget⟩:=ZhM hr
 obtain ⟨hol,hop⟩:=ask0 ha
 have hx:=YH hol l.legs[k] (List.getElem_mem _)
 refine call (Zbq l p k hk hx hop) ?_
 dsimp only [Ze,go_sem,rA,rM,rS]
 refine call (UL _ _) ?_
 dsimp only [go_sem,rA,rM,rS]
 simp only [Zjp,ha,hr,hget,ZfT,Ze]
 simp
theorem Xd (l:Land) (p:Span) (k:Nat) (hk:k < l.legs.length) (d0 d1:Int) (hx:GoodLeg l.legs[k]) (hp:Yo p=true) (h0:inR 0 100001 d0=true) (h1:inR 0 100001 d1=true) :
 Ct Try.prog 68 [.agg (Zx l p),I k,.agg [I d0,I d1]] (.agg [I (Zrq l.legs[k] p d0),I (Zo6 l.legs[k] p d1)]):=by
 have hb:=ZdY hx hp
 have hg:=YZ hx.g2 (Int.le_refl _)
 have hl:=hx.g1
 simp only [inR,decide_eq_true_eq] at h0 h1
 refine t68.1 (by simp [Zx,Zc,Zj,Zg,Ze,Za,KFL,KF]) (by simp [KFL,KF]) ?_
 dsimp only [c68,r68,Zx,go_sem,rA,rM,rS]
 refine call (Zbq l p k hk hx hp) ?_
 dsimp only [Ze,go_sem,rA,rM,rS]
 refine Zy k hk rfl ?_
 dsimp only [Zj,go_sem,rA,rM,rS]
 have e0:ZbT (Za1 l.legs[k] p).lo d0 (·.opens.lo) (·.shuts.hi) 100001 l.legs[k].gates=Zrq l.legs[k] p d0:=by
  rw [Zbs hb.1 (fun g h=>by omega) hx.g2 (Int.le_refl _) (by omega)]
  exact Int.min_eq_right (Zdg hb.1 (fun g h=>by have:=hg g h;omega))
 have e1:ZbT (Za1 l.legs[k] p).hi d1 (·.opens.hi) (·.shuts.lo) 100001 l.legs[k].gates=Zo6 l.legs[k] p d1:=by
  rw [Zbs hb.2.2.1 (fun g h=>by omega) hx.g2 (Int.le_refl _) (by omega)]
  exact Int.min_eq_right (Zdg hb.2.2.1 (fun g h=>by have:=hg g h;omega))
 generalize hnl:(Za1 l.legs[k] p).lo=nl at hb e0
 generalize hnh:(Za1 l.legs[k] p).hi=nh at hb e1
 refine YR (fun s:Nat × Int × Int=>[(27,I s.1)]) (fun s=>[(4,.cells [I s.2.1,I s.2.2] 123)])
  (fun s=>s.1<=l.legs[k].gates.length/\ZbT nl d0 (·.opens.lo) (·.shuts.hi) s.2.1 (l.legs[k].gates.drop s.1)=Zrq l.legs[k] p d0/\ZbT nh d1 (·.opens.hi) (·.shuts.lo) s.2.2 (l.legs[k].gates.drop s.1)=Zo6 l.legs[k] p d1)
  (fun s=>l.legs[k].gates.length - s.1) (0,100001,100001) ⟨Nat.zero_le _,e0,e1⟩ ?_ ?_
 . (refine Zi ?_ ?_ ?_ rfl rfl<;>dsimp only [Zg,Zc,Zj,Ze,id,go_sem,rA,rM,rS]<;>simp [Zg,Zc,Zj,Ze,Za,Zd,KFR,KFL,KF,Zb,mtO,nbr])
 rintro ⟨j,m0,m1⟩ ⟨hj,i0,i1⟩
 simp only at hj i0 i1
 dsimp only [go_sem,rA,rM,rS]
 by_cases hlt:j < l.legs[k].gates.length
 . refine ZP (by simpa using hlt) ?_
   dsimp only [go_sem,rA,rM,rS]
   have hgk:=hg l.legs[k].gates[j] (List.getElem_mem _)
   rw [List.drop_eq_getElem_cons hlt,ZbT] at i0 i1
   refine Zy j hlt rfl ?_
   dsimp only [Zg,go_sem,rA,rM,rS]
   refine ZdD 3 ?_
   dsimp only [Zs,go_sem,rA,rM,rS]
   refine ZP (by decide) ?_
   dsimp only [Zs,go_sem,rA,rM,rS]
   repeat (first | (refine ixa 0 rfl (by decide) ?_;dsimp only [Zs,go_sem,rA,rM,rS]) | (refine call (WL _ _) ?_;dsimp only [Zs,go_sem,rA,rM,rS]))
   rw [Zp (n:=max d0 l.legs[k].gates[j].opens.lo+nl) (by omega) (by omega),Zp (n:=max d0 l.legs[k].gates[j].opens.lo+nl - 1) (by omega) (by omega)]
   refine br ?_ ?_
   . intro hA
     dsimp only [Zs,go_sem,rA,rM,rS]
     repeat (first | (refine ixa 0 rfl (by decide) ?_;dsimp only [Zs,go_sem,rA,rM,rS]) | (refine call (WL _ _) ?_;dsimp only [Zs,go_sem,rA,rM,rS]))
     rw [if_pos (by simpa using hA)] at i0
     refine ZP (by decide) ?_
     dsimp only [Zs,go_sem,rA,rM,rS]
     repeat (first | (refine ixa 1 rfl (by decide) ?_;dsimp only [Zs,go_sem,rA,rM,rS]) | (refine call (WL _ _) ?_;dsimp only [Zs,go_sem,rA,rM,rS]))
     rw [Zp (n:=max d1 l.legs[k].gates[j].opens.hi+nh) (by omega) (by omega),Zp (n:=max d1 l.legs[k].gates[j].opens.hi+nh - 1) (by omega) (by omega)]
     refine br ?_ ?_
     . intro hB
       dsimp only [Zs,go_sem,rA,rM,rS]
       repeat (first | (refine ixa 1 rfl (by decide) ?_;dsimp only [Zs,go_sem,rA,rM,rS]) | (refine call (WL _ _) ?_;dsimp only [Zs,go_sem,rA,rM,rS]))
       rw [if_pos (by simpa using hB)] at i1
       refine ZF (by decide) ?_
       dsimp only [go_sem,rA,rM,rS]
       rw [Zp (n:=(j:Int)+1) (by omega) (by omega)]
       refine ⟨(j+1,min (min m0 (max d0 l.legs[k].gates[j].opens.lo)) 100001,min (min m1 (max d1 l.legs[k].gates[j].opens.hi)) 100001),⟨hlt,i0,i1⟩,by simp only;omega,?_⟩
       (refine Zi ?_ ?_ ?_ rfl rfl<;>dsimp only [Zg,Zc,Zj,Ze,id,go_sem,rA,rM,rS]<;>simp [Zg,Zc,Zj,Ze,Za,Zd,KFR,KFL,KF,Zb,mtO,nbr])
     . intro hB
       dsimp only [Zs,go_sem,rA,rM,rS]
       rw [if_neg (by simpa using hB)] at i1
       refine ZF (by decide) ?_
       dsimp only [go_sem,rA,rM,rS]
       rw [Zp (n:=(j:Int)+1) (by omega) (by omega)]
       refine ⟨(j+1,min (min m0 (max d0 l.legs[k].gates[j].opens.lo)) 100001,m1),⟨hlt,i0,i1⟩,by simp only;omega,?_⟩
       (refine Zi ?_ ?_ ?_ rfl rfl<;>dsimp only [Zg,Zc,Zj,Ze,id,go_sem,rA,rM,rS]<;>simp [Zg,Zc,Zj,Ze,Za,Zd,KFR,KFL,KF,Zb,mtO,nbr])
   . intro hA
     dsimp only [Zs,go_sem,rA,rM,rS]
     rw [if_neg (by simpa using hA)] at i0
     refine ZP (by decide) ?_
     dsimp only [Zs,go_sem,rA,rM,rS]
     repeat (first | (refine ixa 1 rfl (by decide) ?_;dsimp only [Zs,go_sem,rA,rM,rS]) | (refine call (WL _ _) ?_;dsimp only [Zs,go_sem,rA,rM,rS]))
     rw [Zp (n:=max d1 l.legs[k].gates[j].opens.hi+nh) (by omega) (by omega),Zp (n:=max d1 l.legs[k].gates[j].opens.hi+nh - 1) (by omega) (by omega)]
     refine br ?_ ?_
     . intro hB
       dsimp only [Zs,go_sem,rA,rM,rS]
       repeat (first | (refine ixa 1 rfl (by decide) ?_;dsimp only [Zs,go_sem,rA,rM,rS]) | (refine call (WL _ _) ?_;dsimp only [Zs,go_sem,rA,rM,rS]))
       rw [if_pos (by simpa using hB)] at i1
       refine ZF (by decide) ?_
       dsimp only [go_sem,rA,rM,rS]
       rw [Zp (n:=(j:Int)+1) (by omega) (by omega)]
       refine ⟨(j+1,m0,min (min m1 (max d1 l.legs[k].gates[j].opens.hi)) 100001),⟨hlt,i0,i1⟩,by simp only;omega,?_⟩
       (refine Zi ?_ ?_ ?_ rfl rfl<;>dsimp only [Zg,Zc,Zj,Ze,id,go_sem,rA,rM,rS]<;>simp [Zg,Zc,Zj,Ze,Za,Zd,KFR,KFL,KF,Zb,mtO,nbr])
     . intro hB
       dsimp only [Zs,go_sem,rA,rM,rS]
       rw [if_neg (by simpa using hB)] at i1
       refine ZF (by decide) ?_
       dsimp only [go_sem,rA,rM,rS]
       rw [Zp (n:=(j:Int)+1) (by omega) (by omega)]
       refine ⟨(j+1,m0,m1),⟨hlt,i0,i1⟩,by simp only;omega,?_⟩
       (refine Zi ?_ ?_ ?_ rfl rfl<;>dsimp only [Zg,Zc,Zj,Ze,id,go_sem,rA,rM,rS]<;>simp [Zg,Zc,Zj,Ze,Za,Zd,KFR,KFL,KF,Zb,mtO,nbr])
 refine ZF (by simp;omega) ?_
 dsimp only [go_sem,rA,rM,rS]
 have hke:j=l.legs[k].gates.length:=by omega
 subst hke
 rw [List.drop_length,ZbT] at i0 i1
 rw [<- i0,<- i1]
theorem Zha (l:Land) (hs:XE l) (leg day:Int) (p:Span):Ct Try.prog 24 [.agg (Zf l),I leg,I day,.agg (Ze p)] (ZfT (ZcH l leg day p)):=by
 have hw1:IntKind.i64.wrap ((l.legs.length:Int) - 1)=(l.legs.length:Int) - 1:=Zp (by omega) (by have:=hs.2.1;omega)
 refine t24.1 (by simp [Zf,Zc,Zj,Zg,Ze,Za,KFL,KF]) (by simp [ZfT,Ze,KFL,KF]) ?_
 dsimp only [c24,r24,Zf,Ze,go_sem,rA,rM,rS]
 by_cases ha:Vz l p=0
 case neg =>
  refine call (WG l hs p ha) ?_
  dsimp only [go_sem,rA,rM,rS]
  refine ZP (by simpa using ha) ?_
  dsimp only [go_sem,rA,rM,rS]
  simp [ZcH,ha,ZfT,Ze]
 refine call (Uj l hs p ha) ?_
 dsimp only [Zx,go_sem,rA,rM,rS]
 refine ZF (by decide) ?_
 dsimp only [go_sem,rA,rM,rS]
 simp only [List.length_map,hw1]
 repeat (first | (refine gb ?_;dsimp only [go_sem,rA,rM,rS]) | (refine call (V4 _ _ _ _) ?_;dsimp only [go_sem,rA,rM,rS]))
 by_cases hr:(inR 0 (l.legs.length - 1) leg && inR 0 100000 day)=true
 case neg =>
  refine ZP (by grind) ?_
  dsimp only [go_sem,rA,rM,rS]
  simp [ZcH,ha,hr,ZfT,Ze]
 refine ZF (by grind) ?_
 dsimp only [go_sem,rA,rM,rS]
 obtain ⟨k,hk,rfl,hget⟩:=ZhM (Bool.and_eq_true_iff.1 hr).1
 obtain ⟨hol,hop⟩:=ask0 ha
 have hday:=(Bool.and_eq_true_iff.1 hr).2
 have hd:inR 0 100001 day=true:=by simp only [inR,decide_eq_true_eq] at hday ⊢;omega
 have hx:=YH hol l.legs[k] (List.getElem_mem _)
 refine call (Xd l p k hk day day hx hop hd hd) ?_
 dsimp only [Ze,go_sem,rA,rM,rS]
 refine call (UL _ _) ?_
 dsimp only [go_sem,rA,rM,rS]
 simp only [ZcH,ha,hr,hget,ZfT,Ze]
 simp
end Go.Proofs.Ytkjldleglbbkeaa
namespace Go.Azalai
theorem ZgB {n day:Int} {o s:Gate->Int} (hn:1<=n) (hd:day<=100001):∀ {l:List Gate},(∀ g ∈ l,s g<=100000)->(day<=UA n day o s l/\UA n day o s l<=100001)/\(UA n day o s l=100001\/UA n day o s l+n<=100001)
 | [],_=>⟨⟨by simp only [UA];omega,by simp only [UA];omega⟩,.inl rfl⟩
 | x :: l,h=>by
  have:=h x (by simp)
  have:=ZgB (day:=day) (o:=o) (s:=s) (l:=l) hn hd (fun g hg=>h g (by simp [hg]))
  simp only [UA];split<;>omega
theorem Zc9 {n day:Int} {o s:Gate->Int} (hn:1<=n):∀ {l:List Gate},(∀ g ∈ l,s g<=100000)->UA n day o s l<=100001
 | [],_=>by simp only [UA];omega
 | x :: l,h=>by
  have:=h x (by simp)
  have:=Zc9 (day:=day) (o:=o) (s:=s) (l:=l) hn (fun g hg=>h g (by simp [hg]))
  simp only [UA];split<;>omega
def nK (k:Bool) (x:Leg) (p:Span):Int:=bif k then (Za1 x p).hi else (Za1 x p).lo
def leK (k:Bool) (x:Leg) (p:Span) (t:Int):Int:=bif k then Zo6 x p t else Zrq x p t
def ZG (k:Bool) (x:Leg) (p:Span) (t:Int):Int:=min 100001 (leK k x p t+nK k x p)
theorem Zj1 {k:Bool} {x:Leg} {p:Span} (h:GoodLeg x) (hp:Yo p=true):1<=nK k x p/\nK k x p<=1000000:=by
 have:=ZdY h hp
 cases k<;>simp only [nK,cond_true,cond_false]<;>omega
theorem Zam {k:Bool} {x:Leg} {p:Span} {t:Int} (h:GoodLeg x) (hp:Yo p=true) :
 leK k x p t=ZbT (nK k x p) t (fun g=>bif k then g.opens.hi else g.opens.lo) (fun g=>bif k then g.shuts.lo else g.shuts.hi) 100001 x.gates /\
 leK k x p t=UA (nK k x p) t (fun g=>bif k then g.opens.hi else g.opens.lo) (fun g=>bif k then g.shuts.lo else g.shuts.hi) x.gates/\∀ g ∈ x.gates,(bif k then g.shuts.lo else g.shuts.hi)<=100000:=by
 have hn:=Zj1 (k:=k) h hp
 have hg:=YZ h.g2 (Int.le_refl _)
 have h2:∀ g ∈ x.gates,(bif k then g.shuts.lo else g.shuts.hi)<=100000:=fun g hm=>by have:=hg g hm;cases k<;>simp only [cond_true,cond_false]<;>omega
 have h1:leK k x p t=UA (nK k x p) t (fun g=>bif k then g.opens.hi else g.opens.lo) (fun g=>bif k then g.shuts.lo else g.shuts.hi) x.gates:=by cases k<;>rfl
 refine ⟨?_,h1,h2⟩
 rw [Zbs hn.1 (fun g q=>by cases k<;>simp only [cond_true,cond_false]<;>omega) h.g2 (Int.le_refl _) (by omega),h1]
 have:=Zc9 (day:=t) (o:=fun g=>bif k then g.opens.hi else g.opens.lo) hn.1 h2
 omega
theorem Zb5 {n:Int} {o s:Gate->Int} {d d':Int} (hn:1<=n) (hd:d<=d'):∀ {l:List Gate} {a a':Int},a<=a'->a'<=100001->(∀ g ∈ l,s g<=100000)->ZbT n d o s a l<=ZbT n d' o s a' l
 | [],a,a',ha,_,_=>by simpa only [ZbT] using ha
 | g :: l,a,a',ha,hb,hs=>by
  simp only [ZbT]
  have:=hs g (by simp)
  refine Zb5 hn hd ?_ ?_ (fun g hg=>hs g (by simp [hg]))
  . repeat' split
    all_goals omega
  . split<;>omega
theorem U5 {k:Bool} {x:Leg} {p:Span} {t t':Int} (h:GoodLeg x) (hp:Yo p=true) (ht:t<=t'):ZG k x p t<=ZG k x p t':=by
 have hn:=Zj1 (k:=k) h hp
 obtain ⟨a1,_,a3⟩:=Zam (k:=k) (t:=t) h hp
 obtain ⟨b1,_,_⟩:=Zam (k:=k) (t:=t') h hp
 have:=Zb5 (o:=fun g=>bif k then g.opens.hi else g.opens.lo) hn.1 ht (Int.le_refl 100001) (Int.le_refl _) a3
 simp only [ZG];omega
theorem Xb {k:Bool} {x:Leg} {p:Span} {t:Int} (h:GoodLeg x) (hp:Yo p=true) (ht:t<=100001):ZG k x p t<=100001/\(t+1<=ZG k x p t\/t=100001/\ZG k x p t=100001)/\(ZG k x p t < 100001->ZG k x p t=leK k x p t+nK k x p/\leK k x p t < 100001)/\(leK k x p t < 100001->leK k x p t+nK k x p<=100001)/\t<=leK k x p t/\leK k x p t<=100001:=by
 have hn:=Zj1 (k:=k) h hp
 obtain ⟨_,a2,a3⟩:=Zam (k:=k) (t:=t) h hp
 have:=ZgB (o:=fun g=>bif k then g.opens.hi else g.opens.lo) hn.1 ht a3
 rw [<- a2] at this
 simp only [ZG];omega
theorem ZbI {k:Bool} {x:Leg} {p:Span} {t:Int} (h:GoodLeg x) (hp:Yo p=true) (ht:t<=100001):t<=ZG k x p t:=by
 have:=Xb (k:=k) h hp ht;omega
def Zn (x:Leg) (v:Int):Int:=if x.a=v then x.b else if x.b=v then x.a else -1
def goW (k:Bool) (l:Land) (p:Span):Int->Int->List Nat->Option (Int × Int)
 | v,t,[]=>some (v,t)
 | v,t,i :: r=>match l.legs[i]? with
  | none=>none
  | some x=>if Zn x v < 0 then none else if ZG k x p t > 100000 then none else goW k l p (Zn x v) (ZG k x p t) r
structure OkLP (l:Land) (p:Span):Prop where
 land:ZW l=true
 pace:Yo p=true
theorem OkLP.leg {l:Land} {p:Span} (h:OkLP l p) {i:Nat} {x:Leg} (hx:l.legs[i]? = some x):GoodLeg x:=YH h.land x (List.mem_of_getElem? hx)
theorem OkLP.ends {l:Land} {p:Span} (h:OkLP l p) {x:Leg} (hx:x ∈ l.legs):(0<=x.a/\x.a < l.wells.length)/\(0<=x.b/\x.b < l.wells.length)/\x.a≠x.b:=by
 have h1:=h.land
 simp only [ZW,Bool.and_eq_true,List.all_eq_true] at h1
 have:=h1.2 x hx
 simp only [XR,inR,Bool.and_eq_true,decide_eq_true_eq,bne_iff_ne] at this
 obtain ⟨⟨⟨⟨⟨q1,q2⟩,q3⟩,_⟩,_⟩,_⟩:=this
 refine ⟨by omega,by omega,q3⟩
theorem Yg {l:Land} {p:Span} (h:OkLP l p) {i:Nat} {x:Leg} (hx:l.legs[i]? = some x) {v:Int} (ho:¬ Zn x v < 0):(0<=Zn x v/\Zn x v < l.wells.length)/\(x.a=v/\Zn x v=x.b\/x.b=v/\Zn x v=x.a)/\0<=v/\v < l.wells.length:=by
 have:=h.ends (List.mem_of_getElem? hx)
 unfold Zn at ho ⊢
 split
 . omega
 . split
   . omega
   . rw [if_neg (by assumption),if_neg (by assumption)] at ho;omega
theorem Zaj {k:Bool} {l:Land} {p:Span}:∀ {a b:List Nat} {v t:Int},goW k l p v t (a ++ b)=(goW k l p v t a).bind fun s=>goW k l p s.1 s.2 b
 | [],b,v,t=>rfl
 | i :: a,b,v,t=>by
  simp only [List.cons_append,goW]
  cases l.legs[i]? with
  | none=>rfl
  | some x =>
   simp only
   split
   . rfl
   . split
     . rfl
     . exact Zaj
theorem Ww {k:Bool} {l:Land} {p:Span} (h:OkLP l p):∀ {a:List Nat} {v t v' t':Int},goW k l p v t a=some (v',t')->t<=100000->0<=v->v < l.wells.length->t+a.length<=t'/\t'<=100000/\0<=v'/\v' < l.wells.length
 | [],v,t,v',t',e,ht,h0,h1=>by simp only [goW,Option.some.injEq,Prod.mk.injEq] at e;simp;omega
 | i :: a,v,t,v',t',e,ht,h0,h1=>by
  simp only [goW] at e
  cases hx:l.legs[i]? with
  | none=>rw [hx] at e;cases e
  | some x =>
   rw [hx] at e
   simp only at e
   by_cases ho:Zn x v < 0
   . rw [if_pos ho] at e;cases e
   . rw [if_neg ho] at e
     by_cases hr:ZG k x p t > 100000
     . rw [if_pos hr] at e;cases e
     . rw [if_neg hr] at e
       have hb:=Xb (k:=k) (h.leg hx) h.pace (show t<=100001 by omega)
       have ho':=Yg h hx ho
       have:=Ww h e (by omega) ho'.1.1 ho'.1.2
       simp only [List.length_cons];omega
def ZgW (k:Bool) (l:Land) (p:Span) (d:Int->Int):Prop:=∀ x ∈ l.legs,d x.b<=ZG k x p (d x.a)/\d x.a<=ZG k x p (d x.b)
theorem Zb4 {k:Bool} {l:Land} {p:Span} {d:Int->Int} (h:OkLP l p) (hc:ZgW k l p d):∀ {a:List Nat} {v t v' t':Int},goW k l p v t a=some (v',t')->d v<=t->d v'<=t'
 | [],v,t,v',t',e,ht=>by simp only [goW,Option.some.injEq,Prod.mk.injEq] at e;rw [<- e.1];omega
 | i :: a,v,t,v',t',e,ht=>by
  simp only [goW] at e
  cases hx:l.legs[i]? with
  | none=>rw [hx] at e;cases e
  | some x =>
   rw [hx] at e
   simp only at e
   by_cases ho:Zn x v < 0
   . rw [if_pos ho] at e;cases e
   . rw [if_neg ho] at e
     by_cases hr:ZG k x p t > 100000
     . rw [if_pos hr] at e;cases e
     . rw [if_neg hr] at e
       refine Zb4 h hc e ?_
       have hcx:=hc x (List.mem_of_getElem? hx)
       have hm:=U5 (k:=k) (h.leg hx) h.pace ht
       rcases (Yg h hx ho).2.1 with ⟨q1,q2⟩ | ⟨q1,q2⟩
       . rw [q2];rw [<- q1] at hm;omega
       . rw [q2];rw [<- q1] at hm;omega
open Classical in
noncomputable def Yd (k:Bool) (l:Land) (p:Span) (s day v:Int):Int :=
 if h:∃ n:Nat,∃ a,goW k l p s day a=some (v,(n:Int)) then ((Go.Sx.least_ex _ h).choose:Int) else 100001
theorem ZaG {k:Bool} {l:Land} {p:Span} (h:OkLP l p) {s day v t:Int} {a:List Nat} (e:goW k l p s day a=some (v,t)) (hd:0<=day) (hd':day<=100000) (h0:0<=s) (h1:s < l.wells.length):Yd k l p s day v<=t:=by
 have hb:=Ww h e hd' h0 h1
 have hex:∃ n:Nat,∃ a,goW k l p s day a=some (v,(n:Int)):=⟨t.toNat,a,by rw [e,show ((t.toNat:Nat):Int)=t by omega]⟩
 unfold Yd
 rw [dif_pos hex]
 have:=(Go.Sx.least_ex _ hex).choose_spec.2 t.toNat ⟨a,by rw [e,show ((t.toNat:Nat):Int)=t by omega]⟩
 omega
theorem Vk {k:Bool} {l:Land} {p:Span} {s day v:Int}:Yd k l p s day v=100001\/∃ a,goW k l p s day a=some (v,Yd k l p s day v):=by
 unfold Yd
 by_cases hex:∃ n:Nat,∃ a,goW k l p s day a=some (v,(n:Int))
 . rw [dif_pos hex];exact .inr (Go.Sx.least_ex _ hex).choose_spec.1
 . rw [dif_neg hex];exact .inl rfl
theorem Zb6 {k:Bool} {l:Land} {p:Span} (h:OkLP l p) {s day v:Int} (hd:0<=day) (hd':day<=100000) (h0:0<=s) (h1:s < l.wells.length):day<=Yd k l p s day v/\Yd k l p s day v<=100001:=by
 rcases Vk (k:=k) (l:=l) (p:=p) (s:=s) (day:=day) (v:=v) with e | ⟨a,e⟩
 . omega
 . have:=Ww h e hd' h0 h1;omega
theorem UR {k:Bool} {l:Land} {p:Span} {a:List Nat} {s t v u:Int} {i:Nat} {x:Leg} (e:goW k l p s t a=some (v,u)) (hx:l.legs[i]? = some x) (ho:¬ Zn x v < 0) (hr:¬ ZG k x p u > 100000):goW k l p s t (a ++ [i])=some (Zn x v,ZG k x p u):=by
 rw [Zaj,e]
 simp only [Option.bind_some,goW,hx]
 rw [if_neg ho,if_neg hr]
theorem UO {k:Bool} {l:Land} {p:Span} (h:OkLP l p) {s day:Int} (hd:0<=day) (hd':day<=100000) (h0:0<=s) (h1:s < l.wells.length) {d:Int->Int} (hs:d s<=day) (hc:ZgW k l p d) (hb:∀ v,d v<=100001)
 (hr:∀ v,d v=100001\/∃ a,goW k l p s day a=some (v,d v)) (v:Int):d v=Yd k l p s day v:=by
 have h2:Yd k l p s day v<=d v:=by
  rcases hr v with e | ⟨a,e⟩
  . have:=Zb6 (k:=k) (v:=v) h hd hd' h0 h1;omega
  . exact ZaG h e hd hd' h0 h1
 have h3:d v<=Yd k l p s day v:=by
  rcases Vk (k:=k) (l:=l) (p:=p) (s:=s) (day:=day) (v:=v) with e | ⟨a,e⟩
  . have:=hb v;omega
  . exact Zb4 h hc e hs
 omega
noncomputable def Y4 (k:Bool) (l:Land) (p:Span) (s day:Int):List Int:=(List.range l.wells.length).map fun v:Nat=>Yd k l p s day (v:Int)
end Go.Azalai
namespace Go.Proofs.Ytkjldleglbbkeaa
open Go Go.Sx
def c79:SC:=(sr1 [
 o1 2 (.box (.t 0) 0 119),
 o1 3 (.box (.t 1) 0 3),
 o1 4 (.mv (.c (.nilFunc)))]
 (sr1 [
 o1 5 (.mkf 97 [.t 2,.t 3]),
 m1 4 5]
 .ret))
def r79:List RV:=[.tmp 4]
theorem n79:Try.f79.ntmps=6:=by kernel_rfl
theorem b79:Xp Try.prog 79=true:=by kernel_rfl
theorem Zv6:XY Try.prog c79 ((Try.f79.body).getD .skip)=true:=by kernel_rfl
theorem ZvI:Vn Try.prog r79 Try.f79.results.toList=true:=by kernel_rfl
theorem m79 {n0:Nat} {hp0:List (Nat × HB)} {args:List SV} {YE:Ot->Prop} (hh:hpb n0 hp0) (hx:∀ o,YE o->KX o.res/\KXP o.hp) (h:sx Try.prog Y0 n0 c79 ⟨Wp 0 args,hp0,n0,6,[]⟩ (ZfP r79 fun o=>∃ o',YE o'/\Zkb n0 o o')) (hA:Nat.ble args.length 6=true:=by rfl):CtM Try.prog 79 hp0 n0 args YE:=Zcs Try.func79 rfl b79 Zv6 ZvI n79 (Nat.le_of_ble_eq_true hA) hh hx h
def c97:SC:=(sr1 [
 o1 6 (.addo (.t 1) 0),
 o1 7 (.addo (.t 6) 1),
 o1 8 (.ld (.t 7) 1 false),
 o1 9 (.len (.t 8)),
 o1 10 (.mv (.c (.int .i64 0)))]
 (.block 0 (.loop (sr1 [
  o1 11 (.bin .lss (.t 10) (.t 9))]
  (.seq (.cond (.t 11)
  .skip
  (.exit 0))
  (.seq (.block 1 (sr1 [
   m1 12 10,
   o1 13 (.ixs (.t 8) (.t 10) 5),
   o1 14 (.ld (.t 13) 5 true),
   o1 5 (.alloc zv1 86),
   m1 4 12,
   ⟨none,.st (.t 5) (.t 14) 5,none,[]⟩]
   (sr1 [
   o1 15 (.ld (.t 2) 1 false)]
   (.block 2 (sr1 [
    o1 17 (.addo (.t 5) 0),
    o1 18 (.ld (.t 17) 1 false),
    o1 19 (.bin .eql (.t 15) (.t 18)),
    m1 16 19]
    (.cond (.t 16)
    (sr1 [
     m1 20 0,
     m1 21 4,
     o1 22 (.addo (.t 5) 1),
     o1 23 (.ld (.t 22) 1 false),
     o1 24 (.calvm (.t 20) [.t 21,.t 23]),
     o1 25 (.un .not (.t 24))]
     (.cond (.t 25)
     .ret
     .skip))
    (sr1 [
     o1 27 (.addo (.t 5) 1),
     o1 28 (.ld (.t 27) 1 false),
     o1 29 (.bin .eql (.t 15) (.t 28)),
     m1 26 29]
     (.cond (.t 26)
     (sr1 [
      m1 30 0,
      m1 31 4,
      o1 32 (.addo (.t 5) 0),
      o1 33 (.ld (.t 32) 1 false),
      o1 34 (.calvm (.t 30) [.t 31,.t 33]),
      o1 35 (.un .not (.t 34))]
      (.cond (.t 35)
      .ret
      .skip))
     .skip))))))))
  (.reg [
  o1 36 (.bin .add (.t 10) (.c (.int .i64 1))),
  m1 10 36])))))))
def r97:List RV:=[]
theorem n97:Try.f97.ntmps=37:=by kernel_rfl
theorem b97:Xp Try.prog 97=true:=by kernel_rfl
theorem ZvX:XY Try.prog c97 ((Try.f97.body).getD .skip)=true:=by kernel_rfl
theorem ZuR:Vn Try.prog r97 Try.f97.results.toList=true:=by kernel_rfl
theorem y97 {Y:Hd} {n0:Nat} {hp0:List (Nat × HB)} {args:List SV} {YE:Ot->Prop} (h:sx Try.prog Y n0 c97 ⟨Wp 0 args,hp0,n0,37,[]⟩ (ZfP r97 YE)) (hA:Nat.ble args.length 37=true:=by rfl):CtY Try.prog Y 97 hp0 n0 args YE:=Zb7 Try.func97 rfl ZvX ZuR n97 (Nat.le_of_ble_eq_true hA) h
def c85:SC:=(sr1 [
 o1 3 (.box (.t 0) 0 119),
 o1 4 (.box (.t 1) 0 3),
 o1 6 (.alloc [.int .i64 0] 3)]
 (.seq (sr1 [
 o1 9 (.ld (.t 3) 4 true),
 m1 10 2,
 o1 11 (.callm 79 [.t 9,.t 10])]
 (.block 0 (.gh (.rfun (.t 11) [12,13] (sr1 [
  m1 7 12]
  (.reg [
  m1 8 13]))
  (.block 1 (sr1 [
   m1 14 7,
   o1 15 (.ld (.t 4) 1 false),
   o1 16 (.bin .eql (.t 14) (.t 15))]
   (.cond (.t 16)
   (sr1 [
    m1 17 8,
    ⟨none,.st (.t 6) (.t 17) 1,none,[]⟩]
    .ret)
   .skip)))))))
 (sr1 [
 ⟨none,.st (.t 6) (.c (.int .i64 (-1))) 1,none,[]⟩]
 .ret)))
def r85:List RV:=[.cell 6 1 false]
theorem t85:Qt1 Try.prog 85 c85 r85 18:=YU Try.func85 rfl (by kernel_rfl) (by kernel_rfl) (by kernel_rfl) (by kernel_rfl)
def c80:SC:=(sr1 [
 o1 3 (.box (.t 0) 0 119),
 o1 5 (.box (.t 2) 0 123),
 o1 6 (.alloc [.int .i64 0,.int .i64 0] 123)]
 (.seq (.regd [0,1,2,3,4,5,6,7,8,9,10] [
 .op (o1 10 (.ld (.t 3) 4 true)),
 .op (m1 11 1),
 .op (o1 12 (.ld (.t 5) 2 true)),
 .op ⟨some 13,.call 68 [.t 10,.t 11,.t 12],none,[0,1,2]⟩,
 .op (o1 14 (.ld (.t 3) 4 true)),
 .op (m1 15 1),
 .op ⟨some 16,.call 64 [.t 14,.t 15],none,[3,4,5]⟩] 2 2 [
 o1 7 (.alloc [.int .i64 0,.int .i64 0] 123),
 o1 8 (.alloc [.int .i64 0,.int .i64 0] 123),
 ⟨none,.st (.t 7) (.t 13) 2,none,[0,1,2,3,6,7,8]⟩,
 ⟨none,.st (.t 8) (.t 16) 2,none,[0,1,2,3,4,5,6,7,8,9]⟩])
 (.seq (sr1 [
 o1 17 (.mv (.c (.int .i64 0)))]
 (.block 0 (.loop (sr1 [
  o1 18 (.bin .lss (.t 17) (.c (.int .i64 2)))]
  (.seq (.cond (.t 18)
  .skip
  (.exit 0))
  (.seq (.block 1 (sr1 [
   m1 19 17,
   m1 9 19]
   (.regd [0,1,2,3,4,5,6,7,8,9,10,11] [
   .op (m1 20 9),
   .op (m1 21 9),
   .op ⟨some 22,.ixa (.t 7) (.t 21) 2 1,none,[1]⟩,
   .op ⟨some 23,.ld (.t 22) 1 false,none,[2]⟩,
   .op (m1 24 9),
   .op ⟨some 25,.ixa (.t 8) (.t 24) 2 1,none,[4]⟩,
   .op ⟨some 26,.ld (.t 25) 1 false,none,[5]⟩,
   .op ⟨some 27,.bin .add (.t 23) (.t 26),none,[3,6]⟩,
   .op ⟨some 28,.bsl 1 3 [.t 27],none,[7]⟩,
   .op ⟨some 29,.call 94 [.t 28],none,[8]⟩,
   .op ⟨some 30,.ixa (.t 7) (.t 20) 2 1,none,[0,1,2,3,4,5,6,7,8,9]⟩] 0 1 [
   ⟨none,.st (.t 30) (.t 29) 1,none,[0,1,2,3,4,5,6,7,8,9,10]⟩])))
  (.reg [
  o1 31 (.bin .add (.t 17) (.c (.int .i64 1))),
  m1 17 31])))))))
 (sr1 [
 o1 32 (.ld (.t 7) 2 true),
 ⟨none,.st (.t 6) (.t 32) 2,none,[]⟩]
 .ret))))
def r80:List RV:=[.cell 6 2 true]
theorem t80:Qt1 Try.prog 80 c80 r80 33:=YU Try.func80 rfl (by kernel_rfl) (by kernel_rfl) (by kernel_rfl) (by kernel_rfl)
def c83:SC:=(sr1 [
 o1 4 (.box (.t 0) 0 119),
 o1 7 (.box (.t 3) 0 3),
 o1 8 (.mv (.c (.slice none 0 0)))]
 (sr1 [
 o1 16 (.bsl 1 3 [.c (.int .i64 100001)]),
 o1 17 (.addo (.t 4) 0),
 o1 18 (.addo (.t 17) 0),
 o1 19 (.ld (.t 18) 1 false),
 o1 20 (.len (.t 19)),
 o1 21 (.callm 99 [.t 16,.t 20]),
 o1 9 (.alloc [.slice none 0 0] 59),
 ⟨none,.st (.t 9) (.t 21) 1,none,[]⟩]
 (sr1 [
 o1 22 (.ld (.t 9) 1 false),
 m1 23 1,
 m1 24 2,
 o1 25 (.ixs (.t 22) (.t 23) 1),
 ⟨none,.st (.t 25) (.t 24) 1,none,[]⟩]
 (sr1 [
 o1 26 (.raw (Go.Op.makeMap 99 Option.none) 99),
 m1 10 26]
 (.seq (sr1 [
 o1 27 (.ld (.t 9) 1 false),
 o1 28 (.len (.t 27)),
 o1 29 (.mv (.c (.int .i64 0)))]
 (.block 0 (.loop (sr1 [
  o1 30 (.bin .lss (.t 29) (.t 28))]
  (.seq (.cond (.t 30)
  .skip
  (.exit 0))
  (.seq (.block 1 (sr1 [
   m1 31 29,
   m1 11 31]
   (.reg [
   m1 32 10,
   m1 33 11,
   ⟨none,.raw (Go.Op.mapUpdate 99 (Go.Operand.tmp 32) (Go.Operand.tmp 33) (Go.Operand.const (Go.Value.bool Bool.true))) 0,none,[]⟩])))
  (.reg [
  o1 34 (.bin .add (.t 29) (.c (.int .i64 1))),
  m1 29 34])))))))
 (.seq (.block 2 (.loop (.seq (sr1 [
  m1 35 10,
  o1 36 (.raw (Go.Op.call { callee:=(Go.Callee.builtin Go.Builtin.len),args:=#[(Go.Operand.tmp 35)],argTypes:=#[99] }) 3),
  o1 37 (.bin .gtr (.t 36) (.c (.int .i64 0)))]
  (.cond (.t 37)
  .skip
  (.exit 2)))
  (.block 3 (sr1 [
   o1 12 (.alloc [.int .i64 0] 3),
   ⟨none,.st (.t 12) (.c (.int .i64 (-1))) 1,none,[]⟩]
   (.seq (sr1 [
   m1 38 10,
   o1 39 (.raw (Go.Op.range 99 (Go.Operand.tmp 38)) 0)]
   (.block 4 (.loop (sr1 [
    o1 40 (.raw (Go.Op.next (Go.Operand.tmp 39) Bool.false) 0),
    o1 41 (.ext (.t 40) 0)]
    (.seq (.cond (.t 41)
    .skip
    (.exit 4))
    (.block 5 (sr1 [
     o1 42 (.raw (Go.Op.entry (Go.Operand.tmp 39)) 0),
     o1 43 (.ext (.t 42) 0),
     m1 13 43]
     (.seq (.regd [0,1,2,3,4,5,6,7,8,9,10,11,12,13,14,15,16,17,18,19,20,21,22,23,24,25,26,27,28] [
     .op (o1 44 (.ld (.t 12) 1 false)),
     .op ⟨some 45,.bin .lss (.t 44) (.c (.int .i64 0)),none,[0]⟩,
     .op ⟨some 46,.mv (.t 45),none,[1]⟩,
     .op ⟨some 47,.ld (.t 9) 1 false,some (46,false),[2]⟩,
     .op ⟨some 48,.mv (.t 13),some (46,false),[2]⟩,
     .op ⟨some 49,.ixs (.t 47) (.t 48) 1,some (46,false),[2,3,4]⟩,
     .op ⟨some 50,.ld (.t 49) 1 false,some (46,false),[2,5]⟩,
     .op ⟨some 51,.ld (.t 9) 1 false,some (46,false),[2]⟩,
     .op ⟨some 52,.ld (.t 12) 1 false,some (46,false),[2]⟩,
     .op ⟨some 53,.ixs (.t 51) (.t 52) 1,some (46,false),[2,7,8]⟩,
     .op ⟨some 54,.ld (.t 53) 1 false,some (46,false),[2,9]⟩,
     .op ⟨some 55,.bin .lss (.t 50) (.t 54),some (46,false),[2,6,10]⟩,
     .op ⟨some 56,.pick (.t 46) (.c (.bool true)) (.t 55),none,[2,11]⟩,
     .op ⟨some 57,.mv (.t 56),none,[2,12]⟩,
     .op ⟨some 58,.ld (.t 9) 1 false,some (57,false),[13]⟩,
     .op ⟨some 59,.mv (.t 13),some (57,false),[13]⟩,
     .op ⟨some 60,.ixs (.t 58) (.t 59) 1,some (57,false),[13,14,15]⟩,
     .op ⟨some 61,.ld (.t 60) 1 false,some (57,false),[13,16]⟩,
     .op ⟨some 62,.ld (.t 9) 1 false,some (57,false),[13]⟩,
     .op ⟨some 63,.ld (.t 12) 1 false,some (57,false),[13]⟩,
     .op ⟨some 64,.ixs (.t 62) (.t 63) 1,some (57,false),[13,18,19]⟩,
     .op ⟨some 65,.ld (.t 64) 1 false,some (57,false),[13,20]⟩,
     .op ⟨some 66,.bin .eql (.t 61) (.t 65),some (57,false),[13,17,21]⟩,
     .op ⟨some 67,.mv (.t 66),some (57,false),[13,22]⟩,
     .op ⟨some 68,.mv (.t 13),some (67,true),[23]⟩,
     .op ⟨some 69,.ld (.t 12) 1 false,some (67,true),[23]⟩,
     .op ⟨some 70,.bin .lss (.t 68) (.t 69),some (67,true),[23,24,25]⟩,
     .op ⟨some 71,.pick (.t 67) (.t 70) (.c (.bool false)),some (57,false),[13,23,26]⟩,
     .op ⟨some 72,.pick (.t 57) (.c (.bool true)) (.t 71),none,[13,27]⟩] 0 0 [
])
 (.cond (.t 72)
 (.reg [
  m1 73 13,
  ⟨none,.st (.t 12) (.t 73) 1,none,[]⟩])
 .skip)))))))))
 (sr1 [
 m1 74 10,
 o1 75 (.ld (.t 12) 1 false),
 ⟨none,.raw (Go.Op.call { callee:=(Go.Callee.builtin Go.Builtin.delete),args:=#[(Go.Operand.tmp 74),(Go.Operand.tmp 75)],argTypes:=#[99,3] }) 0,none,[]⟩]
 (sr1 [
 o1 76 (.ld (.t 4) 4 true),
 o1 77 (.ld (.t 12) 1 false),
 o1 78 (.callm 79 [.t 76,.t 77])]
 (.block 6 (.gh (.rfun (.t 78) [79,80] (sr1 [
  m1 14 79]
  (.reg [
  m1 15 80]))
  (.block 7 (.regd [0,1,2,3,4,5,6,7,8,9,10,11,12,13,14,15,16,17,18,19,20,21,22] [
   .op (o1 81 (.ld (.t 9) 1 false)),
   .op (m1 82 15),
   .op (o1 83 (.ld (.t 9) 1 false)),
   .op (m1 84 15),
   .op ⟨some 85,.ixs (.t 83) (.t 84) 1,none,[2,3]⟩,
   .op ⟨some 86,.ld (.t 85) 1 false,none,[4]⟩,
   .op (o1 87 (.ld (.t 4) 4 true)),
   .op (m1 88 14),
   .op (o1 89 (.ld (.t 9) 1 false)),
   .op (o1 90 (.ld (.t 12) 1 false)),
   .op ⟨some 91,.ixs (.t 89) (.t 90) 1,none,[8,9]⟩,
   .op ⟨some 92,.ld (.t 91) 1 false,none,[10]⟩,
   .op (o1 93 (.ld (.t 9) 1 false)),
   .op (o1 94 (.ld (.t 12) 1 false)),
   .op ⟨some 95,.ixs (.t 93) (.t 94) 1,none,[12,13]⟩,
   .op ⟨some 96,.ld (.t 95) 1 false,none,[14]⟩,
   .op ⟨some 97,.build [.int .i64 0,.int .i64 0] [(0,1,.t 92),(1,1,.t 96)],none,[11,15]⟩,
   .op ⟨some 98,.call 80 [.t 87,.t 88,.t 97],none,[6,7,16]⟩,
   .op (o1 99 (.ld (.t 7) 1 false)),
   .op ⟨some 100,.idx (.t 98) (.t 99) 2 1 false,none,[17,18]⟩,
   .op ⟨some 101,.mm false [.t 86,.t 100],none,[5,19]⟩,
   .op ⟨some 102,.ixs (.t 81) (.t 82) 1,none,[0,1,2,3,4,5,6,7,8,9,10,11,12,13,14,15,16,17,18,19,20]⟩] 0 1 [
   ⟨none,.st (.t 102) (.t 101) 1,none,[0,1,2,3,4,5,6,7,8,9,10,11,12,13,14,15,16,17,18,19,20,21]⟩])))))))))))))
 (sr1 [
 o1 103 (.ld (.t 9) 1 false),
 m1 8 103]
 .ret)))))))
def r83:List RV:=[.tmp 8]
theorem t83:Qt1 Try.prog 83 c83 r83 104:=YU Try.func83 rfl (by kernel_rfl) (by kernel_rfl) (by kernel_rfl) (by kernel_rfl)
def c32:SC:=(sr1 [
 o1 4 (.box (.t 0) 0 25),
 o1 7 (.box (.t 3) 0 29),
 o1 8 (.mv (.c (.slice none 0 0))),
 o1 9 (.mv (.c (.int .i64 0)))]
 (sr1 [
 o1 17 (.ld (.t 4) 2 true),
 o1 18 (.ld (.t 7) 2 true),
 o1 19 (.call 63 [.t 17,.t 18]),
 m1 16 19,
 o1 20 (.ext (.t 16) 0),
 o1 21 (.ext (.t 16) 1),
 o1 10 (.alloc [.slice none 0 0,.slice none 0 0,.int .i64 0,.int .i64 0] 119),
 ⟨none,.st (.t 10) (.t 20) 4,none,[]⟩,
 m1 11 21]
 (.seq (.block 0 (sr1 [
  m1 23 11,
  o1 24 (.bin .neq (.t 23) (.c (.int .i64 0))),
  m1 22 24]
  (.cond (.t 22)
  (sr1 [
   m1 25 11,
   o1 8 (.mv (.c (.slice none 0 0))),
   m1 9 25]
   .ret)
  (sr1 [
   o1 27 (.addo (.t 4) 0),
   o1 28 (.ld (.t 27) 1 false),
   o1 29 (.len (.t 28)),
   o1 30 (.bin .sub (.t 29) (.c (.int .i64 1))),
   m1 31 1,
   o1 32 (.bsl 1 3 [.t 31]),
   o1 33 (.call 58 [.c (.int .i64 0),.t 30,.t 32]),
   o1 34 (.un .not (.t 33)),
   m1 35 34,
   ⟨some 36,.mv (.t 2),some (35,false),[]⟩,
   ⟨some 37,.bsl 1 3 [.t 36],some (35,false),[]⟩,
   ⟨some 38,.call 58 [.c (.int .i64 0),.c (.int .i64 100000),.t 37],some (35,false),[]⟩,
   ⟨some 39,.un .not (.t 38),some (35,false),[]⟩,
   o1 40 (.pick (.t 35) (.c (.bool true)) (.t 39)),
   m1 26 40]
   (.cond (.t 26)
   (sr1 [
    o1 8 (.mv (.c (.slice none 0 0))),
    o1 9 (.mv (.c (.int .i64 2)))]
    .ret)
   .skip)))))
 (sr1 [
 o1 12 (.mv (.c (.slice none 0 0)))]
 (sr1 [
 o1 41 (.ld (.t 10) 4 true),
 m1 42 1,
 m1 43 2,
 o1 44 (.call 83 [.t 41,.t 42,.t 43,.c (.int .i64 1)]),
 m1 13 44]
 (.seq (sr1 [
 o1 45 (.ld (.t 10) 4 true),
 m1 46 1,
 m1 47 2,
 o1 48 (.call 83 [.t 45,.t 46,.t 47,.c (.int .i64 0)]),
 o1 49 (.len (.t 48)),
 o1 50 (.mv (.c (.int .i64 0)))]
 (.block 1 (.loop (sr1 [
  o1 51 (.bin .lss (.t 50) (.t 49))]
  (.seq (.cond (.t 51)
  .skip
  (.exit 1))
  (.seq (.block 2 (sr1 [
   m1 52 50,
   o1 53 (.ixs (.t 48) (.t 50) 1),
   o1 54 (.ld (.t 53) 1 false),
   m1 14 52,
   m1 15 54]
   (.reg [
   m1 55 12,
   m1 56 15,
   m1 57 13,
   m1 58 14,
   o1 59 (.ixs (.t 57) (.t 58) 1),
   o1 60 (.ld (.t 59) 1 false),
   o1 61 (.build [.int .i64 0,.int .i64 0] [(0,1,.t 56),(1,1,.t 60)]),
   o1 62 (.bsl 2 29 [.t 61]),
   o1 63 (.appm 2 16 29 (.t 55) (.t 62)),
   m1 12 63])))
  (.reg [
  o1 64 (.bin .add (.t 50) (.c (.int .i64 1))),
  m1 50 64])))))))
 (sr1 [
 m1 65 12,
 m1 8 65,
 o1 9 (.mv (.c (.int .i64 0)))]
 .ret)))))))
def r32:List RV:=[.tmp 8,.tmp 9]
theorem t32:Qt1 Try.prog 32 c32 r32 66:=YU Try.func32 rfl (by kernel_rfl) (by kernel_rfl) (by kernel_rfl) (by kernel_rfl)
def c34:SC:=(sr1 [
 o1 5 (.box (.t 0) 0 25),
 o1 8 (.box (.t 3) 0 29),
 o1 10 (.mv (.c (.slice none 0 0))),
 o1 11 (.mv (.c (.int .i64 0))),
 o1 12 (.mv (.c (.int .i64 0)))]
 (sr1 [
 o1 23 (.ld (.t 5) 2 true),
 o1 24 (.ld (.t 8) 2 true),
 o1 25 (.call 63 [.t 23,.t 24]),
 m1 22 25,
 o1 26 (.ext (.t 22) 0),
 o1 27 (.ext (.t 22) 1),
 o1 13 (.alloc [.slice none 0 0,.slice none 0 0,.int .i64 0,.int .i64 0] 119),
 ⟨none,.st (.t 13) (.t 26) 4,none,[]⟩,
 m1 12 27]
 (.seq (.block 0 (sr1 [
  m1 29 12,
  o1 30 (.bin .neq (.t 29) (.c (.int .i64 0))),
  m1 28 30]
  (.cond (.t 28)
  (sr1 [
   m1 31 12,
   o1 10 (.mv (.c (.slice none 0 0))),
   o1 11 (.mv (.c (.int .i64 0))),
   m1 12 31]
   .ret)
  (sr1 [
   o1 33 (.addo (.t 5) 0),
   o1 34 (.ld (.t 33) 1 false),
   o1 35 (.len (.t 34)),
   o1 36 (.bin .sub (.t 35) (.c (.int .i64 1))),
   m1 37 1,
   o1 38 (.bsl 1 3 [.t 37]),
   o1 39 (.call 58 [.c (.int .i64 0),.t 36,.t 38]),
   o1 40 (.un .not (.t 39)),
   m1 41 40,
   ⟨some 42,.mv (.t 2),some (41,false),[]⟩,
   ⟨some 43,.bsl 1 3 [.t 42],some (41,false),[]⟩,
   ⟨some 44,.call 58 [.c (.int .i64 0),.c (.int .i64 100000),.t 43],some (41,false),[]⟩,
   ⟨some 45,.un .not (.t 44),some (41,false),[]⟩,
   o1 46 (.pick (.t 41) (.c (.bool true)) (.t 45)),
   m1 32 46]
   (.cond (.t 32)
   (sr1 [
    o1 10 (.mv (.c (.slice none 0 0))),
    o1 11 (.mv (.c (.int .i64 0))),
    o1 12 (.mv (.c (.int .i64 2)))]
    .ret)
   (sr1 [
    m1 48 4,
    o1 49 (.len (.t 48)),
    o1 50 (.bin .gtr (.t 49) (.c (.int .i64 24))),
    m1 47 50]
    (.cond (.t 47)
    (sr1 [
     o1 10 (.mv (.c (.slice none 0 0))),
     o1 11 (.mv (.c (.int .i64 0))),
     o1 12 (.mv (.c (.int .i64 4)))]
     .ret)
    .skip)))))))
 (sr1 [
 o1 14 (.mv (.c (.slice none 0 0)))]
 (sr1 [
 m1 51 1,
 m1 15 51]
 (.seq (sr1 [
 m1 52 4,
 o1 53 (.len (.t 52)),
 o1 54 (.mv (.c (.int .i64 0)))]
 (.block 1 (.loop (sr1 [
  o1 55 (.bin .lss (.t 54) (.t 53))]
  (.seq (.cond (.t 55)
  .skip
  (.exit 1))
  (.seq (.block 2 (sr1 [
   m1 56 54,
   o1 57 (.ixs (.t 52) (.t 54) 1),
   o1 58 (.ld (.t 57) 1 false),
   m1 16 56,
   m1 17 58]
   (.seq (sr1 [
   o1 59 (.ld (.t 13) 4 true),
   m1 60 17,
   m1 61 15,
   o1 62 (.call 85 [.t 59,.t 60,.t 61]),
   m1 15 62]
   (sr1 [
   m1 63 15,
   o1 64 (.bin .lss (.t 63) (.c (.int .i64 0)))]
   (.cond (.t 64)
   (sr1 [
    m1 65 16,
    o1 10 (.mv (.c (.slice none 0 0))),
    m1 11 65,
    o1 12 (.mv (.c (.int .i64 8)))]
    .ret)
   .skip)))
   (.reg [
   m1 66 14,
   m1 67 15,
   o1 68 (.bsl 1 3 [.t 67]),
   o1 69 (.appm 1 8 3 (.t 66) (.t 68)),
   m1 14 69]))))
  (.reg [
  o1 70 (.bin .add (.t 54) (.c (.int .i64 1))),
  m1 54 70])))))))
 (sr1 [
 m1 71 2,
 m1 72 2,
 o1 73 (.build [.int .i64 0,.int .i64 0] [(0,1,.t 71),(1,1,.t 72)]),
 o1 18 (.alloc [.int .i64 0,.int .i64 0] 123),
 ⟨none,.st (.t 18) (.t 73) 2,none,[]⟩]
 (.seq (sr1 [
 m1 74 4,
 o1 75 (.len (.t 74)),
 o1 76 (.mv (.c (.int .i64 0)))]
 (.block 3 (.loop (sr1 [
  o1 77 (.bin .lss (.t 76) (.t 75))]
  (.seq (.cond (.t 77)
  .skip
  (.exit 3))
  (.seq (.block 4 (sr1 [
   m1 78 76,
   o1 79 (.ixs (.t 74) (.t 76) 1),
   o1 80 (.ld (.t 79) 1 false),
   m1 19 78,
   m1 20 80]
   (sr1 [
   o1 81 (.ld (.t 13) 4 true),
   m1 82 20,
   o1 83 (.ld (.t 18) 2 true),
   o1 84 (.call 68 [.t 81,.t 82,.t 83]),
   o1 21 (.alloc [.int .i64 0,.int .i64 0] 123),
   ⟨none,.st (.t 21) (.t 84) 2,none,[]⟩]
   (.seq (sr1 [
   o1 85 (.ld (.t 13) 4 true),
   m1 86 20,
   o1 87 (.ld (.t 18) 2 true),
   o1 88 (.call 80 [.t 85,.t 86,.t 87]),
   ⟨none,.st (.t 18) (.t 88) 2,none,[]⟩]
   (sr1 [
   o1 89 (.ixa (.t 18) (.c (.int .i64 1)) 2 1),
   o1 90 (.ld (.t 89) 1 false),
   o1 91 (.bin .gtr (.t 90) (.c (.int .i64 100000)))]
   (.cond (.t 91)
   (sr1 [
    m1 92 19,
    o1 10 (.mv (.c (.slice none 0 0))),
    m1 11 92,
    o1 12 (.mv (.c (.int .i64 34)))]
    .ret)
   .skip)))
   (.regs [0,1,2,3,4,5,6,7,8,9,10,11,12,13] ⟨[
   .op (m1 93 10),
   .op (m1 94 20),
   .op (m1 95 14),
   .op (m1 96 19),
   .op ⟨some 97,.ixs (.t 95) (.t 96) 1,none,[2,3]⟩,
   .op ⟨some 98,.ld (.t 97) 1 false,none,[4]⟩,
   .op (o1 99 (.ld (.t 21) 2 true)),
   .op ⟨some 100,.call 65 [.t 99],none,[6]⟩,
   .op (o1 101 (.ld (.t 18) 2 true)),
   .op ⟨some 102,.call 65 [.t 101],none,[7,8]⟩,
   .op ⟨some 103,.build zv2 [(0,1,.t 94),(1,1,.t 98),(2,2,.t 100),(4,2,.t 102)],none,[1,5,7,9]⟩,
   .op ⟨some 104,.bsl 6 92 [.t 103],none,[10]⟩],0,1,[
   ⟨some 105,.appm 6 48 92 (.t 93) (.t 104),none,[0,9,11]⟩]⟩ [⟨[
],0,1,[
 ⟨some 10,.mv (.t 105),none,[0,1,2,3,4,5,6,7,8,9,10,11,12]⟩]⟩])))))
 (.reg [
 o1 106 (.bin .add (.t 76) (.c (.int .i64 1))),
 m1 76 106])))))))
 (sr1 [
 m1 107 10,
 m1 10 107,
 o1 11 (.mv (.c (.int .i64 0))),
 o1 12 (.mv (.c (.int .i64 0)))]
 .ret)))))))))
def r34:List RV:=[.tmp 10,.tmp 11,.tmp 12]
theorem t34:Qt1 Try.prog 34 c34 r34 108:=YU Try.func34 rfl (by kernel_rfl) (by kernel_rfl) (by kernel_rfl) (by kernel_rfl)
def c36:SC:=(sr1 [
 o1 5 (.box (.t 0) 0 25),
 o1 9 (.box (.t 4) 0 29),
 o1 10 (.mv (.c (.slice none 0 0))),
 o1 11 (.mv (.c (.int .i64 0)))]
 (sr1 [
 o1 28 (.ld (.t 5) 2 true),
 o1 29 (.ld (.t 9) 2 true),
 o1 30 (.call 63 [.t 28,.t 29]),
 m1 27 30,
 o1 31 (.ext (.t 27) 0),
 o1 32 (.ext (.t 27) 1),
 o1 12 (.alloc [.slice none 0 0,.slice none 0 0,.int .i64 0,.int .i64 0] 119),
 ⟨none,.st (.t 12) (.t 31) 4,none,[]⟩,
 m1 13 32]
 (.seq (.block 0 (sr1 [
  m1 34 13,
  o1 35 (.bin .neq (.t 34) (.c (.int .i64 0))),
  m1 33 35]
  (.cond (.t 33)
  (sr1 [
   m1 36 13,
   o1 10 (.mv (.c (.slice none 0 0))),
   m1 11 36]
   .ret)
  (sr1 [
   o1 38 (.addo (.t 5) 0),
   o1 39 (.ld (.t 38) 1 false),
   o1 40 (.len (.t 39)),
   o1 41 (.bin .sub (.t 40) (.c (.int .i64 1))),
   m1 42 1,
   m1 43 2,
   o1 44 (.bsl 1 3 [.t 42,.t 43]),
   o1 45 (.call 58 [.c (.int .i64 0),.t 41,.t 44]),
   o1 46 (.un .not (.t 45)),
   m1 47 46,
   ⟨some 48,.mv (.t 3),some (47,false),[]⟩,
   ⟨some 49,.bsl 1 3 [.t 48],some (47,false),[]⟩,
   ⟨some 50,.call 58 [.c (.int .i64 0),.c (.int .i64 100000),.t 49],some (47,false),[]⟩,
   ⟨some 51,.un .not (.t 50),some (47,false),[]⟩,
   o1 52 (.pick (.t 47) (.c (.bool true)) (.t 51)),
   m1 37 52]
   (.cond (.t 37)
   (sr1 [
    o1 10 (.mv (.c (.slice none 0 0))),
    o1 11 (.mv (.c (.int .i64 2)))]
    .ret)
   .skip)))))
 (sr1 [
 m1 53 2,
 o1 54 (.ld (.t 12) 4 true),
 m1 55 1,
 m1 56 3,
 o1 57 (.call 83 [.t 54,.t 55,.t 56,.c (.int .i64 1)]),
 m1 58 2,
 o1 59 (.ixs (.t 57) (.t 58) 1),
 o1 60 (.ld (.t 59) 1 false),
 o1 61 (.build [.int .i64 0,.int .i64 0] [(0,1,.t 53),(1,1,.t 60)]),
 o1 14 (.alloc [.int .i64 0,.int .i64 0] 136),
 ⟨none,.st (.t 14) (.t 61) 2,none,[]⟩]
 (.seq (sr1 [
 o1 62 (.addo (.t 14) 1),
 o1 63 (.ld (.t 62) 1 false),
 o1 64 (.bin .gtr (.t 63) (.c (.int .i64 100000)))]
 (.cond (.t 64)
 (sr1 [
  o1 10 (.mv (.c (.slice none 0 0))),
  o1 11 (.mv (.c (.int .i64 6)))]
  .ret)
 .skip))
 (sr1 [
 o1 65 (.raw (Go.Op.makeMap 147 Option.none) 147),
 m1 66 1,
 m1 67 3,
 o1 68 (.build [.int .i64 0,.int .i64 0] [(0,1,.t 66),(1,1,.t 67)]),
 ⟨none,.raw (Go.Op.insert 147 (Go.Operand.tmp 65) (Go.Operand.tmp 68) (Go.Operand.const (Go.Value.slice Option.none 0 0))) 0,none,[]⟩,
 m1 69 65,
 m1 15 69]
 (.block 1 (.loop (.block 2 (.seq (sr1 [
  m1 71 15,
  o1 72 (.ld (.t 14) 2 true),
  o1 73 (.raw (Go.Op.lookup 147 (Go.Operand.tmp 71) (Go.Operand.tmp 72) Bool.true) 148),
  m1 70 73,
  o1 74 (.ext (.t 70) 0),
  o1 75 (.ext (.t 70) 1),
  m1 16 74,
  m1 17 75]
  (sr1 [
  m1 76 17]
  (.cond (.t 76)
  (sr1 [
   m1 77 16,
   m1 10 77,
   o1 11 (.mv (.c (.int .i64 0)))]
   .ret)
  .skip)))
  (sr1 [
  o1 78 (.raw (Go.Op.makeMap 147 Option.none) 147),
  o1 18 (.alloc [.map none] 147),
  ⟨none,.st (.t 18) (.t 78) 1,none,[]⟩]
  (.seq (sr1 [
  m1 79 15,
  o1 80 (.raw (Go.Op.range 147 (Go.Operand.tmp 79)) 0)]
  (.block 3 (.loop (sr1 [
   o1 81 (.raw (Go.Op.next (Go.Operand.tmp 80) Bool.false) 0),
   o1 82 (.ext (.t 81) 0)]
   (.seq (.cond (.t 82)
   .skip
   (.exit 3))
   (.block 4 (sr1 [
    o1 83 (.raw (Go.Op.entry (Go.Operand.tmp 80)) 0),
    o1 84 (.ext (.t 83) 0),
    o1 85 (.ext (.t 83) 1),
    o1 19 (.alloc [.int .i64 0,.int .i64 0] 136),
    o1 20 (.alloc [.slice none 0 0] 59),
    ⟨none,.st (.t 19) (.t 84) 2,none,[]⟩,
    ⟨none,.st (.t 20) (.t 85) 1,none,[]⟩]
    (sr1 [
    o1 86 (.ld (.t 12) 4 true),
    o1 87 (.addo (.t 19) 0),
    o1 88 (.ld (.t 87) 1 false),
    o1 89 (.callm 79 [.t 86,.t 88])]
    (.block 5 (.gh (.rfun (.t 89) [90,91] (sr1 [
     m1 21 90]
     (.reg [
     m1 22 91]))
     (.block 6 (sr1 [
      m1 92 22,
      o1 93 (.ld (.t 12) 4 true),
      m1 94 21,
      o1 95 (.addo (.t 19) 1),
      o1 96 (.ld (.t 95) 1 false),
      o1 97 (.addo (.t 19) 1),
      o1 98 (.ld (.t 97) 1 false),
      o1 99 (.build [.int .i64 0,.int .i64 0] [(0,1,.t 96),(1,1,.t 98)]),
      o1 100 (.call 80 [.t 93,.t 94,.t 99]),
      o1 101 (.idx (.t 100) (.c (.int .i64 1)) 2 1 false),
      o1 102 (.build [.int .i64 0,.int .i64 0] [(0,1,.t 92),(1,1,.t 101)]),
      o1 23 (.alloc [.int .i64 0,.int .i64 0] 136),
      ⟨none,.st (.t 23) (.t 102) 2,none,[]⟩]
      (.seq (sr1 [
      o1 103 (.addo (.t 23) 1),
      o1 104 (.ld (.t 103) 1 false),
      o1 105 (.addo (.t 14) 1),
      o1 106 (.ld (.t 105) 1 false),
      o1 107 (.bin .gtr (.t 104) (.t 106))]
      (.cond (.t 107)
      (.exit 6)
      .skip))
      (sr1 [
      o1 108 (.ld (.t 20) 1 false),
      m1 109 21,
      o1 110 (.call 81 [.t 108,.t 109]),
      m1 24 110]
      (sr1 [
      o1 112 (.ld (.t 18) 1 false),
      o1 113 (.ld (.t 23) 2 true),
      o1 114 (.raw (Go.Op.lookup 147 (Go.Operand.tmp 112) (Go.Operand.tmp 113) Bool.true) 148),
      m1 111 114,
      o1 115 (.ext (.t 111) 0),
      o1 116 (.ext (.t 111) 1),
      m1 25 115,
      m1 26 116]
      (sr1 [
      m1 117 26,
      o1 118 (.un .not (.t 117)),
      m1 119 118,
      ⟨some 120,.mv (.t 24),some (119,false),[]⟩,
      ⟨some 121,.mv (.t 25),some (119,false),[]⟩,
      ⟨some 122,.call 87 [.t 120,.t 121],some (119,false),[]⟩,
      ⟨some 123,.bin .lss (.t 122) (.c (.int .i64 0)),some (119,false),[]⟩,
      o1 124 (.pick (.t 119) (.c (.bool true)) (.t 123))]
      (.cond (.t 124)
      (.reg [
       o1 125 (.ld (.t 18) 1 false),
       o1 126 (.ld (.t 23) 2 true),
       m1 127 24,
       ⟨none,.raw (Go.Op.mapUpdate 147 (Go.Operand.tmp 125) (Go.Operand.tmp 126) (Go.Operand.tmp 127)) 0,none,[]⟩])
      .skip))))))))))))))))))
  (.reg [
  o1 128 (.ld (.t 18) 1 false),
  m1 15 128])))))))))))))
def r36:List RV:=[.tmp 10,.tmp 11]
theorem t36:Qt1 Try.prog 36 c36 r36 129:=YU Try.func36 rfl (by kernel_rfl) (by kernel_rfl) (by kernel_rfl) (by kernel_rfl)
def c81:SC:=(sr1 [
 o1 4 (.mv (.c (.slice none 0 0)))]
 (sr1 [
 m1 5 0,
 o1 6 (.call 78 [.t 5]),
 o1 7 (.call 98 [.t 6]),
 m1 8 1,
 o1 9 (.bsl 1 3 [.t 8]),
 o1 10 (.app 1 8 3 (.t 7) (.t 9)),
 m1 4 10]
 .ret))
def r81:List RV:=[.tmp 4]
theorem t81:Qt1 Try.prog 81 c81 r81 11:=YU Try.func81 rfl (by kernel_rfl) (by kernel_rfl) (by kernel_rfl) (by kernel_rfl)
def c78:SC:=(sr1 [
 o1 2 (.mv (.c (.slice none 0 0)))]
 (.seq (sr1 [
 m1 3 0,
 o1 4 (.isn (.t 3))]
 (.cond (.t 4)
 (sr1 [
  o1 2 (.mv (.c (.slice none 0 0)))]
  .ret)
 .skip))
 (sr1 [
 o1 5 (.bsl 1 3 []),
 m1 6 0,
 o1 7 (.app 1 8 3 (.t 5) (.t 6)),
 m1 2 7]
 .ret)))
def r78:List RV:=[.tmp 2]
theorem n78:Try.f78.ntmps=8:=by kernel_rfl
theorem b78:Xp Try.prog 78=true:=by kernel_rfl
theorem Zui:XY Try.prog c78 ((Try.f78.body).getD .skip)=true:=by kernel_rfl
theorem Zut:Vn Try.prog r78 Try.f78.results.toList=true:=by kernel_rfl
def c98:SC:=(sr1 [
 o1 2 (.mv (.c (.slice none 0 0)))]
 (sr1 [
 m1 3 0,
 m1 4 0,
 o1 5 (.len (.t 4)),
 m1 6 0,
 o1 7 (.len (.t 6)),
 o1 8 (.slc (.t 3) (.t 5) (.t 7)),
 m1 2 8]
 .ret))
def r98:List RV:=[.tmp 2]
theorem t98:Qt1 Try.prog 98 c98 r98 9:=YU Try.func98 rfl (by kernel_rfl) (by kernel_rfl) (by kernel_rfl) (by kernel_rfl)
def c87:SC:=(sr1 [
 o1 4 (.mv (.c (.int .i64 0)))]
 (.seq (sr1 [
 m1 9 0,
 o1 10 (.len (.t 9)),
 o1 11 (.mv (.c (.int .i64 0)))]
 (.block 0 (.loop (sr1 [
  o1 12 (.bin .lss (.t 11) (.t 10))]
  (.seq (.cond (.t 12)
  .skip
  (.exit 0))
  (.seq (.block 1 (sr1 [
   m1 13 11,
   o1 14 (.ixs (.t 9) (.t 11) 1),
   o1 15 (.ld (.t 14) 1 false),
   m1 5 13,
   m1 6 15]
   (.seq (sr1 [
   m1 16 5,
   m1 17 1,
   o1 18 (.len (.t 17)),
   o1 19 (.bin .geq (.t 16) (.t 18))]
   (.cond (.t 19)
   (sr1 [
    o1 4 (.mv (.c (.int .i64 1)))]
    .ret)
   .skip))
   (sr1 [
   m1 20 1,
   m1 21 5,
   o1 22 (.ixs (.t 20) (.t 21) 1),
   o1 23 (.ld (.t 22) 1 false),
   m1 7 23]
   (sr1 [
   m1 24 6,
   m1 25 7,
   o1 26 (.call 100 [.t 24,.t 25]),
   m1 8 26]
   (sr1 [
   m1 27 8,
   o1 28 (.bin .neq (.t 27) (.c (.int .i64 0)))]
   (.cond (.t 28)
   (sr1 [
    m1 29 8,
    m1 4 29]
    .ret)
   .skip)))))))
  (.reg [
  o1 30 (.bin .add (.t 11) (.c (.int .i64 1))),
  m1 11 30])))))))
 (.seq (sr1 [
 m1 31 0,
 o1 32 (.len (.t 31)),
 m1 33 1,
 o1 34 (.len (.t 33)),
 o1 35 (.bin .lss (.t 32) (.t 34))]
 (.cond (.t 35)
 (sr1 [
  o1 4 (.mv (.c (.int .i64 (-1))))]
  .ret)
 .skip))
 (sr1 [
 o1 4 (.mv (.c (.int .i64 0)))]
 .ret))))
def r87:List RV:=[.tmp 4]
theorem t87:Qt1 Try.prog 87 c87 r87 36:=YU Try.func87 rfl (by kernel_rfl) (by kernel_rfl) (by kernel_rfl) (by kernel_rfl)
def c100:SC:=(sr1 [
 o1 4 (.mv (.c (.int .i64 0)))]
 (sr1 [
 m1 7 0,
 o1 8 (.call 106 [.t 7]),
 m1 5 8]
 (sr1 [
 m1 9 1,
 o1 10 (.call 106 [.t 9]),
 m1 6 10]
 (.seq (sr1 [
 m1 11 5]
 (.cond (.t 11)
 (.seq (sr1 [
  m1 12 6]
  (.cond (.t 12)
  (sr1 [
   o1 4 (.mv (.c (.int .i64 0)))]
   .ret)
  .skip))
  (sr1 [
  o1 4 (.mv (.c (.int .i64 (-1))))]
  .ret))
 .skip))
 (.seq (sr1 [
 m1 13 6]
 (.cond (.t 13)
 (sr1 [
  o1 4 (.mv (.c (.int .i64 1)))]
  .ret)
 .skip))
 (.seq (sr1 [
 m1 14 0,
 m1 15 1,
 o1 16 (.bin .lss (.t 14) (.t 15))]
 (.cond (.t 16)
 (sr1 [
  o1 4 (.mv (.c (.int .i64 (-1))))]
  .ret)
 .skip))
 (.seq (sr1 [
 m1 17 0,
 m1 18 1,
 o1 19 (.bin .gtr (.t 17) (.t 18))]
 (.cond (.t 19)
 (sr1 [
  o1 4 (.mv (.c (.int .i64 1)))]
  .ret)
 .skip))
 (sr1 [
 o1 4 (.mv (.c (.int .i64 0)))]
 .ret))))))))
def r100:List RV:=[.tmp 4]
theorem t100:Qt1 Try.prog 100 c100 r100 20:=YU Try.func100 rfl (by kernel_rfl) (by kernel_rfl) (by kernel_rfl) (by kernel_rfl)
def c106:SC:=(sr1 [
 o1 2 (.mv (.c (.bool false)))]
 (sr1 [
 m1 3 0,
 m1 4 0,
 o1 5 (.bin .neq (.t 3) (.t 4)),
 m1 2 5]
 .ret))
def r106:List RV:=[.tmp 2]
theorem t106:Qt1 Try.prog 106 c106 r106 6:=YU Try.func106 rfl (by kernel_rfl) (by kernel_rfl) (by kernel_rfl) (by kernel_rfl)
def c99:SC:=(sr1 [
 o1 4 (.mv (.c (.slice none 0 0)))]
 (.seq (sr1 [
 m1 9 1,
 o1 10 (.bin .lss (.t 9) (.c (.int .i64 0)))]
 (.cond (.t 10)
 (.reg [
  o1 11 (.raw (Go.Op.makeInterface 9 (Go.Operand.const (Go.Value.string { data:=#[99,97,110,110,111,116,32,98,101,32,110,101,103,97,116,105,118,101] }))) 20),
  ⟨none,.raw (Go.Op.panic (Go.Operand.tmp 11)) 0,none,[]⟩])
 .skip))
 (sr1 [
 m1 13 0,
 o1 14 (.len (.t 13)),
 o1 15 (.conv .u64 (.t 14)),
 m1 16 1,
 o1 17 (.conv .u64 (.t 16)),
 o1 18 (.call 105 [.t 15,.t 17]),
 m1 12 18,
 o1 19 (.ext (.t 12) 0),
 o1 20 (.ext (.t 12) 1),
 m1 5 19,
 m1 6 20]
 (.seq (sr1 [
 m1 21 5,
 o1 22 (.bin .gtr (.t 21) (.c (.int .u64 0))),
 m1 23 22,
 ⟨some 24,.mv (.t 6),some (23,false),[]⟩,
 ⟨some 25,.bin .gtr (.t 24) (.c (.int .u64 9223372036854775807)),some (23,false),[]⟩,
 o1 26 (.pick (.t 23) (.c (.bool true)) (.t 25))]
 (.cond (.t 26)
 (.reg [
  o1 27 (.raw (Go.Op.makeInterface 9 (Go.Operand.const (Go.Value.string { data:=#[116,104,101,32,114,101,115,117,108,116,32,111,102,32,40,108,101,110,40,120,41,32,42,32,99,111,117,110,116,41,32,111,118,101,114,102,108,111,119,115] }))) 20),
  ⟨none,.raw (Go.Op.panic (Go.Operand.tmp 27)) 0,none,[]⟩])
 .skip))
 (sr1 [
 m1 28 6,
 o1 29 (.conv .i64 (.t 28)),
 o1 30 (.mks 1 8 [.int .i64 0] 3 (.t 29)),
 m1 7 30]
 (sr1 [
 m1 31 7,
 m1 32 0,
 o1 33 (.cpy 1 (.t 31) (.t 32)),
 m1 8 33]
 (.seq (.block 0 (.loop (.seq (sr1 [
  m1 34 8,
  m1 35 7,
  o1 36 (.len (.t 35)),
  o1 37 (.bin .lss (.t 34) (.t 36))]
  (.cond (.t 37)
  .skip
  (.exit 0)))
  (.block 1 (.regd [1,2,3,4,5,6,0,7,8,9] [
   .op (m1 39 7),
   .op (m1 40 8),
   .op ⟨some 41,.sub 1 (.t 39) (some (.t 40)) none,none,[1,2]⟩,
   .op (m1 42 7),
   .op (m1 43 8),
   .op ⟨some 44,.sub 1 (.t 42) none (some (.t 43)),none,[4,5]⟩,
   .hide (.t 41),
   .op (m1 38 8)] 0 1 [
   ⟨some 45,.cpy 1 (.t 41) (.t 44),none,[3,6]⟩,
   ⟨some 46,.bin .add (.t 38) (.t 45),none,[0,7]⟩,
   ⟨some 8,.mv (.t 46),none,[0,1,2,3,4,5,6,7,8]⟩])))))
 (sr1 [
 m1 47 7,
 m1 4 47]
 .ret))))))))
def r99:List RV:=[.tmp 4]
theorem n99:Try.f99.ntmps=48:=by kernel_rfl
theorem b99:Xp Try.prog 99=true:=by kernel_rfl
theorem ZvV:XY Try.prog c99 ((Try.f99.body).getD .skip)=true:=by kernel_rfl
theorem Zuo:Vn Try.prog r99 Try.f99.results.toList=true:=by kernel_rfl
theorem m99 {n0:Nat} {hp0:List (Nat × HB)} {args:List SV} {YE:Ot->Prop} (hh:hpb n0 hp0) (hx:∀ o,YE o->KX o.res/\KXP o.hp) (h:sx Try.prog Y0 n0 c99 ⟨Wp 0 args,hp0,n0,48,[]⟩ (ZfP r99 fun o=>∃ o',YE o'/\Zkb n0 o o')) (hA:Nat.ble args.length 48=true:=by rfl):CtM Try.prog 99 hp0 n0 args YE:=Zcs Try.func99 rfl b99 ZvV Zuo n99 (Nat.le_of_ble_eq_true hA) hh hx h
def c105:SC:=(sr1 [
 o1 4 (.mv (.c (.int .u64 0))),
 o1 5 (.mv (.c (.int .u64 0)))]
 (.seq (.cond (.c (.bool false))
 (sr1 [
  m1 11 0,
  o1 12 (.conv .u32 (.t 11)),
  m1 13 1,
  o1 14 (.conv .u32 (.t 13)),
  o1 15 (.call 108 [.t 12,.t 14]),
  m1 10 15,
  o1 16 (.ext (.t 10) 0),
  o1 17 (.ext (.t 10) 1),
  m1 6 16,
  m1 7 17]
  (sr1 [
  m1 18 6,
  o1 19 (.conv .u64 (.t 18)),
  m1 20 7,
  o1 21 (.conv .u64 (.t 20)),
  m1 4 19,
  m1 5 21]
  .ret))
 .skip)
 (sr1 [
 m1 23 0,
 m1 24 1,
 o1 25 (.call 109 [.t 23,.t 24]),
 m1 22 25,
 o1 26 (.ext (.t 22) 0),
 o1 27 (.ext (.t 22) 1),
 m1 8 26,
 m1 9 27]
 (sr1 [
 m1 28 8,
 m1 29 9,
 m1 4 28,
 m1 5 29]
 .ret))))
def r105:List RV:=[.tmp 4,.tmp 5]
theorem t105:Qt1 Try.prog 105 c105 r105 30:=YU Try.func105 rfl (by kernel_rfl) (by kernel_rfl) (by kernel_rfl) (by kernel_rfl)
def c109:SC:=(sr1 [
 o1 4 (.mv (.c (.int .u64 0))),
 o1 5 (.mv (.c (.int .u64 0)))]
 (sr1 [
 m1 14 0,
 o1 15 (.raw (Go.Op.binOp Go.BinOp.and 168 (Go.Operand.tmp 14) (Go.Operand.const (Go.Value.int Go.IntKind.u64 4294967295)) 168) 168),
 m1 6 15]
 (sr1 [
 m1 16 0,
 o1 17 (.raw (Go.Op.binOp Go.BinOp.shr 168 (Go.Operand.tmp 16) (Go.Operand.const (Go.Value.int Go.IntKind.u64 32)) 162) 168),
 m1 7 17]
 (sr1 [
 m1 18 1,
 o1 19 (.raw (Go.Op.binOp Go.BinOp.and 168 (Go.Operand.tmp 18) (Go.Operand.const (Go.Value.int Go.IntKind.u64 4294967295)) 168) 168),
 m1 8 19]
 (sr1 [
 m1 20 1,
 o1 21 (.raw (Go.Op.binOp Go.BinOp.shr 168 (Go.Operand.tmp 20) (Go.Operand.const (Go.Value.int Go.IntKind.u64 32)) 162) 168),
 m1 9 21]
 (sr1 [
 m1 22 6,
 m1 23 8,
 o1 24 (.bin .mul (.t 22) (.t 23)),
 m1 10 24]
 (sr1 [
 m1 25 7,
 m1 26 8,
 o1 27 (.bin .mul (.t 25) (.t 26)),
 m1 28 10,
 o1 29 (.raw (Go.Op.binOp Go.BinOp.shr 168 (Go.Operand.tmp 28) (Go.Operand.const (Go.Value.int Go.IntKind.u64 32)) 162) 168),
 o1 30 (.bin .add (.t 27) (.t 29)),
 m1 11 30]
 (sr1 [
 m1 31 11,
 o1 32 (.raw (Go.Op.binOp Go.BinOp.and 168 (Go.Operand.tmp 31) (Go.Operand.const (Go.Value.int Go.IntKind.u64 4294967295)) 168) 168),
 m1 12 32]
 (sr1 [
 m1 33 11,
 o1 34 (.raw (Go.Op.binOp Go.BinOp.shr 168 (Go.Operand.tmp 33) (Go.Operand.const (Go.Value.int Go.IntKind.u64 32)) 162) 168),
 m1 13 34]
 (sr1 [
 m1 35 12,
 m1 36 6,
 m1 37 9,
 o1 38 (.bin .mul (.t 36) (.t 37)),
 o1 39 (.bin .add (.t 35) (.t 38)),
 m1 12 39]
 (sr1 [
 m1 40 7,
 m1 41 9,
 o1 42 (.bin .mul (.t 40) (.t 41)),
 m1 43 13,
 o1 44 (.bin .add (.t 42) (.t 43)),
 m1 45 12,
 o1 46 (.raw (Go.Op.binOp Go.BinOp.shr 168 (Go.Operand.tmp 45) (Go.Operand.const (Go.Value.int Go.IntKind.u64 32)) 162) 168),
 o1 47 (.bin .add (.t 44) (.t 46)),
 m1 4 47]
 (sr1 [
 m1 48 0,
 m1 49 1,
 o1 50 (.bin .mul (.t 48) (.t 49)),
 m1 5 50]
 .ret))))))))))))
def r109:List RV:=[.tmp 4,.tmp 5]
theorem t109:Qt1 Try.prog 109 c109 r109 51:=YU Try.func109 rfl (by kernel_rfl) (by kernel_rfl) (by kernel_rfl) (by kernel_rfl)
def c38:SC:=(sr1 [
 o1 4 (.mv (.c (.bool false)))]
 (.seq (sr1 [
 m1 6 0,
 o1 7 (.len (.t 6)),
 m1 8 1,
 o1 9 (.len (.t 8)),
 o1 10 (.bin .neq (.t 7) (.t 9))]
 (.cond (.t 10)
 (sr1 [
  o1 4 (.mv (.c (.bool false)))]
  .ret)
 .skip))
 (.seq (sr1 [
 o1 5 (.mv (.c (.int .i64 0)))]
 (.block 0 (.loop (.seq (sr1 [
  m1 11 5,
  m1 12 0,
  o1 13 (.len (.t 12)),
  o1 14 (.bin .lss (.t 11) (.t 13))]
  (.cond (.t 14)
  .skip
  (.exit 0)))
  (.seq (.block 1 (.seq (.regd [0,1,2,3,4,5,6,7,8] [
   .op (m1 17 0),
   .op (m1 18 5),
   .op ⟨some 19,.ixs (.t 17) (.t 18) 2,none,[0,1]⟩,
   .op ⟨some 20,.ld (.t 19) 2 true,none,[2]⟩,
   .op (m1 21 1),
   .op (m1 22 5),
   .op ⟨some 23,.ixs (.t 21) (.t 22) 2,none,[4,5]⟩,
   .op ⟨some 24,.ld (.t 23) 2 true,none,[6]⟩,
   .op ⟨some 25,.eqs true true [1,1] (.t 20) (.t 24),none,[3,7]⟩] 0 0 [
])
 (.cond (.t 25)
 (sr1 [
  o1 4 (.mv (.c (.bool false)))]
  .ret)
 .skip)))
 (.reg [
 m1 15 5,
 o1 16 (.bin .add (.t 15) (.c (.int .i64 1))),
 m1 5 16]))))))
 (sr1 [
 o1 4 (.mv (.c (.bool true)))]
 .ret))))
def r38:List RV:=[.tmp 4]
theorem t38:Qt1 Try.prog 38 c38 r38 26:=YU Try.func38 rfl (by kernel_rfl) (by kernel_rfl) (by kernel_rfl) (by kernel_rfl)
def c39:SC:=(sr1 [
 o1 4 (.mv (.c (.bool false)))]
 (.seq (sr1 [
 m1 6 0,
 o1 7 (.len (.t 6)),
 m1 8 1,
 o1 9 (.len (.t 8)),
 o1 10 (.bin .neq (.t 7) (.t 9))]
 (.cond (.t 10)
 (sr1 [
  o1 4 (.mv (.c (.bool false)))]
  .ret)
 .skip))
 (.seq (sr1 [
 o1 5 (.mv (.c (.int .i64 0)))]
 (.block 0 (.loop (.seq (sr1 [
  m1 11 5,
  m1 12 0,
  o1 13 (.len (.t 12)),
  o1 14 (.bin .lss (.t 11) (.t 13))]
  (.cond (.t 14)
  .skip
  (.exit 0)))
  (.seq (.block 1 (.seq (.regd [0,1,2,3,4,5,6,7,8] [
   .op (m1 17 0),
   .op (m1 18 5),
   .op ⟨some 19,.ixs (.t 17) (.t 18) 6,none,[0,1]⟩,
   .op ⟨some 20,.ld (.t 19) 6 true,none,[2]⟩,
   .op (m1 21 1),
   .op (m1 22 5),
   .op ⟨some 23,.ixs (.t 21) (.t 22) 6,none,[4,5]⟩,
   .op ⟨some 24,.ld (.t 23) 6 true,none,[6]⟩,
   .op ⟨some 25,.eqs true true [1,1,1,1,1,1] (.t 20) (.t 24),none,[3,7]⟩] 0 0 [
])
 (.cond (.t 25)
 (sr1 [
  o1 4 (.mv (.c (.bool false)))]
  .ret)
 .skip)))
 (.reg [
 m1 15 5,
 o1 16 (.bin .add (.t 15) (.c (.int .i64 1))),
 m1 5 16]))))))
 (sr1 [
 o1 4 (.mv (.c (.bool true)))]
 .ret))))
def r39:List RV:=[.tmp 4]
theorem t39:Qt1 Try.prog 39 c39 r39 26:=YU Try.func39 rfl (by kernel_rfl) (by kernel_rfl) (by kernel_rfl) (by kernel_rfl)
def c40:SC:=(sr1 [
 o1 4 (.mv (.c (.bool false)))]
 (.seq (sr1 [
 m1 6 0,
 o1 7 (.len (.t 6)),
 m1 8 1,
 o1 9 (.len (.t 8)),
 o1 10 (.bin .neq (.t 7) (.t 9))]
 (.cond (.t 10)
 (sr1 [
  o1 4 (.mv (.c (.bool false)))]
  .ret)
 .skip))
 (.seq (sr1 [
 o1 5 (.mv (.c (.int .i64 0)))]
 (.block 0 (.loop (.seq (sr1 [
  m1 11 5,
  m1 12 0,
  o1 13 (.len (.t 12)),
  o1 14 (.bin .lss (.t 11) (.t 13))]
  (.cond (.t 14)
  .skip
  (.exit 0)))
  (.seq (.block 1 (.seq (.regd [0,1,2,3,4,5,6,7,8] [
   .op (m1 17 0),
   .op (m1 18 5),
   .op ⟨some 19,.ixs (.t 17) (.t 18) 1,none,[0,1]⟩,
   .op ⟨some 20,.ld (.t 19) 1 false,none,[2]⟩,
   .op (m1 21 1),
   .op (m1 22 5),
   .op ⟨some 23,.ixs (.t 21) (.t 22) 1,none,[4,5]⟩,
   .op ⟨some 24,.ld (.t 23) 1 false,none,[6]⟩,
   .op ⟨some 25,.bin .neq (.t 20) (.t 24),none,[3,7]⟩] 0 0 [
])
 (.cond (.t 25)
 (sr1 [
  o1 4 (.mv (.c (.bool false)))]
  .ret)
 .skip)))
 (.reg [
 m1 15 5,
 o1 16 (.bin .add (.t 15) (.c (.int .i64 1))),
 m1 5 16]))))))
 (sr1 [
 o1 4 (.mv (.c (.bool true)))]
 .ret))))
def r40:List RV:=[.tmp 4]
theorem t40:Qt1 Try.prog 40 c40 r40 26:=YU Try.func40 rfl (by kernel_rfl) (by kernel_rfl) (by kernel_rfl) (by kernel_rfl)
open Go.Azalai
theorem Zqf (a b:Int) (c:Bool):Ct Try.prog 104 [.sl c 1 [[I a],[I b]]] (I (min a b)):=by
 refine t104.1 (by simp [KFR,KFL,KF]) (by simp [KFL,KF]) ?_
 dsimp only [c104,r104,go_sem,rA,rM,rS]
 refine ZF (by decide) ?_
 dsimp only [go_sem,rA,rM,rS]
 refine ixs 0 [I a] rfl rfl ?_
 dsimp only [go_sem,rA,rM,rS]
 refine ZdD 2 ?_
 dsimp only [Zs,go_sem,rA,rM,rS]
 refine ZP (by decide) ?_
 dsimp only [Zs,go_sem,rA,rM,rS]
 refine ixs 1 [I b] rfl rfl ?_
 dsimp only [Zs,go_sem,rA,rM,rS]
 refine ZF (by decide) ?_
 dsimp only [go_sem,rA,rM,rS]
theorem Zcp (a:Int):Ct Try.prog 94 [.sl true 1 [[I a]]] (I (min a 100001)):=by
 refine t94.1 (by simp [KFR,KFL,KF]) (by simp [KFL,KF]) ?_
 dsimp only [c94,r94,go_sem,rA,rM,rS]
 refine Zwz (by simp) ?_
 dsimp only [go_sem,rA,rM,rS]
 refine call (Zqf a 100001 false) ?_
 dsimp only [go_sem,rA,rM,rS]
theorem YT (l:Land) (p:Span) (k:Nat) (hk:k < l.legs.length) (d0 d1:Int) (hx:GoodLeg l.legs[k]) (hp:Yo p=true) (h0:inR 0 100001 d0=true) (h1:inR 0 100001 d1=true) :
 Ct Try.prog 80 [.agg (Zx l p),I k,.agg [I d0,I d1]] (.agg [I (ZG false l.legs[k] p d0),I (ZG true l.legs[k] p d1)]):=by
 have hb:=ZdY hx hp
 refine t80.1 (by simp [Zx,Zc,Zj,Zg,Ze,Za,KFL,KF]) (by simp [KFL,KF]) ?_
 dsimp only [c80,r80,Zx,go_sem,rA,rM,rS]
 refine call (Xd l p k hk d0 d1 hx hp h0 h1) ?_
 dsimp only [Zx,go_sem,rA,rM,rS]
 refine call (Zbq l p k hk hx hp) ?_
 dsimp only [Ze,go_sem,rA,rM,rS]
 simp only [inR,decide_eq_true_eq] at h0 h1
 have a0:=Xb (k:=false) hx hp h0.2
 have a1:=Xb (k:=true) hx hp h1.2
 simp only [leK,nK,cond_true,cond_false] at a0 a1
 refine ZdD 3 ?_
 dsimp only [Zs,go_sem,rA,rM,rS]
 refine ZP (by decide) ?_
 dsimp only [Zs,go_sem,rA,rM,rS]
 repeat (refine ixa 0 rfl (by decide) ?_;dsimp only [Zs,go_sem,rA,rM,rS])
 rw [Zp (n:=Zrq l.legs[k] p d0+(Za1 l.legs[k] p).lo) (by omega) (by omega)]
 refine call (Zcp _) ?_
 dsimp only [Zs,go_sem,rA,rM,rS]
 repeat (refine ixa 0 rfl (by decide) ?_;dsimp only [Zs,go_sem,rA,rM,rS])
 refine ZP (by decide) ?_
 dsimp only [Zs,go_sem,rA,rM,rS]
 repeat (refine ixa 1 rfl (by decide) ?_;dsimp only [Zs,go_sem,rA,rM,rS])
 rw [Zp (n:=Zo6 l.legs[k] p d1+(Za1 l.legs[k] p).hi) (by omega) (by omega)]
 refine call (Zcp _) ?_
 dsimp only [Zs,go_sem,rA,rM,rS]
 repeat (refine ixa 1 rfl (by decide) ?_;dsimp only [Zs,go_sem,rA,rM,rS])
 refine ZF (by decide) ?_
 dsimp only [go_sem,rA,rM,rS]
 simp only [ZG,leK,nK,cond_true,cond_false]
 rw [Int.min_comm,Int.min_comm 100001 (Zo6 l.legs[k] p d1+(Za1 l.legs[k] p).hi)]
def Ux (l:Land) (p:Span) (v:Int):Ot:=⟨false,.cl 97 [.p 0 0,.p 1 0],[(1,.cells [I v] 3),(0,.cells (Zx l p) 119)],2⟩
theorem VK (l:Land) (p:Span) (v:Int):CtM Try.prog 79 [] 0 [.agg (Zx l p),I v] (fun o=>o=Ux l p v):=by
 refine m79 (by simp [hpb]) (fun o ho=>by subst ho;simp [Ux,KX,KXL,KXP,KXH,Za,KFL,KF,Zx,Zc,Zj,Zg]) ?_
 dsimp only [c79,r79,Zx,go_sem,rA,rM,rS]
 refine ⟨_,rfl,?_⟩
 simp only [Ux]
 (refine Xc ?_ ?_ ?_ rfl<;>dsimp only [Zx,Zc,Zj,Zg,id,go_sem,rA,rM,rS]<;>simp [Zx,Zc,Zj,Zg,Za,Zd,KFR,KFL,KF,Zb,mtO,nbr])
end Go.Proofs.Ytkjldleglbbkeaa
namespace Go.Azalai
def VT (l:Land) (leg v:Int):Int:=if h:0<=leg/\leg.toNat < l.legs.length then Zn l.legs[leg.toNat] v else -1
end Go.Azalai
namespace Go.Proofs.Ytkjldleglbbkeaa
open Go Go.Sx Go.Azalai
theorem ZvE (l:Land) (p:Span) (leg v:Int) (hl:l.legs.length<=1000):Ct Try.prog 85 [.agg (Zx l p),I leg,I v] (I (VT l leg v)):=by
 refine t85.1 (by simp [Zx,Zc,Zj,Zg,Za,KFL,KF]) (by simp [KFL,KF]) ?_
 dsimp only [c85,r85,Zx,go_sem,rA,rM,rS]
 refine Za5 [] (VK l p v) rfl rfl rfl ?_ ?_ ?_
 . exact Zb (by simp [Zx,Zc,Zj,Zg,Za,KFL,KF])
 . trivial
 dsimp only [Ux,Zx,go_sem,rA,rM,rS]
 refine gh Wd ?_
 dsimp only [go_sem,rA,rM,rS]
 refine ⟨b97,fun rec=>?_⟩
 refine y97 ?_
 dsimp only [c97,r97,go_sem,rA,rM,rS]
 refine YR (fun j:Nat=>[(10,I j)]) (fun _=>[]) (fun j=>j<=l.legs.length/\(0<=leg->leg < j->VT l leg v = -1)) (fun j=>l.legs.length - j) 0 ⟨Nat.zero_le _,fun h1 h2=>by omega⟩ ?_ ?_
 . (refine Zi ?_ ?_ ?_ rfl rfl<;>dsimp only [Zx,Zc,Zj,Zg,id,go_sem,rA,rM,rS]<;>simp [Zx,Zc,Zj,Zg,Za,Zd,KFR,KFL,KF,Zb,mtO,nbr])
 rintro j ⟨hj,hi⟩
 dsimp only [go_sem,rA,rM,rS]
 simp only [List.length_map]
 by_cases hlt:j < l.legs.length
 . refine ZP (by simpa using hlt) ?_
   dsimp only [go_sem,rA,rM,rS]
   refine Zy j hlt rfl ?_
   dsimp only [Zj,go_sem,rA,rM,rS]
   have hend:leg=j->VT l leg v=Zn l.legs[j] v:=fun he=>by
    subst he
    unfold VT
    rw [dif_pos ⟨by omega,by simpa using hlt⟩]
    simp
   by_cases ha:v=l.legs[j].a
   . refine ZP (by simpa using ha) ?_
     dsimp only [go_sem,rA,rM,rS]
     refine ⟨rfl,rfl,?_⟩
     by_cases he:leg=j
     . refine ZP (by simp [he]) ?_
       dsimp only [go_sem,rA,rM,rS]
       refine ⟨rfl,?_⟩
       refine ZP (by decide) ?_
       dsimp only [go_sem,rA,rM,rS]
       rw [hend he,Zn,if_pos ha.symm]
     . refine ZF (by simp;omega) ?_
       dsimp only [go_sem,rA,rM,rS]
       refine ⟨rfl,?_⟩
       refine ZF (by decide) ?_
       dsimp only [go_sem,rA,rM,rS]
       rw [Zp (n:=(j:Int)+1) (by omega) (by omega)]
       refine ⟨j+1,⟨hlt,fun h1 h2=>hi h1 (by omega)⟩,by omega,?_⟩
       (refine Zi ?_ ?_ ?_ rfl rfl<;>dsimp only [Zx,Zc,Zj,Zg,id,go_sem,rA,rM,rS]<;>simp [Zx,Zc,Zj,Zg,Za,Zd,KFR,KFL,KF,Zb,mtO,nbr])
   refine ZF (by simpa using ha) ?_
   dsimp only [go_sem,rA,rM,rS]
   by_cases hb:v=l.legs[j].b
   . refine ZP (by simpa using hb) ?_
     dsimp only [go_sem,rA,rM,rS]
     refine ⟨rfl,rfl,?_⟩
     by_cases he:leg=j
     . refine ZP (by simp [he]) ?_
       dsimp only [go_sem,rA,rM,rS]
       refine ⟨rfl,?_⟩
       refine ZP (by decide) ?_
       dsimp only [go_sem,rA,rM,rS]
       rw [hend he,Zn,if_neg (fun e=>ha e.symm),if_pos hb.symm]
     . refine ZF (by simp;omega) ?_
       dsimp only [go_sem,rA,rM,rS]
       refine ⟨rfl,?_⟩
       refine ZF (by decide) ?_
       dsimp only [go_sem,rA,rM,rS]
       rw [Zp (n:=(j:Int)+1) (by omega) (by omega)]
       refine ⟨j+1,⟨hlt,fun h1 h2=>hi h1 (by omega)⟩,by omega,?_⟩
       (refine Zi ?_ ?_ ?_ rfl rfl<;>dsimp only [Zx,Zc,Zj,Zg,id,go_sem,rA,rM,rS]<;>simp [Zx,Zc,Zj,Zg,Za,Zd,KFR,KFL,KF,Zb,mtO,nbr])
   refine ZF (by simpa using hb) ?_
   dsimp only [go_sem,rA,rM,rS]
   rw [Zp (n:=(j:Int)+1) (by omega) (by omega)]
   refine ⟨j+1,⟨hlt,fun h1 h2=>?_⟩,by omega,?_⟩
   . by_cases he:leg=j
     . rw [hend he,Zn,if_neg (fun e=>ha e.symm),if_neg (fun e=>hb e.symm)]
     . exact hi h1 (by omega)
   (refine Zi ?_ ?_ ?_ rfl rfl<;>dsimp only [Zx,Zc,Zj,Zg,id,go_sem,rA,rM,rS]<;>simp [Zx,Zc,Zj,Zg,Za,Zd,KFR,KFL,KF,Zb,mtO,nbr])
 refine ZF (by simp;omega) ?_
 dsimp only [go_sem,rA,rM,rS]
 have hz:VT l leg v = -1:=by
  by_cases h1:0<=leg
  . by_cases h2:leg < j
    . exact hi h1 h2
    . unfold VT;rw [dif_neg (by omega)]
  . unfold VT;rw [dif_neg (by omega)]
 rw [hz]
def U64 (n:Int):SV:=.v (.int .u64 n)
theorem uw {n:Int} (h0:0<=n) (h1:n < 18446744073709551616):IntKind.u64.wrap n=n:=by
 have e:n % 2 ^ IntKind.u64.bits=n:=Int.emod_eq_of_lt h0 (by show n < 2 ^ 64;omega)
 simp only [IntKind.wrap,e,show IntKind.u64.signed=false from rfl,Bool.false_and]
 rfl
theorem ZjY (n:Int) (h0:0<=n) (h1:n<=1000000):Ct Try.prog 109 [U64 1,U64 n] (.tup [U64 0,U64 n]):=by
 refine t109.1 (by simp [U64,KFL,KF]) (by simp [U64,KFL,KF]) ?_
 dsimp only [c109,r109,U64,go_sem,rA,rM,rS]
 have sh:∀ (m:Int),0<=m->m < 4294967296->∀ w:World,(binOp .shr 168 (.int .u64 m) (.int .u64 32)).run Try.prog w = .ok (.int .u64 0) w:=fun m q0 q1 w=>by
  simp only [binOp,Op.shift]
  rw [if_neg (by decide)]
  have:m.fdiv (2 ^ 32)=0:=by rw [Int.fdiv_eq_ediv_of_nonneg _ (by decide)];omega
  show Result.ok (Value.int .u64 (m.fdiv (2 ^ (min (32:Int).toNat IntKind.u64.bits)))) w=_
  rw [show min (32:Int).toNat IntKind.u64.bits=32 from by decide,this]
 have an:∀ (m:Int),0<=m->m < 4294967296->∀ w:World,(binOp .and 168 (.int .u64 m) (.int .u64 4294967295)).run Try.prog w = .ok (.int .u64 m) w:=fun m q0 q1 w=>by
  obtain ⟨k,rfl⟩:=Int.eq_ofNat_of_zero_le q0
  have hk:k < 4294967296:=by omega
  have e:(BitVec.ofInt 64 (k:Int) &&& BitVec.ofInt 64 4294967295).toNat=k:=by
   rw [BitVec.toNat_and,show (BitVec.ofInt 64 4294967295).toNat=2 ^ 32 - 1 from by decide,Nat.and_two_pow_sub_one_eq_mod,BitVec.ofInt_natCast,BitVec.toNat_ofNat]
   omega
  show Result.ok (Value.int .u64 (IntKind.u64.wrap (((BitVec.ofInt 64 (k:Int) &&& BitVec.ofInt 64 4294967295).toNat:Nat):Int))) w=_
  rw [e,uw (by omega) (by omega)]
 refine Wt rfl (.inl rfl) (an 1 (by omega) (by omega)) rfl ?_
 dsimp only [go_sem,rA,rM,rS]
 refine Wt rfl (.inr rfl) (sh 1 (by omega) (by omega)) rfl ?_
 dsimp only [go_sem,rA,rM,rS]
 refine Wt rfl (.inl rfl) (an n (by omega) (by omega)) rfl ?_
 dsimp only [go_sem,rA,rM,rS]
 refine Wt rfl (.inr rfl) (sh n (by omega) (by omega)) rfl ?_
 dsimp only [go_sem,rA,rM,rS]
 simp (disch:=omega) only [uw,Int.one_mul,Int.zero_mul,Int.mul_zero,Int.add_zero,Int.zero_add]
 refine Wt rfl (.inr rfl) (sh n (by omega) (by omega)) rfl ?_
 dsimp only [go_sem,rA,rM,rS]
 simp (disch:=omega) only [uw,Int.one_mul,Int.zero_mul,Int.mul_zero,Int.add_zero,Int.zero_add]
 refine Wt rfl (.inl rfl) (an 0 (by omega) (by omega)) rfl ?_
 dsimp only [go_sem,rA,rM,rS]
 refine Wt rfl (.inr rfl) (sh 0 (by omega) (by omega)) rfl ?_
 dsimp only [go_sem,rA,rM,rS]
 simp (disch:=omega) only [uw,Int.one_mul,Int.zero_mul,Int.mul_zero,Int.add_zero,Int.zero_add]
 refine Wt rfl (.inr rfl) (sh 0 (by omega) (by omega)) rfl ?_
 dsimp only [go_sem,rA,rM,rS]
 simp (disch:=omega) only [uw,Int.one_mul,Int.zero_mul,Int.mul_zero,Int.add_zero,Int.zero_add]
theorem Zvs (n:Int) (h0:0<=n) (h1:n<=1000000):Ct Try.prog 105 [U64 1,U64 n] (.tup [U64 0,U64 n]):=by
 refine t105.1 (by simp [U64,KFL,KF]) (by simp [U64,KFL,KF]) ?_
 dsimp only [c105,r105,U64,go_sem,rA,rM,rS]
 refine ZF (by decide) ?_
 dsimp only [go_sem,rA,rM,rS]
 refine call (ZjY n h0 h1) ?_
 dsimp only [U64,go_sem,rA,rM,rS]
theorem Vi {r:List SV} (h:KFL r):∀ n,KFR (List.replicate n r)
 | 0=>trivial
 | n+1=>⟨h,Vi h n⟩
theorem Zqm (x:Int) (n:Nat) (h0:1<=n) (h1:n<=1000) (k:Bool):CtM Try.prog 99 [] 0 [.sl k 1 [[I x]],I n] (fun o=>o=⟨false,.mr 0 0,[(0,.row 0 1 (List.replicate n [I x]) 3)],1⟩):=by
 have hm:KFL [I x]:=by simp [KFL,KF]
 have hone:Yi [I x]=true:=rfl
 have hkr:=Vi hm n
 refine m99 (by simp [hpb]) (fun o ho=>by subst ho;simp only [KX,KXL,KXP,KXH];exact ⟨trivial,hkr,trivial⟩) ?_
 generalize [I x]=row at hm hone hkr
 dsimp only [c99,r99,go_sem,rA,rM,rS]
 refine ZF (by simp) ?_
 dsimp only [go_sem,rA,rM,rS]
 rw [show ((1:Nat):Int)=1 from rfl]
 simp (disch:=omega) only [uw]
 refine call (Zvs n (by omega) (by omega)) ?_
 dsimp only [U64,go_sem,rA,rM,rS]
 refine gb ?_
 dsimp only [go_sem,rA,rM,rS]
 refine gb ?_
 dsimp only [go_sem,rA,rM,rS]
 refine ZF (by simp;omega) ?_
 dsimp only [go_sem,rA,rM,rS]
 refine ⟨n,Zp (by omega) (by omega),by omega,?_⟩
 have hz:KFL [SV.v (Value.int IntKind.i64 0)]:=by simp [KFL,KF]
 generalize [SV.v (Value.int IntKind.i64 0)]=z at hz
 dsimp only [go_sem,rA,rM,rS]
 refine ⟨(by intro c hc;simp only [List.mem_singleton] at hc;subst hc;exact hone),by simp,?_⟩
 have hmin:min n 1=1:=by omega
 simp only [List.length_replicate,List.length_singleton,hmin,List.drop_replicate]
 dsimp only [go_sem,rA,rM,rS]
 refine YR (fun j:Nat=>[(8,I j)]) (fun j=>[(0,.row 0 1 (List.replicate j row ++ List.replicate (n - j) z) 3)]) (fun j=>1<=j/\j<=n) (fun j=>n - j) 1 ⟨Nat.le_refl _,h0⟩ ?_ ?_
 . refine Zi ?_ ?_ ?_ rfl rfl<;>dsimp only [id,go_sem,rA,rM,rS]<;>simp [Zd,Vi,hz,hm,Zb,mtO,nbr,KFR,KFL,KF]
 rintro j ⟨hj0,hj⟩
 dsimp only [go_sem,rA,rM,rS]
 simp only [List.length_append,List.length_replicate,show j+(n - j)=n from by omega]
 by_cases hlt:j < n
 . refine ZP (by simpa using hlt) ?_
   dsimp only [go_sem,rA,rM,rS]
   refine ⟨j,n,⟨rfl,by simp;omega,by omega,by simp;omega⟩,?_⟩
   dsimp only [go_sem,rA,rM,rS]
   refine ⟨0,j,⟨rfl,rfl,by omega,by simp⟩,?_⟩
   dsimp only [go_sem,rA,rM,rS]
   have hx:List.take (j - 0) (List.replicate j row ++ List.replicate (n - j) z)=List.replicate j row:=by rw [Nat.sub_zero];exact List.take_left' (by simp)
   have hx':List.take j (List.replicate j row ++ List.replicate (n - j) z)=List.replicate j row:=List.take_left' (by simp)
   rw [hx]
   refine ⟨by simp,(by intro c hc;rw [List.eq_of_mem_replicate hc];exact hone),by simp,?_⟩
   simp only [List.length_replicate]
   generalize hN:min (n - j) j=N
   have e:List.take j (List.replicate j row ++ List.replicate (n - j) z) ++ (List.take N (List.replicate j row) ++ List.drop (j+N) (List.replicate j row ++ List.replicate (n - j) z))=List.replicate (j+N) row ++ List.replicate (n - (j+N)) z:=by
    rw [hx',List.take_replicate,List.drop_append,List.drop_of_length_le (l:=List.replicate j row) (by simp),List.length_replicate,List.nil_append,List.drop_replicate,<- List.append_assoc,List.replicate_append_replicate,show min N j=N from by omega]
    congr 2;omega
   rw [e]
   dsimp only [go_sem,rA,rM,rS]
   rw [show (j:Int)+(N:Int)=((j+N:Nat):Int) from by omega,Zp (n:=((j+N:Nat):Int)) (by omega) (by omega)]
   refine ⟨j+N,⟨by omega,by omega⟩,by omega,?_⟩
   refine Zi ?_ ?_ ?_ rfl rfl<;>dsimp only [id,go_sem,rA,rM,rS]<;>simp [Zd,Vi,hz,hm,Zb,mtO,nbr,KFR,KFL,KF]
 refine ZF (by simp;omega) ?_
 dsimp only [go_sem,rA,rM,rS]
 have hje:j=n:=by omega
 subst hje
 simp only [Nat.sub_self,List.replicate_zero,List.append_nil]
 refine ⟨_,rfl,?_⟩
 refine Xc ?_ ?_ ?_ rfl<;>dsimp only [id,go_sem,rA,rM,rS]<;>simp [Zd,Vi,hm,Zb,mtO,nbr,KFR,KFL,KF]
end Go.Proofs.Ytkjldleglbbkeaa
