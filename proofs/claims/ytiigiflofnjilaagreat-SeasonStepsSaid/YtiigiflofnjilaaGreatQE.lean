/- Walks and plain laws that lead to the given statement, part 5 of 9. -/
import Derived.Test.YtiigiflofnjilaaGreatQD
import Derived.Test.YtiigiflofnjilaaGreatProg
set_option maxRecDepth 100000
set_option maxHeartbeats 4000000
set_option linter.all false
open Nat renaming reduceAdd->rA,reduceMul->rM,reduceSub->rS,beq_refl->nbr
namespace Go.Sx
def m1 (d t:Nat):Ins:=⟨some d,.mv (.t t),none,[]⟩
def o1 (d:Nat) (i:SI):Ins:=⟨some d,i,none,[]⟩
attribute [go_sem] m1 o1
open Go
structure Qt1 (P:Program) (f:FuncId) (c:SC) (r:List RV) (N:Nat):Prop where
 h:∀ {args:List SV} {res:SV},KFL args->KF res->sx P Y0 0 c (st0 args N) (Zyd r res)->(hA:Nat.ble args.length N=true:=by rfl)->Ct P f args res
theorem Z4 {P:Program} {f:FuncId} {fn:Func} {c:SC} {r:List RV} {N:Nat} (hf:P.funcs[f]?=some fn) (hd:fn.body.isSome=true) (hb:YF P f=true) (hc:XA P c (fn.body.getD .skip)=true) (hr:We P r fn.results.toList=true) (hN:fn.ntmps=N):Qt1 P f c r N:=⟨fun {args res} ka kr h hA=>by
 cases hq:fn.body with
 | none=>rw [hq] at hd;cases hd
 | some code=>rw [hq] at hc;exact Zna hf hq hb hc hr hN (Nat.le_of_ble_eq_true hA) ka kr h⟩
def zv0:List Value:=[.slice none 0 0,.slice none 0 0,.int .i64 0,.int .i64 0,.int .i64 0,.int .i64 0,.int .i64 0,.int .i64 0,.int .i64 0,.int .i64 0,.int .i64 0,.int .i64 0,.int .i64 0,.int .i64 0,.int .i64 0,.int .i64 0,.int .i64 0,.int .i64 0,.int .i64 0,.int .i64 0,.int .i64 0,.int .i64 0,.int .i64 0,.int .i64 0,.int .i64 0,.int .i64 0,.int .i64 0,.bool false,.int .i64 0,.int .i64 0,.int .i64 0,.int .i64 0,.int .i64 0,.int .i64 0,.int .i64 0,.int .i64 0,.slice none 0 0,.int .i64 0]
def zv1:List Value:=[.int .i64 0,.int .i64 0,.int .i64 0,.int .i64 0,.int .i64 0,.int .i64 0,.int .i64 0,.int .i64 0,.int .i64 0,.int .i64 0,.int .i64 0,.int .i64 0,.int .i64 0,.int .i64 0,.int .i64 0,.int .i64 0,.int .i64 0,.int .i64 0,.int .i64 0,.int .i64 0,.int .i64 0,.int .i64 0,.int .i64 0,.bool false]
def zv2:List Value:=[.slice none 0 0,.slice none 0 0,.int .i64 0,.int .i64 0,.int .i64 0,.int .i64 0,.int .i64 0,.int .i64 0,.int .i64 0,.int .i64 0,.int .i64 0,.int .i64 0,.int .i64 0,.int .i64 0,.int .i64 0,.int .i64 0,.int .i64 0,.int .i64 0,.int .i64 0,.int .i64 0,.int .i64 0,.int .i64 0,.int .i64 0,.int .i64 0,.int .i64 0,.int .i64 0,.int .i64 0,.bool false,.int .i64 0,.int .i64 0,.int .i64 0,.int .i64 0,.int .i64 0,.int .i64 0,.int .i64 0,.int .i64 0,.slice none 0 0]
def zv3:List Value:=[.int .i64 0,.int .i64 0,.int .i64 0,.int .i64 0,.int .i64 0,.int .i64 0,.bool false]
def zv4:List Value:=[.int .i64 0,.int .i64 0,.int .i64 0,.int .i64 0,.slice none 0 0,.slice none 0 0]
def zv5:List Value:=[.int .i64 0,.int .i64 0,.int .i64 0,.int .i64 0,.int .i64 0,.int .i64 0,.int .i64 0,.int .i64 0,.int .i64 0]
def zv6:List Value:=[.int .i64 0,.int .i64 0,.int .i64 0,.int .i64 0,.int .i64 0,.int .i64 0,.int .i64 0,.int .i64 0]
def zv7:List Value:=[.int .i64 0,.int .i64 0,.int .i64 0,.int .i64 0,.int .i64 0,.int .i64 0]
def zv8:List Value:=[.int .i64 0,.int .i64 0,.int .i64 0,.int .i64 0,.slice none 0 0]
attribute [go_sem] zv0 zv1 zv2 zv3 zv4 zv5 zv6 zv7 zv8
end Go.Sx
namespace Go.Proofs.YtiigiflofnjilaaGreat
open Go Go.Sx
def c12:SC:=(.seq (.reg [
 o1 1 (.box (.t 0) 0 34),
 o1 2 (.mv (.c (.bool false)))])
 (.seq (.seq (.reg [
 o1 4 (.addo (.t 1) 0),
 o1 5 (.ld (.t 4) 2 true),
 o1 6 (.call 46 [.t 5]),
 m1 7 6,
 ⟨some 8,.addo (.t 1) 36,some (7,false),[]⟩,
 ⟨some 9,.ld (.t 8) 1 false,some (7,false),[]⟩,
 ⟨some 10,.len (.t 9),some (7,false),[]⟩,
 ⟨some 11,.bin .gtr (.t 10) (.c (.int .i64 8)),some (7,false),[]⟩,
 o1 12 (.pick (.t 7) (.c (.bool true)) (.t 11))])
 (.cond (.t 12)
 (.seq (.reg [
  o1 2 (.mv (.c (.bool true)))])
  .ret)
 .skip))
 (.seq (.seq (.reg [
 o1 3 (.mv (.c (.int .i64 0)))])
 (.block 0 (.loop (.seq (.seq (.reg [
  m1 13 3,
  o1 14 (.addo (.t 1) 36),
  o1 15 (.ld (.t 14) 1 false),
  o1 16 (.len (.t 15)),
  o1 17 (.bin .lss (.t 13) (.t 16))])
  (.cond (.t 17)
  .skip
  (.exit 0)))
  (.seq (.block 1 (.seq (.reg [
   o1 20 (.addo (.t 1) 36),
   o1 21 (.ld (.t 20) 1 false),
   m1 22 3,
   o1 23 (.ixs (.t 21) (.t 22) 6),
   o1 24 (.addo (.t 23) 4),
   o1 25 (.ld (.t 24) 1 false),
   o1 26 (.len (.t 25)),
   o1 27 (.bin .gtr (.t 26) (.c (.int .i64 20))),
   m1 28 27,
   ⟨some 29,.addo (.t 1) 36,some (28,false),[]⟩,
   ⟨some 30,.ld (.t 29) 1 false,some (28,false),[]⟩,
   ⟨some 31,.mv (.t 3),some (28,false),[]⟩,
   ⟨some 32,.ixs (.t 30) (.t 31) 6,some (28,false),[]⟩,
   ⟨some 33,.addo (.t 32) 5,some (28,false),[]⟩,
   ⟨some 34,.ld (.t 33) 1 false,some (28,false),[]⟩,
   ⟨some 35,.len (.t 34),some (28,false),[]⟩,
   ⟨some 36,.bin .gtr (.t 35) (.c (.int .i64 20)),some (28,false),[]⟩,
   o1 37 (.pick (.t 28) (.c (.bool true)) (.t 36))])
   (.cond (.t 37)
   (.seq (.reg [
    o1 2 (.mv (.c (.bool true)))])
    .ret)
   .skip)))
  (.reg [
  m1 18 3,
  o1 19 (.bin .add (.t 18) (.c (.int .i64 1))),
  m1 3 19]))))))
 (.seq (.reg [
 o1 2 (.mv (.c (.bool false)))])
 .ret))))
def r12:List RV:=[.tmp 2]
theorem t12:Qt1 Tryz.prog 12 c12 r12 38:=Z4 Tryz.func12 rfl (by kernel_rfl) (by kernel_rfl) (by kernel_rfl) (by kernel_rfl)
def c16:SC:=(.seq (.reg [
 o1 1 (.box (.t 0) 0 34),
 o1 2 (.mv (.c (.int .i64 0)))])
 (.seq (.reg [
 o1 9 (.addo (.t 1) 0),
 o1 10 (.addo (.t 9) 0),
 o1 11 (.ld (.t 10) 1 false),
 o1 12 (.len (.t 11)),
 m1 3 12])
 (.seq (.reg [
 o1 14 (.addo (.t 1) 0),
 o1 15 (.ld (.t 14) 2 true),
 o1 16 (.addo (.t 1) 33),
 o1 17 (.ld (.t 16) 1 false),
 o1 18 (.addo (.t 1) 34),
 o1 19 (.ld (.t 18) 1 false),
 o1 20 (.addo (.t 1) 2),
 o1 21 (.ld (.t 20) 2 true),
 o1 22 (.call 52 [.t 15,.t 17,.t 19,.t 21]),
 m1 13 22,
 o1 23 (.ext (.t 13) 0),
 o1 24 (.ext (.t 13) 1),
 m1 4 23,
 m1 5 24])
 (.seq (.reg [
 o1 25 (.addo (.t 1) 28),
 o1 26 (.ld (.t 25) 1 false),
 o1 27 (.bsl 1 3 [.t 26]),
 o1 28 (.call 53 [.c (.int .i64 1),.c (.int .i64 30),.t 27]),
 m1 29 28,
 ⟨some 30,.addo (.t 1) 29,some (29,true),[]⟩,
 ⟨some 31,.ld (.t 30) 1 false,some (29,true),[]⟩,
 ⟨some 32,.bsl 1 3 [.t 31],some (29,true),[]⟩,
 ⟨some 33,.call 53 [.c (.int .i64 1),.c (.int .i64 24),.t 32],some (29,true),[]⟩,
 o1 34 (.pick (.t 29) (.t 33) (.c (.bool false))),
 m1 35 34,
 ⟨some 36,.addo (.t 1) 30,some (35,true),[]⟩,
 ⟨some 37,.ld (.t 36) 1 false,some (35,true),[]⟩,
 ⟨some 38,.bsl 1 3 [.t 37],some (35,true),[]⟩,
 ⟨some 39,.call 53 [.c (.int .i64 1),.c (.int .i64 1000000),.t 38],some (35,true),[]⟩,
 o1 40 (.pick (.t 35) (.t 39) (.c (.bool false))),
 m1 41 40,
 ⟨some 42,.addo (.t 1) 31,some (41,true),[]⟩,
 ⟨some 43,.ld (.t 42) 1 false,some (41,true),[]⟩,
 ⟨some 44,.addo (.t 1) 32,some (41,true),[]⟩,
 ⟨some 45,.ld (.t 44) 1 false,some (41,true),[]⟩,
 ⟨some 46,.bsl 1 3 [.t 43,.t 45],some (41,true),[]⟩,
 ⟨some 47,.call 53 [.c (.int .i64 0),.c (.int .i64 1000000),.t 46],some (41,true),[]⟩,
 o1 48 (.pick (.t 41) (.t 47) (.c (.bool false))),
 m1 49 48,
 ⟨some 50,.addo (.t 1) 35,some (49,true),[]⟩,
 ⟨some 51,.ld (.t 50) 1 false,some (49,true),[]⟩,
 ⟨some 52,.addo (.t 1) 34,some (49,true),[]⟩,
 ⟨some 53,.ld (.t 52) 1 false,some (49,true),[]⟩,
 ⟨some 54,.bsl 1 3 [.t 53],some (49,true),[]⟩,
 ⟨some 55,.call 53 [.c (.int .i64 0),.t 51,.t 54],some (49,true),[]⟩,
 o1 56 (.pick (.t 49) (.t 55) (.c (.bool false))),
 m1 57 56,
 ⟨some 58,.addo (.t 1) 35,some (57,true),[]⟩,
 ⟨some 59,.ld (.t 58) 1 false,some (57,true),[]⟩,
 ⟨some 60,.bin .leq (.t 59) (.c (.int .i64 100000)),some (57,true),[]⟩,
 o1 61 (.pick (.t 57) (.t 60) (.c (.bool false))),
 m1 6 61])
 (.seq (.seq (.reg [
 m1 62 5,
 o1 63 (.bin .neq (.t 62) (.c (.int .i64 0))),
 m1 64 63,
 ⟨some 65,.addo (.t 1) 4,some (64,false),[]⟩,
 ⟨some 66,.ld (.t 65) 17 true,some (64,false),[]⟩,
 ⟨some 67,.addo (.t 1) 21,some (64,false),[]⟩,
 ⟨some 68,.ld (.t 67) 7 true,some (64,false),[]⟩,
 ⟨some 69,.call 54 [.t 66,.t 68],some (64,false),[]⟩,
 ⟨some 70,.bin .neq (.t 69) (.c (.int .i64 0)),some (64,false),[]⟩,
 o1 71 (.pick (.t 64) (.c (.bool true)) (.t 70)),
 m1 72 71,
 ⟨some 73,.mv (.t 6),some (72,false),[]⟩,
 ⟨some 74,.un .not (.t 73),some (72,false),[]⟩,
 o1 75 (.pick (.t 72) (.c (.bool true)) (.t 74)),
 m1 76 75,
 ⟨some 77,.addo (.t 1) 36,some (76,false),[]⟩,
 ⟨some 78,.ld (.t 77) 1 false,some (76,false),[]⟩,
 ⟨some 79,.len (.t 78),some (76,false),[]⟩,
 ⟨some 80,.bsl 1 3 [.t 79],some (76,false),[]⟩,
 ⟨some 81,.call 53 [.c (.int .i64 1),.c (.int .i64 4),.t 80],some (76,false),[]⟩,
 ⟨some 82,.un .not (.t 81),some (76,false),[]⟩,
 o1 83 (.pick (.t 76) (.c (.bool true)) (.t 82))])
 (.cond (.t 83)
 (.seq (.reg [
  o1 2 (.mv (.c (.int .i64 90)))])
  .ret)
 .skip))
 (.seq (.seq (.reg [
 o1 84 (.addo (.t 1) 36),
 o1 85 (.ld (.t 84) 1 false),
 o1 86 (.len (.t 85)),
 o1 87 (.mv (.c (.int .i64 0)))])
 (.block 0 (.loop (.seq (.reg [
  o1 88 (.bin .lss (.t 87) (.t 86))])
  (.seq (.cond (.t 88)
  .skip
  (.exit 0))
  (.seq (.block 1 (.seq (.reg [
   o1 89 (.ixs (.t 85) (.t 87) 6),
   o1 90 (.ld (.t 89) 6 true),
   o1 8 (.alloc zv4 72),
   ⟨none,.st (.t 8) (.t 90) 6,none,[]⟩])
   (.seq (.reg [
   o1 91 (.addo (.t 8) 0),
   o1 92 (.ld (.t 91) 2 true),
   o1 93 (.bsl 2 27 [.t 92]),
   o1 94 (.call 55 [.c (.int .i64 0),.c (.int .i64 60),.t 93]),
   o1 95 (.un .not (.t 94)),
   m1 96 95,
   ⟨some 97,.addo (.t 8) 2,some (96,false),[]⟩,
   ⟨some 98,.ld (.t 97) 2 true,some (96,false),[]⟩,
   ⟨some 99,.bsl 2 27 [.t 98],some (96,false),[]⟩,
   ⟨some 100,.call 55 [.c (.int .i64 0),.c (.int .i64 1000000),.t 99],some (96,false),[]⟩,
   ⟨some 101,.un .not (.t 100),some (96,false),[]⟩,
   o1 102 (.pick (.t 96) (.c (.bool true)) (.t 101)),
   m1 103 102,
   ⟨some 104,.addo (.t 8) 4,some (103,false),[]⟩,
   ⟨some 105,.ld (.t 104) 1 false,some (103,false),[]⟩,
   ⟨some 106,.len (.t 105),some (103,false),[]⟩,
   ⟨some 107,.mv (.t 3),some (103,false),[]⟩,
   ⟨some 108,.bin .neq (.t 106) (.t 107),some (103,false),[]⟩,
   o1 109 (.pick (.t 103) (.c (.bool true)) (.t 108)),
   m1 110 109,
   ⟨some 111,.addo (.t 8) 4,some (110,false),[]⟩,
   ⟨some 112,.ld (.t 111) 1 false,some (110,false),[]⟩,
   ⟨some 113,.call 55 [.c (.int .i64 0),.c (.int .i64 10000000),.t 112],some (110,false),[]⟩,
   ⟨some 114,.un .not (.t 113),some (110,false),[]⟩,
   o1 115 (.pick (.t 110) (.c (.bool true)) (.t 114)),
   m1 116 115,
   ⟨some 117,.addo (.t 8) 5,some (116,false),[]⟩,
   ⟨some 118,.ld (.t 117) 1 false,some (116,false),[]⟩,
   ⟨some 119,.len (.t 118),some (116,false),[]⟩,
   ⟨some 120,.mv (.t 3),some (116,false),[]⟩,
   ⟨some 121,.bin .neq (.t 119) (.t 120),some (116,false),[]⟩,
   o1 122 (.pick (.t 116) (.c (.bool true)) (.t 121)),
   m1 123 122,
   ⟨some 124,.addo (.t 8) 5,some (123,false),[]⟩,
   ⟨some 125,.ld (.t 124) 1 false,some (123,false),[]⟩,
   ⟨some 126,.call 53 [.c (.int .i64 0),.c (.int .i64 1000000),.t 125],some (123,false),[]⟩,
   ⟨some 127,.un .not (.t 126),some (123,false),[]⟩,
   o1 128 (.pick (.t 123) (.c (.bool true)) (.t 127))])
   (.cond (.t 128)
   (.seq (.reg [
    o1 2 (.mv (.c (.int .i64 90)))])
    .ret)
   .skip))))
  (.reg [
  o1 129 (.bin .add (.t 87) (.c (.int .i64 1))),
  m1 87 129])))))))
 (.seq (.reg [
 o1 2 (.mv (.c (.int .i64 0)))])
 .ret)))))))
def r16:List RV:=[.tmp 2]
theorem t16:Qt1 Tryz.prog 16 c16 r16 130:=Z4 Tryz.func16 rfl (by kernel_rfl) (by kernel_rfl) (by kernel_rfl) (by kernel_rfl)
def c17:SC:=(.seq (.reg [
 o1 1 (.box (.t 0) 0 34),
 o1 2 (.mv (.c (.int .i64 0)))])
 (.seq (.seq (.reg [
 o1 3 (.ld (.t 1) 37 true),
 o1 4 (.call 50 [.t 3]),
 o1 5 (.un .not (.t 4))])
 (.cond (.t 5)
 (.seq (.reg [
  o1 2 (.mv (.c (.int .i64 90)))])
  .ret)
 .skip))
 (.seq (.reg [
 o1 2 (.mv (.c (.int .i64 0)))])
 .ret)))
def r17:List RV:=[.tmp 2]
theorem t17:Qt1 Tryz.prog 17 c17 r17 6:=Z4 Tryz.func17 rfl (by kernel_rfl) (by kernel_rfl) (by kernel_rfl) (by kernel_rfl)
def c19:SC:=(.seq (.reg [
 o1 2 (.box (.t 0) 0 37),
 o1 3 (.box (.t 1) 0 37),
 o1 4 (.mv (.c (.bool false)))])
 (.seq (.reg [
 o1 5 (.addo (.t 2) 1),
 o1 6 (.ld (.t 5) 1 false),
 o1 7 (.addo (.t 3) 1),
 o1 8 (.ld (.t 7) 1 false),
 o1 9 (.bin .eql (.t 6) (.t 8)),
 m1 10 9,
 ⟨some 11,.addo (.t 2) 2,some (10,true),[]⟩,
 ⟨some 12,.ld (.t 11) 1 false,some (10,true),[]⟩,
 ⟨some 13,.addo (.t 3) 2,some (10,true),[]⟩,
 ⟨some 14,.ld (.t 13) 1 false,some (10,true),[]⟩,
 ⟨some 15,.bin .eql (.t 12) (.t 14),some (10,true),[]⟩,
 o1 16 (.pick (.t 10) (.t 15) (.c (.bool false))),
 m1 17 16,
 ⟨some 18,.addo (.t 2) 0,some (17,true),[]⟩,
 ⟨some 19,.ld (.t 18) 1 false,some (17,true),[]⟩,
 ⟨some 20,.addo (.t 3) 0,some (17,true),[]⟩,
 ⟨some 21,.ld (.t 20) 1 false,some (17,true),[]⟩,
 ⟨some 22,.call 57 [.t 19,.t 21],some (17,true),[]⟩,
 o1 23 (.pick (.t 17) (.t 22) (.c (.bool false))),
 m1 4 23])
 .ret))
def r19:List RV:=[.tmp 4]
theorem t19:Qt1 Tryz.prog 19 c19 r19 24:=Z4 Tryz.func19 rfl (by kernel_rfl) (by kernel_rfl) (by kernel_rfl) (by kernel_rfl)
def c48:SC:=(.seq (.reg [
 o1 2 (.box (.t 0) 0 34),
 o1 3 (.box (.t 1) 0 37),
 o1 4 (.mv (.c (.int .i64 0)))])
 (.seq (.seq (.reg [
 o1 8 (.ld (.t 2) 37 true),
 o1 9 (.call 16 [.t 8]),
 m1 5 9])
 (.seq (.reg [
 m1 10 5,
 o1 11 (.bin .neq (.t 10) (.c (.int .i64 0)))])
 (.cond (.t 11)
 (.seq (.reg [
  m1 12 5,
  m1 4 12])
  .ret)
 .skip)))
 (.seq (.seq (.reg [
 o1 14 (.ld (.t 2) 37 true),
 o1 15 (.addo (.t 3) 0),
 o1 16 (.ld (.t 15) 1 false),
 o1 17 (.call 58 [.t 14,.t 16]),
 m1 13 17,
 o1 18 (.ext (.t 13) 0),
 o1 19 (.ext (.t 13) 1),
 m1 6 18,
 m1 7 19])
 (.seq (.reg [
 m1 20 7,
 o1 21 (.un .not (.t 20)),
 m1 22 21,
 ⟨some 23,.addo (.t 2) 28,some (22,false),[]⟩,
 ⟨some 24,.ld (.t 23) 1 false,some (22,false),[]⟩,
 ⟨some 25,.addo (.t 3) 1,some (22,false),[]⟩,
 ⟨some 26,.ld (.t 25) 1 false,some (22,false),[]⟩,
 ⟨some 27,.bsl 1 3 [.t 26],some (22,false),[]⟩,
 ⟨some 28,.call 53 [.c (.int .i64 0),.t 24,.t 27],some (22,false),[]⟩,
 ⟨some 29,.un .not (.t 28),some (22,false),[]⟩,
 o1 30 (.pick (.t 22) (.c (.bool true)) (.t 29)),
 m1 31 30,
 ⟨some 32,.addo (.t 3) 2,some (31,false),[]⟩,
 ⟨some 33,.ld (.t 32) 1 false,some (31,false),[]⟩,
 ⟨some 34,.bsl 1 3 [.t 33],some (31,false),[]⟩,
 ⟨some 35,.call 53 [.c (.int .i64 0),.c (.int .i64 12),.t 34],some (31,false),[]⟩,
 ⟨some 36,.un .not (.t 35),some (31,false),[]⟩,
 o1 37 (.pick (.t 31) (.c (.bool true)) (.t 36))])
 (.cond (.t 37)
 (.seq (.reg [
  o1 4 (.mv (.c (.int .i64 91)))])
  .ret)
 .skip)))
 (.seq (.reg [
 o1 4 (.mv (.c (.int .i64 0)))])
 .ret))))
def r48:List RV:=[.tmp 4]
theorem t48:Qt1 Tryz.prog 48 c48 r48 38:=Z4 Tryz.func48 rfl (by kernel_rfl) (by kernel_rfl) (by kernel_rfl) (by kernel_rfl)
def c50:SC:=(.seq (.reg [
 o1 1 (.box (.t 0) 0 34),
 o1 2 (.mv (.c (.bool false)))])
 (.seq (.seq (.reg [
 o1 6 (.addo (.t 1) 0),
 o1 7 (.ld (.t 6) 2 true),
 o1 8 (.call 93 [.t 7]),
 o1 9 (.bin .neq (.t 8) (.c (.int .i64 0))),
 m1 10 9,
 ⟨some 11,.addo (.t 1) 2,some (10,false),[]⟩,
 ⟨some 12,.ld (.t 11) 2 true,some (10,false),[]⟩,
 ⟨some 13,.call 94 [.t 12],some (10,false),[]⟩,
 ⟨some 14,.un .not (.t 13),some (10,false),[]⟩,
 o1 15 (.pick (.t 10) (.c (.bool true)) (.t 14)),
 m1 16 15,
 ⟨some 17,.addo (.t 1) 4,some (16,false),[]⟩,
 ⟨some 18,.ld (.t 17) 17 true,some (16,false),[]⟩,
 ⟨some 19,.addo (.t 1) 21,some (16,false),[]⟩,
 ⟨some 20,.ld (.t 19) 7 true,some (16,false),[]⟩,
 ⟨some 21,.call 95 [.t 18,.t 20],some (16,false),[]⟩,
 ⟨some 22,.bin .neq (.t 21) (.c (.int .i64 0)),some (16,false),[]⟩,
 o1 23 (.pick (.t 16) (.c (.bool true)) (.t 22))])
 (.cond (.t 23)
 (.seq (.reg [
  o1 2 (.mv (.c (.bool false)))])
  .ret)
 .skip))
 (.seq (.seq (.reg [
 o1 24 (.addo (.t 1) 28),
 o1 25 (.ld (.t 24) 1 false),
 o1 26 (.call 61 [.t 25,.c (.int .i64 1),.c (.int .i64 30)]),
 o1 27 (.un .not (.t 26)),
 m1 28 27,
 ⟨some 29,.addo (.t 1) 29,some (28,false),[]⟩,
 ⟨some 30,.ld (.t 29) 1 false,some (28,false),[]⟩,
 ⟨some 31,.call 61 [.t 30,.c (.int .i64 1),.c (.int .i64 24)],some (28,false),[]⟩,
 ⟨some 32,.un .not (.t 31),some (28,false),[]⟩,
 o1 33 (.pick (.t 28) (.c (.bool true)) (.t 32)),
 m1 34 33,
 ⟨some 35,.addo (.t 1) 30,some (34,false),[]⟩,
 ⟨some 36,.ld (.t 35) 1 false,some (34,false),[]⟩,
 ⟨some 37,.call 61 [.t 36,.c (.int .i64 1),.c (.int .i64 1000000)],some (34,false),[]⟩,
 ⟨some 38,.un .not (.t 37),some (34,false),[]⟩,
 o1 39 (.pick (.t 34) (.c (.bool true)) (.t 38)),
 m1 40 39,
 ⟨some 41,.addo (.t 1) 31,some (40,false),[]⟩,
 ⟨some 42,.ld (.t 41) 1 false,some (40,false),[]⟩,
 ⟨some 43,.call 61 [.t 42,.c (.int .i64 0),.c (.int .i64 1000000)],some (40,false),[]⟩,
 ⟨some 44,.un .not (.t 43),some (40,false),[]⟩,
 o1 45 (.pick (.t 40) (.c (.bool true)) (.t 44)),
 m1 46 45,
 ⟨some 47,.addo (.t 1) 32,some (46,false),[]⟩,
 ⟨some 48,.ld (.t 47) 1 false,some (46,false),[]⟩,
 ⟨some 49,.call 61 [.t 48,.c (.int .i64 0),.c (.int .i64 1000000)],some (46,false),[]⟩,
 ⟨some 50,.un .not (.t 49),some (46,false),[]⟩,
 o1 51 (.pick (.t 46) (.c (.bool true)) (.t 50))])
 (.cond (.t 51)
 (.seq (.reg [
  o1 2 (.mv (.c (.bool false)))])
  .ret)
 .skip))
 (.seq (.seq (.reg [
 o1 52 (.addo (.t 1) 33),
 o1 53 (.ld (.t 52) 1 false),
 o1 54 (.addo (.t 1) 0),
 o1 55 (.addo (.t 54) 0),
 o1 56 (.ld (.t 55) 1 false),
 o1 57 (.len (.t 56)),
 o1 58 (.bin .sub (.t 57) (.c (.int .i64 1))),
 o1 59 (.call 61 [.t 53,.c (.int .i64 0),.t 58]),
 o1 60 (.un .not (.t 59)),
 m1 61 60,
 ⟨some 62,.addo (.t 1) 34,some (61,false),[]⟩,
 ⟨some 63,.ld (.t 62) 1 false,some (61,false),[]⟩,
 ⟨some 64,.addo (.t 1) 35,some (61,false),[]⟩,
 ⟨some 65,.ld (.t 64) 1 false,some (61,false),[]⟩,
 ⟨some 66,.call 61 [.t 63,.c (.int .i64 0),.t 65],some (61,false),[]⟩,
 ⟨some 67,.un .not (.t 66),some (61,false),[]⟩,
 o1 68 (.pick (.t 61) (.c (.bool true)) (.t 67)),
 m1 69 68,
 ⟨some 70,.addo (.t 1) 35,some (69,false),[]⟩,
 ⟨some 71,.ld (.t 70) 1 false,some (69,false),[]⟩,
 ⟨some 72,.bin .gtr (.t 71) (.c (.int .i64 100000)),some (69,false),[]⟩,
 o1 73 (.pick (.t 69) (.c (.bool true)) (.t 72)),
 m1 74 73,
 ⟨some 75,.addo (.t 1) 36,some (74,false),[]⟩,
 ⟨some 76,.ld (.t 75) 1 false,some (74,false),[]⟩,
 ⟨some 77,.len (.t 76),some (74,false),[]⟩,
 ⟨some 78,.call 61 [.t 77,.c (.int .i64 1),.c (.int .i64 4)],some (74,false),[]⟩,
 ⟨some 79,.un .not (.t 78),some (74,false),[]⟩,
 o1 80 (.pick (.t 74) (.c (.bool true)) (.t 79))])
 (.cond (.t 80)
 (.seq (.reg [
  o1 2 (.mv (.c (.bool false)))])
  .ret)
 .skip))
 (.seq (.seq (.reg [
 o1 3 (.mv (.c (.int .i64 0)))])
 (.block 0 (.loop (.seq (.seq (.reg [
  m1 81 3,
  o1 82 (.addo (.t 1) 36),
  o1 83 (.ld (.t 82) 1 false),
  o1 84 (.len (.t 83)),
  o1 85 (.bin .lss (.t 81) (.t 84))])
  (.cond (.t 85)
  .skip
  (.exit 0)))
  (.seq (.block 1 (.seq (.reg [
   o1 88 (.addo (.t 1) 36),
   o1 89 (.ld (.t 88) 1 false),
   m1 90 3,
   o1 91 (.ixs (.t 89) (.t 90) 6),
   o1 92 (.ld (.t 91) 6 true),
   o1 4 (.alloc zv4 72),
   ⟨none,.st (.t 4) (.t 92) 6,none,[]⟩])
   (.seq (.seq (.reg [
   o1 93 (.addo (.t 4) 0),
   o1 94 (.ld (.t 93) 2 true),
   o1 95 (.call 96 [.t 94,.c (.int .i64 0),.c (.int .i64 60)]),
   o1 96 (.un .not (.t 95)),
   m1 97 96,
   ⟨some 98,.addo (.t 4) 2,some (97,false),[]⟩,
   ⟨some 99,.ld (.t 98) 2 true,some (97,false),[]⟩,
   ⟨some 100,.call 96 [.t 99,.c (.int .i64 0),.c (.int .i64 1000000)],some (97,false),[]⟩,
   ⟨some 101,.un .not (.t 100),some (97,false),[]⟩,
   o1 102 (.pick (.t 97) (.c (.bool true)) (.t 101)),
   m1 103 102,
   ⟨some 104,.addo (.t 4) 4,some (103,false),[]⟩,
   ⟨some 105,.ld (.t 104) 1 false,some (103,false),[]⟩,
   ⟨some 106,.len (.t 105),some (103,false),[]⟩,
   ⟨some 107,.addo (.t 1) 0,some (103,false),[]⟩,
   ⟨some 108,.addo (.t 107) 0,some (103,false),[]⟩,
   ⟨some 109,.ld (.t 108) 1 false,some (103,false),[]⟩,
   ⟨some 110,.len (.t 109),some (103,false),[]⟩,
   ⟨some 111,.bin .neq (.t 106) (.t 110),some (103,false),[]⟩,
   o1 112 (.pick (.t 103) (.c (.bool true)) (.t 111)),
   m1 113 112,
   ⟨some 114,.addo (.t 4) 5,some (113,false),[]⟩,
   ⟨some 115,.ld (.t 114) 1 false,some (113,false),[]⟩,
   ⟨some 116,.len (.t 115),some (113,false),[]⟩,
   ⟨some 117,.addo (.t 1) 0,some (113,false),[]⟩,
   ⟨some 118,.addo (.t 117) 0,some (113,false),[]⟩,
   ⟨some 119,.ld (.t 118) 1 false,some (113,false),[]⟩,
   ⟨some 120,.len (.t 119),some (113,false),[]⟩,
   ⟨some 121,.bin .neq (.t 116) (.t 120),some (113,false),[]⟩,
   o1 122 (.pick (.t 113) (.c (.bool true)) (.t 121))])
   (.cond (.t 122)
   (.seq (.reg [
    o1 2 (.mv (.c (.bool false)))])
    .ret)
   .skip))
   (.seq (.reg [
   o1 5 (.mv (.c (.int .i64 0)))])
   (.block 2 (.loop (.seq (.seq (.reg [
    m1 123 5,
    o1 124 (.addo (.t 4) 4),
    o1 125 (.ld (.t 124) 1 false),
    o1 126 (.len (.t 125)),
    o1 127 (.bin .lss (.t 123) (.t 126))])
    (.cond (.t 127)
    .skip
    (.exit 2)))
    (.seq (.block 3 (.seq (.reg [
     o1 130 (.addo (.t 4) 4),
     o1 131 (.ld (.t 130) 1 false),
     m1 132 5,
     o1 133 (.ixs (.t 131) (.t 132) 2),
     o1 134 (.ld (.t 133) 2 true),
     o1 135 (.call 96 [.t 134,.c (.int .i64 0),.c (.int .i64 10000000)]),
     o1 136 (.un .not (.t 135)),
     m1 137 136,
     ⟨some 138,.addo (.t 4) 5,some (137,false),[]⟩,
     ⟨some 139,.ld (.t 138) 1 false,some (137,false),[]⟩,
     ⟨some 140,.mv (.t 5),some (137,false),[]⟩,
     ⟨some 141,.ixs (.t 139) (.t 140) 1,some (137,false),[]⟩,
     ⟨some 142,.ld (.t 141) 1 false,some (137,false),[]⟩,
     ⟨some 143,.call 61 [.t 142,.c (.int .i64 0),.c (.int .i64 1000000)],some (137,false),[]⟩,
     ⟨some 144,.un .not (.t 143),some (137,false),[]⟩,
     o1 145 (.pick (.t 137) (.c (.bool true)) (.t 144))])
     (.cond (.t 145)
     (.seq (.reg [
      o1 2 (.mv (.c (.bool false)))])
      .ret)
     .skip)))
    (.reg [
    m1 128 5,
    o1 129 (.bin .add (.t 128) (.c (.int .i64 1))),
    m1 5 129])))))))))
  (.reg [
  m1 86 3,
  o1 87 (.bin .add (.t 86) (.c (.int .i64 1))),
  m1 3 87]))))))
 (.seq (.reg [
 o1 2 (.mv (.c (.bool true)))])
 .ret))))))
def r50:List RV:=[.tmp 2]
theorem t50:Qt1 Tryz.prog 50 c50 r50 146:=Z4 Tryz.func50 rfl (by kernel_rfl) (by kernel_rfl) (by kernel_rfl) (by kernel_rfl)
def c53:SC:=(.seq (.reg [
 o1 3 (.box (.t 0) 0 3),
 o1 4 (.box (.t 1) 0 3),
 o1 6 (.mv (.c (.bool false)))])
 (.seq (.reg [
 m1 7 2,
 o1 8 (.mkf 99 [.t 3,.t 4]),
 o1 9 (.call 98 [.t 7,.t 8]),
 o1 10 (.un .not (.t 9)),
 m1 6 10])
 .ret))
def r53:List RV:=[.tmp 6]
theorem t53:Qt1 Tryz.prog 53 c53 r53 11:=Z4 Tryz.func53 rfl (by kernel_rfl) (by kernel_rfl) (by kernel_rfl) (by kernel_rfl)
def c55:SC:=(.seq (.reg [
 o1 3 (.box (.t 0) 0 3),
 o1 4 (.box (.t 1) 0 3),
 o1 6 (.mv (.c (.bool false)))])
 (.seq (.reg [
 m1 7 2,
 o1 8 (.mkf 103 [.t 3,.t 4]),
 o1 9 (.call 102 [.t 7,.t 8]),
 o1 10 (.un .not (.t 9)),
 m1 6 10])
 .ret))
def r55:List RV:=[.tmp 6]
theorem t55:Qt1 Tryz.prog 55 c55 r55 11:=Z4 Tryz.func55 rfl (by kernel_rfl) (by kernel_rfl) (by kernel_rfl) (by kernel_rfl)
def c58:SC:=(.seq (.reg [
 o1 2 (.box (.t 0) 0 34),
 o1 4 (.mv (.c (.int .i64 0))),
 o1 5 (.mv (.c (.bool false)))])
 (.seq (.reg [
 o1 10 (.raw (Go.Op.makeMap 189 Option.none) 189),
 o1 11 (.addo (.t 2) 33),
 o1 12 (.ld (.t 11) 1 false),
 ⟨none,.raw (Go.Op.insert 189 (Go.Operand.tmp 10) (Go.Operand.tmp 12) (Go.Operand.const (Go.Value.bool Bool.true))) 0,none,[]⟩,
 m1 13 10,
 m1 6 13])
 (.seq (.reg [
 o1 14 (.addo (.t 2) 33),
 o1 15 (.ld (.t 14) 1 false),
 m1 4 15])
 (.seq (.seq (.reg [
 m1 16 1,
 o1 17 (.len (.t 16)),
 o1 18 (.mv (.c (.int .i64 0)))])
 (.block 0 (.loop (.seq (.reg [
  o1 19 (.bin .lss (.t 18) (.t 17))])
  (.seq (.cond (.t 19)
  .skip
  (.exit 0))
  (.seq (.block 1 (.seq (.reg [
   o1 20 (.ixs (.t 16) (.t 18) 1),
   o1 21 (.ld (.t 20) 1 false),
   m1 8 21])
   (.seq (.seq (.reg [
   o1 22 (.addo (.t 2) 0),
   o1 23 (.addo (.t 22) 1),
   o1 24 (.ld (.t 23) 1 false),
   o1 25 (.len (.t 24)),
   o1 26 (.bin .sub (.t 25) (.c (.int .i64 1))),
   m1 27 8,
   o1 28 (.bsl 1 3 [.t 27]),
   o1 29 (.call 53 [.c (.int .i64 0),.t 26,.t 28]),
   o1 30 (.un .not (.t 29))])
   (.cond (.t 30)
   (.seq (.reg [
    o1 4 (.mv (.c (.int .i64 0))),
    o1 5 (.mv (.c (.bool false)))])
    .ret)
   .skip))
   (.seq (.reg [
   o1 31 (.addo (.t 2) 0),
   o1 32 (.addo (.t 31) 1),
   o1 33 (.ld (.t 32) 1 false),
   m1 34 8,
   o1 35 (.ixs (.t 33) (.t 34) 5),
   o1 36 (.ld (.t 35) 5 true),
   o1 9 (.alloc zv8 83),
   ⟨none,.st (.t 9) (.t 36) 5,none,[]⟩])
   (.seq (.seq (.reg [
   m1 37 4,
   o1 38 (.addo (.t 9) 0),
   o1 39 (.ld (.t 38) 1 false),
   o1 40 (.bin .neq (.t 37) (.t 39)),
   m1 41 40,
   ⟨some 42,.mv (.t 4),some (41,true),[]⟩,
   ⟨some 43,.addo (.t 9) 1,some (41,true),[]⟩,
   ⟨some 44,.ld (.t 43) 1 false,some (41,true),[]⟩,
   ⟨some 45,.bin .neq (.t 42) (.t 44),some (41,true),[]⟩,
   o1 46 (.pick (.t 41) (.t 45) (.c (.bool false)))])
   (.cond (.t 46)
   (.seq (.reg [
    o1 4 (.mv (.c (.int .i64 0))),
    o1 5 (.mv (.c (.bool false)))])
    .ret)
   .skip))
   (.seq (.reg [
   o1 47 (.addo (.t 9) 0),
   o1 48 (.ld (.t 47) 1 false),
   o1 49 (.addo (.t 9) 1),
   o1 50 (.ld (.t 49) 1 false),
   o1 51 (.bin .add (.t 48) (.t 50)),
   m1 52 4,
   o1 53 (.bin .sub (.t 51) (.t 52)),
   m1 4 53])
   (.seq (.seq (.reg [
   m1 54 6,
   m1 55 4,
   o1 56 (.raw (Go.Op.lookup 189 (Go.Operand.tmp 54) (Go.Operand.tmp 55) Bool.false) 4)])
   (.cond (.t 56)
   (.seq (.reg [
    o1 4 (.mv (.c (.int .i64 0))),
    o1 5 (.mv (.c (.bool false)))])
    .ret)
   .skip))
   (.reg [
   m1 57 6,
   m1 58 4,
   ⟨none,.raw (Go.Op.mapUpdate 189 (Go.Operand.tmp 57) (Go.Operand.tmp 58) (Go.Operand.const (Go.Value.bool Bool.true))) 0,none,[]⟩]))))))))
  (.reg [
  o1 59 (.bin .add (.t 18) (.c (.int .i64 1))),
  m1 18 59])))))))
 (.seq (.reg [
 m1 60 4,
 m1 4 60,
 o1 5 (.mv (.c (.bool true)))])
 .ret)))))
def r58:List RV:=[.tmp 4,.tmp 5]
theorem t58:Qt1 Tryz.prog 58 c58 r58 61:=Z4 Tryz.func58 rfl (by kernel_rfl) (by kernel_rfl) (by kernel_rfl) (by kernel_rfl)
def c61:SC:=(.seq (.reg [
 o1 6 (.mv (.c (.bool false)))])
 (.seq (.reg [
 m1 7 0,
 m1 8 1,
 o1 9 (.bin .geq (.t 7) (.t 8)),
 m1 10 9,
 ⟨some 11,.mv (.t 0),some (10,true),[]⟩,
 ⟨some 12,.mv (.t 2),some (10,true),[]⟩,
 ⟨some 13,.bin .leq (.t 11) (.t 12),some (10,true),[]⟩,
 o1 14 (.pick (.t 10) (.t 13) (.c (.bool false))),
 m1 6 14])
 .ret))
def r61:List RV:=[.tmp 6]
theorem t61:Qt1 Tryz.prog 61 c61 r61 15:=Z4 Tryz.func61 rfl (by kernel_rfl) (by kernel_rfl) (by kernel_rfl) (by kernel_rfl)
def c87:SC:=(.seq (.reg [
 o1 2 (.box (.t 0) 0 34),
 o1 4 (.mv (.c (.int .i64 0)))])
 (.seq (.reg [
 o1 9 (.addo (.t 2) 0),
 o1 10 (.addo (.t 9) 0),
 o1 11 (.ld (.t 10) 1 false),
 o1 12 (.len (.t 11)),
 o1 13 (.mks 1 1 [.bool false] 4 (.t 12)),
 m1 5 13])
 (.seq (.reg [
 o1 14 (.addo (.t 2) 33),
 o1 15 (.ld (.t 14) 1 false),
 m1 6 15])
 (.seq (.reg [
 m1 16 5,
 m1 17 6,
 o1 18 (.ixs (.t 16) (.t 17) 1),
 ⟨none,.st (.t 18) (.c (.bool true)) 1,none,[]⟩])
 (.seq (.seq (.reg [
 o1 7 (.mv (.c (.int .i64 0)))])
 (.block 0 (.loop (.seq (.seq (.reg [
  m1 19 7,
  m1 20 1,
  o1 21 (.len (.t 20)),
  o1 22 (.bin .lss (.t 19) (.t 21))])
  (.cond (.t 22)
  .skip
  (.exit 0)))
  (.seq (.block 1 (.seq (.seq (.regd [0,1,2,3,4,5,6,7,8,9,10] [
   .op (m1 25 1),
   .op (m1 26 7),
   .op ⟨some 27,.ixs (.t 25) (.t 26) 1,none,[0,1]⟩,
   .op ⟨some 28,.ld (.t 27) 1 false,none,[2]⟩,
   .op (o1 29 (.addo (.t 2) 0)),
   .op ⟨some 30,.addo (.t 29) 1,none,[4]⟩,
   .op ⟨some 31,.ld (.t 30) 1 false,none,[5]⟩,
   .op ⟨some 32,.len (.t 31),none,[6]⟩,
   .op ⟨some 33,.bin .sub (.t 32) (.c (.int .i64 1)),none,[7]⟩,
   .op ⟨some 34,.call 61 [.t 28,.c (.int .i64 0),.t 33],none,[3,8]⟩,
   .op ⟨some 35,.un .not (.t 34),none,[9]⟩] 0 0 [
])
 (.cond (.t 35)
 (.seq (.reg [
  o1 4 (.mv (.c (.int .i64 (-1))))])
  .ret)
 .skip))
 (.seq (.regd [0,1,2,3,4,5,6,7,8,9,10] [
 .op (o1 36 (.addo (.t 2) 0)),
 .op ⟨some 37,.addo (.t 36) 1,none,[0]⟩,
 .op ⟨some 38,.ld (.t 37) 1 false,none,[1]⟩,
 .op (m1 39 1),
 .op (m1 40 7),
 .op ⟨some 41,.ixs (.t 39) (.t 40) 1,none,[3,4]⟩,
 .op ⟨some 42,.ld (.t 41) 1 false,none,[5]⟩,
 .op ⟨some 43,.ixs (.t 38) (.t 42) 5,none,[2,6]⟩,
 .op ⟨some 44,.ld (.t 43) 5 true,none,[7]⟩] 1 1 [
 o1 8 (.alloc zv8 83),
 ⟨none,.st (.t 8) (.t 44) 5,none,[0,1,2,3,4,5,6,7,8,9]⟩])
 (.seq (.seq (.reg [
 m1 45 6])
 (.block 2 (.seq (.reg [
  o1 47 (.addo (.t 8) 0),
  o1 48 (.ld (.t 47) 1 false),
  o1 49 (.bin .eql (.t 45) (.t 48)),
  m1 46 49])
  (.cond (.t 46)
  (.reg [
   o1 50 (.addo (.t 8) 1),
   o1 51 (.ld (.t 50) 1 false),
   m1 6 51])
  (.seq (.reg [
   o1 53 (.addo (.t 8) 1),
   o1 54 (.ld (.t 53) 1 false),
   o1 55 (.bin .eql (.t 45) (.t 54)),
   m1 52 55])
   (.cond (.t 52)
   (.reg [
    o1 56 (.addo (.t 8) 0),
    o1 57 (.ld (.t 56) 1 false),
    m1 6 57])
   (.seq (.reg [
    o1 4 (.mv (.c (.int .i64 (-1))))])
    .ret)))))))
 (.seq (.seq (.reg [
 m1 58 5,
 m1 59 6,
 o1 60 (.ixs (.t 58) (.t 59) 1),
 o1 61 (.ld (.t 60) 1 false)])
 (.cond (.t 61)
 (.seq (.reg [
  o1 4 (.mv (.c (.int .i64 (-1))))])
  .ret)
 .skip))
 (.reg [
 m1 62 5,
 m1 63 6,
 o1 64 (.ixs (.t 62) (.t 63) 1),
 ⟨none,.st (.t 64) (.c (.bool true)) 1,none,[]⟩]))))))
 (.reg [
 m1 23 7,
 o1 24 (.bin .add (.t 23) (.c (.int .i64 1))),
 m1 7 24]))))))
 (.seq (.reg [
 m1 65 6,
 m1 4 65])
 .ret))))))
def r87:List RV:=[.tmp 4]
theorem t87:Qt1 Tryz.prog 87 c87 r87 66:=Z4 Tryz.func87 rfl (by kernel_rfl) (by kernel_rfl) (by kernel_rfl) (by kernel_rfl)
def c96:SC:=(.seq (.reg [
 o1 3 (.box (.t 0) 0 27),
 o1 6 (.mv (.c (.bool false)))])
 (.seq (.reg [
 o1 7 (.addo (.t 3) 0),
 o1 8 (.ld (.t 7) 1 false),
 m1 9 1,
 o1 10 (.addo (.t 3) 1),
 o1 11 (.ld (.t 10) 1 false),
 o1 12 (.call 61 [.t 8,.t 9,.t 11]),
 m1 13 12,
 ⟨some 14,.addo (.t 3) 1,some (13,true),[]⟩,
 ⟨some 15,.ld (.t 14) 1 false,some (13,true),[]⟩,
 ⟨some 16,.mv (.t 2),some (13,true),[]⟩,
 ⟨some 17,.bin .leq (.t 15) (.t 16),some (13,true),[]⟩,
 o1 18 (.pick (.t 13) (.t 17) (.c (.bool false))),
 m1 6 18])
 .ret))
def r96:List RV:=[.tmp 6]
theorem t96:Qt1 Tryz.prog 96 c96 r96 19:=Z4 Tryz.func96 rfl (by kernel_rfl) (by kernel_rfl) (by kernel_rfl) (by kernel_rfl)
def c99:SC:=(.seq (.reg [
 o1 4 (.mv (.c (.bool false)))])
 (.seq (.reg [
 m1 5 0,
 o1 6 (.ld (.t 1) 1 false),
 o1 7 (.bin .lss (.t 5) (.t 6)),
 m1 8 7,
 ⟨some 9,.mv (.t 0),some (8,false),[]⟩,
 ⟨some 10,.ld (.t 2) 1 false,some (8,false),[]⟩,
 ⟨some 11,.bin .gtr (.t 9) (.t 10),some (8,false),[]⟩,
 o1 12 (.pick (.t 8) (.c (.bool true)) (.t 11)),
 m1 4 12])
 .ret))
def r99:List RV:=[.tmp 4]
theorem t99:Qt1 Tryz.prog 99 c99 r99 13:=Z4 Tryz.func99 rfl (by kernel_rfl) (by kernel_rfl) (by kernel_rfl) (by kernel_rfl)
def c103:SC:=(.seq (.reg [
 o1 3 (.box (.t 0) 0 27),
 o1 4 (.mv (.c (.bool false)))])
 (.seq (.reg [
 o1 5 (.addo (.t 3) 0),
 o1 6 (.ld (.t 5) 1 false),
 o1 7 (.addo (.t 3) 1),
 o1 8 (.ld (.t 7) 1 false),
 o1 9 (.bin .gtr (.t 6) (.t 8)),
 m1 10 9,
 ⟨some 11,.ld (.t 1) 1 false,some (10,false),[]⟩,
 ⟨some 12,.ld (.t 2) 1 false,some (10,false),[]⟩,
 ⟨some 13,.addo (.t 3) 0,some (10,false),[]⟩,
 ⟨some 14,.ld (.t 13) 1 false,some (10,false),[]⟩,
 ⟨some 15,.addo (.t 3) 1,some (10,false),[]⟩,
 ⟨some 16,.ld (.t 15) 1 false,some (10,false),[]⟩,
 ⟨some 17,.bsl 1 3 [.t 14,.t 16],some (10,false),[]⟩,
 ⟨some 18,.call 53 [.t 11,.t 12,.t 17],some (10,false),[]⟩,
 ⟨some 19,.un .not (.t 18),some (10,false),[]⟩,
 o1 20 (.pick (.t 10) (.c (.bool true)) (.t 19)),
 m1 4 20])
 .ret))
def r103:List RV:=[.tmp 4]
theorem t103:Qt1 Tryz.prog 103 c103 r103 21:=Z4 Tryz.func103 rfl (by kernel_rfl) (by kernel_rfl) (by kernel_rfl) (by kernel_rfl)
def c44:SC:=(.seq (.reg [
 o1 2 (.box (.t 0) 0 34),
 o1 3 (.box (.t 1) 0 37),
 o1 4 (.mv (.c (.bool false)))])
 (.seq (.reg [
 o1 5 (.ld (.t 2) 37 true),
 o1 6 (.addo (.t 3) 0),
 o1 7 (.ld (.t 6) 1 false),
 o1 8 (.call 87 [.t 5,.t 7]),
 o1 9 (.bin .geq (.t 8) (.c (.int .i64 0))),
 m1 10 9,
 ⟨some 11,.addo (.t 3) 1,some (10,true),[]⟩,
 ⟨some 12,.ld (.t 11) 1 false,some (10,true),[]⟩,
 ⟨some 13,.addo (.t 2) 28,some (10,true),[]⟩,
 ⟨some 14,.ld (.t 13) 1 false,some (10,true),[]⟩,
 ⟨some 15,.call 61 [.t 12,.c (.int .i64 0),.t 14],some (10,true),[]⟩,
 o1 16 (.pick (.t 10) (.t 15) (.c (.bool false))),
 m1 17 16,
 ⟨some 18,.addo (.t 3) 2,some (17,true),[]⟩,
 ⟨some 19,.ld (.t 18) 1 false,some (17,true),[]⟩,
 ⟨some 20,.call 61 [.t 19,.c (.int .i64 0),.c (.int .i64 12)],some (17,true),[]⟩,
 o1 21 (.pick (.t 17) (.t 20) (.c (.bool false))),
 m1 4 21])
 .ret))
def r44:List RV:=[.tmp 4]
theorem t44:Qt1 Tryz.prog 44 c44 r44 22:=Z4 Tryz.func44 rfl (by kernel_rfl) (by kernel_rfl) (by kernel_rfl) (by kernel_rfl)
def c91:SC:=(.seq (.reg [
 m1 6 0,
 o1 7 (.un .not (.t 6))])
 (.cond (.t 7)
 (.reg [
  m1 8 1,
  m1 9 2,
  o1 10 (.build [.int .u8 0,.int .i64 0] [(0,1,.t 8),(1,1,.t 9)]),
  o1 11 (.raw (Go.Op.makeInterface 117 (Go.Operand.tmp 10)) 20),
  ⟨none,.raw (Go.Op.panic (Go.Operand.tmp 11)) 0,none,[]⟩])
 .skip))
def r91:List RV:=[]
theorem n91:Tryz.f91.ntmps=12:=by kernel_rfl
theorem b91:YF Tryz.prog 91=true:=by kernel_rfl
theorem Zwm:XA Tryz.prog c91 ((Tryz.f91.body).getD .skip)=true:=by kernel_rfl
theorem Zwe:We Tryz.prog r91 Tryz.f91.results.toList=true:=by kernel_rfl
theorem m91 {n0:Nat} {hp0:List (Nat × HB)} {args:List SV} {ZX:Ot->Prop} (hh:hpb n0 hp0) (hx:∀ o,ZX o->KX o.res/\KXP o.hp) (h:sx Tryz.prog Y0 n0 c91 ⟨enum 0 args,hp0,n0,12,[]⟩ (retM r91 fun o=>∃ o',ZX o'/\Zec n0 o o')) (hA:Nat.ble args.length 12=true:=by rfl):CtM Tryz.prog 91 hp0 n0 args ZX:=Xt Tryz.func91 rfl b91 Zwm Zwe n91 (Nat.le_of_ble_eq_true hA) hh hx h
def c92:SC:=(.seq (.reg [
 o1 4 (.box (.t 0) 0 120),
 o1 5 (.box (.t 1) 0 90),
 o1 6 (.box (.t 2) 0 3),
 o1 8 (.mv (.c (.slice none 0 0)))])
 (.seq (.seq (.reg [
 o1 17 (.ld (.t 5) 1 false),
 o1 18 (.len (.t 17)),
 o1 19 (.bin .eql (.t 18) (.c (.int .i64 0)))])
 (.cond (.t 19)
 (.seq (.reg [
  o1 21 (.addo (.t 4) 0),
  o1 22 (.addo (.t 21) 4),
  o1 23 (.ld (.t 22) 17 true),
  o1 24 (.addo (.t 4) 0),
  o1 25 (.addo (.t 24) 21),
  o1 26 (.ld (.t 25) 7 true),
  o1 27 (.call 37 [.t 23,.t 26]),
  m1 20 27,
  o1 28 (.ext (.t 20) 0),
  o1 29 (.ext (.t 20) 1),
  o1 9 (.alloc [.int .i64 0,.int .i64 0] 27),
  ⟨none,.st (.t 9) (.t 28) 2,none,[]⟩,
  m1 10 29])
  (.seq (.reg [
  o1 30 (.ld (.t 6) 1 false),
  o1 31 (.bin .eql (.t 30) (.c (.int .i64 0))),
  m1 32 31,
  ⟨some 33,.mv (.t 3),some (32,false),[]⟩,
  ⟨some 34,.addo (.t 4) 0,some (32,false),[]⟩,
  ⟨some 35,.addo (.t 34) 30,some (32,false),[]⟩,
  ⟨some 36,.ld (.t 35) 1 false,some (32,false),[]⟩,
  ⟨some 37,.bin .mul (.t 33) (.t 36),some (32,false),[]⟩,
  ⟨some 38,.addo (.t 9) 0,some (32,false),[]⟩,
  ⟨some 39,.ld (.t 38) 1 false,some (32,false),[]⟩,
  ⟨some 40,.bin .leq (.t 37) (.t 39),some (32,false),[]⟩,
  o1 41 (.pick (.t 32) (.c (.bool true)) (.t 40)),
  o1 42 (.callm 91 [.t 41,.c (.int .u8 2),.c (.int .i64 0)])])
  (.seq (.reg [
  o1 8 (.mv (.c (.slice none 0 0)))])
  .ret)))
 .skip))
 (.seq (.reg [
 o1 11 (.alloc [.slice none 0 0] 54)])
 (.seq (.seq (.reg [
 o1 43 (.ld (.t 6) 1 false),
 o1 44 (.bin .eql (.t 43) (.c (.int .i64 0)))])
 (.cond (.t 44)
 (.seq (.seq (.reg [
  o1 45 (.ld (.t 5) 1 false),
  o1 46 (.ld (.t 5) 1 false),
  o1 47 (.len (.t 46)),
  o1 48 (.bin .sub (.t 47) (.c (.int .i64 1))),
  o1 49 (.sub 6 (.t 45) none (some (.t 48))),
  o1 50 (.len (.t 49)),
  o1 51 (.mv (.c (.int .i64 0)))])
  (.block 0 (.loop (.seq (.reg [
   o1 52 (.bin .lss (.t 51) (.t 50))])
   (.seq (.cond (.t 52)
   .skip
   (.exit 0))
   (.seq (.block 1 (.seq (.reg [
    o1 53 (.ixs (.t 49) (.t 51) 6),
    o1 54 (.ld (.t 53) 6 true),
    o1 13 (.alloc zv7 94),
    ⟨none,.st (.t 13) (.t 54) 6,none,[]⟩])
    (.reg [
    o1 55 (.ld (.t 11) 1 false),
    o1 56 (.addo (.t 13) 1),
    o1 57 (.ld (.t 56) 1 false),
    o1 58 (.addo (.t 13) 4),
    o1 59 (.addo (.t 58) 0),
    o1 60 (.ld (.t 59) 1 false),
    o1 61 (.build [.int .i64 0,.int .i64 0,.int .i64 0] [(0,1,.t 57),(1,1,.t 60)]),
    o1 62 (.bsl 3 111 [.t 61]),
    o1 63 (.appm 3 24 111 (.t 55) (.t 62)),
    ⟨none,.st (.t 11) (.t 63) 1,none,[]⟩])))
   (.reg [
   o1 64 (.bin .add (.t 51) (.c (.int .i64 1))),
   m1 51 64])))))))
  (.seq (.reg [
  o1 65 (.ld (.t 11) 1 false),
  m1 8 65])
  .ret))
 .skip))
 (.seq (.seq (.reg [
 o1 66 (.ld (.t 4) 38 true),
 o1 67 (.ld (.t 5) 1 false),
 m1 68 3,
 o1 69 (.callm 135 [.t 66,.t 67,.t 68])])
 (.block 2 (.gh (.rfun (.t 69) [70,71] (.seq (.reg [
  m1 14 70])
  (.reg [
  o1 15 (.alloc zv3 31),
  ⟨none,.st (.t 15) (.t 71) 7,none,[]⟩]))
  (.block 3 (.seq (.seq (.reg [
   m1 72 14,
   o1 73 (.bin .add (.t 72) (.c (.int .i64 1))),
   o1 74 (.ld (.t 5) 1 false),
   o1 75 (.len (.t 74)),
   o1 76 (.bin .eql (.t 73) (.t 75))])
   (.cond (.t 76)
   (.exit 2)
   .skip))
   (.seq (.regd [0,1,2,3,4,5,6,7,8,9,10,11,12,13,14,15,16,17,18,19,20,21,22,23] [
   .op (o1 77 (.ld (.t 5) 1 false)),
   .op (m1 78 14),
   .op ⟨some 79,.ixs (.t 77) (.t 78) 6,none,[0,1]⟩,
   .op ⟨some 80,.addo (.t 79) 1,none,[2]⟩,
   .op ⟨some 81,.ld (.t 80) 1 false,none,[3]⟩,
   .op (o1 82 (.ld (.t 5) 1 false)),
   .op (m1 83 14),
   .op ⟨some 84,.ixs (.t 82) (.t 83) 6,none,[5,6]⟩,
   .op ⟨some 85,.addo (.t 84) 4,none,[7]⟩,
   .op ⟨some 86,.addo (.t 85) 0,none,[8]⟩,
   .op ⟨some 87,.ld (.t 86) 1 false,none,[9]⟩,
   .op (o1 88 (.ld (.t 6) 1 false)),
   .op (o1 89 (.addo (.t 4) 0)),
   .op ⟨some 90,.addo (.t 89) 4,none,[12]⟩,
   .op ⟨some 91,.addo (.t 90) 0,none,[13]⟩,
   .op ⟨some 92,.ld (.t 91) 1 false,none,[14]⟩,
   .op (o1 93 (.addo (.t 15) 0)),
   .op ⟨some 94,.addo (.t 93) 0,none,[16]⟩,
   .op ⟨some 95,.ld (.t 94) 1 false,none,[17]⟩,
   .op ⟨some 96,.bin .sub (.t 92) (.t 95),none,[15,18]⟩,
   .op ⟨some 97,.bin .mul (.t 88) (.t 96),none,[11,19]⟩,
   .op ⟨some 98,.build [.int .i64 0,.int .i64 0,.int .i64 0] [(0,1,.t 81),(1,1,.t 87),(2,1,.t 97)],none,[4,10,20]⟩] 1 1 [
   o1 16 (.alloc [.int .i64 0,.int .i64 0,.int .i64 0] 111),
   ⟨none,.st (.t 16) (.t 98) 3,none,[0,1,2,3,4,5,6,7,8,9,10,11,12,13,14,15,16,17,18,19,20,21,22]⟩])
   (.seq (.regd [0,1,2,3,4,5,6,7,8,9,10] [
   .op (o1 99 (.addo (.t 16) 2)),
   .op ⟨some 100,.ld (.t 99) 1 false,none,[0]⟩,
   .op (o1 101 (.ld (.t 4) 38 true)),
   .op (o1 102 (.ld (.t 5) 1 false)),
   .op (m1 103 14),
   .op ⟨some 104,.ixs (.t 102) (.t 103) 6,none,[3,4]⟩,
   .op ⟨some 105,.ld (.t 104) 6 true,none,[5]⟩,
   .op ⟨some 106,.call 113 [.t 101,.t 105],none,[2,6]⟩,
   .op ⟨some 107,.bin .leq (.t 100) (.t 106),none,[1,7]⟩,
   .op (m1 108 14)] 0 0 [
   ⟨some 109,.callm 91 [.t 107,.c (.int .u8 4),.t 108],none,[7,8,9]⟩])
   (.reg [
   o1 110 (.ld (.t 11) 1 false),
   o1 111 (.ld (.t 16) 3 true),
   o1 112 (.bsl 3 111 [.t 111]),
   o1 113 (.appm 3 24 111 (.t 110) (.t 112)),
   ⟨none,.st (.t 11) (.t 113) 1,none,[]⟩])))))))))
 (.seq (.reg [
 o1 114 (.ld (.t 11) 1 false),
 m1 8 114])
 .ret))))))
def r92:List RV:=[.tmp 8]
theorem n92:Tryz.f92.ntmps=115:=by kernel_rfl
theorem b92:YF Tryz.prog 92=true:=by kernel_rfl
theorem ZxK:XA Tryz.prog c92 ((Tryz.f92.body).getD .skip)=true:=by kernel_rfl
theorem Zwi:We Tryz.prog r92 Tryz.f92.results.toList=true:=by kernel_rfl
theorem m92 {n0:Nat} {hp0:List (Nat × HB)} {args:List SV} {ZX:Ot->Prop} (hh:hpb n0 hp0) (hx:∀ o,ZX o->KX o.res/\KXP o.hp) (h:sx Tryz.prog Y0 n0 c92 ⟨enum 0 args,hp0,n0,115,[]⟩ (retM r92 fun o=>∃ o',ZX o'/\Zec n0 o o')) (hA:Nat.ble args.length 115=true:=by rfl):CtM Tryz.prog 92 hp0 n0 args ZX:=Xt Tryz.func92 rfl b92 ZxK Zwi n92 (Nat.le_of_ble_eq_true hA) hh hx h
def c135:SC:=(.seq (.reg [
 o1 3 (.box (.t 0) 0 120),
 o1 4 (.box (.t 1) 0 90),
 o1 5 (.box (.t 2) 0 3),
 o1 6 (.mv (.c (.nilFunc)))])
 (.seq (.reg [
 o1 7 (.mkf 163 [.t 3,.t 4,.t 5]),
 m1 6 7])
 .ret))
def r135:List RV:=[.tmp 6]
theorem n135:Tryz.f135.ntmps=8:=by kernel_rfl
theorem b135:YF Tryz.prog 135=true:=by kernel_rfl
theorem Zrv:XA Tryz.prog c135 ((Tryz.f135.body).getD .skip)=true:=by kernel_rfl
theorem Zvh:We Tryz.prog r135 Tryz.f135.results.toList=true:=by kernel_rfl
theorem m135 {n0:Nat} {hp0:List (Nat × HB)} {args:List SV} {ZX:Ot->Prop} (hh:hpb n0 hp0) (hx:∀ o,ZX o->KX o.res/\KXP o.hp) (h:sx Tryz.prog Y0 n0 c135 ⟨enum 0 args,hp0,n0,8,[]⟩ (retM r135 fun o=>∃ o',ZX o'/\Zec n0 o o')) (hA:Nat.ble args.length 8=true:=by rfl):CtM Tryz.prog 135 hp0 n0 args ZX:=Xt Tryz.func135 rfl b135 Zrv Zvh n135 (Nat.le_of_ble_eq_true hA) hh hx h
def c156:SC:=(.seq (.reg [
 o1 1 (.box (.t 0) 0 120),
 o1 2 (.alloc zv4 72)])
 (.seq (.reg [
 o1 3 (.addo (.t 1) 0),
 o1 4 (.addo (.t 3) 36),
 o1 5 (.ld (.t 4) 1 false),
 o1 6 (.addo (.t 1) 37),
 o1 7 (.ld (.t 6) 1 false),
 o1 8 (.ixs (.t 5) (.t 7) 6),
 o1 9 (.ld (.t 8) 6 true),
 ⟨none,.st (.t 2) (.t 9) 6,none,[]⟩])
 .ret))
def r156:List RV:=[.cell 2 6 true]
theorem t156:Qt1 Tryz.prog 156 c156 r156 10:=Z4 Tryz.func156 rfl (by kernel_rfl) (by kernel_rfl) (by kernel_rfl) (by kernel_rfl)
def c163:SC:=(.seq (.reg [
 o1 10 (.addo (.t 1) 0),
 o1 11 (.addo (.t 10) 21),
 o1 12 (.ld (.t 11) 7 true),
 o1 5 (.alloc zv3 31),
 ⟨none,.st (.t 5) (.t 12) 7,none,[]⟩])
 (.seq (.reg [
 o1 13 (.ld (.t 2) 1 false),
 o1 14 (.len (.t 13)),
 o1 15 (.mv (.c (.int .i64 0)))])
 (.block 0 (.loop (.seq (.reg [
  o1 16 (.bin .lss (.t 15) (.t 14))])
  (.seq (.cond (.t 16)
  .skip
  (.exit 0))
  (.seq (.block 1 (.seq (.reg [
   m1 17 15,
   o1 18 (.ixs (.t 13) (.t 15) 6),
   o1 19 (.ld (.t 18) 6 true),
   o1 7 (.alloc zv7 94),
   m1 6 17,
   ⟨none,.st (.t 7) (.t 19) 6,none,[]⟩])
   (.seq (.reg [
   o1 21 (.addo (.t 1) 0),
   o1 22 (.addo (.t 21) 0),
   o1 23 (.ld (.t 22) 2 true),
   o1 24 (.addo (.t 7) 0),
   o1 25 (.ld (.t 24) 1 false),
   o1 26 (.addo (.t 1) 0),
   o1 27 (.addo (.t 26) 2),
   o1 28 (.ld (.t 27) 2 true),
   o1 29 (.call 39 [.t 23,.t 25,.t 28]),
   m1 20 29,
   o1 30 (.ext (.t 20) 0),
   o1 31 (.ext (.t 20) 1),
   o1 8 (.alloc [.int .i64 0,.int .i64 0] 27),
   ⟨none,.st (.t 8) (.t 30) 2,none,[]⟩,
   m1 9 31])
   (.seq (.seq (.reg [
   o1 32 (.ld (.t 1) 38 true),
   m1 33 6,
   o1 34 (.ld (.t 5) 7 true),
   o1 35 (.ld (.t 8) 2 true),
   o1 36 (.ld (.t 3) 1 false),
   o1 37 (.callm 164 [.t 32,.t 33,.t 34,.t 35,.t 36]),
   ⟨none,.st (.t 5) (.t 37) 7,none,[]⟩])
   (.seq (.reg [
   m1 38 0,
   m1 39 6,
   o1 40 (.ld (.t 5) 7 true),
   o1 41 (.calvm (.t 38) [.t 39,.t 40]),
   o1 42 (.un .not (.t 41))])
   (.cond (.t 42)
   .ret
   .skip)))
   (.reg [
   o1 43 (.addo (.t 1) 0),
   o1 44 (.addo (.t 43) 4),
   o1 45 (.addo (.t 44) 0),
   o1 46 (.ld (.t 45) 1 false),
   o1 47 (.addo (.t 1) 0),
   o1 48 (.addo (.t 47) 4),
   o1 49 (.addo (.t 48) 0),
   o1 50 (.ld (.t 49) 1 false),
   o1 51 (.build [.int .i64 0,.int .i64 0] [(0,1,.t 46),(1,1,.t 50)]),
   o1 52 (.addo (.t 5) 0),
   ⟨none,.st (.t 52) (.t 51) 2,none,[]⟩])))))
  (.reg [
  o1 53 (.bin .add (.t 15) (.c (.int .i64 1))),
  m1 15 53]))))))))
def r163:List RV:=[]
theorem n163:Tryz.f163.ntmps=54:=by kernel_rfl
theorem b163:YF Tryz.prog 163=true:=by kernel_rfl
theorem ZtI:XA Tryz.prog c163 ((Tryz.f163.body).getD .skip)=true:=by kernel_rfl
theorem ZuZ:We Tryz.prog r163 Tryz.f163.results.toList=true:=by kernel_rfl
theorem y163 {Y:Hd} {n0:Nat} {hp0:List (Nat × HB)} {args:List SV} {ZX:Ot->Prop} (h:sx Tryz.prog Y n0 c163 ⟨enum 0 args,hp0,n0,54,[]⟩ (retM r163 ZX)) (hA:Nat.ble args.length 54=true:=by rfl):CtY Tryz.prog Y 163 hp0 n0 args ZX:=Zbb Tryz.func163 rfl ZtI ZuZ n163 (Nat.le_of_ble_eq_true hA) h
def c164:SC:=(.seq (.reg [
 o1 5 (.box (.t 0) 0 120),
 o1 7 (.box (.t 2) 0 31),
 o1 8 (.box (.t 3) 0 27),
 o1 10 (.alloc zv3 31)])
 (.seq (.regd [0,1,2,3,4,5,6,7,8,9,10,11,12,13,14,15,16] [
 .op (o1 19 (.addo (.t 5) 0)),
 .op ⟨some 20,.addo (.t 19) 29,none,[0]⟩,
 .op ⟨some 21,.ld (.t 20) 1 false,none,[1]⟩,
 .op (m1 22 4),
 .op (o1 23 (.addo (.t 5) 0)),
 .op ⟨some 24,.addo (.t 23) 30,none,[4]⟩,
 .op ⟨some 25,.ld (.t 24) 1 false,none,[5]⟩,
 .op ⟨some 26,.bin .mul (.t 22) (.t 25),none,[3,6]⟩,
 .op (o1 27 (.ld (.t 5) 38 true)),
 .op ⟨some 28,.call 156 [.t 27],none,[8]⟩,
 .op ⟨some 29,.fld (.t 28) 0 2 true,none,[9]⟩,
 .op (o1 30 (.ld (.t 5) 38 true)),
 .op ⟨some 31,.call 156 [.t 30],none,[9,11]⟩,
 .op ⟨some 32,.fld (.t 31) 2 2 true,none,[12]⟩,
 .op ⟨some 33,.build zv6 [(0,1,.t 21),(1,1,.t 26),(2,2,.t 29),(4,2,.t 32)],none,[2,7,10,13]⟩] 1 1 [
 o1 11 (.alloc zv6 80),
 ⟨none,.st (.t 11) (.t 33) 8,none,[0,1,2,3,4,5,6,7,8,9,10,11,12,13,14,15]⟩])
 (.seq (.reg [
 o1 12 (.alloc zv3 31)])
 (.seq (.seq (.reg [
 o1 34 (.addo (.t 8) 1),
 o1 35 (.ld (.t 34) 1 false),
 o1 36 (.mv (.c (.int .i64 0)))])
 (.block 0 (.loop (.seq (.reg [
  o1 37 (.bin .lss (.t 36) (.t 35))])
  (.seq (.cond (.t 37)
  .skip
  (.exit 0))
  (.seq (.block 1 (.seq (.reg [
   m1 38 36,
   m1 13 38])
   (.seq (.reg [
   o1 40 (.addo (.t 5) 0),
   o1 41 (.addo (.t 40) 4),
   o1 42 (.ld (.t 41) 17 true),
   o1 43 (.ld (.t 7) 7 true),
   o1 44 (.call 37 [.t 42,.t 43]),
   m1 39 44,
   o1 45 (.ext (.t 39) 0),
   o1 46 (.ext (.t 39) 1),
   o1 14 (.alloc [.int .i64 0,.int .i64 0] 27),
   ⟨none,.st (.t 14) (.t 45) 2,none,[]⟩,
   m1 15 46])
   (.seq (.reg [
   o1 47 (.addo (.t 11) 1),
   o1 48 (.ld (.t 47) 1 false),
   o1 49 (.addo (.t 14) 0),
   o1 50 (.ld (.t 49) 1 false),
   o1 51 (.bin .leq (.t 48) (.t 50)),
   m1 52 1,
   o1 53 (.callm 91 [.t 51,.c (.int .u8 2),.t 52])])
   (.seq (.reg [
   o1 55 (.addo (.t 5) 0),
   o1 56 (.addo (.t 55) 4),
   o1 57 (.ld (.t 56) 17 true),
   o1 58 (.ld (.t 7) 7 true),
   o1 59 (.ld (.t 11) 8 true),
   o1 60 (.call 40 [.t 57,.t 58,.t 59]),
   m1 54 60,
   o1 61 (.ext (.t 54) 0),
   o1 62 (.ext (.t 54) 1),
   o1 63 (.ext (.t 54) 2),
   o1 16 (.alloc zv3 31),
   ⟨none,.st (.t 16) (.t 61) 7,none,[]⟩,
   m1 17 62,
   m1 18 63])
   (.seq (.reg [
   m1 64 18,
   o1 65 (.bin .eql (.t 64) (.c (.int .i64 0))),
   m1 66 65,
   ⟨some 67,.mv (.t 17),some (66,true),[]⟩,
   ⟨some 68,.bin .eql (.t 67) (.c (.int .u8 0)),some (66,true),[]⟩,
   o1 69 (.pick (.t 66) (.t 68) (.c (.bool false))),
   m1 70 1,
   o1 71 (.callm 91 [.t 69,.c (.int .u8 3),.t 70])])
   (.seq (.reg [
   o1 72 (.ld (.t 16) 7 true),
   ⟨none,.st (.t 7) (.t 72) 7,none,[]⟩])
   (.block 2 (.seq (.reg [
    m1 74 13,
    o1 75 (.bin .add (.t 74) (.c (.int .i64 1))),
    o1 76 (.addo (.t 8) 0),
    o1 77 (.ld (.t 76) 1 false),
    o1 78 (.bin .eql (.t 75) (.t 77)),
    m1 73 78])
    (.cond (.t 73)
    (.reg [
     o1 79 (.ld (.t 7) 7 true),
     ⟨none,.st (.t 12) (.t 79) 7,none,[]⟩])
    (.seq (.reg [
     m1 81 13,
     o1 82 (.bin .add (.t 81) (.c (.int .i64 1))),
     o1 83 (.addo (.t 8) 0),
     o1 84 (.ld (.t 83) 1 false),
     o1 85 (.bin .gtr (.t 82) (.t 84)),
     m1 80 85])
     (.cond (.t 80)
     (.regd [0,1,2,3,4,5,6,7,8,9,10,11,12,13,14,15,16,17,18,19,20,21,22,23] [
      .op (o1 86 (.addo (.t 12) 0)),
      .op ⟨some 87,.ld (.t 86) 2 true,none,[0]⟩,
      .op (o1 88 (.addo (.t 7) 0)),
      .op ⟨some 89,.ld (.t 88) 2 true,none,[2]⟩,
      .op ⟨some 90,.bsl 2 27 [.t 89],none,[3]⟩,
      .op ⟨some 91,.call 172 [.t 87,.t 90],none,[1,4]⟩,
      .op (o1 92 (.addo (.t 12) 2)),
      .op ⟨some 93,.ld (.t 92) 2 true,none,[6]⟩,
      .op (o1 94 (.addo (.t 7) 2)),
      .op ⟨some 95,.ld (.t 94) 2 true,none,[8]⟩,
      .op ⟨some 96,.bsl 2 27 [.t 95],none,[9]⟩,
      .op ⟨some 97,.call 172 [.t 93,.t 96],none,[5,7,10]⟩,
      .op (o1 98 (.addo (.t 12) 4)),
      .op ⟨some 99,.ld (.t 98) 2 true,none,[12]⟩,
      .op (o1 100 (.addo (.t 7) 4)),
      .op ⟨some 101,.ld (.t 100) 2 true,none,[14]⟩,
      .op ⟨some 102,.bsl 2 27 [.t 101],none,[15]⟩,
      .op ⟨some 103,.call 172 [.t 99,.t 102],none,[11,13,16]⟩,
      .op ⟨some 104,.addo (.t 12) 0,none,[0,1,2,3,4,5,6,7,12,13]⟩] 0 1 [
      ⟨none,.st (.t 104) (.t 91) 2,none,[0,1,2,3,4,5,6,7,12,13,17,18]⟩,
      ⟨some 105,.addo (.t 12) 2,none,[0,1,2,3,4,5,6,7,8,9,10,11,12,13,18,19]⟩,
      ⟨none,.st (.t 105) (.t 97) 2,none,[0,1,2,3,4,5,6,7,8,9,10,11,12,13,18,19,20]⟩,
      ⟨some 106,.addo (.t 12) 4,none,[0,1,2,3,4,5,6,7,8,9,10,11,12,13,14,15,16,17,18,19,20,21]⟩,
      ⟨none,.st (.t 106) (.t 103) 2,none,[0,1,2,3,4,5,6,7,8,9,10,11,12,13,14,15,16,17,18,19,20,21,22]⟩])
     .skip))))))))))))
  (.reg [
  o1 107 (.bin .add (.t 36) (.c (.int .i64 1))),
  m1 36 107])))))))
 (.seq (.reg [
 o1 108 (.ld (.t 12) 7 true),
 ⟨none,.st (.t 10) (.t 108) 7,none,[]⟩])
 .ret)))))
def r164:List RV:=[.cell 10 7 true]
theorem n164:Tryz.f164.ntmps=109:=by kernel_rfl
theorem b164:YF Tryz.prog 164=true:=by kernel_rfl
theorem ZvT:XA Tryz.prog c164 ((Tryz.f164.body).getD .skip)=true:=by kernel_rfl
theorem ZuR:We Tryz.prog r164 Tryz.f164.results.toList=true:=by kernel_rfl
theorem m164 {n0:Nat} {hp0:List (Nat × HB)} {args:List SV} {ZX:Ot->Prop} (hh:hpb n0 hp0) (hx:∀ o,ZX o->KX o.res/\KXP o.hp) (h:sx Tryz.prog Y0 n0 c164 ⟨enum 0 args,hp0,n0,109,[]⟩ (retM r164 fun o=>∃ o',ZX o'/\Zec n0 o o')) (hA:Nat.ble args.length 109=true:=by rfl):CtM Tryz.prog 164 hp0 n0 args ZX:=Xt Tryz.func164 rfl b164 ZvT ZuR n164 (Nat.le_of_ble_eq_true hA) hh hx h
def c172:SC:=(.seq (.reg [
 o1 2 (.box (.t 0) 0 27),
 o1 4 (.alloc [.int .i64 0,.int .i64 0] 27)])
 (.seq (.seq (.reg [
 m1 7 1,
 o1 8 (.len (.t 7)),
 o1 9 (.mv (.c (.int .i64 0)))])
 (.block 0 (.loop (.seq (.reg [
  o1 10 (.bin .lss (.t 9) (.t 8))])
  (.seq (.cond (.t 10)
  .skip
  (.exit 0))
  (.seq (.block 1 (.seq (.reg [
   o1 11 (.ixs (.t 7) (.t 9) 2),
   o1 12 (.ld (.t 11) 2 true),
   o1 6 (.alloc [.int .i64 0,.int .i64 0] 27),
   ⟨none,.st (.t 6) (.t 12) 2,none,[]⟩])
   (.reg [
   o1 13 (.addo (.t 2) 0),
   o1 14 (.ld (.t 13) 1 false),
   o1 15 (.addo (.t 6) 0),
   o1 16 (.ld (.t 15) 1 false),
   o1 17 (.mm false [.t 14,.t 16]),
   o1 18 (.addo (.t 2) 1),
   o1 19 (.ld (.t 18) 1 false),
   o1 20 (.addo (.t 6) 1),
   o1 21 (.ld (.t 20) 1 false),
   o1 22 (.mm true [.t 19,.t 21]),
   o1 23 (.build [.int .i64 0,.int .i64 0] [(0,1,.t 17),(1,1,.t 22)]),
   ⟨none,.st (.t 2) (.t 23) 2,none,[]⟩])))
  (.reg [
  o1 24 (.bin .add (.t 9) (.c (.int .i64 1))),
  m1 9 24])))))))
 (.seq (.reg [
 o1 25 (.ld (.t 2) 2 true),
 ⟨none,.st (.t 4) (.t 25) 2,none,[]⟩])
 .ret)))
def r172:List RV:=[.cell 4 2 true]
theorem t172:Qt1 Tryz.prog 172 c172 r172 26:=Z4 Tryz.func172 rfl (by kernel_rfl) (by kernel_rfl) (by kernel_rfl) (by kernel_rfl)
def c90:SC:=(.seq (.reg [
 o1 2 (.box (.t 0) 0 34),
 o1 4 (.mv (.c (.slice none 0 0))),
 o1 5 (.mv (.c (.bool false)))])
 (.seq (.reg [
 o1 10 (.addo (.t 2) 0),
 o1 11 (.ld (.t 10) 2 true),
 o1 12 (.addo (.t 2) 33),
 o1 13 (.ld (.t 12) 1 false),
 o1 14 (.addo (.t 2) 34),
 o1 15 (.ld (.t 14) 1 false),
 o1 16 (.addo (.t 2) 2),
 o1 17 (.ld (.t 16) 2 true),
 m1 18 1,
 o1 19 (.call 36 [.t 11,.t 13,.t 15,.t 17,.t 18]),
 m1 9 19,
 o1 20 (.ext (.t 9) 0),
 o1 21 (.ext (.t 9) 1),
 o1 22 (.ext (.t 9) 2),
 m1 6 20,
 m1 7 21,
 m1 8 22])
 (.seq (.regd [0,1,2,3,4,5,6,7,8,9,10,11,12,13,14,15,16,17,18,19,20,21,22] [
 .op (m1 23 6),
 .op (m1 24 8),
 .op ⟨some 25,.bin .eql (.t 24) (.c (.int .i64 0)),none,[1]⟩,
 .op ⟨some 26,.mv (.t 25),none,[2]⟩,
 .op ⟨some 27,.mv (.t 6),some (26,true),[3]⟩,
 .op ⟨some 28,.len (.t 27),some (26,true),[3,4]⟩,
 .op ⟨some 29,.bin .eql (.t 28) (.c (.int .i64 0)),some (26,true),[3,5]⟩,
 .op ⟨some 30,.mv (.t 29),some (26,true),[3,6]⟩,
 .op ⟨some 31,.mv (.t 6),some (30,false),[7]⟩,
 .op ⟨some 32,.mv (.t 6),some (30,false),[7]⟩,
 .op ⟨some 33,.len (.t 32),some (30,false),[7,9]⟩,
 .op ⟨some 34,.bin .sub (.t 33) (.c (.int .i64 1)),some (30,false),[7,10]⟩,
 .op ⟨some 35,.ixs (.t 31) (.t 34) 6,some (30,false),[7,8,11]⟩,
 .op ⟨some 36,.addo (.t 35) 4,some (30,false),[7,12]⟩,
 .op ⟨some 37,.addo (.t 36) 1,some (30,false),[7,13]⟩,
 .op ⟨some 38,.ld (.t 37) 1 false,some (30,false),[7,14]⟩,
 .op ⟨some 39,.addo (.t 2) 35,some (30,false),[7]⟩,
 .op ⟨some 40,.ld (.t 39) 1 false,some (30,false),[7,16]⟩,
 .op ⟨some 41,.bin .leq (.t 38) (.t 40),some (30,false),[7,15,17]⟩,
 .op ⟨some 42,.pick (.t 30) (.c (.bool true)) (.t 41),some (26,true),[3,7,18]⟩,
 .op ⟨some 43,.pick (.t 26) (.t 42) (.c (.bool false)),none,[3,19]⟩,
 .op ⟨some 4,.mv (.t 23),none,[0,7]⟩,
 .op ⟨some 5,.mv (.t 43),none,[0,1,2,3,4,5,6,7,8,9,10,11,12,13,14,15,16,17,18,19,20,21]⟩] 0 0 [
])
 .ret)))
def r90:List RV:=[.tmp 4,.tmp 5]
theorem t90:Qt1 Tryz.prog 90 c90 r90 44:=Z4 Tryz.func90 rfl (by kernel_rfl) (by kernel_rfl) (by kernel_rfl) (by kernel_rfl)
def c49:FB:=(.seq (.reg [
 o1 2 (.box (.t 0) 0 120),
 o1 3 (.box (.t 1) 0 37),
 o1 4 (.alloc [.slice none 0 0] 54),
 o1 5 (.alloc [.int .u8 0,.int .i64 0] 117)])
 (.rcv [
 o1 8 (.mkf 89 [.t 4,.t 5])] (.t 8)
 (.tail (.seq (.reg [
 o1 10 (.addo (.t 2) 0),
 o1 11 (.ld (.t 10) 37 true),
 o1 12 (.addo (.t 3) 0),
 o1 13 (.ld (.t 12) 1 false),
 o1 14 (.call 90 [.t 11,.t 13]),
 m1 9 14,
 o1 15 (.ext (.t 9) 0),
 o1 16 (.ext (.t 9) 1),
 m1 6 15,
 m1 7 16])
 (.seq (.reg [
 m1 17 7,
 o1 18 (.callm 91 [.t 17,.c (.int .u8 1),.c (.int .i64 0)])])
 (.seq (.reg [
 o1 19 (.ld (.t 2) 38 true),
 m1 20 6,
 o1 21 (.addo (.t 3) 1),
 o1 22 (.ld (.t 21) 1 false),
 o1 23 (.addo (.t 3) 2),
 o1 24 (.ld (.t 23) 1 false),
 o1 25 (.callm 92 [.t 19,.t 20,.t 22,.t 24]),
 o1 26 (.build [.int .u8 0,.int .i64 0] []),
 ⟨none,.st (.t 4) (.t 25) 1,none,[]⟩,
 ⟨none,.st (.t 5) (.t 26) 2,none,[]⟩])
 .ret))))))
def r49:List RV:=[.cell 4 1 false,.cell 5 2 true]
theorem n49:Tryz.f49.ntmps=27:=by kernel_rfl
theorem b49:YF Tryz.prog 49=true:=by kernel_rfl
theorem Zw5:Zaf Tryz.prog c49 ((Tryz.f49.body).getD .skip)=true:=by kernel_rfl
theorem Zxh:We Tryz.prog r49 Tryz.f49.results.toList=true:=by kernel_rfl
theorem m49 {n0:Nat} {hp0:List (Nat × HB)} {args:List SV} {ZX:Ot->Prop} (hh:hpb n0 hp0) (hx:∀ o,ZX o->KX o.res/\KXP o.hp) (h:fx Tryz.prog n0 c49 ⟨enum 0 args,hp0,n0,27,[]⟩ (retM r49 fun o=>∃ o',ZX o'/\Zec n0 o o')) (hA:Nat.ble args.length 27=true:=by rfl):CtM Tryz.prog 49 hp0 n0 args ZX:=Zb7 Tryz.func49 rfl b49 Zw5 Zxh n49 (Nat.le_of_ble_eq_true hA) hh hx h
def c37:SC:=(.seq (.reg [
 o1 2 (.box (.t 0) 0 29),
 o1 3 (.box (.t 1) 0 31),
 o1 4 (.alloc [.int .i64 0,.int .i64 0] 27),
 o1 5 (.mv (.c (.int .i64 0)))])
 (.seq (.seq (.reg [
 o1 7 (.ld (.t 2) 17 true),
 o1 8 (.ld (.t 3) 7 true),
 o1 9 (.call 54 [.t 7,.t 8]),
 m1 6 9])
 (.seq (.reg [
 m1 10 6,
 o1 11 (.bin .neq (.t 10) (.c (.int .i64 0)))])
 (.cond (.t 11)
 (.seq (.reg [
  o1 12 (.build [.int .i64 0,.int .i64 0] []),
  m1 13 6,
  ⟨none,.st (.t 4) (.t 12) 2,none,[]⟩,
  m1 5 13])
  .ret)
 .skip)))
 (.seq (.reg [
 o1 14 (.ld (.t 2) 17 true),
 o1 15 (.ld (.t 3) 7 true),
 o1 16 (.build zv1 [(0,17,.t 14),(17,7,.t 15)]),
 o1 17 (.call 81 [.t 16]),
 ⟨none,.st (.t 4) (.t 17) 2,none,[]⟩,
 o1 5 (.mv (.c (.int .i64 0)))])
 .ret)))
def r37:List RV:=[.cell 4 2 true,.tmp 5]
theorem t37:Qt1 Tryz.prog 37 c37 r37 18:=Z4 Tryz.func37 rfl (by kernel_rfl) (by kernel_rfl) (by kernel_rfl) (by kernel_rfl)
def c100:SC:=(.seq (.reg [
 o1 1 (.box (.t 0) 0 29),
 o1 2 (.mv (.c (.int .i64 0)))])
 (.seq (.seq (.reg [
 o1 3 (.addo (.t 1) 0),
 o1 4 (.ld (.t 3) 1 false),
 o1 5 (.addo (.t 1) 1),
 o1 6 (.ld (.t 5) 1 false),
 o1 7 (.bsl 1 3 [.t 4,.t 6]),
 o1 8 (.call 125 [.c (.int .i64 1),.c (.int .i64 1000000),.t 7]),
 o1 9 (.un .not (.t 8)),
 m1 10 9,
 ⟨some 11,.addo (.t 1) 2,some (10,false),[]⟩,
 ⟨some 12,.ld (.t 11) 2 true,some (10,false),[]⟩,
 ⟨some 13,.addo (.t 1) 4,some (10,false),[]⟩,
 ⟨some 14,.ld (.t 13) 2 true,some (10,false),[]⟩,
 ⟨some 15,.addo (.t 1) 6,some (10,false),[]⟩,
 ⟨some 16,.ld (.t 15) 2 true,some (10,false),[]⟩,
 ⟨some 17,.addo (.t 1) 8,some (10,false),[]⟩,
 ⟨some 18,.ld (.t 17) 2 true,some (10,false),[]⟩,
 ⟨some 19,.addo (.t 1) 10,some (10,false),[]⟩,
 ⟨some 20,.ld (.t 19) 2 true,some (10,false),[]⟩,
 ⟨some 21,.addo (.t 1) 12,some (10,false),[]⟩,
 ⟨some 22,.ld (.t 21) 2 true,some (10,false),[]⟩,
 ⟨some 23,.bsl 2 27 [.t 12,.t 14,.t 16,.t 18,.t 20,.t 22],some (10,false),[]⟩,
 ⟨some 24,.call 101 [.c (.int .i64 0),.c (.int .i64 100000),.t 23],some (10,false),[]⟩,
 ⟨some 25,.un .not (.t 24),some (10,false),[]⟩,
 o1 26 (.pick (.t 10) (.c (.bool true)) (.t 25)),
 m1 27 26,
 ⟨some 28,.addo (.t 1) 15,some (27,false),[]⟩,
 ⟨some 29,.ld (.t 28) 2 true,some (27,false),[]⟩,
 ⟨some 30,.bsl 2 27 [.t 29],some (27,false),[]⟩,
 ⟨some 31,.call 101 [.c (.int .i64 0),.c (.int .i64 1000000),.t 30],some (27,false),[]⟩,
 ⟨some 32,.un .not (.t 31),some (27,false),[]⟩,
 o1 33 (.pick (.t 27) (.c (.bool true)) (.t 32)),
 m1 34 33,
 ⟨some 35,.addo (.t 1) 14,some (34,false),[]⟩,
 ⟨some 36,.ld (.t 35) 1 false,some (34,false),[]⟩,
 ⟨some 37,.bsl 1 3 [.t 36],some (34,false),[]⟩,
 ⟨some 38,.call 125 [.c (.int .i64 0),.c (.int .i64 1000),.t 37],some (34,false),[]⟩,
 ⟨some 39,.un .not (.t 38),some (34,false),[]⟩,
 o1 40 (.pick (.t 34) (.c (.bool true)) (.t 39))])
 (.cond (.t 40)
 (.seq (.reg [
  o1 2 (.mv (.c (.int .i64 10)))])
  .ret)
 .skip))
 (.seq (.reg [
 o1 2 (.mv (.c (.int .i64 0)))])
 .ret)))
def r100:List RV:=[.tmp 2]
theorem t100:Qt1 Tryz.prog 100 c100 r100 41:=Z4 Tryz.func100 rfl (by kernel_rfl) (by kernel_rfl) (by kernel_rfl) (by kernel_rfl)
def c54:SC:=(.seq (.reg [
 o1 2 (.box (.t 0) 0 29),
 o1 3 (.box (.t 1) 0 31),
 o1 4 (.mv (.c (.int .i64 0)))])
 (.seq (.seq (.reg [
 o1 6 (.ld (.t 2) 17 true),
 o1 7 (.call 100 [.t 6]),
 m1 5 7])
 (.seq (.reg [
 m1 8 5,
 o1 9 (.bin .neq (.t 8) (.c (.int .i64 0)))])
 (.cond (.t 9)
 (.seq (.reg [
  m1 10 5,
  m1 4 10])
  .ret)
 .skip)))
 (.seq (.seq (.reg [
 o1 11 (.addo (.t 2) 0),
 o1 12 (.ld (.t 11) 1 false),
 o1 13 (.addo (.t 3) 0),
 o1 14 (.ld (.t 13) 2 true),
 o1 15 (.bsl 2 27 [.t 14]),
 o1 16 (.call 101 [.c (.int .i64 0),.t 12,.t 15]),
 o1 17 (.un .not (.t 16)),
 m1 18 17,
 ⟨some 19,.addo (.t 2) 1,some (18,false),[]⟩,
 ⟨some 20,.ld (.t 19) 1 false,some (18,false),[]⟩,
 ⟨some 21,.addo (.t 3) 2,some (18,false),[]⟩,
 ⟨some 22,.ld (.t 21) 2 true,some (18,false),[]⟩,
 ⟨some 23,.bsl 2 27 [.t 22],some (18,false),[]⟩,
 ⟨some 24,.call 101 [.c (.int .i64 0),.t 20,.t 23],some (18,false),[]⟩,
 ⟨some 25,.un .not (.t 24),some (18,false),[]⟩,
 o1 26 (.pick (.t 18) (.c (.bool true)) (.t 25)),
 m1 27 26,
 ⟨some 28,.addo (.t 3) 4,some (27,false),[]⟩,
 ⟨some 29,.ld (.t 28) 2 true,some (27,false),[]⟩,
 ⟨some 30,.bsl 2 27 [.t 29],some (27,false),[]⟩,
 ⟨some 31,.call 101 [.c (.int .i64 0),.c (.int .i64 1000),.t 30],some (27,false),[]⟩,
 ⟨some 32,.un .not (.t 31),some (27,false),[]⟩,
 o1 33 (.pick (.t 27) (.c (.bool true)) (.t 32))])
 (.cond (.t 33)
 (.seq (.reg [
  o1 4 (.mv (.c (.int .i64 11)))])
  .ret)
 .skip))
 (.seq (.reg [
 o1 4 (.mv (.c (.int .i64 0)))])
 .ret))))
def r54:List RV:=[.tmp 4]
theorem t54:Qt1 Tryz.prog 54 c54 r54 34:=Z4 Tryz.func54 rfl (by kernel_rfl) (by kernel_rfl) (by kernel_rfl) (by kernel_rfl)
def c95:SC:=(.seq (.reg [
 o1 2 (.box (.t 0) 0 29),
 o1 3 (.box (.t 1) 0 31),
 o1 4 (.mv (.c (.int .i64 0)))])
 (.seq (.seq (.reg [
 o1 5 (.ld (.t 2) 17 true),
 o1 6 (.call 138 [.t 5]),
 o1 7 (.un .not (.t 6))])
 (.cond (.t 7)
 (.seq (.reg [
  o1 4 (.mv (.c (.int .i64 10)))])
  .ret)
 .skip))
 (.seq (.seq (.reg [
 o1 8 (.ld (.t 2) 17 true),
 o1 9 (.ld (.t 3) 7 true),
 o1 10 (.call 139 [.t 8,.t 9]),
 o1 11 (.un .not (.t 10))])
 (.cond (.t 11)
 (.seq (.reg [
  o1 4 (.mv (.c (.int .i64 11)))])
  .ret)
 .skip))
 (.seq (.reg [
 o1 4 (.mv (.c (.int .i64 0)))])
 .ret))))
def r95:List RV:=[.tmp 4]
theorem t95:Qt1 Tryz.prog 95 c95 r95 12:=Z4 Tryz.func95 rfl (by kernel_rfl) (by kernel_rfl) (by kernel_rfl) (by kernel_rfl)
def c139:SC:=(.seq (.reg [
 o1 2 (.box (.t 0) 0 29),
 o1 3 (.box (.t 1) 0 31),
 o1 4 (.mv (.c (.bool false)))])
 (.seq (.reg [
 o1 5 (.addo (.t 3) 0),
 o1 6 (.ld (.t 5) 2 true),
 o1 7 (.addo (.t 2) 0),
 o1 8 (.ld (.t 7) 1 false),
 o1 9 (.call 166 [.t 6,.c (.int .i64 0),.t 8]),
 m1 10 9,
 ⟨some 11,.addo (.t 3) 2,some (10,true),[]⟩,
 ⟨some 12,.ld (.t 11) 2 true,some (10,true),[]⟩,
 ⟨some 13,.addo (.t 2) 1,some (10,true),[]⟩,
 ⟨some 14,.ld (.t 13) 1 false,some (10,true),[]⟩,
 ⟨some 15,.call 166 [.t 12,.c (.int .i64 0),.t 14],some (10,true),[]⟩,
 o1 16 (.pick (.t 10) (.t 15) (.c (.bool false))),
 m1 17 16,
 ⟨some 18,.addo (.t 3) 4,some (17,true),[]⟩,
 ⟨some 19,.ld (.t 18) 2 true,some (17,true),[]⟩,
 ⟨some 20,.call 166 [.t 19,.c (.int .i64 0),.c (.int .i64 1000)],some (17,true),[]⟩,
 o1 21 (.pick (.t 17) (.t 20) (.c (.bool false))),
 m1 4 21])
 .ret))
def r139:List RV:=[.tmp 4]
theorem t139:Qt1 Tryz.prog 139 c139 r139 22:=Z4 Tryz.func139 rfl (by kernel_rfl) (by kernel_rfl) (by kernel_rfl) (by kernel_rfl)
def c123:SC:=(.seq (.reg [
 o1 1 (.box (.t 0) 0 169),
 o1 2 (.alloc [.int .i64 0,.int .i64 0] 27)])
 (.seq (.reg [
 o1 6 (.build [.int .i64 0,.int .i64 0] [(0,1,.c (.int .i64 1000)),(1,1,.c (.int .i64 1000))]),
 o1 3 (.alloc [.int .i64 0,.int .i64 0] 27),
 ⟨none,.st (.t 3) (.t 6) 2,none,[]⟩])
 (.seq (.seq (.regd [0,1,2,3,4,5,6,7,8,9,10,11,12,13,14,15,16,17,18,19,20,21] [
 .op (o1 7 (.addo (.t 1) 17)),
 .op ⟨some 8,.addo (.t 7) 0,none,[0]⟩,
 .op ⟨some 9,.ld (.t 8) 2 true,none,[1]⟩,
 .op (o1 10 (.addo (.t 1) 0)),
 .op ⟨some 11,.addo (.t 10) 0,none,[3]⟩,
 .op ⟨some 12,.ld (.t 11) 1 false,none,[4]⟩,
 .op (o1 13 (.bsl 1 3 [.c (.int .i64 2),.c (.int .i64 1000)])),
 .op ⟨some 14,.call 128 [.t 9,.t 12,.t 13],none,[2,5,6]⟩,
 .op (o1 15 (.addo (.t 1) 17)),
 .op ⟨some 16,.addo (.t 15) 2,none,[8]⟩,
 .op ⟨some 17,.ld (.t 16) 2 true,none,[9]⟩,
 .op (o1 18 (.addo (.t 1) 0)),
 .op ⟨some 19,.addo (.t 18) 1,none,[11]⟩,
 .op ⟨some 20,.ld (.t 19) 1 false,none,[12]⟩,
 .op (o1 21 (.bsl 1 3 [.c (.int .i64 2),.c (.int .i64 1000)])),
 .op ⟨some 22,.call 128 [.t 17,.t 20,.t 21],none,[7,10,13,14]⟩,
 .op (o1 23 (.addo (.t 1) 17)),
 .op ⟨some 24,.addo (.t 23) 4,none,[16]⟩,
 .op ⟨some 25,.ld (.t 24) 2 true,none,[17]⟩,
 .op ⟨some 26,.call 159 [.c (.int .i64 1000),.t 25],none,[15,18]⟩,
 .op ⟨some 27,.build zv7 [(0,2,.t 14),(2,2,.t 22),(4,2,.t 26)],none,[7,15,19]⟩,
 .op (o1 28 (.mv (.c (.int .i64 0))))] 0 0 [
])
 (.block 0 (.loop (.seq (.reg [
  o1 29 (.bin .lss (.t 28) (.c (.int .i64 3)))])
  (.seq (.cond (.t 29)
  .skip
  (.exit 0))
  (.seq (.block 1 (.seq (.reg [
   o1 30 (.idx (.t 27) (.t 28) 3 2 true),
   o1 5 (.alloc [.int .i64 0,.int .i64 0] 27),
   ⟨none,.st (.t 5) (.t 30) 2,none,[]⟩])
   (.reg [
   o1 31 (.addo (.t 3) 0),
   o1 32 (.ld (.t 31) 1 false),
   o1 33 (.addo (.t 5) 0),
   o1 34 (.ld (.t 33) 1 false),
   o1 35 (.mm false [.t 32,.t 34]),
   o1 36 (.addo (.t 3) 1),
   o1 37 (.ld (.t 36) 1 false),
   o1 38 (.addo (.t 5) 1),
   o1 39 (.ld (.t 38) 1 false),
   o1 40 (.mm false [.t 37,.t 39]),
   o1 41 (.build [.int .i64 0,.int .i64 0] [(0,1,.t 35),(1,1,.t 40)]),
   ⟨none,.st (.t 3) (.t 41) 2,none,[]⟩])))
  (.reg [
  o1 42 (.bin .add (.t 28) (.c (.int .i64 1))),
  m1 28 42])))))))
 (.seq (.reg [
 o1 43 (.ld (.t 3) 2 true),
 ⟨none,.st (.t 2) (.t 43) 2,none,[]⟩])
 .ret))))
def r123:List RV:=[.cell 2 2 true]
theorem t123:Qt1 Tryz.prog 123 c123 r123 44:=Z4 Tryz.func123 rfl (by kernel_rfl) (by kernel_rfl) (by kernel_rfl) (by kernel_rfl)
def c81:SC:=(.seq (.reg [
 o1 1 (.box (.t 0) 0 169),
 o1 2 (.alloc [.int .i64 0,.int .i64 0] 27)])
 (.seq (.reg [
 o1 4 (.ld (.t 1) 24 true),
 o1 5 (.call 123 [.t 4]),
 o1 3 (.alloc [.int .i64 0,.int .i64 0] 27),
 ⟨none,.st (.t 3) (.t 5) 2,none,[]⟩])
 (.seq (.regd [0,1,2,3,4,5,6,7,8,9,10,11,12,13,14,15,16,17] [
 .op (o1 6 (.addo (.t 1) 0)),
 .op ⟨some 7,.addo (.t 6) 15,none,[0]⟩,
 .op ⟨some 8,.addo (.t 7) 0,none,[1]⟩,
 .op ⟨some 9,.ld (.t 8) 1 false,none,[2]⟩,
 .op (o1 10 (.addo (.t 3) 0)),
 .op ⟨some 11,.ld (.t 10) 1 false,none,[4]⟩,
 .op ⟨some 12,.bin .mul (.t 9) (.t 11),none,[3,5]⟩,
 .op ⟨some 13,.div .quo (.t 12) (.c (.int .i64 1000)),none,[6]⟩,
 .op (o1 14 (.addo (.t 1) 0)),
 .op ⟨some 15,.addo (.t 14) 15,none,[8]⟩,
 .op ⟨some 16,.addo (.t 15) 1,none,[9]⟩,
 .op ⟨some 17,.ld (.t 16) 1 false,none,[10]⟩,
 .op (o1 18 (.addo (.t 3) 1)),
 .op ⟨some 19,.ld (.t 18) 1 false,none,[12]⟩,
 .op ⟨some 20,.bin .mul (.t 17) (.t 19),none,[11,13]⟩,
 .op ⟨some 21,.call 124 [.t 20,.c (.int .i64 1000)],none,[14]⟩,
 .op ⟨some 22,.build [.int .i64 0,.int .i64 0] [(0,1,.t 13),(1,1,.t 21)],none,[7,15]⟩] 0 1 [
 ⟨none,.st (.t 2) (.t 22) 2,none,[0,1,2,3,4,5,6,7,8,9,10,11,12,13,14,15,16]⟩])
 .ret)))
def r81:List RV:=[.cell 2 2 true]
theorem t81:Qt1 Tryz.prog 81 c81 r81 23:=Z4 Tryz.func81 rfl (by kernel_rfl) (by kernel_rfl) (by kernel_rfl) (by kernel_rfl)
def c83:SC:=(.seq (.reg [
 o1 2 (.mv (.c (.int .i64 0)))])
 (.seq (.seq (.reg [
 m1 5 0,
 o1 6 (.len (.t 5)),
 o1 7 (.mv (.c (.int .i64 0)))])
 (.block 0 (.loop (.seq (.reg [
  o1 8 (.bin .lss (.t 7) (.t 6))])
  (.seq (.cond (.t 8)
  .skip
  (.exit 0))
  (.seq (.block 1 (.seq (.reg [
   o1 9 (.ixs (.t 5) (.t 7) 8),
   o1 10 (.ld (.t 9) 8 true),
   o1 4 (.alloc zv6 80),
   ⟨none,.st (.t 4) (.t 10) 8,none,[]⟩])
   (.seq (.reg [
   o1 11 (.addo (.t 4) 0),
   o1 12 (.ld (.t 11) 1 false),
   o1 13 (.bsl 1 3 [.t 12]),
   o1 14 (.call 125 [.c (.int .i64 0),.c (.int .i64 24),.t 13]),
   o1 15 (.un .not (.t 14)),
   m1 16 15,
   ⟨some 17,.addo (.t 4) 1,some (16,false),[]⟩,
   ⟨some 18,.ld (.t 17) 1 false,some (16,false),[]⟩,
   ⟨some 19,.bsl 1 3 [.t 18],some (16,false),[]⟩,
   ⟨some 20,.call 125 [.c (.int .i64 0),.c (.int .i64 1000000),.t 19],some (16,false),[]⟩,
   ⟨some 21,.un .not (.t 20),some (16,false),[]⟩,
   o1 22 (.pick (.t 16) (.c (.bool true)) (.t 21)),
   m1 23 22,
   ⟨some 24,.addo (.t 4) 2,some (23,false),[]⟩,
   ⟨some 25,.ld (.t 24) 2 true,some (23,false),[]⟩,
   ⟨some 26,.bsl 2 27 [.t 25],some (23,false),[]⟩,
   ⟨some 27,.call 101 [.c (.int .i64 0),.c (.int .i64 60),.t 26],some (23,false),[]⟩,
   ⟨some 28,.un .not (.t 27),some (23,false),[]⟩,
   o1 29 (.pick (.t 23) (.c (.bool true)) (.t 28)),
   m1 30 29,
   ⟨some 31,.addo (.t 4) 4,some (30,false),[]⟩,
   ⟨some 32,.ld (.t 31) 2 true,some (30,false),[]⟩,
   ⟨some 33,.addo (.t 4) 6,some (30,false),[]⟩,
   ⟨some 34,.ld (.t 33) 2 true,some (30,false),[]⟩,
   ⟨some 35,.bsl 2 27 [.t 32,.t 34],some (30,false),[]⟩,
   ⟨some 36,.call 101 [.c (.int .i64 0),.c (.int .i64 1000000),.t 35],some (30,false),[]⟩,
   ⟨some 37,.un .not (.t 36),some (30,false),[]⟩,
   o1 38 (.pick (.t 30) (.c (.bool true)) (.t 37))])
   (.cond (.t 38)
   (.seq (.reg [
    o1 2 (.mv (.c (.int .i64 12)))])
    .ret)
   .skip))))
  (.reg [
  o1 39 (.bin .add (.t 7) (.c (.int .i64 1))),
  m1 7 39])))))))
 (.seq (.reg [
 o1 2 (.mv (.c (.int .i64 0)))])
 .ret)))
def r83:List RV:=[.tmp 2]
theorem t83:Qt1 Tryz.prog 83 c83 r83 40:=Z4 Tryz.func83 rfl (by kernel_rfl) (by kernel_rfl) (by kernel_rfl) (by kernel_rfl)
def c126:SC:=(.seq (.reg [
 o1 3 (.box (.t 0) 0 29),
 o1 5 (.box (.t 2) 0 80),
 o1 6 (.alloc [.int .i64 0,.int .i64 0,.int .i64 0,.int .i64 0] 217)])
 (.seq (.reg [
 o1 10 (.addo (.t 5) 2),
 o1 11 (.addo (.t 10) 0),
 o1 12 (.ld (.t 11) 1 false),
 o1 13 (.bin .sub (.t 12) (.c (.int .i64 20))),
 o1 14 (.mm true [.c (.int .i64 0),.t 13]),
 o1 15 (.addo (.t 5) 2),
 o1 16 (.addo (.t 15) 1),
 o1 17 (.ld (.t 16) 1 false),
 o1 18 (.bin .sub (.t 17) (.c (.int .i64 20))),
 o1 19 (.mm true [.c (.int .i64 0),.t 18]),
 o1 20 (.build [.int .i64 0,.int .i64 0] [(0,1,.t 14),(1,1,.t 19)]),
 o1 7 (.alloc [.int .i64 0,.int .i64 0] 27),
 ⟨none,.st (.t 7) (.t 20) 2,none,[]⟩])
 (.seq (.reg [
 o1 21 (.addo (.t 5) 0),
 o1 22 (.ld (.t 21) 1 false),
 o1 23 (.addo (.t 5) 1),
 o1 24 (.ld (.t 23) 1 false),
 o1 25 (.bin .add (.c (.int .i64 100000)) (.t 24)),
 o1 26 (.bin .mul (.t 22) (.t 25)),
 m1 8 26])
 (.seq (.regd [0,1,2,3,4,5,6,7,8,9,10,11,12,13,14,15,16,17,18,19,20,21,22,23] [
 .op (o1 27 (.addo (.t 3) 2)),
 .op ⟨some 28,.ld (.t 27) 2 true,none,[0]⟩,
 .op (o1 29 (.addo (.t 3) 4)),
 .op ⟨some 30,.addo (.t 29) 0,none,[2]⟩,
 .op ⟨some 31,.ld (.t 30) 1 false,none,[3]⟩,
 .op (o1 32 (.addo (.t 7) 0)),
 .op ⟨some 33,.ld (.t 32) 1 false,none,[5]⟩,
 .op ⟨some 34,.bin .mul (.t 31) (.t 33),none,[4,6]⟩,
 .op (o1 35 (.addo (.t 3) 4)),
 .op ⟨some 36,.addo (.t 35) 1,none,[8]⟩,
 .op ⟨some 37,.ld (.t 36) 1 false,none,[9]⟩,
 .op (o1 38 (.addo (.t 7) 1)),
 .op ⟨some 39,.ld (.t 38) 1 false,none,[11]⟩,
 .op ⟨some 40,.bin .mul (.t 37) (.t 39),none,[10,12]⟩,
 .op ⟨some 41,.build [.int .i64 0,.int .i64 0] [(0,1,.t 34),(1,1,.t 40)],none,[7,13]⟩,
 .op (o1 42 (.addo (.t 3) 6)),
 .op ⟨some 43,.ld (.t 42) 2 true,none,[15]⟩,
 .op (m1 44 8),
 .op ⟨some 45,.bsl 1 3 [.t 44],none,[17]⟩,
 .op ⟨some 46,.call 128 [.t 43,.c (.int .i64 100000),.t 45],none,[16,18]⟩,
 .op ⟨some 47,.bsl 2 27 [.t 28,.t 41,.t 46],none,[1,14,19]⟩,
 .op ⟨some 48,.call 127 [.t 47],none,[19,20]⟩] 1 1 [
 o1 9 (.alloc [.int .i64 0,.int .i64 0] 27),
 ⟨none,.st (.t 9) (.t 48) 2,none,[0,1,2,3,4,5,6,7,8,9,10,11,12,13,14,15,16,17,18,19,20,21,22]⟩])
 (.seq (.seq (.reg [
 m1 49 1])
 (.cond (.t 49)
 (.reg [
  o1 50 (.ld (.t 9) 2 true),
  o1 51 (.addo (.t 3) 12),
  o1 52 (.ld (.t 51) 2 true),
  o1 53 (.bsl 2 27 [.t 50,.t 52]),
  o1 54 (.call 127 [.t 53]),
  ⟨none,.st (.t 9) (.t 54) 2,none,[]⟩])
 .skip))
 (.seq (.regd [0,1,2,3,4,5,6,7] [
 .op (o1 55 (.ld (.t 9) 2 true)),
 .op (o1 56 (.addo (.t 3) 8)),
 .op ⟨some 57,.ld (.t 56) 2 true,none,[1]⟩,
 .op (m1 58 8),
 .op ⟨some 59,.bsl 1 3 [.t 58],none,[3]⟩,
 .op ⟨some 60,.call 128 [.t 57,.c (.int .i64 100000),.t 59],none,[2,4]⟩,
 .op ⟨some 61,.build [.int .i64 0,.int .i64 0,.int .i64 0,.int .i64 0] [(0,2,.t 55),(2,2,.t 60)],none,[0,5]⟩] 0 1 [
 ⟨none,.st (.t 6) (.t 61) 4,none,[0,1,2,3,4,5,6]⟩])
 .ret))))))
def r126:List RV:=[.cell 6 4 true]
theorem t126:Qt1 Tryz.prog 126 c126 r126 62:=Z4 Tryz.func126 rfl (by kernel_rfl) (by kernel_rfl) (by kernel_rfl) (by kernel_rfl)
def c138:SC:=(.seq (.reg [
 o1 1 (.box (.t 0) 0 29),
 o1 2 (.mv (.c (.bool false)))])
 (.seq (.seq (.reg [
 o1 3 (.addo (.t 1) 0),
 o1 4 (.ld (.t 3) 1 false),
 o1 5 (.call 165 [.t 4,.c (.int .i64 1),.c (.int .i64 1000000)]),
 o1 6 (.un .not (.t 5)),
 m1 7 6,
 ⟨some 8,.addo (.t 1) 1,some (7,false),[]⟩,
 ⟨some 9,.ld (.t 8) 1 false,some (7,false),[]⟩,
 ⟨some 10,.call 165 [.t 9,.c (.int .i64 1),.c (.int .i64 1000000)],some (7,false),[]⟩,
 ⟨some 11,.un .not (.t 10),some (7,false),[]⟩,
 o1 12 (.pick (.t 7) (.c (.bool true)) (.t 11)),
 m1 13 12,
 ⟨some 14,.addo (.t 1) 14,some (13,false),[]⟩,
 ⟨some 15,.ld (.t 14) 1 false,some (13,false),[]⟩,
 ⟨some 16,.call 165 [.t 15,.c (.int .i64 0),.c (.int .i64 1000)],some (13,false),[]⟩,
 ⟨some 17,.un .not (.t 16),some (13,false),[]⟩,
 o1 18 (.pick (.t 13) (.c (.bool true)) (.t 17)),
 m1 19 18,
 ⟨some 20,.addo (.t 1) 15,some (19,false),[]⟩,
 ⟨some 21,.ld (.t 20) 2 true,some (19,false),[]⟩,
 ⟨some 22,.call 166 [.t 21,.c (.int .i64 0),.c (.int .i64 1000000)],some (19,false),[]⟩,
 ⟨some 23,.un .not (.t 22),some (19,false),[]⟩,
 o1 24 (.pick (.t 19) (.c (.bool true)) (.t 23))])
 (.cond (.t 24)
 (.seq (.reg [
  o1 2 (.mv (.c (.bool false)))])
  .ret)
 .skip))
 (.seq (.reg [
 o1 25 (.addo (.t 1) 2),
 o1 26 (.ld (.t 25) 2 true),
 o1 27 (.call 166 [.t 26,.c (.int .i64 0),.c (.int .i64 100000)]),
 m1 28 27,
 ⟨some 29,.addo (.t 1) 4,some (28,true),[]⟩,
 ⟨some 30,.ld (.t 29) 2 true,some (28,true),[]⟩,
 ⟨some 31,.call 166 [.t 30,.c (.int .i64 0),.c (.int .i64 100000)],some (28,true),[]⟩,
 o1 32 (.pick (.t 28) (.t 31) (.c (.bool false))),
 m1 33 32,
 ⟨some 34,.addo (.t 1) 6,some (33,true),[]⟩,
 ⟨some 35,.ld (.t 34) 2 true,some (33,true),[]⟩,
 ⟨some 36,.call 166 [.t 35,.c (.int .i64 0),.c (.int .i64 100000)],some (33,true),[]⟩,
 o1 37 (.pick (.t 33) (.t 36) (.c (.bool false))),
 m1 38 37,
 ⟨some 39,.addo (.t 1) 8,some (38,true),[]⟩,
 ⟨some 40,.ld (.t 39) 2 true,some (38,true),[]⟩,
 ⟨some 41,.call 166 [.t 40,.c (.int .i64 0),.c (.int .i64 100000)],some (38,true),[]⟩,
 o1 42 (.pick (.t 38) (.t 41) (.c (.bool false))),
 m1 43 42,
 ⟨some 44,.addo (.t 1) 10,some (43,true),[]⟩,
 ⟨some 45,.ld (.t 44) 2 true,some (43,true),[]⟩,
 ⟨some 46,.call 166 [.t 45,.c (.int .i64 0),.c (.int .i64 100000)],some (43,true),[]⟩,
 o1 47 (.pick (.t 43) (.t 46) (.c (.bool false))),
 m1 48 47,
 ⟨some 49,.addo (.t 1) 12,some (48,true),[]⟩,
 ⟨some 50,.ld (.t 49) 2 true,some (48,true),[]⟩,
 ⟨some 51,.call 166 [.t 50,.c (.int .i64 0),.c (.int .i64 100000)],some (48,true),[]⟩,
 o1 52 (.pick (.t 48) (.t 51) (.c (.bool false))),
 m1 2 52])
 .ret)))
def r138:List RV:=[.tmp 2]
theorem t138:Qt1 Tryz.prog 138 c138 r138 53:=Z4 Tryz.func138 rfl (by kernel_rfl) (by kernel_rfl) (by kernel_rfl) (by kernel_rfl)
def c125:SC:=(.seq (.reg [
 o1 3 (.box (.t 0) 0 3),
 o1 4 (.box (.t 1) 0 3),
 o1 6 (.mv (.c (.bool false)))])
 (.seq (.reg [
 m1 7 2,
 o1 8 (.mkf 160 [.t 3,.t 4]),
 o1 9 (.call 98 [.t 7,.t 8]),
 o1 10 (.un .not (.t 9)),
 m1 6 10])
 .ret))
def r125:List RV:=[.tmp 6]
theorem t125:Qt1 Tryz.prog 125 c125 r125 11:=Z4 Tryz.func125 rfl (by kernel_rfl) (by kernel_rfl) (by kernel_rfl) (by kernel_rfl)
def c101:SC:=(.seq (.reg [
 o1 3 (.box (.t 0) 0 3),
 o1 4 (.box (.t 1) 0 3),
 o1 6 (.mv (.c (.bool false)))])
 (.seq (.reg [
 m1 7 2,
 o1 8 (.mkf 142 [.t 3,.t 4]),
 o1 9 (.call 102 [.t 7,.t 8]),
 o1 10 (.un .not (.t 9)),
 m1 6 10])
 .ret))
def r101:List RV:=[.tmp 6]
theorem t101:Qt1 Tryz.prog 101 c101 r101 11:=Z4 Tryz.func101 rfl (by kernel_rfl) (by kernel_rfl) (by kernel_rfl) (by kernel_rfl)
def c127:SC:=(.seq (.reg [
 o1 2 (.alloc [.int .i64 0,.int .i64 0] 27)])
 (.seq (.reg [
 o1 3 (.alloc [.int .i64 0,.int .i64 0] 27)])
 (.seq (.seq (.reg [
 m1 6 0,
 o1 7 (.len (.t 6)),
 o1 8 (.mv (.c (.int .i64 0)))])
 (.block 0 (.loop (.seq (.reg [
  o1 9 (.bin .lss (.t 8) (.t 7))])
  (.seq (.cond (.t 9)
  .skip
  (.exit 0))
  (.seq (.block 1 (.seq (.reg [
   o1 10 (.ixs (.t 6) (.t 8) 2),
   o1 11 (.ld (.t 10) 2 true),
   o1 5 (.alloc [.int .i64 0,.int .i64 0] 27),
   ⟨none,.st (.t 5) (.t 11) 2,none,[]⟩])
   (.reg [
   o1 12 (.addo (.t 3) 0),
   o1 13 (.ld (.t 12) 1 false),
   o1 14 (.addo (.t 5) 0),
   o1 15 (.ld (.t 14) 1 false),
   o1 16 (.bin .add (.t 13) (.t 15)),
   o1 17 (.addo (.t 3) 1),
   o1 18 (.ld (.t 17) 1 false),
   o1 19 (.addo (.t 5) 1),
   o1 20 (.ld (.t 19) 1 false),
   o1 21 (.bin .add (.t 18) (.t 20)),
   o1 22 (.build [.int .i64 0,.int .i64 0] [(0,1,.t 16),(1,1,.t 21)]),
   ⟨none,.st (.t 3) (.t 22) 2,none,[]⟩])))
  (.reg [
  o1 23 (.bin .add (.t 8) (.c (.int .i64 1))),
  m1 8 23])))))))
 (.seq (.reg [
 o1 24 (.ld (.t 3) 2 true),
 ⟨none,.st (.t 2) (.t 24) 2,none,[]⟩])
 .ret))))
def r127:List RV:=[.cell 2 2 true]
theorem t127:Qt1 Tryz.prog 127 c127 r127 25:=Z4 Tryz.func127 rfl (by kernel_rfl) (by kernel_rfl) (by kernel_rfl) (by kernel_rfl)
def c159:SC:=(.seq (.reg [
 o1 3 (.box (.t 1) 0 27),
 o1 4 (.alloc [.int .i64 0,.int .i64 0] 27)])
 (.seq (.reg [
 m1 5 0,
 o1 6 (.addo (.t 3) 1),
 o1 7 (.ld (.t 6) 1 false),
 o1 8 (.bin .sub (.t 5) (.t 7)),
 m1 9 0,
 o1 10 (.addo (.t 3) 0),
 o1 11 (.ld (.t 10) 1 false),
 o1 12 (.bin .sub (.t 9) (.t 11)),
 o1 13 (.build [.int .i64 0,.int .i64 0] [(0,1,.t 8),(1,1,.t 12)]),
 ⟨none,.st (.t 4) (.t 13) 2,none,[]⟩])
 .ret))
def r159:List RV:=[.cell 4 2 true]
theorem t159:Qt1 Tryz.prog 159 c159 r159 14:=Z4 Tryz.func159 rfl (by kernel_rfl) (by kernel_rfl) (by kernel_rfl) (by kernel_rfl)
def c166:SC:=(.seq (.reg [
 o1 3 (.box (.t 0) 0 27),
 o1 6 (.mv (.c (.bool false)))])
 (.seq (.reg [
 o1 7 (.addo (.t 3) 0),
 o1 8 (.ld (.t 7) 1 false),
 m1 9 1,
 o1 10 (.addo (.t 3) 1),
 o1 11 (.ld (.t 10) 1 false),
 o1 12 (.call 165 [.t 8,.t 9,.t 11]),
 m1 13 12,
 ⟨some 14,.addo (.t 3) 1,some (13,true),[]⟩,
 ⟨some 15,.ld (.t 14) 1 false,some (13,true),[]⟩,
 ⟨some 16,.mv (.t 2),some (13,true),[]⟩,
 ⟨some 17,.bin .leq (.t 15) (.t 16),some (13,true),[]⟩,
 o1 18 (.pick (.t 13) (.t 17) (.c (.bool false))),
 m1 6 18])
 .ret))
def r166:List RV:=[.tmp 6]
theorem t166:Qt1 Tryz.prog 166 c166 r166 19:=Z4 Tryz.func166 rfl (by kernel_rfl) (by kernel_rfl) (by kernel_rfl) (by kernel_rfl)
def c165:SC:=(.seq (.reg [
 o1 6 (.mv (.c (.bool false)))])
 (.seq (.reg [
 m1 7 0,
 m1 8 1,
 o1 9 (.bin .geq (.t 7) (.t 8)),
 m1 10 9,
 ⟨some 11,.mv (.t 0),some (10,true),[]⟩,
 ⟨some 12,.mv (.t 2),some (10,true),[]⟩,
 ⟨some 13,.bin .leq (.t 11) (.t 12),some (10,true),[]⟩,
 o1 14 (.pick (.t 10) (.t 13) (.c (.bool false))),
 m1 6 14])
 .ret))
def r165:List RV:=[.tmp 6]
theorem t165:Qt1 Tryz.prog 165 c165 r165 15:=Z4 Tryz.func165 rfl (by kernel_rfl) (by kernel_rfl) (by kernel_rfl) (by kernel_rfl)
def c128:SC:=(.seq (.reg [
 o1 3 (.box (.t 0) 0 27),
 o1 6 (.alloc [.int .i64 0,.int .i64 0] 27)])
 (.seq (.seq (.reg [
 m1 9 2,
 o1 10 (.len (.t 9)),
 o1 11 (.mv (.c (.int .i64 0)))])
 (.block 0 (.loop (.seq (.reg [
  o1 12 (.bin .lss (.t 11) (.t 10))])
  (.seq (.cond (.t 12)
  .skip
  (.exit 0))
  (.seq (.block 1 (.seq (.reg [
   o1 13 (.ixs (.t 9) (.t 11) 1),
   o1 14 (.ld (.t 13) 1 false),
   m1 8 14])
   (.reg [
   o1 15 (.addo (.t 3) 0),
   o1 16 (.ld (.t 15) 1 false),
   m1 17 8,
   o1 18 (.bin .mul (.t 16) (.t 17)),
   o1 19 (.addo (.t 3) 1),
   o1 20 (.ld (.t 19) 1 false),
   m1 21 8,
   o1 22 (.bin .mul (.t 20) (.t 21)),
   o1 23 (.addo (.t 3) 0),
   ⟨none,.st (.t 23) (.t 18) 1,none,[]⟩,
   o1 24 (.addo (.t 3) 1),
   ⟨none,.st (.t 24) (.t 22) 1,none,[]⟩])))
  (.reg [
  o1 25 (.bin .add (.t 11) (.c (.int .i64 1))),
  m1 11 25])))))))
 (.seq (.regd [0,1,2,3,4,5,6,7,8,9] [
 .op (o1 26 (.addo (.t 3) 0)),
 .op ⟨some 27,.ld (.t 26) 1 false,none,[0]⟩,
 .op (m1 28 1),
 .op ⟨some 29,.div .quo (.t 27) (.t 28),none,[1,2]⟩,
 .op (o1 30 (.addo (.t 3) 1)),
 .op ⟨some 31,.ld (.t 30) 1 false,none,[4]⟩,
 .op (m1 32 1),
 .op ⟨some 33,.call 124 [.t 31,.t 32],none,[5,6]⟩,
 .op ⟨some 34,.build [.int .i64 0,.int .i64 0] [(0,1,.t 29),(1,1,.t 33)],none,[3,7]⟩] 0 1 [
 ⟨none,.st (.t 6) (.t 34) 2,none,[0,1,2,3,4,5,6,7,8]⟩])
 .ret)))
def r128:List RV:=[.cell 6 2 true]
theorem t128:Qt1 Tryz.prog 128 c128 r128 35:=Z4 Tryz.func128 rfl (by kernel_rfl) (by kernel_rfl) (by kernel_rfl) (by kernel_rfl)
def c124:SC:=(.seq (.reg [
 o1 4 (.mv (.c (.int .i64 0)))])
 (.seq (.reg [
 m1 5 0,
 m1 6 1,
 o1 7 (.bin .add (.t 5) (.t 6)),
 o1 8 (.bin .sub (.t 7) (.c (.int .i64 1))),
 m1 9 1,
 o1 10 (.div .quo (.t 8) (.t 9)),
 m1 4 10])
 .ret))
def r124:List RV:=[.tmp 4]
theorem t124:Qt1 Tryz.prog 124 c124 r124 11:=Z4 Tryz.func124 rfl (by kernel_rfl) (by kernel_rfl) (by kernel_rfl) (by kernel_rfl)
def c160:SC:=(.seq (.reg [
 o1 4 (.mv (.c (.bool false)))])
 (.seq (.reg [
 m1 5 0,
 o1 6 (.ld (.t 1) 1 false),
 o1 7 (.bin .lss (.t 5) (.t 6)),
 m1 8 7,
 ⟨some 9,.mv (.t 0),some (8,false),[]⟩,
 ⟨some 10,.ld (.t 2) 1 false,some (8,false),[]⟩,
 ⟨some 11,.bin .gtr (.t 9) (.t 10),some (8,false),[]⟩,
 o1 12 (.pick (.t 8) (.c (.bool true)) (.t 11)),
 m1 4 12])
 .ret))
def r160:List RV:=[.tmp 4]
theorem t160:Qt1 Tryz.prog 160 c160 r160 13:=Z4 Tryz.func160 rfl (by kernel_rfl) (by kernel_rfl) (by kernel_rfl) (by kernel_rfl)
def c142:SC:=(.seq (.reg [
 o1 3 (.box (.t 0) 0 27),
 o1 4 (.mv (.c (.bool false)))])
 (.seq (.reg [
 o1 5 (.addo (.t 3) 0),
 o1 6 (.ld (.t 5) 1 false),
 o1 7 (.addo (.t 3) 1),
 o1 8 (.ld (.t 7) 1 false),
 o1 9 (.bin .gtr (.t 6) (.t 8)),
 m1 10 9,
 ⟨some 11,.ld (.t 1) 1 false,some (10,false),[]⟩,
 ⟨some 12,.ld (.t 2) 1 false,some (10,false),[]⟩,
 ⟨some 13,.addo (.t 3) 0,some (10,false),[]⟩,
 ⟨some 14,.ld (.t 13) 1 false,some (10,false),[]⟩,
 ⟨some 15,.addo (.t 3) 1,some (10,false),[]⟩,
 ⟨some 16,.ld (.t 15) 1 false,some (10,false),[]⟩,
 ⟨some 17,.bsl 1 3 [.t 14,.t 16],some (10,false),[]⟩,
 ⟨some 18,.call 125 [.t 11,.t 12,.t 17],some (10,false),[]⟩,
 ⟨some 19,.un .not (.t 18),some (10,false),[]⟩,
 o1 20 (.pick (.t 10) (.c (.bool true)) (.t 19)),
 m1 4 20])
 .ret))
def r142:List RV:=[.tmp 4]
theorem t142:Qt1 Tryz.prog 142 c142 r142 21:=Z4 Tryz.func142 rfl (by kernel_rfl) (by kernel_rfl) (by kernel_rfl) (by kernel_rfl)
def c84:SC:=(.seq (.reg [
 o1 2 (.box (.t 0) 0 169),
 o1 3 (.box (.t 1) 0 80),
 o1 4 (.alloc zv1 169),
 o1 5 (.mv (.c (.int .u8 0)))])
 (.seq (.reg [
 o1 16 (.addo (.t 2) 17),
 o1 17 (.addo (.t 16) 0),
 o1 18 (.addo (.t 2) 17),
 o1 19 (.addo (.t 18) 2),
 o1 20 (.build [.pointer none,.pointer none] [(0,1,.t 17),(1,1,.t 19)]),
 o1 6 (.alloc [.pointer none,.pointer none] 216),
 ⟨none,.st (.t 6) (.t 20) 2,none,[]⟩])
 (.seq (.regd [0,1,2,3,4,5,6,7,8,9,10,11,12,13,14,15] [
 .op (o1 21 (.addo (.t 2) 0)),
 .op ⟨some 22,.addo (.t 21) 0,none,[0]⟩,
 .op ⟨some 23,.ld (.t 22) 1 false,none,[1]⟩,
 .op (o1 24 (.addo (.t 2) 0)),
 .op ⟨some 25,.addo (.t 24) 1,none,[3]⟩,
 .op ⟨some 26,.ld (.t 25) 1 false,none,[4]⟩,
 .op ⟨some 27,.build [.int .i64 0,.int .i64 0] [(0,1,.t 23),(1,1,.t 26)],none,[2,5]⟩,
 .op (o1 28 (.addo (.t 3) 6)),
 .op ⟨some 29,.ld (.t 28) 2 true,none,[7]⟩,
 .op (o1 30 (.addo (.t 3) 4)),
 .op ⟨some 31,.ld (.t 30) 2 true,none,[9]⟩,
 .op ⟨some 32,.build [.int .i64 0,.int .i64 0,.int .i64 0,.int .i64 0] [(0,2,.t 29),(2,2,.t 31)],none,[8,10]⟩] 2 2 [
 o1 7 (.alloc [.int .i64 0,.int .i64 0] 164),
 o1 8 (.alloc [.int .i64 0,.int .i64 0,.int .i64 0,.int .i64 0] 217),
 ⟨none,.st (.t 7) (.t 27) 2,none,[0,1,2,3,4,5,6,12,13]⟩,
 ⟨none,.st (.t 8) (.t 32) 4,none,[0,1,2,3,4,5,6,7,8,9,10,11,12,13,14]⟩])
 (.seq (.reg [
 o1 9 (.mv (.c (.int .u8 0)))])
 (.seq (.seq (.reg [
 o1 33 (.addo (.t 2) 0),
 o1 34 (.ld (.t 33) 17 true),
 o1 35 (.addo (.t 2) 17),
 o1 36 (.addo (.t 35) 6),
 o1 37 (.ld (.t 36) 1 false),
 o1 38 (.ld (.t 3) 8 true),
 o1 39 (.call 126 [.t 34,.t 37,.t 38]),
 o1 40 (.mv (.c (.int .i64 0)))])
 (.block 0 (.loop (.seq (.reg [
  o1 41 (.bin .lss (.t 40) (.c (.int .i64 2)))])
  (.seq (.cond (.t 41)
  .skip
  (.exit 0))
  (.seq (.block 1 (.seq (.reg [
   m1 42 40,
   o1 43 (.idx (.t 39) (.t 40) 2 2 true),
   o1 11 (.alloc [.int .i64 0,.int .i64 0] 27),
   m1 10 42,
   ⟨none,.st (.t 11) (.t 43) 2,none,[]⟩])
   (.seq (.reg [
   m1 44 10,
   o1 45 (.ixa (.t 6) (.t 44) 2 1),
   o1 46 (.ld (.t 45) 1 false),
   m1 12 46])
   (.seq (.block 2 (.seq (.regd [0,1,2,3,4,5,6,7] [
    .op (m1 48 12),
    .op ⟨some 49,.nilc (.t 48),none,[0]⟩,
    .op ⟨some 50,.addo (.t 49) 1,none,[1]⟩,
    .op ⟨some 51,.ld (.t 50) 1 false,none,[2]⟩,
    .op (o1 52 (.addo (.t 11) 0)),
    .op ⟨some 53,.ld (.t 52) 1 false,none,[4]⟩,
    .op ⟨some 54,.bin .lss (.t 51) (.t 53),none,[3,5]⟩,
    .op ⟨some 47,.mv (.t 54),none,[6]⟩] 0 0 [
])
 (.cond (.t 47)
 (.seq (.reg [
  o1 55 (.build zv1 []),
  ⟨none,.st (.t 4) (.t 55) 24,none,[]⟩,
  o1 5 (.mv (.c (.int .u8 2)))])
  .ret)
 (.seq (.regd [0,1,2,3,4,5,6,7] [
  .op (m1 57 12),
  .op ⟨some 58,.nilc (.t 57),none,[0]⟩,
  .op ⟨some 59,.addo (.t 58) 0,none,[1]⟩,
  .op ⟨some 60,.ld (.t 59) 1 false,none,[2]⟩,
  .op (o1 61 (.addo (.t 11) 1)),
  .op ⟨some 62,.ld (.t 61) 1 false,none,[4]⟩,
  .op ⟨some 63,.bin .lss (.t 60) (.t 62),none,[3,5]⟩,
  .op ⟨some 56,.mv (.t 63),none,[6]⟩] 0 0 [
])
 (.cond (.t 56)
 (.reg [
  o1 9 (.mv (.c (.int .u8 1)))])
 .skip)))))
 (.seq (.regd [0,1,2,3,4,5,6,7,8,9,10,11,12,13,14,15,16,17,18,19,20,21,22] [
 .op (m1 64 12),
 .op ⟨some 65,.nilc (.t 64),none,[0]⟩,
 .op ⟨some 66,.addo (.t 65) 0,none,[1]⟩,
 .op ⟨some 67,.ld (.t 66) 1 false,none,[2]⟩,
 .op (o1 68 (.addo (.t 11) 1)),
 .op ⟨some 69,.ld (.t 68) 1 false,none,[4]⟩,
 .op ⟨some 70,.bin .sub (.t 67) (.t 69),none,[3,5]⟩,
 .op ⟨some 71,.mm true [.c (.int .i64 0),.t 70],none,[6]⟩,
 .op (m1 72 12),
 .op ⟨some 73,.nilc (.t 72),none,[8]⟩,
 .op ⟨some 74,.addo (.t 73) 1,none,[9]⟩,
 .op ⟨some 75,.ld (.t 74) 1 false,none,[10]⟩,
 .op (o1 76 (.addo (.t 11) 0)),
 .op ⟨some 77,.ld (.t 76) 1 false,none,[12]⟩,
 .op ⟨some 78,.bin .sub (.t 75) (.t 77),none,[11,13]⟩,
 .op ⟨some 79,.build [.int .i64 0,.int .i64 0] [(0,1,.t 71),(1,1,.t 78)],none,[7,14]⟩,
 .op (m1 80 10),
 .op ⟨some 81,.ixa (.t 8) (.t 80) 2 2,none,[16]⟩,
 .op ⟨some 82,.ld (.t 81) 2 true,none,[17]⟩,
 .op ⟨some 83,.bsl 2 27 [.t 79,.t 82],none,[15,18]⟩,
 .op ⟨some 84,.call 127 [.t 83],none,[19]⟩] 1 1 [
 o1 13 (.alloc [.int .i64 0,.int .i64 0] 27),
 ⟨none,.st (.t 13) (.t 84) 2,none,[0,1,2,3,4,5,6,7,8,9,10,11,12,13,14,15,16,17,18,19,20,21]⟩])
 (.regd [0,1,2,3,4,5,6,7,8,9,10,11,12,13,14,15] [
 .op (m1 85 12),
 .op (m1 86 10),
 .op ⟨some 87,.ixa (.t 7) (.t 86) 2 1,none,[1]⟩,
 .op ⟨some 88,.ld (.t 87) 1 false,none,[2]⟩,
 .op (o1 89 (.addo (.t 13) 0)),
 .op ⟨some 90,.ld (.t 89) 1 false,none,[4]⟩,
 .op ⟨some 91,.mm false [.t 88,.t 90],none,[3,5]⟩,
 .op (m1 92 10),
 .op ⟨some 93,.ixa (.t 7) (.t 92) 2 1,none,[7]⟩,
 .op ⟨some 94,.ld (.t 93) 1 false,none,[8]⟩,
 .op (o1 95 (.addo (.t 13) 1)),
 .op ⟨some 96,.ld (.t 95) 1 false,none,[10]⟩,
 .op ⟨some 97,.mm false [.t 94,.t 96],none,[9,11]⟩,
 .op ⟨some 98,.build [.int .i64 0,.int .i64 0] [(0,1,.t 91),(1,1,.t 97)],none,[6,12]⟩,
 .op ⟨some 99,.nilc (.t 85),none,[0,1,2,3,4,5,6,7,8,9,10,11,12,13]⟩] 0 1 [
 ⟨none,.st (.t 99) (.t 98) 2,none,[0,1,2,3,4,5,6,7,8,9,10,11,12,13,14]⟩]))))))
 (.reg [
 o1 100 (.bin .add (.t 40) (.c (.int .i64 1))),
 m1 40 100])))))))
 (.seq (.reg [
 o1 101 (.addo (.t 2) 17),
 o1 102 (.addo (.t 101) 4),
 m1 14 102])
 (.seq (.seq (.reg [
 o1 103 (.addo (.t 3) 0),
 o1 104 (.ld (.t 103) 1 false),
 o1 105 (.bin .eql (.t 104) (.c (.int .i64 0)))])
 (.cond (.t 105)
 (.seq (.regd [0,1,2,3,4,5,6,7,8,9,10,11,12,13,14,15,16,17,18,19,20,21] [
  .op (m1 106 14),
  .op (m1 107 14),
  .op ⟨some 108,.nilc (.t 107),none,[1]⟩,
  .op ⟨some 109,.addo (.t 108) 0,none,[2]⟩,
  .op ⟨some 110,.ld (.t 109) 1 false,none,[3]⟩,
  .op (o1 111 (.addo (.t 2) 0)),
  .op ⟨some 112,.addo (.t 111) 14,none,[5]⟩,
  .op ⟨some 113,.ld (.t 112) 1 false,none,[6]⟩,
  .op ⟨some 114,.bin .sub (.t 110) (.t 113),none,[4,7]⟩,
  .op ⟨some 115,.mm true [.c (.int .i64 0),.t 114],none,[8]⟩,
  .op (m1 116 14),
  .op ⟨some 117,.nilc (.t 116),none,[10]⟩,
  .op ⟨some 118,.addo (.t 117) 1,none,[11]⟩,
  .op ⟨some 119,.ld (.t 118) 1 false,none,[12]⟩,
  .op (o1 120 (.addo (.t 2) 0)),
  .op ⟨some 121,.addo (.t 120) 14,none,[14]⟩,
  .op ⟨some 122,.ld (.t 121) 1 false,none,[15]⟩,
  .op ⟨some 123,.bin .sub (.t 119) (.t 122),none,[13,16]⟩,
  .op ⟨some 124,.mm true [.c (.int .i64 0),.t 123],none,[17]⟩,
  .op ⟨some 125,.build [.int .i64 0,.int .i64 0] [(0,1,.t 115),(1,1,.t 124)],none,[9,18]⟩,
  .op ⟨some 126,.nilc (.t 106),none,[0,1,2,3,4,5,6,7,8,9,10,11,12,13,14,15,16,17,18,19]⟩] 0 1 [
  ⟨none,.st (.t 126) (.t 125) 2,none,[0,1,2,3,4,5,6,7,8,9,10,11,12,13,14,15,16,17,18,19,20]⟩])
  (.seq (.reg [
  o1 127 (.ld (.t 2) 24 true),
  m1 128 9,
  ⟨none,.st (.t 4) (.t 127) 24,none,[]⟩,
  m1 5 128])
  .ret))
 .skip))
 (.seq (.regd [0,1,2,3,4,5,6,7,8,9,10,11,12,13,14,15] [
 .op (m1 129 14),
 .op ⟨some 130,.nilc (.t 129),none,[0]⟩,
 .op ⟨some 131,.ld (.t 130) 2 true,none,[1]⟩,
 .op (o1 132 (.addo (.t 2) 0)),
 .op ⟨some 133,.addo (.t 132) 10,none,[3]⟩,
 .op ⟨some 134,.ld (.t 133) 2 true,none,[4]⟩,
 .op (o1 135 (.addo (.t 3) 0)),
 .op ⟨some 136,.ld (.t 135) 1 false,none,[6]⟩,
 .op (o1 137 (.addo (.t 3) 1)),
 .op ⟨some 138,.ld (.t 137) 1 false,none,[8]⟩,
 .op ⟨some 139,.bsl 1 3 [.t 136,.t 138],none,[7,9]⟩,
 .op ⟨some 140,.call 128 [.t 134,.c (.int .i64 1000000),.t 139],none,[5,10]⟩,
 .op ⟨some 141,.bsl 2 27 [.t 131,.t 140],none,[2,11]⟩,
 .op ⟨some 142,.call 127 [.t 141],none,[11,12]⟩] 1 1 [
 o1 15 (.alloc [.int .i64 0,.int .i64 0] 27),
 ⟨none,.st (.t 15) (.t 142) 2,none,[0,1,2,3,4,5,6,7,8,9,10,11,12,13,14]⟩])
 (.seq (.reg [
 m1 143 14,
 o1 144 (.addo (.t 15) 0),
 o1 145 (.ld (.t 144) 1 false),
 o1 146 (.mm false [.c (.int .i64 1000),.t 145]),
 o1 147 (.addo (.t 15) 1),
 o1 148 (.ld (.t 147) 1 false),
 o1 149 (.mm false [.c (.int .i64 1000),.t 148]),
 o1 150 (.build [.int .i64 0,.int .i64 0] [(0,1,.t 146),(1,1,.t 149)]),
 o1 151 (.nilc (.t 143)),
 ⟨none,.st (.t 151) (.t 150) 2,none,[]⟩])
 (.seq (.reg [
 o1 152 (.ld (.t 2) 24 true),
 m1 153 9,
 ⟨none,.st (.t 4) (.t 152) 24,none,[]⟩,
 m1 5 153])
 .ret))))))))))
def r84:List RV:=[.cell 4 24 true,.tmp 5]
theorem t84:Qt1 Tryz.prog 84 c84 r84 154:=Z4 Tryz.func84 rfl (by kernel_rfl) (by kernel_rfl) (by kernel_rfl) (by kernel_rfl)
def c40:SC:=(.seq (.reg [
 o1 3 (.box (.t 0) 0 29),
 o1 4 (.box (.t 1) 0 31),
 o1 5 (.box (.t 2) 0 80),
 o1 6 (.alloc zv3 31),
 o1 7 (.mv (.c (.int .u8 0))),
 o1 8 (.mv (.c (.int .i64 0)))])
 (.seq (.seq (.reg [
 o1 12 (.ld (.t 3) 17 true),
 o1 13 (.ld (.t 4) 7 true),
 o1 14 (.call 54 [.t 12,.t 13]),
 m1 9 14])
 (.seq (.reg [
 m1 15 9,
 o1 16 (.bin .neq (.t 15) (.c (.int .i64 0)))])
 (.cond (.t 16)
 (.seq (.reg [
  o1 17 (.ld (.t 6) 7 true),
  m1 18 9,
  ⟨none,.st (.t 6) (.t 17) 7,none,[]⟩,
  o1 7 (.mv (.c (.int .u8 0))),
  m1 8 18])
  .ret)
 .skip)))
 (.seq (.seq (.reg [
 o1 19 (.ld (.t 5) 8 true),
 o1 20 (.bsl 8 80 [.t 19]),
 o1 21 (.call 83 [.t 20]),
 m1 10 21])
 (.seq (.reg [
 m1 22 10,
 o1 23 (.bin .neq (.t 22) (.c (.int .i64 0)))])
 (.cond (.t 23)
 (.seq (.reg [
  o1 24 (.ld (.t 6) 7 true),
  m1 25 10,
  ⟨none,.st (.t 6) (.t 24) 7,none,[]⟩,
  o1 7 (.mv (.c (.int .u8 0))),
  m1 8 25])
  .ret)
 .skip)))
 (.seq (.reg [
 o1 27 (.ld (.t 3) 17 true),
 o1 28 (.ld (.t 4) 7 true),
 o1 29 (.build zv1 [(0,17,.t 27),(17,7,.t 28)]),
 o1 30 (.ld (.t 5) 8 true),
 o1 31 (.call 84 [.t 29,.t 30]),
 m1 26 31,
 o1 32 (.ext (.t 26) 0),
 o1 33 (.ext (.t 26) 1),
 o1 11 (.alloc zv1 169),
 ⟨none,.st (.t 11) (.t 32) 24,none,[]⟩,
 m1 7 33])
 (.seq (.seq (.reg [
 m1 34 7,
 o1 35 (.bin .eql (.t 34) (.c (.int .u8 2)))])
 (.cond (.t 35)
 (.seq (.reg [
  o1 36 (.ld (.t 6) 7 true),
  ⟨none,.st (.t 6) (.t 36) 7,none,[]⟩,
  o1 7 (.mv (.c (.int .u8 0))),
  o1 8 (.mv (.c (.int .i64 13)))])
  .ret)
 .skip))
 (.seq (.reg [
 o1 37 (.addo (.t 11) 17),
 o1 38 (.ld (.t 37) 7 true),
 m1 39 7,
 ⟨none,.st (.t 6) (.t 38) 7,none,[]⟩,
 m1 7 39,
 o1 8 (.mv (.c (.int .i64 0)))])
 .ret))))))
def r40:List RV:=[.cell 6 7 true,.tmp 7,.tmp 8]
theorem t40:Qt1 Tryz.prog 40 c40 r40 40:=Z4 Tryz.func40 rfl (by kernel_rfl) (by kernel_rfl) (by kernel_rfl) (by kernel_rfl)
def c46:SC:=(.seq (.reg [
 o1 1 (.box (.t 0) 0 25),
 o1 2 (.mv (.c (.bool false)))])
 (.seq (.seq (.reg [
 o1 4 (.addo (.t 1) 0),
 o1 5 (.ld (.t 4) 1 false),
 o1 6 (.len (.t 5)),
 o1 7 (.bin .gtr (.t 6) (.c (.int .i64 20))),
 m1 8 7,
 ⟨some 9,.addo (.t 1) 1,some (8,false),[]⟩,
 ⟨some 10,.ld (.t 9) 1 false,some (8,false),[]⟩,
 ⟨some 11,.len (.t 10),some (8,false),[]⟩,
 ⟨some 12,.bin .gtr (.t 11) (.c (.int .i64 40)),some (8,false),[]⟩,
 o1 13 (.pick (.t 8) (.c (.bool true)) (.t 12))])
 (.cond (.t 13)
 (.seq (.reg [
  o1 2 (.mv (.c (.bool true)))])
  .ret)
 .skip))
 (.seq (.seq (.reg [
 o1 3 (.mv (.c (.int .i64 0)))])
 (.block 0 (.loop (.seq (.seq (.reg [
  m1 14 3,
  o1 15 (.addo (.t 1) 1),
  o1 16 (.ld (.t 15) 1 false),
  o1 17 (.len (.t 16)),
  o1 18 (.bin .lss (.t 14) (.t 17))])
  (.cond (.t 18)
  .skip
  (.exit 0)))
  (.seq (.block 1 (.seq (.reg [
   o1 21 (.addo (.t 1) 1),
   o1 22 (.ld (.t 21) 1 false),
   m1 23 3,
   o1 24 (.ixs (.t 22) (.t 23) 5),
   o1 25 (.addo (.t 24) 4),
   o1 26 (.ld (.t 25) 1 false),
   o1 27 (.len (.t 26)),
   o1 28 (.bin .gtr (.t 27) (.c (.int .i64 20)))])
   (.cond (.t 28)
   (.seq (.reg [
    o1 2 (.mv (.c (.bool true)))])
    .ret)
   .skip)))
  (.reg [
  m1 19 3,
  o1 20 (.bin .add (.t 19) (.c (.int .i64 1))),
  m1 3 20]))))))
 (.seq (.reg [
 o1 2 (.mv (.c (.bool false)))])
 .ret))))
def r46:List RV:=[.tmp 2]
theorem t46:Qt1 Tryz.prog 46 c46 r46 29:=Z4 Tryz.func46 rfl (by kernel_rfl) (by kernel_rfl) (by kernel_rfl) (by kernel_rfl)
def c42:SC:=(.seq (.reg [
 o1 4 (.box (.t 0) 0 25),
 o1 8 (.alloc [.int .i64 0,.int .i64 0] 27),
 o1 9 (.mv (.c (.int .i64 0))),
 o1 10 (.mv (.c (.int .i64 0)))])
 (.seq (.seq (.reg [
 o1 20 (.ld (.t 4) 2 true),
 o1 21 (.call 85 [.t 20]),
 m1 11 21])
 (.block 0 (.seq (.reg [
  m1 23 11,
  o1 24 (.bin .neq (.t 23) (.c (.int .i64 0))),
  m1 22 24])
  (.cond (.t 22)
  (.seq (.reg [
   o1 25 (.ld (.t 8) 2 true),
   m1 26 11,
   ⟨none,.st (.t 8) (.t 25) 2,none,[]⟩,
   o1 9 (.mv (.c (.int .i64 0))),
   m1 10 26])
   .ret)
  (.seq (.reg [
   o1 28 (.addo (.t 4) 0),
   o1 29 (.ld (.t 28) 1 false),
   o1 30 (.len (.t 29)),
   o1 31 (.bin .sub (.t 30) (.c (.int .i64 1))),
   m1 32 1,
   o1 33 (.bsl 1 3 [.t 32]),
   o1 34 (.call 76 [.c (.int .i64 0),.t 31,.t 33]),
   o1 35 (.un .not (.t 34)),
   m1 36 35,
   ⟨some 37,.mv (.t 3),some (36,false),[]⟩,
   ⟨some 38,.bsl 1 3 [.t 37],some (36,false),[]⟩,
   ⟨some 39,.call 76 [.c (.int .i64 0),.c (.int .i64 100000),.t 38],some (36,false),[]⟩,
   ⟨some 40,.un .not (.t 39),some (36,false),[]⟩,
   o1 41 (.pick (.t 36) (.c (.bool true)) (.t 40)),
   m1 27 41])
   (.cond (.t 27)
   (.seq (.reg [
    o1 42 (.ld (.t 8) 2 true),
    ⟨none,.st (.t 8) (.t 42) 2,none,[]⟩,
    o1 9 (.mv (.c (.int .i64 0))),
    o1 10 (.mv (.c (.int .i64 2)))])
    .ret)
   (.seq (.reg [
    m1 44 2,
    o1 45 (.len (.t 44)),
    o1 46 (.bin .gtr (.t 45) (.c (.int .i64 200))),
    m1 43 46])
    (.cond (.t 43)
    (.seq (.reg [
     o1 47 (.ld (.t 8) 2 true),
     ⟨none,.st (.t 8) (.t 47) 2,none,[]⟩,
     o1 9 (.mv (.c (.int .i64 0))),
     o1 10 (.mv (.c (.int .i64 4)))])
     .ret)
    .skip))))))))
 (.seq (.reg [
 o1 12 (.mv (.c (.int .i64 0)))])
 (.seq (.seq (.reg [
 m1 48 2,
 o1 49 (.len (.t 48)),
 o1 50 (.mv (.c (.int .i64 0)))])
 (.block 1 (.loop (.seq (.reg [
  o1 51 (.bin .lss (.t 50) (.t 49))])
  (.seq (.cond (.t 51)
  .skip
  (.exit 1))
  (.seq (.block 2 (.seq (.reg [
   o1 52 (.ixs (.t 48) (.t 50) 3),
   o1 53 (.ld (.t 52) 3 true),
   o1 14 (.alloc [.int .i64 0,.int .i64 0,.int .i64 0] 111),
   ⟨none,.st (.t 14) (.t 53) 3,none,[]⟩])
   (.seq (.seq (.reg [
   o1 54 (.addo (.t 4) 0),
   o1 55 (.ld (.t 54) 1 false),
   o1 56 (.len (.t 55)),
   o1 57 (.bin .sub (.t 56) (.c (.int .i64 1))),
   o1 58 (.addo (.t 14) 0),
   o1 59 (.ld (.t 58) 1 false),
   o1 60 (.bsl 1 3 [.t 59]),
   o1 61 (.call 76 [.c (.int .i64 0),.t 57,.t 60]),
   o1 62 (.un .not (.t 61)),
   m1 63 62,
   ⟨some 64,.mv (.t 12),some (63,false),[]⟩,
   ⟨some 65,.addo (.t 14) 1,some (63,false),[]⟩,
   ⟨some 66,.ld (.t 65) 1 false,some (63,false),[]⟩,
   ⟨some 67,.bsl 1 3 [.t 66],some (63,false),[]⟩,
   ⟨some 68,.call 76 [.t 64,.c (.int .i64 100000),.t 67],some (63,false),[]⟩,
   ⟨some 69,.un .not (.t 68),some (63,false),[]⟩,
   o1 70 (.pick (.t 63) (.c (.bool true)) (.t 69)),
   m1 71 70,
   ⟨some 72,.addo (.t 14) 2,some (71,false),[]⟩,
   ⟨some 73,.ld (.t 72) 1 false,some (71,false),[]⟩,
   ⟨some 74,.bsl 1 3 [.t 73],some (71,false),[]⟩,
   ⟨some 75,.call 76 [.c (.int .i64 0),.c (.int .i64 1000000000),.t 74],some (71,false),[]⟩,
   ⟨some 76,.un .not (.t 75),some (71,false),[]⟩,
   o1 77 (.pick (.t 71) (.c (.bool true)) (.t 76))])
   (.cond (.t 77)
   (.seq (.reg [
    o1 78 (.ld (.t 8) 2 true),
    ⟨none,.st (.t 8) (.t 78) 2,none,[]⟩,
    o1 9 (.mv (.c (.int .i64 0))),
    o1 10 (.mv (.c (.int .i64 32)))])
    .ret)
   .skip))
   (.reg [
   o1 79 (.addo (.t 14) 1),
   o1 80 (.ld (.t 79) 1 false),
   m1 12 80]))))
  (.reg [
  o1 81 (.bin .add (.t 50) (.c (.int .i64 1))),
  m1 50 81])))))))
 (.seq (.reg [
 o1 82 (.addo (.t 4) 0),
 o1 83 (.ld (.t 82) 1 false),
 m1 84 1,
 o1 85 (.ixs (.t 83) (.t 84) 9),
 o1 86 (.ld (.t 85) 9 true),
 o1 15 (.alloc zv5 88),
 ⟨none,.st (.t 15) (.t 86) 9,none,[]⟩])
 (.seq (.reg [
 o1 87 (.addo (.t 15) 6),
 o1 88 (.ld (.t 87) 2 true),
 o1 16 (.alloc [.int .i64 0,.int .i64 0] 27),
 ⟨none,.st (.t 16) (.t 88) 2,none,[]⟩,
 o1 17 (.mv (.c (.int .i64 (-1))))])
 (.seq (.seq (.reg [
 m1 89 2,
 o1 90 (.len (.t 89)),
 o1 91 (.mv (.c (.int .i64 0)))])
 (.block 3 (.loop (.seq (.reg [
  o1 92 (.bin .lss (.t 91) (.t 90))])
  (.seq (.cond (.t 92)
  .skip
  (.exit 3))
  (.seq (.block 4 (.seq (.reg [
   m1 93 91,
   o1 94 (.ixs (.t 89) (.t 91) 3),
   o1 95 (.ld (.t 94) 3 true),
   o1 19 (.alloc [.int .i64 0,.int .i64 0,.int .i64 0] 111),
   m1 18 93,
   ⟨none,.st (.t 19) (.t 95) 3,none,[]⟩])
   (.seq (.seq (.reg [
   o1 96 (.addo (.t 19) 0),
   o1 97 (.ld (.t 96) 1 false),
   m1 98 1,
   o1 99 (.bin .neq (.t 97) (.t 98)),
   m1 100 99,
   ⟨some 101,.addo (.t 19) 1,some (100,false),[]⟩,
   ⟨some 102,.ld (.t 101) 1 false,some (100,false),[]⟩,
   ⟨some 103,.mv (.t 3),some (100,false),[]⟩,
   ⟨some 104,.bin .geq (.t 102) (.t 103),some (100,false),[]⟩,
   o1 105 (.pick (.t 100) (.c (.bool true)) (.t 104))])
   (.cond (.t 105)
   (.exit 4)
   .skip))
   (.seq (.reg [
   o1 106 (.ld (.t 15) 9 true),
   o1 107 (.ld (.t 16) 2 true),
   o1 108 (.addo (.t 19) 1),
   o1 109 (.ld (.t 108) 1 false),
   m1 110 17,
   o1 111 (.bin .sub (.t 109) (.t 110)),
   o1 112 (.call 86 [.t 106,.t 107,.t 111]),
   ⟨none,.st (.t 16) (.t 112) 2,none,[]⟩])
   (.seq (.reg [
   o1 113 (.addo (.t 19) 1),
   o1 114 (.ld (.t 113) 1 false),
   m1 17 114])
   (.seq (.seq (.reg [
   o1 115 (.addo (.t 16) 1),
   o1 116 (.ld (.t 115) 1 false),
   o1 117 (.addo (.t 19) 2),
   o1 118 (.ld (.t 117) 1 false),
   o1 119 (.bin .lss (.t 116) (.t 118))])
   (.cond (.t 119)
   (.seq (.reg [
    o1 120 (.ld (.t 8) 2 true),
    m1 121 18,
    ⟨none,.st (.t 8) (.t 120) 2,none,[]⟩,
    m1 9 121,
    o1 10 (.mv (.c (.int .i64 33)))])
    .ret)
   .skip))
   (.reg [
   o1 122 (.addo (.t 16) 0),
   o1 123 (.ld (.t 122) 1 false),
   o1 124 (.addo (.t 19) 2),
   o1 125 (.ld (.t 124) 1 false),
   o1 126 (.bin .sub (.t 123) (.t 125)),
   o1 127 (.mm true [.c (.int .i64 0),.t 126]),
   o1 128 (.addo (.t 16) 1),
   o1 129 (.ld (.t 128) 1 false),
   o1 130 (.addo (.t 19) 2),
   o1 131 (.ld (.t 130) 1 false),
   o1 132 (.bin .sub (.t 129) (.t 131)),
   o1 133 (.build [.int .i64 0,.int .i64 0] [(0,1,.t 127),(1,1,.t 132)]),
   ⟨none,.st (.t 16) (.t 133) 2,none,[]⟩])))))))
  (.reg [
  o1 134 (.bin .add (.t 91) (.c (.int .i64 1))),
  m1 91 134])))))))
 (.seq (.reg [
 o1 135 (.ld (.t 15) 9 true),
 o1 136 (.ld (.t 16) 2 true),
 m1 137 3,
 o1 138 (.bin .sub (.t 137) (.c (.int .i64 1))),
 m1 139 17,
 o1 140 (.bin .sub (.t 138) (.t 139)),
 o1 141 (.call 86 [.t 135,.t 136,.t 140]),
 ⟨none,.st (.t 8) (.t 141) 2,none,[]⟩,
 o1 9 (.mv (.c (.int .i64 0))),
 o1 10 (.mv (.c (.int .i64 0)))])
 .ret))))))))
def r42:List RV:=[.cell 8 2 true,.tmp 9,.tmp 10]
theorem t42:Qt1 Tryz.prog 42 c42 r42 142:=Z4 Tryz.func42 rfl (by kernel_rfl) (by kernel_rfl) (by kernel_rfl) (by kernel_rfl)
def c85:SC:=(.seq (.reg [
 o1 1 (.box (.t 0) 0 25),
 o1 2 (.mv (.c (.int .i64 0)))])
 (.seq (.reg [
 o1 5 (.addo (.t 1) 0),
 o1 6 (.ld (.t 5) 1 false),
 o1 7 (.call 129 [.t 6,.f 130]),
 o1 8 (.un .not (.t 7)),
 m1 3 8])
 (.seq (.reg [
 o1 9 (.addo (.t 1) 1),
 o1 10 (.ld (.t 9) 1 false),
 o1 11 (.mkf 133 [.t 1]),
 o1 12 (.call 132 [.t 10,.t 11]),
 o1 13 (.un .not (.t 12)),
 m1 4 13])
 (.seq (.seq (.reg [
 o1 14 (.addo (.t 1) 0),
 o1 15 (.ld (.t 14) 1 false),
 o1 16 (.len (.t 15)),
 o1 17 (.bsl 1 3 [.t 16]),
 o1 18 (.call 76 [.c (.int .i64 1),.c (.int .i64 12),.t 17]),
 o1 19 (.un .not (.t 18)),
 m1 20 19,
 ⟨some 21,.addo (.t 1) 1,some (20,false),[]⟩,
 ⟨some 22,.ld (.t 21) 1 false,some (20,false),[]⟩,
 ⟨some 23,.len (.t 22),some (20,false),[]⟩,
 ⟨some 24,.bin .gtr (.t 23) (.c (.int .i64 24)),some (20,false),[]⟩,
 o1 25 (.pick (.t 20) (.c (.bool true)) (.t 24)),
 m1 26 25,
 ⟨some 27,.mv (.t 3),some (26,false),[]⟩,
 ⟨some 28,.un .not (.t 27),some (26,false),[]⟩,
 o1 29 (.pick (.t 26) (.c (.bool true)) (.t 28)),
 m1 30 29,
 ⟨some 31,.mv (.t 4),some (30,false),[]⟩,
 ⟨some 32,.un .not (.t 31),some (30,false),[]⟩,
 o1 33 (.pick (.t 30) (.c (.bool true)) (.t 32))])
 (.cond (.t 33)
 (.seq (.reg [
  o1 2 (.mv (.c (.int .i64 30)))])
  .ret)
 .skip))
 (.seq (.reg [
 o1 2 (.mv (.c (.int .i64 0)))])
 .ret)))))
def r85:List RV:=[.tmp 2]
theorem t85:Qt1 Tryz.prog 85 c85 r85 34:=Z4 Tryz.func85 rfl (by kernel_rfl) (by kernel_rfl) (by kernel_rfl) (by kernel_rfl)
def c76:SC:=(.seq (.reg [
 o1 3 (.box (.t 0) 0 3),
 o1 4 (.box (.t 1) 0 3),
 o1 6 (.mv (.c (.bool false)))])
 (.seq (.reg [
 m1 7 2,
 o1 8 (.mkf 121 [.t 3,.t 4]),
 o1 9 (.call 98 [.t 7,.t 8]),
 o1 10 (.un .not (.t 9)),
 m1 6 10])
 .ret))
def r76:List RV:=[.tmp 6]
theorem t76:Qt1 Tryz.prog 76 c76 r76 11:=Z4 Tryz.func76 rfl (by kernel_rfl) (by kernel_rfl) (by kernel_rfl) (by kernel_rfl)
def c86:SC:=(.seq (.reg [
 o1 3 (.box (.t 0) 0 88),
 o1 4 (.box (.t 1) 0 27),
 o1 6 (.alloc [.int .i64 0,.int .i64 0] 27)])
 (.seq (.reg [
 o1 7 (.addo (.t 3) 5),
 o1 8 (.ld (.t 7) 1 false),
 o1 9 (.addo (.t 4) 0),
 o1 10 (.ld (.t 9) 1 false),
 m1 11 2,
 o1 12 (.addo (.t 3) 3),
 o1 13 (.addo (.t 12) 0),
 o1 14 (.ld (.t 13) 1 false),
 o1 15 (.bin .mul (.t 11) (.t 14)),
 o1 16 (.bin .add (.t 10) (.t 15)),
 o1 17 (.mm false [.t 8,.t 16]),
 o1 18 (.addo (.t 3) 5),
 o1 19 (.ld (.t 18) 1 false),
 o1 20 (.addo (.t 4) 1),
 o1 21 (.ld (.t 20) 1 false),
 m1 22 2,
 o1 23 (.addo (.t 3) 3),
 o1 24 (.addo (.t 23) 1),
 o1 25 (.ld (.t 24) 1 false),
 o1 26 (.bin .mul (.t 22) (.t 25)),
 o1 27 (.bin .add (.t 21) (.t 26)),
 o1 28 (.mm false [.t 19,.t 27]),
 o1 29 (.build [.int .i64 0,.int .i64 0] [(0,1,.t 17),(1,1,.t 28)]),
 ⟨none,.st (.t 6) (.t 29) 2,none,[]⟩])
 .ret))
def r86:List RV:=[.cell 6 2 true]
theorem t86:Qt1 Tryz.prog 86 c86 r86 30:=Z4 Tryz.func86 rfl (by kernel_rfl) (by kernel_rfl) (by kernel_rfl) (by kernel_rfl)
def c136:SC:=(.seq (.reg [
 o1 1 (.box (.t 0) 0 25),
 o1 2 (.mv (.c (.bool false)))])
 (.seq (.seq (.reg [
 o1 10 (.addo (.t 1) 0),
 o1 11 (.ld (.t 10) 1 false),
 o1 12 (.len (.t 11)),
 o1 13 (.call 88 [.t 12,.c (.int .i64 1),.c (.int .i64 12)]),
 o1 14 (.un .not (.t 13)),
 m1 15 14,
 ⟨some 16,.addo (.t 1) 1,some (15,false),[]⟩,
 ⟨some 17,.ld (.t 16) 1 false,some (15,false),[]⟩,
 ⟨some 18,.len (.t 17),some (15,false),[]⟩,
 ⟨some 19,.bin .gtr (.t 18) (.c (.int .i64 24)),some (15,false),[]⟩,
 o1 20 (.pick (.t 15) (.c (.bool true)) (.t 19))])
 (.cond (.t 20)
 (.seq (.reg [
  o1 2 (.mv (.c (.bool false)))])
  .ret)
 .skip))
 (.seq (.seq (.reg [
 o1 3 (.mv (.c (.int .i64 0)))])
 (.block 0 (.loop (.seq (.seq (.reg [
  m1 21 3,
  o1 22 (.addo (.t 1) 0),
  o1 23 (.ld (.t 22) 1 false),
  o1 24 (.len (.t 23)),
  o1 25 (.bin .lss (.t 21) (.t 24))])
  (.cond (.t 25)
  .skip
  (.exit 0)))
  (.seq (.block 1 (.seq (.reg [
   o1 28 (.addo (.t 1) 0),
   o1 29 (.ld (.t 28) 1 false),
   m1 30 3,
   o1 31 (.ixs (.t 29) (.t 30) 9),
   o1 32 (.ld (.t 31) 9 true),
   o1 4 (.alloc zv5 88),
   ⟨none,.st (.t 4) (.t 32) 9,none,[]⟩])
   (.seq (.reg [
   o1 33 (.addo (.t 4) 0),
   o1 34 (.ld (.t 33) 1 false),
   o1 35 (.call 88 [.t 34,.c (.int .i64 (-10000000)),.c (.int .i64 10000000)]),
   o1 36 (.un .not (.t 35)),
   m1 37 36,
   ⟨some 38,.addo (.t 4) 1,some (37,false),[]⟩,
   ⟨some 39,.ld (.t 38) 1 false,some (37,false),[]⟩,
   ⟨some 40,.call 88 [.t 39,.c (.int .i64 (-10000000)),.c (.int .i64 10000000)],some (37,false),[]⟩,
   ⟨some 41,.un .not (.t 40),some (37,false),[]⟩,
   o1 42 (.pick (.t 37) (.c (.bool true)) (.t 41)),
   m1 43 42,
   ⟨some 44,.addo (.t 4) 2,some (43,false),[]⟩,
   ⟨some 45,.ld (.t 44) 1 false,some (43,false),[]⟩,
   ⟨some 46,.call 88 [.t 45,.c (.int .i64 0),.c (.int .i64 200)],some (43,false),[]⟩,
   ⟨some 47,.un .not (.t 46),some (43,false),[]⟩,
   o1 48 (.pick (.t 43) (.c (.bool true)) (.t 47)),
   m1 49 48,
   ⟨some 50,.addo (.t 4) 3,some (49,false),[]⟩,
   ⟨some 51,.ld (.t 50) 2 true,some (49,false),[]⟩,
   ⟨some 52,.call 137 [.t 51,.c (.int .i64 0),.c (.int .i64 10000000)],some (49,false),[]⟩,
   ⟨some 53,.un .not (.t 52),some (49,false),[]⟩,
   o1 54 (.pick (.t 49) (.c (.bool true)) (.t 53)),
   m1 55 54,
   ⟨some 56,.addo (.t 4) 5,some (55,false),[]⟩,
   ⟨some 57,.ld (.t 56) 1 false,some (55,false),[]⟩,
   ⟨some 58,.call 88 [.t 57,.c (.int .i64 0),.c (.int .i64 1000000000)],some (55,false),[]⟩,
   ⟨some 59,.un .not (.t 58),some (55,false),[]⟩,
   o1 60 (.pick (.t 55) (.c (.bool true)) (.t 59)),
   m1 61 60,
   ⟨some 62,.addo (.t 4) 6,some (61,false),[]⟩,
   ⟨some 63,.ld (.t 62) 2 true,some (61,false),[]⟩,
   ⟨some 64,.addo (.t 4) 5,some (61,false),[]⟩,
   ⟨some 65,.ld (.t 64) 1 false,some (61,false),[]⟩,
   ⟨some 66,.call 137 [.t 63,.c (.int .i64 0),.t 65],some (61,false),[]⟩,
   ⟨some 67,.un .not (.t 66),some (61,false),[]⟩,
   o1 68 (.pick (.t 61) (.c (.bool true)) (.t 67)),
   m1 69 68,
   ⟨some 70,.addo (.t 4) 8,some (69,false),[]⟩,
   ⟨some 71,.ld (.t 70) 1 false,some (69,false),[]⟩,
   ⟨some 72,.call 88 [.t 71,.c (.int .i64 0),.c (.int .i64 9999)],some (69,false),[]⟩,
   ⟨some 73,.un .not (.t 72),some (69,false),[]⟩,
   o1 74 (.pick (.t 69) (.c (.bool true)) (.t 73))])
   (.cond (.t 74)
   (.seq (.reg [
    o1 2 (.mv (.c (.bool false)))])
    .ret)
   .skip))))
  (.reg [
  m1 26 3,
  o1 27 (.bin .add (.t 26) (.c (.int .i64 1))),
  m1 3 27]))))))
 (.seq (.seq (.reg [
 o1 5 (.mv (.c (.int .i64 0)))])
 (.block 2 (.loop (.seq (.seq (.reg [
  m1 75 5,
  o1 76 (.addo (.t 1) 1),
  o1 77 (.ld (.t 76) 1 false),
  o1 78 (.len (.t 77)),
  o1 79 (.bin .lss (.t 75) (.t 78))])
  (.cond (.t 79)
  .skip
  (.exit 2)))
  (.seq (.block 3 (.seq (.reg [
   o1 82 (.addo (.t 1) 1),
   o1 83 (.ld (.t 82) 1 false),
   m1 84 5,
   o1 85 (.ixs (.t 83) (.t 84) 5),
   o1 86 (.ld (.t 85) 5 true),
   o1 6 (.alloc zv8 83),
   ⟨none,.st (.t 6) (.t 86) 5,none,[]⟩])
   (.seq (.seq (.reg [
   o1 87 (.addo (.t 6) 0),
   o1 88 (.ld (.t 87) 1 false),
   o1 89 (.addo (.t 1) 0),
   o1 90 (.ld (.t 89) 1 false),
   o1 91 (.len (.t 90)),
   o1 92 (.bin .sub (.t 91) (.c (.int .i64 1))),
   o1 93 (.call 88 [.t 88,.c (.int .i64 0),.t 92]),
   o1 94 (.un .not (.t 93)),
   m1 95 94,
   ⟨some 96,.addo (.t 6) 1,some (95,false),[]⟩,
   ⟨some 97,.ld (.t 96) 1 false,some (95,false),[]⟩,
   ⟨some 98,.addo (.t 1) 0,some (95,false),[]⟩,
   ⟨some 99,.ld (.t 98) 1 false,some (95,false),[]⟩,
   ⟨some 100,.len (.t 99),some (95,false),[]⟩,
   ⟨some 101,.bin .sub (.t 100) (.c (.int .i64 1)),some (95,false),[]⟩,
   ⟨some 102,.call 88 [.t 97,.c (.int .i64 0),.t 101],some (95,false),[]⟩,
   ⟨some 103,.un .not (.t 102),some (95,false),[]⟩,
   o1 104 (.pick (.t 95) (.c (.bool true)) (.t 103)),
   m1 105 104,
   ⟨some 106,.addo (.t 6) 0,some (105,false),[]⟩,
   ⟨some 107,.ld (.t 106) 1 false,some (105,false),[]⟩,
   ⟨some 108,.addo (.t 6) 1,some (105,false),[]⟩,
   ⟨some 109,.ld (.t 108) 1 false,some (105,false),[]⟩,
   ⟨some 110,.bin .eql (.t 107) (.t 109),some (105,false),[]⟩,
   o1 111 (.pick (.t 105) (.c (.bool true)) (.t 110)),
   m1 112 111,
   ⟨some 113,.addo (.t 6) 2,some (112,false),[]⟩,
   ⟨some 114,.ld (.t 113) 2 true,some (112,false),[]⟩,
   ⟨some 115,.call 137 [.t 114,.c (.int .i64 1),.c (.int .i64 1000000)],some (112,false),[]⟩,
   ⟨some 116,.un .not (.t 115),some (112,false),[]⟩,
   o1 117 (.pick (.t 112) (.c (.bool true)) (.t 116)),
   m1 118 117,
   ⟨some 119,.addo (.t 6) 4,some (118,false),[]⟩,
   ⟨some 120,.ld (.t 119) 1 false,some (118,false),[]⟩,
   ⟨some 121,.len (.t 120),some (118,false),[]⟩,
   ⟨some 122,.bin .gtr (.t 121) (.c (.int .i64 6)),some (118,false),[]⟩,
   o1 123 (.pick (.t 118) (.c (.bool true)) (.t 122))])
   (.cond (.t 123)
   (.seq (.reg [
    o1 2 (.mv (.c (.bool false)))])
    .ret)
   .skip))
   (.seq (.reg [
   o1 7 (.mv (.c (.int .i64 (-1))))])
   (.seq (.reg [
   o1 8 (.mv (.c (.int .i64 0)))])
   (.block 4 (.loop (.seq (.seq (.reg [
    m1 124 8,
    o1 125 (.addo (.t 6) 4),
    o1 126 (.ld (.t 125) 1 false),
    o1 127 (.len (.t 126)),
    o1 128 (.bin .lss (.t 124) (.t 127))])
    (.cond (.t 128)
    .skip
    (.exit 4)))
    (.seq (.block 5 (.seq (.reg [
     o1 131 (.addo (.t 6) 4),
     o1 132 (.ld (.t 131) 1 false),
     m1 133 8,
     o1 134 (.ixs (.t 132) (.t 133) 4),
     o1 135 (.ld (.t 134) 4 true),
     o1 9 (.alloc [.int .i64 0,.int .i64 0,.int .i64 0,.int .i64 0] 85),
     ⟨none,.st (.t 9) (.t 135) 4,none,[]⟩])
     (.seq (.seq (.reg [
     o1 136 (.addo (.t 9) 0),
     o1 137 (.ld (.t 136) 2 true),
     o1 138 (.call 137 [.t 137,.c (.int .i64 0),.c (.int .i64 100000)]),
     o1 139 (.un .not (.t 138)),
     m1 140 139,
     ⟨some 141,.addo (.t 9) 2,some (140,false),[]⟩,
     ⟨some 142,.ld (.t 141) 2 true,some (140,false),[]⟩,
     ⟨some 143,.call 137 [.t 142,.c (.int .i64 0),.c (.int .i64 100000)],some (140,false),[]⟩,
     ⟨some 144,.un .not (.t 143),some (140,false),[]⟩,
     o1 145 (.pick (.t 140) (.c (.bool true)) (.t 144)),
     m1 146 145,
     ⟨some 147,.addo (.t 9) 0,some (146,false),[]⟩,
     ⟨some 148,.addo (.t 147) 0,some (146,false),[]⟩,
     ⟨some 149,.ld (.t 148) 1 false,some (146,false),[]⟩,
     ⟨some 150,.addo (.t 9) 2,some (146,false),[]⟩,
     ⟨some 151,.addo (.t 150) 1,some (146,false),[]⟩,
     ⟨some 152,.ld (.t 151) 1 false,some (146,false),[]⟩,
     ⟨some 153,.bin .gtr (.t 149) (.t 152),some (146,false),[]⟩,
     o1 154 (.pick (.t 146) (.c (.bool true)) (.t 153)),
     m1 155 154,
     ⟨some 156,.addo (.t 9) 0,some (155,false),[]⟩,
     ⟨some 157,.addo (.t 156) 0,some (155,false),[]⟩,
     ⟨some 158,.ld (.t 157) 1 false,some (155,false),[]⟩,
     ⟨some 159,.mv (.t 7),some (155,false),[]⟩,
     ⟨some 160,.bin .leq (.t 158) (.t 159),some (155,false),[]⟩,
     o1 161 (.pick (.t 155) (.c (.bool true)) (.t 160))])
     (.cond (.t 161)
     (.seq (.reg [
      o1 2 (.mv (.c (.bool false)))])
      .ret)
     .skip))
     (.reg [
     o1 162 (.addo (.t 9) 2),
     o1 163 (.addo (.t 162) 1),
     o1 164 (.ld (.t 163) 1 false),
     m1 7 164]))))
    (.reg [
    m1 129 8,
    o1 130 (.bin .add (.t 129) (.c (.int .i64 1))),
    m1 8 130]))))))))))
  (.reg [
  m1 80 5,
  o1 81 (.bin .add (.t 80) (.c (.int .i64 1))),
  m1 5 81]))))))
 (.seq (.reg [
 o1 2 (.mv (.c (.bool true)))])
 .ret)))))
def r136:List RV:=[.tmp 2]
theorem t136:Qt1 Tryz.prog 136 c136 r136 165:=Z4 Tryz.func136 rfl (by kernel_rfl) (by kernel_rfl) (by kernel_rfl) (by kernel_rfl)
def c88:SC:=(.seq (.reg [
 o1 6 (.mv (.c (.bool false)))])
 (.seq (.reg [
 m1 7 0,
 m1 8 1,
 o1 9 (.bin .geq (.t 7) (.t 8)),
 m1 10 9,
 ⟨some 11,.mv (.t 0),some (10,true),[]⟩,
 ⟨some 12,.mv (.t 2),some (10,true),[]⟩,
 ⟨some 13,.bin .leq (.t 11) (.t 12),some (10,true),[]⟩,
 o1 14 (.pick (.t 10) (.t 13) (.c (.bool false))),
 m1 6 14])
 .ret))
def r88:List RV:=[.tmp 6]
theorem t88:Qt1 Tryz.prog 88 c88 r88 15:=Z4 Tryz.func88 rfl (by kernel_rfl) (by kernel_rfl) (by kernel_rfl) (by kernel_rfl)
def c129:SC:=(.seq (.reg [
 o1 4 (.mv (.c (.bool false)))])
 (.seq (.reg [
 m1 5 0,
 m1 6 1,
 o1 7 (.call 161 [.t 5,.t 6]),
 o1 8 (.bin .geq (.t 7) (.c (.int .i64 0))),
 m1 4 8])
 .ret))
def r129:List RV:=[.tmp 4]
theorem t129:Qt1 Tryz.prog 129 c129 r129 9:=Z4 Tryz.func129 rfl (by kernel_rfl) (by kernel_rfl) (by kernel_rfl) (by kernel_rfl)
def c130:SC:=(.seq (.reg [
 o1 1 (.box (.t 0) 0 88),
 o1 2 (.mv (.c (.bool false)))])
 (.seq (.reg [
 o1 3 (.ld (.t 1) 9 true),
 o1 4 (.call 131 [.t 3]),
 o1 5 (.un .not (.t 4)),
 m1 2 5])
 .ret))
def r130:List RV:=[.tmp 2]
theorem t130:Qt1 Tryz.prog 130 c130 r130 6:=Z4 Tryz.func130 rfl (by kernel_rfl) (by kernel_rfl) (by kernel_rfl) (by kernel_rfl)
def c131:SC:=(.seq (.reg [
 o1 1 (.box (.t 0) 0 88),
 o1 2 (.mv (.c (.bool false)))])
 (.seq (.reg [
 o1 3 (.addo (.t 1) 0),
 o1 4 (.ld (.t 3) 1 false),
 o1 5 (.addo (.t 1) 1),
 o1 6 (.ld (.t 5) 1 false),
 o1 7 (.bsl 1 3 [.t 4,.t 6]),
 o1 8 (.call 76 [.c (.int .i64 (-10000000)),.c (.int .i64 10000000),.t 7]),
 m1 9 8,
 ⟨some 10,.addo (.t 1) 2,some (9,true),[]⟩,
 ⟨some 11,.ld (.t 10) 1 false,some (9,true),[]⟩,
 ⟨some 12,.bsl 1 3 [.t 11],some (9,true),[]⟩,
 ⟨some 13,.call 76 [.c (.int .i64 0),.c (.int .i64 200),.t 12],some (9,true),[]⟩,
 o1 14 (.pick (.t 9) (.t 13) (.c (.bool false))),
 m1 15 14,
 ⟨some 16,.addo (.t 1) 3,some (15,true),[]⟩,
 ⟨some 17,.ld (.t 16) 2 true,some (15,true),[]⟩,
 ⟨some 18,.bsl 2 27 [.t 17],some (15,true),[]⟩,
 ⟨some 19,.call 120 [.c (.int .i64 0),.c (.int .i64 10000000),.t 18],some (15,true),[]⟩,
 o1 20 (.pick (.t 15) (.t 19) (.c (.bool false))),
 m1 21 20,
 ⟨some 22,.addo (.t 1) 5,some (21,true),[]⟩,
 ⟨some 23,.ld (.t 22) 1 false,some (21,true),[]⟩,
 ⟨some 24,.bsl 1 3 [.t 23],some (21,true),[]⟩,
 ⟨some 25,.call 76 [.c (.int .i64 0),.c (.int .i64 1000000000),.t 24],some (21,true),[]⟩,
 o1 26 (.pick (.t 21) (.t 25) (.c (.bool false))),
 m1 27 26,
 ⟨some 28,.addo (.t 1) 5,some (27,true),[]⟩,
 ⟨some 29,.ld (.t 28) 1 false,some (27,true),[]⟩,
 ⟨some 30,.addo (.t 1) 6,some (27,true),[]⟩,
 ⟨some 31,.ld (.t 30) 2 true,some (27,true),[]⟩,
 ⟨some 32,.bsl 2 27 [.t 31],some (27,true),[]⟩,
 ⟨some 33,.call 120 [.c (.int .i64 0),.t 29,.t 32],some (27,true),[]⟩,
 o1 34 (.pick (.t 27) (.t 33) (.c (.bool false))),
 m1 35 34,
 ⟨some 36,.addo (.t 1) 8,some (35,true),[]⟩,
 ⟨some 37,.ld (.t 36) 1 false,some (35,true),[]⟩,
 ⟨some 38,.bsl 1 3 [.t 37],some (35,true),[]⟩,
 ⟨some 39,.call 76 [.c (.int .i64 0),.c (.int .i64 9999),.t 38],some (35,true),[]⟩,
 o1 40 (.pick (.t 35) (.t 39) (.c (.bool false))),
 m1 2 40])
 .ret))
def r131:List RV:=[.tmp 2]
theorem t131:Qt1 Tryz.prog 131 c131 r131 41:=Z4 Tryz.func131 rfl (by kernel_rfl) (by kernel_rfl) (by kernel_rfl) (by kernel_rfl)
def c132:SC:=(.seq (.reg [
 o1 4 (.mv (.c (.bool false)))])
 (.seq (.reg [
 m1 5 0,
 m1 6 1,
 o1 7 (.call 162 [.t 5,.t 6]),
 o1 8 (.bin .geq (.t 7) (.c (.int .i64 0))),
 m1 4 8])
 .ret))
def r132:List RV:=[.tmp 4]
theorem t132:Qt1 Tryz.prog 132 c132 r132 9:=Z4 Tryz.func132 rfl (by kernel_rfl) (by kernel_rfl) (by kernel_rfl) (by kernel_rfl)
def c133:SC:=(.seq (.reg [
 o1 2 (.box (.t 0) 0 83),
 o1 3 (.mv (.c (.bool false)))])
 (.seq (.reg [
 o1 4 (.ld (.t 2) 5 true),
 o1 5 (.addo (.t 1) 0),
 o1 6 (.ld (.t 5) 1 false),
 o1 7 (.len (.t 6)),
 o1 8 (.call 134 [.t 4,.t 7]),
 o1 9 (.un .not (.t 8)),
 m1 3 9])
 .ret))
def r133:List RV:=[.tmp 3]
theorem t133:Qt1 Tryz.prog 133 c133 r133 10:=Z4 Tryz.func133 rfl (by kernel_rfl) (by kernel_rfl) (by kernel_rfl) (by kernel_rfl)
def c134:SC:=(.seq (.reg [
 o1 2 (.box (.t 0) 0 83),
 o1 4 (.mv (.c (.bool false)))])
 (.seq (.seq (.reg [
 m1 8 1,
 o1 9 (.bin .sub (.t 8) (.c (.int .i64 1))),
 o1 10 (.addo (.t 2) 0),
 o1 11 (.ld (.t 10) 1 false),
 o1 12 (.addo (.t 2) 1),
 o1 13 (.ld (.t 12) 1 false),
 o1 14 (.bsl 1 3 [.t 11,.t 13]),
 o1 15 (.call 76 [.c (.int .i64 0),.t 9,.t 14]),
 o1 16 (.un .not (.t 15)),
 m1 17 16,
 ⟨some 18,.addo (.t 2) 0,some (17,false),[]⟩,
 ⟨some 19,.ld (.t 18) 1 false,some (17,false),[]⟩,
 ⟨some 20,.addo (.t 2) 1,some (17,false),[]⟩,
 ⟨some 21,.ld (.t 20) 1 false,some (17,false),[]⟩,
 ⟨some 22,.bin .eql (.t 19) (.t 21),some (17,false),[]⟩,
 o1 23 (.pick (.t 17) (.c (.bool true)) (.t 22)),
 m1 24 23,
 ⟨some 25,.addo (.t 2) 2,some (24,false),[]⟩,
 ⟨some 26,.ld (.t 25) 2 true,some (24,false),[]⟩,
 ⟨some 27,.bsl 2 27 [.t 26],some (24,false),[]⟩,
 ⟨some 28,.call 120 [.c (.int .i64 1),.c (.int .i64 1000000),.t 27],some (24,false),[]⟩,
 ⟨some 29,.un .not (.t 28),some (24,false),[]⟩,
 o1 30 (.pick (.t 24) (.c (.bool true)) (.t 29)),
 m1 31 30,
 ⟨some 32,.addo (.t 2) 4,some (31,false),[]⟩,
 ⟨some 33,.ld (.t 32) 1 false,some (31,false),[]⟩,
 ⟨some 34,.len (.t 33),some (31,false),[]⟩,
 ⟨some 35,.bin .gtr (.t 34) (.c (.int .i64 6)),some (31,false),[]⟩,
 o1 36 (.pick (.t 31) (.c (.bool true)) (.t 35))])
 (.cond (.t 36)
 (.seq (.reg [
  o1 4 (.mv (.c (.bool false)))])
  .ret)
 .skip))
 (.seq (.reg [
 o1 5 (.mv (.c (.int .i64 0)))])
 (.seq (.seq (.reg [
 o1 37 (.addo (.t 2) 4),
 o1 38 (.ld (.t 37) 1 false),
 o1 39 (.len (.t 38)),
 o1 40 (.mv (.c (.int .i64 0)))])
 (.block 0 (.loop (.seq (.reg [
  o1 41 (.bin .lss (.t 40) (.t 39))])
  (.seq (.cond (.t 41)
  .skip
  (.exit 0))
  (.seq (.block 1 (.seq (.reg [
   o1 42 (.ixs (.t 38) (.t 40) 4),
   o1 43 (.ld (.t 42) 4 true),
   o1 7 (.alloc [.int .i64 0,.int .i64 0,.int .i64 0,.int .i64 0] 85),
   ⟨none,.st (.t 7) (.t 43) 4,none,[]⟩])
   (.seq (.seq (.reg [
   o1 44 (.addo (.t 7) 0),
   o1 45 (.ld (.t 44) 2 true),
   o1 46 (.addo (.t 7) 2),
   o1 47 (.ld (.t 46) 2 true),
   o1 48 (.bsl 2 27 [.t 45,.t 47]),
   o1 49 (.call 120 [.c (.int .i64 0),.c (.int .i64 100000),.t 48]),
   o1 50 (.un .not (.t 49)),
   m1 51 50,
   ⟨some 52,.mv (.t 5),some (51,false),[]⟩,
   ⟨some 53,.addo (.t 7) 2,some (51,false),[]⟩,
   ⟨some 54,.addo (.t 53) 1,some (51,false),[]⟩,
   ⟨some 55,.ld (.t 54) 1 false,some (51,false),[]⟩,
   ⟨some 56,.addo (.t 7) 0,some (51,false),[]⟩,
   ⟨some 57,.addo (.t 56) 0,some (51,false),[]⟩,
   ⟨some 58,.ld (.t 57) 1 false,some (51,false),[]⟩,
   ⟨some 59,.bsl 1 3 [.t 58],some (51,false),[]⟩,
   ⟨some 60,.call 76 [.t 52,.t 55,.t 59],some (51,false),[]⟩,
   ⟨some 61,.un .not (.t 60),some (51,false),[]⟩,
   o1 62 (.pick (.t 51) (.c (.bool true)) (.t 61))])
   (.cond (.t 62)
   (.seq (.reg [
    o1 4 (.mv (.c (.bool false)))])
    .ret)
   .skip))
   (.reg [
   o1 63 (.addo (.t 7) 2),
   o1 64 (.addo (.t 63) 1),
   o1 65 (.ld (.t 64) 1 false),
   o1 66 (.bin .add (.t 65) (.c (.int .i64 1))),
   m1 5 66]))))
  (.reg [
  o1 67 (.bin .add (.t 40) (.c (.int .i64 1))),
  m1 40 67])))))))
 (.seq (.reg [
 o1 4 (.mv (.c (.bool true)))])
 .ret)))))
def r134:List RV:=[.tmp 4]
theorem t134:Qt1 Tryz.prog 134 c134 r134 68:=Z4 Tryz.func134 rfl (by kernel_rfl) (by kernel_rfl) (by kernel_rfl) (by kernel_rfl)
def c98:SC:=(.seq (.reg [
 o1 4 (.mv (.c (.bool false)))])
 (.seq (.reg [
 m1 5 0,
 m1 6 1,
 o1 7 (.call 141 [.t 5,.t 6]),
 o1 8 (.bin .geq (.t 7) (.c (.int .i64 0))),
 m1 4 8])
 .ret))
def r98:List RV:=[.tmp 4]
theorem t98:Qt1 Tryz.prog 98 c98 r98 9:=Z4 Tryz.func98 rfl (by kernel_rfl) (by kernel_rfl) (by kernel_rfl) (by kernel_rfl)
def c121:SC:=(.seq (.reg [
 o1 4 (.mv (.c (.bool false)))])
 (.seq (.reg [
 m1 5 0,
 o1 6 (.ld (.t 1) 1 false),
 o1 7 (.bin .lss (.t 5) (.t 6)),
 m1 8 7,
 ⟨some 9,.mv (.t 0),some (8,false),[]⟩,
 ⟨some 10,.ld (.t 2) 1 false,some (8,false),[]⟩,
 ⟨some 11,.bin .gtr (.t 9) (.t 10),some (8,false),[]⟩,
 o1 12 (.pick (.t 8) (.c (.bool true)) (.t 11)),
 m1 4 12])
 .ret))
def r121:List RV:=[.tmp 4]
theorem t121:Qt1 Tryz.prog 121 c121 r121 13:=Z4 Tryz.func121 rfl (by kernel_rfl) (by kernel_rfl) (by kernel_rfl) (by kernel_rfl)
def c137:SC:=(.seq (.reg [
 o1 3 (.box (.t 0) 0 27),
 o1 6 (.mv (.c (.bool false)))])
 (.seq (.reg [
 o1 7 (.addo (.t 3) 0),
 o1 8 (.ld (.t 7) 1 false),
 m1 9 1,
 o1 10 (.addo (.t 3) 1),
 o1 11 (.ld (.t 10) 1 false),
 o1 12 (.call 88 [.t 8,.t 9,.t 11]),
 m1 13 12,
 ⟨some 14,.addo (.t 3) 1,some (13,true),[]⟩,
 ⟨some 15,.ld (.t 14) 1 false,some (13,true),[]⟩,
 ⟨some 16,.mv (.t 2),some (13,true),[]⟩,
 ⟨some 17,.bin .leq (.t 15) (.t 16),some (13,true),[]⟩,
 o1 18 (.pick (.t 13) (.t 17) (.c (.bool false))),
 m1 6 18])
 .ret))
def r137:List RV:=[.tmp 6]
theorem t137:Qt1 Tryz.prog 137 c137 r137 19:=Z4 Tryz.func137 rfl (by kernel_rfl) (by kernel_rfl) (by kernel_rfl) (by kernel_rfl)
def c120:SC:=(.seq (.reg [
 o1 3 (.box (.t 0) 0 3),
 o1 4 (.box (.t 1) 0 3),
 o1 6 (.mv (.c (.bool false)))])
 (.seq (.reg [
 m1 7 2,
 o1 8 (.mkf 158 [.t 3,.t 4]),
 o1 9 (.call 102 [.t 7,.t 8]),
 o1 10 (.un .not (.t 9)),
 m1 6 10])
 .ret))
def r120:List RV:=[.tmp 6]
theorem t120:Qt1 Tryz.prog 120 c120 r120 11:=Z4 Tryz.func120 rfl (by kernel_rfl) (by kernel_rfl) (by kernel_rfl) (by kernel_rfl)
def c161:SC:=(.seq (.reg [
 o1 4 (.mv (.c (.int .i64 0)))])
 (.seq (.seq (.reg [
 m1 6 0,
 o1 7 (.len (.t 6)),
 o1 8 (.mv (.c (.int .i64 0)))])
 (.block 0 (.loop (.seq (.reg [
  o1 9 (.bin .lss (.t 8) (.t 7))])
  (.seq (.cond (.t 9)
  .skip
  (.exit 0))
  (.seq (.block 1 (.seq (.reg [
   m1 10 8,
   m1 5 10])
   (.seq (.reg [
   m1 11 1,
   m1 12 0,
   m1 13 5,
   o1 14 (.ixs (.t 12) (.t 13) 9),
   o1 15 (.ld (.t 14) 9 true),
   o1 16 (.calv (.t 11) [.t 15])])
   (.cond (.t 16)
   (.seq (.reg [
    m1 17 5,
    m1 4 17])
    .ret)
   .skip))))
  (.reg [
  o1 18 (.bin .add (.t 8) (.c (.int .i64 1))),
  m1 8 18])))))))
 (.seq (.reg [
 o1 4 (.mv (.c (.int .i64 (-1))))])
 .ret)))
def r161:List RV:=[.tmp 4]
theorem t161:Qt1 Tryz.prog 161 c161 r161 19:=Z4 Tryz.func161 rfl (by kernel_rfl) (by kernel_rfl) (by kernel_rfl) (by kernel_rfl)
def c162:SC:=(.seq (.reg [
 o1 4 (.mv (.c (.int .i64 0)))])
 (.seq (.seq (.reg [
 m1 6 0,
 o1 7 (.len (.t 6)),
 o1 8 (.mv (.c (.int .i64 0)))])
 (.block 0 (.loop (.seq (.reg [
  o1 9 (.bin .lss (.t 8) (.t 7))])
  (.seq (.cond (.t 9)
  .skip
  (.exit 0))
  (.seq (.block 1 (.seq (.reg [
   m1 10 8,
   m1 5 10])
   (.seq (.reg [
   m1 11 1,
   m1 12 0,
   m1 13 5,
   o1 14 (.ixs (.t 12) (.t 13) 5),
   o1 15 (.ld (.t 14) 5 true),
   o1 16 (.calv (.t 11) [.t 15])])
   (.cond (.t 16)
   (.seq (.reg [
    m1 17 5,
    m1 4 17])
    .ret)
   .skip))))
  (.reg [
  o1 18 (.bin .add (.t 8) (.c (.int .i64 1))),
  m1 8 18])))))))
 (.seq (.reg [
 o1 4 (.mv (.c (.int .i64 (-1))))])
 .ret)))
def r162:List RV:=[.tmp 4]
theorem t162:Qt1 Tryz.prog 162 c162 r162 19:=Z4 Tryz.func162 rfl (by kernel_rfl) (by kernel_rfl) (by kernel_rfl) (by kernel_rfl)
def c141:SC:=(.seq (.reg [
 o1 4 (.mv (.c (.int .i64 0)))])
 (.seq (.seq (.reg [
 m1 6 0,
 o1 7 (.len (.t 6)),
 o1 8 (.mv (.c (.int .i64 0)))])
 (.block 0 (.loop (.seq (.reg [
  o1 9 (.bin .lss (.t 8) (.t 7))])
  (.seq (.cond (.t 9)
  .skip
  (.exit 0))
  (.seq (.block 1 (.seq (.reg [
   m1 10 8,
   m1 5 10])
   (.seq (.reg [
   m1 11 1,
   m1 12 0,
   m1 13 5,
   o1 14 (.ixs (.t 12) (.t 13) 1),
   o1 15 (.ld (.t 14) 1 false),
   o1 16 (.calv (.t 11) [.t 15])])
   (.cond (.t 16)
   (.seq (.reg [
    m1 17 5,
    m1 4 17])
    .ret)
   .skip))))
  (.reg [
  o1 18 (.bin .add (.t 8) (.c (.int .i64 1))),
  m1 8 18])))))))
 (.seq (.reg [
 o1 4 (.mv (.c (.int .i64 (-1))))])
 .ret)))
def r141:List RV:=[.tmp 4]
theorem t141:Qt1 Tryz.prog 141 c141 r141 19:=Z4 Tryz.func141 rfl (by kernel_rfl) (by kernel_rfl) (by kernel_rfl) (by kernel_rfl)
def c102:SC:=(.seq (.reg [
 o1 4 (.mv (.c (.bool false)))])
 (.seq (.reg [
 m1 5 0,
 m1 6 1,
 o1 7 (.call 143 [.t 5,.t 6]),
 o1 8 (.bin .geq (.t 7) (.c (.int .i64 0))),
 m1 4 8])
 .ret))
def r102:List RV:=[.tmp 4]
theorem t102:Qt1 Tryz.prog 102 c102 r102 9:=Z4 Tryz.func102 rfl (by kernel_rfl) (by kernel_rfl) (by kernel_rfl) (by kernel_rfl)
def c158:SC:=(.seq (.reg [
 o1 3 (.box (.t 0) 0 27),
 o1 4 (.mv (.c (.bool false)))])
 (.seq (.reg [
 o1 5 (.addo (.t 3) 0),
 o1 6 (.ld (.t 5) 1 false),
 o1 7 (.addo (.t 3) 1),
 o1 8 (.ld (.t 7) 1 false),
 o1 9 (.bin .gtr (.t 6) (.t 8)),
 m1 10 9,
 ⟨some 11,.ld (.t 1) 1 false,some (10,false),[]⟩,
 ⟨some 12,.ld (.t 2) 1 false,some (10,false),[]⟩,
 ⟨some 13,.addo (.t 3) 0,some (10,false),[]⟩,
 ⟨some 14,.ld (.t 13) 1 false,some (10,false),[]⟩,
 ⟨some 15,.addo (.t 3) 1,some (10,false),[]⟩,
 ⟨some 16,.ld (.t 15) 1 false,some (10,false),[]⟩,
 ⟨some 17,.bsl 1 3 [.t 14,.t 16],some (10,false),[]⟩,
 ⟨some 18,.call 76 [.t 11,.t 12,.t 17],some (10,false),[]⟩,
 ⟨some 19,.un .not (.t 18),some (10,false),[]⟩,
 o1 20 (.pick (.t 10) (.c (.bool true)) (.t 19)),
 m1 4 20])
 .ret))
def r158:List RV:=[.tmp 4]
theorem t158:Qt1 Tryz.prog 158 c158 r158 21:=Z4 Tryz.func158 rfl (by kernel_rfl) (by kernel_rfl) (by kernel_rfl) (by kernel_rfl)
def c143:SC:=(.seq (.reg [
 o1 4 (.mv (.c (.int .i64 0)))])
 (.seq (.seq (.reg [
 m1 6 0,
 o1 7 (.len (.t 6)),
 o1 8 (.mv (.c (.int .i64 0)))])
 (.block 0 (.loop (.seq (.reg [
  o1 9 (.bin .lss (.t 8) (.t 7))])
  (.seq (.cond (.t 9)
  .skip
  (.exit 0))
  (.seq (.block 1 (.seq (.reg [
   m1 10 8,
   m1 5 10])
   (.seq (.reg [
   m1 11 1,
   m1 12 0,
   m1 13 5,
   o1 14 (.ixs (.t 12) (.t 13) 2),
   o1 15 (.ld (.t 14) 2 true),
   o1 16 (.calv (.t 11) [.t 15])])
   (.cond (.t 16)
   (.seq (.reg [
    m1 17 5,
    m1 4 17])
    .ret)
   .skip))))
  (.reg [
  o1 18 (.bin .add (.t 8) (.c (.int .i64 1))),
  m1 8 18])))))))
 (.seq (.reg [
 o1 4 (.mv (.c (.int .i64 (-1))))])
 .ret)))
def r143:List RV:=[.tmp 4]
theorem t143:Qt1 Tryz.prog 143 c143 r143 19:=Z4 Tryz.func143 rfl (by kernel_rfl) (by kernel_rfl) (by kernel_rfl) (by kernel_rfl)
def c39:SC:=(.seq (.reg [
 o1 3 (.box (.t 0) 0 25),
 o1 5 (.box (.t 2) 0 27),
 o1 6 (.alloc [.int .i64 0,.int .i64 0] 27),
 o1 7 (.mv (.c (.int .i64 0)))])
 (.seq (.reg [
 o1 11 (.ld (.t 3) 2 true),
 o1 12 (.ld (.t 5) 2 true),
 o1 13 (.call 75 [.t 11,.t 12]),
 m1 10 13,
 o1 14 (.ext (.t 10) 0),
 o1 15 (.ext (.t 10) 1),
 o1 8 (.alloc [.slice none 0 0,.slice none 0 0,.int .i64 0,.int .i64 0] 160),
 ⟨none,.st (.t 8) (.t 14) 4,none,[]⟩,
 m1 9 15])
 (.seq (.block 0 (.seq (.reg [
  m1 17 9,
  o1 18 (.bin .neq (.t 17) (.c (.int .i64 0))),
  m1 16 18])
  (.cond (.t 16)
  (.seq (.reg [
   o1 19 (.build [.int .i64 0,.int .i64 0] []),
   m1 20 9,
   ⟨none,.st (.t 6) (.t 19) 2,none,[]⟩,
   m1 7 20])
   .ret)
  (.seq (.reg [
   o1 22 (.addo (.t 3) 1),
   o1 23 (.ld (.t 22) 1 false),
   o1 24 (.len (.t 23)),
   o1 25 (.bin .sub (.t 24) (.c (.int .i64 1))),
   m1 26 1,
   o1 27 (.bsl 1 3 [.t 26]),
   o1 28 (.call 76 [.c (.int .i64 0),.t 25,.t 27]),
   o1 29 (.un .not (.t 28)),
   m1 21 29])
   (.cond (.t 21)
   (.seq (.reg [
    o1 30 (.build [.int .i64 0,.int .i64 0] []),
    ⟨none,.st (.t 6) (.t 30) 2,none,[]⟩,
    o1 7 (.mv (.c (.int .i64 2)))])
    .ret)
   .skip)))))
 (.seq (.reg [
 o1 31 (.ld (.t 8) 4 true),
 m1 32 1,
 o1 33 (.call 82 [.t 31,.t 32]),
 o1 34 (.call 80 [.t 33]),
 ⟨none,.st (.t 6) (.t 34) 2,none,[]⟩,
 o1 7 (.mv (.c (.int .i64 0)))])
 .ret))))
def r39:List RV:=[.cell 6 2 true,.tmp 7]
theorem t39:Qt1 Tryz.prog 39 c39 r39 35:=Z4 Tryz.func39 rfl (by kernel_rfl) (by kernel_rfl) (by kernel_rfl) (by kernel_rfl)
def c93:SC:=(.seq (.reg [
 o1 1 (.box (.t 0) 0 25),
 o1 2 (.mv (.c (.int .i64 0)))])
 (.seq (.seq (.reg [
 o1 3 (.ld (.t 1) 2 true),
 o1 4 (.call 136 [.t 3]),
 o1 5 (.un .not (.t 4))])
 (.cond (.t 5)
 (.seq (.reg [
  o1 2 (.mv (.c (.int .i64 30)))])
  .ret)
 .skip))
 (.seq (.reg [
 o1 2 (.mv (.c (.int .i64 0)))])
 .ret)))
def r93:List RV:=[.tmp 2]
theorem t93:Qt1 Tryz.prog 93 c93 r93 6:=Z4 Tryz.func93 rfl (by kernel_rfl) (by kernel_rfl) (by kernel_rfl) (by kernel_rfl)
def c75:SC:=(.seq (.reg [
 o1 2 (.box (.t 0) 0 25),
 o1 3 (.box (.t 1) 0 27),
 o1 4 (.alloc [.slice none 0 0,.slice none 0 0,.int .i64 0,.int .i64 0] 160),
 o1 5 (.mv (.c (.int .i64 0)))])
 (.seq (.seq (.reg [
 o1 7 (.ld (.t 2) 2 true),
 o1 8 (.call 85 [.t 7]),
 m1 6 8])
 (.seq (.reg [
 m1 9 6,
 o1 10 (.bin .neq (.t 9) (.c (.int .i64 0)))])
 (.cond (.t 10)
 (.seq (.reg [
  o1 11 (.build [.slice none 0 0,.slice none 0 0,.int .i64 0,.int .i64 0] []),
  m1 12 6,
  ⟨none,.st (.t 4) (.t 11) 4,none,[]⟩,
  m1 5 12])
  .ret)
 .skip)))
 (.seq (.seq (.reg [
 o1 13 (.ld (.t 3) 2 true),
 o1 14 (.bsl 2 27 [.t 13]),
 o1 15 (.call 120 [.c (.int .i64 1),.c (.int .i64 100000),.t 14]),
 o1 16 (.un .not (.t 15))])
 (.cond (.t 16)
 (.seq (.reg [
  o1 17 (.build [.slice none 0 0,.slice none 0 0,.int .i64 0,.int .i64 0] []),
  ⟨none,.st (.t 4) (.t 17) 4,none,[]⟩,
  o1 5 (.mv (.c (.int .i64 31)))])
  .ret)
 .skip))
 (.seq (.reg [
 o1 18 (.ld (.t 2) 2 true),
 o1 19 (.ld (.t 3) 2 true),
 o1 20 (.build [.slice none 0 0,.slice none 0 0,.int .i64 0,.int .i64 0] [(0,2,.t 18),(2,2,.t 19)]),
 ⟨none,.st (.t 4) (.t 20) 4,none,[]⟩,
 o1 5 (.mv (.c (.int .i64 0)))])
 .ret))))
def r75:List RV:=[.cell 4 4 true,.tmp 5]
theorem t75:Qt1 Tryz.prog 75 c75 r75 21:=Z4 Tryz.func75 rfl (by kernel_rfl) (by kernel_rfl) (by kernel_rfl) (by kernel_rfl)
def c82:SC:=(.seq (.reg [
 o1 2 (.box (.t 0) 0 160),
 o1 4 (.alloc [.int .i64 0,.int .i64 0] 165)])
 (.seq (.reg [
 o1 6 (.addo (.t 2) 0),
 o1 7 (.addo (.t 6) 1),
 o1 8 (.ld (.t 7) 1 false),
 m1 9 1,
 o1 10 (.ixs (.t 8) (.t 9) 5),
 o1 11 (.addo (.t 10) 2),
 o1 12 (.ld (.t 11) 2 true),
 o1 5 (.alloc [.int .i64 0,.int .i64 0] 27),
 ⟨none,.st (.t 5) (.t 12) 2,none,[]⟩])
 (.seq (.regd [0,1,2,3,4,5,6,7,8,9,10,11,12,13,14,15,16,17,18,19,20,21,22,23] [
 .op (o1 13 (.addo (.t 5) 0)),
 .op ⟨some 14,.ld (.t 13) 1 false,none,[0]⟩,
 .op (o1 15 (.addo (.t 2) 2)),
 .op ⟨some 16,.addo (.t 15) 1,none,[2]⟩,
 .op ⟨some 17,.ld (.t 16) 1 false,none,[3]⟩,
 .op ⟨some 18,.bin .add (.t 14) (.t 17),none,[1,4]⟩,
 .op ⟨some 19,.bin .sub (.t 18) (.c (.int .i64 1)),none,[5]⟩,
 .op (o1 20 (.addo (.t 2) 2)),
 .op ⟨some 21,.addo (.t 20) 1,none,[7]⟩,
 .op ⟨some 22,.ld (.t 21) 1 false,none,[8]⟩,
 .op ⟨some 23,.div .quo (.t 19) (.t 22),none,[6,9]⟩,
 .op (o1 24 (.addo (.t 5) 1)),
 .op ⟨some 25,.ld (.t 24) 1 false,none,[11]⟩,
 .op (o1 26 (.addo (.t 2) 2)),
 .op ⟨some 27,.addo (.t 26) 0,none,[13]⟩,
 .op ⟨some 28,.ld (.t 27) 1 false,none,[14]⟩,
 .op ⟨some 29,.bin .add (.t 25) (.t 28),none,[12,15]⟩,
 .op ⟨some 30,.bin .sub (.t 29) (.c (.int .i64 1)),none,[16]⟩,
 .op (o1 31 (.addo (.t 2) 2)),
 .op ⟨some 32,.addo (.t 31) 0,none,[18]⟩,
 .op ⟨some 33,.ld (.t 32) 1 false,none,[19]⟩,
 .op ⟨some 34,.div .quo (.t 30) (.t 33),none,[17,20]⟩,
 .op ⟨some 35,.build [.int .i64 0,.int .i64 0] [(0,1,.t 23),(1,1,.t 34)],none,[10,21]⟩] 0 1 [
 ⟨none,.st (.t 4) (.t 35) 2,none,[0,1,2,3,4,5,6,7,8,9,10,11,12,13,14,15,16,17,18,19,20,21,22]⟩])
 .ret)))
def r82:List RV:=[.cell 4 2 true]
theorem t82:Qt1 Tryz.prog 82 c82 r82 36:=Z4 Tryz.func82 rfl (by kernel_rfl) (by kernel_rfl) (by kernel_rfl) (by kernel_rfl)
def c80:SC:=(.seq (.reg [
 o1 1 (.box (.t 0) 0 165),
 o1 2 (.alloc [.int .i64 0,.int .i64 0] 27)])
 (.seq (.reg [
 o1 3 (.ixa (.t 1) (.c (.int .i64 0)) 2 1),
 o1 4 (.ld (.t 3) 1 false),
 o1 5 (.ixa (.t 1) (.c (.int .i64 1)) 2 1),
 o1 6 (.ld (.t 5) 1 false),
 o1 7 (.build [.int .i64 0,.int .i64 0] [(0,1,.t 4),(1,1,.t 6)]),
 ⟨none,.st (.t 2) (.t 7) 2,none,[]⟩])
 .ret))
def r80:List RV:=[.cell 2 2 true]
theorem t80:Qt1 Tryz.prog 80 c80 r80 8:=Z4 Tryz.func80 rfl (by kernel_rfl) (by kernel_rfl) (by kernel_rfl) (by kernel_rfl)
def c78:SC:=(.seq (.reg [
 o1 3 (.box (.t 0) 0 160),
 o1 5 (.box (.t 2) 0 165),
 o1 6 (.alloc [.int .i64 0,.int .i64 0] 165)])
 (.seq (.reg [
 o1 15 (.ld (.t 3) 4 true),
 m1 16 1,
 o1 17 (.call 82 [.t 15,.t 16]),
 o1 7 (.alloc [.int .i64 0,.int .i64 0] 165),
 ⟨none,.st (.t 7) (.t 17) 2,none,[]⟩])
 (.seq (.reg [
 o1 18 (.build [.int .i64 0,.int .i64 0] [(0,1,.c (.int .i64 100001)),(1,1,.c (.int .i64 100001))]),
 o1 8 (.alloc [.int .i64 0,.int .i64 0] 165),
 ⟨none,.st (.t 8) (.t 18) 2,none,[]⟩])
 (.seq (.seq (.reg [
 o1 19 (.addo (.t 3) 0),
 o1 20 (.addo (.t 19) 1),
 o1 21 (.ld (.t 20) 1 false),
 m1 22 1,
 o1 23 (.ixs (.t 21) (.t 22) 5),
 o1 24 (.addo (.t 23) 4),
 o1 25 (.ld (.t 24) 1 false),
 o1 26 (.len (.t 25)),
 o1 27 (.mv (.c (.int .i64 0)))])
 (.block 0 (.loop (.seq (.reg [
  o1 28 (.bin .lss (.t 27) (.t 26))])
  (.seq (.cond (.t 28)
  .skip
  (.exit 0))
  (.seq (.block 1 (.seq (.reg [
   o1 29 (.ixs (.t 25) (.t 27) 4),
   o1 30 (.ld (.t 29) 4 true),
   o1 10 (.alloc [.int .i64 0,.int .i64 0,.int .i64 0,.int .i64 0] 85),
   ⟨none,.st (.t 10) (.t 30) 4,none,[]⟩])
   (.seq (.regd [0,1,2,3,4,5,6,7,8,9,10,11,12,13,14,15,16,17] [
   .op (o1 31 (.addo (.t 10) 0)),
   .op ⟨some 32,.addo (.t 31) 0,none,[0]⟩,
   .op ⟨some 33,.ld (.t 32) 1 false,none,[1]⟩,
   .op (o1 34 (.addo (.t 10) 0)),
   .op ⟨some 35,.addo (.t 34) 1,none,[3]⟩,
   .op ⟨some 36,.ld (.t 35) 1 false,none,[4]⟩,
   .op ⟨some 37,.build [.int .i64 0,.int .i64 0] [(0,1,.t 33),(1,1,.t 36)],none,[2,5]⟩,
   .op (o1 38 (.addo (.t 10) 2)),
   .op ⟨some 39,.addo (.t 38) 1,none,[7]⟩,
   .op ⟨some 40,.ld (.t 39) 1 false,none,[8]⟩,
   .op (o1 41 (.addo (.t 10) 2)),
   .op ⟨some 42,.addo (.t 41) 0,none,[10]⟩,
   .op ⟨some 43,.ld (.t 42) 1 false,none,[11]⟩,
   .op ⟨some 44,.build [.int .i64 0,.int .i64 0] [(0,1,.t 40),(1,1,.t 43)],none,[9,12]⟩] 2 2 [
   o1 11 (.alloc [.int .i64 0,.int .i64 0] 165),
   o1 12 (.alloc [.int .i64 0,.int .i64 0] 165),
   ⟨none,.st (.t 11) (.t 37) 2,none,[0,1,2,3,4,5,6,14,15]⟩,
   ⟨none,.st (.t 12) (.t 44) 2,none,[0,1,2,3,4,5,6,7,8,9,10,11,12,13,14,15,16]⟩])
   (.seq (.reg [
   o1 45 (.mv (.c (.int .i64 0)))])
   (.block 2 (.loop (.seq (.reg [
    o1 46 (.bin .lss (.t 45) (.c (.int .i64 2)))])
    (.seq (.cond (.t 46)
    .skip
    (.exit 2))
    (.seq (.block 3 (.seq (.reg [
     m1 47 45,
     m1 13 47])
     (.seq (.regd [0,1,2,3,4,5,6,7] [
     .op (m1 48 13),
     .op ⟨some 49,.ixa (.t 5) (.t 48) 2 1,none,[0]⟩,
     .op ⟨some 50,.ld (.t 49) 1 false,none,[1]⟩,
     .op (m1 51 13),
     .op ⟨some 52,.ixa (.t 11) (.t 51) 2 1,none,[3]⟩,
     .op ⟨some 53,.ld (.t 52) 1 false,none,[4]⟩,
     .op ⟨some 54,.mm true [.t 50,.t 53],none,[2,5]⟩,
     .op ⟨some 14,.mv (.t 54),none,[0,1,2,3,4,5,6]⟩] 0 0 [
])
 (.seq (.regd [0,1,2,3,4,5,6,7,8,9] [
 .op (m1 55 14),
 .op (m1 56 13),
 .op ⟨some 57,.ixa (.t 7) (.t 56) 2 1,none,[1]⟩,
 .op ⟨some 58,.ld (.t 57) 1 false,none,[2]⟩,
 .op ⟨some 59,.bin .add (.t 55) (.t 58),none,[0,3]⟩,
 .op ⟨some 60,.bin .sub (.t 59) (.c (.int .i64 1)),none,[4]⟩,
 .op (m1 61 13),
 .op ⟨some 62,.ixa (.t 12) (.t 61) 2 1,none,[6]⟩,
 .op ⟨some 63,.ld (.t 62) 1 false,none,[7]⟩,
 .op ⟨some 64,.bin .leq (.t 60) (.t 63),none,[5,8]⟩] 0 0 [
])
 (.cond (.t 64)
 (.reg [
  m1 65 13,
  m1 66 13,
  o1 67 (.ixa (.t 8) (.t 66) 2 1),
  o1 68 (.ld (.t 67) 1 false),
  m1 69 14,
  o1 70 (.bsl 1 3 [.t 68,.t 69]),
  o1 71 (.call 122 [.t 70]),
  o1 72 (.ixa (.t 8) (.t 65) 2 1),
  ⟨none,.st (.t 72) (.t 71) 1,none,[]⟩])
 .skip)))))
 (.reg [
 o1 73 (.bin .add (.t 45) (.c (.int .i64 1))),
 m1 45 73]))))))))))
 (.reg [
 o1 74 (.bin .add (.t 27) (.c (.int .i64 1))),
 m1 27 74])))))))
 (.seq (.reg [
 o1 75 (.ld (.t 8) 2 true),
 ⟨none,.st (.t 6) (.t 75) 2,none,[]⟩])
 .ret)))))
def r78:List RV:=[.cell 6 2 true]
theorem t78:Qt1 Tryz.prog 78 c78 r78 76:=Z4 Tryz.func78 rfl (by kernel_rfl) (by kernel_rfl) (by kernel_rfl) (by kernel_rfl)
def c94:SC:=(.seq (.reg [
 o1 1 (.box (.t 0) 0 27),
 o1 2 (.mv (.c (.bool false)))])
 (.seq (.reg [
 o1 3 (.ld (.t 1) 2 true),
 o1 4 (.call 137 [.t 3,.c (.int .i64 1),.c (.int .i64 100000)]),
 m1 2 4])
 .ret))
def r94:List RV:=[.tmp 2]
theorem t94:Qt1 Tryz.prog 94 c94 r94 5:=Z4 Tryz.func94 rfl (by kernel_rfl) (by kernel_rfl) (by kernel_rfl) (by kernel_rfl)
def c122:SC:=(.seq (.reg [
 o1 2 (.mv (.c (.int .i64 0)))])
 (.seq (.reg [
 m1 3 0,
 o1 4 (.bsl 1 3 [.c (.int .i64 100001)]),
 o1 5 (.app 1 8 3 (.t 3) (.t 4)),
 o1 6 (.call 71 [.t 5]),
 m1 2 6])
 .ret))
def r122:List RV:=[.tmp 2]
theorem t122:Qt1 Tryz.prog 122 c122 r122 7:=Z4 Tryz.func122 rfl (by kernel_rfl) (by kernel_rfl) (by kernel_rfl) (by kernel_rfl)
def c71:SC:=(.seq (.reg [
 o1 2 (.mv (.c (.int .i64 0)))])
 (.seq (.seq (.reg [
 m1 5 0,
 o1 6 (.len (.t 5)),
 o1 7 (.bin .lss (.t 6) (.c (.int .i64 1)))])
 (.cond (.t 7)
 (.reg [
  o1 8 (.raw (Go.Op.makeInterface 9 (Go.Operand.const (Go.Value.string { data:=#[115,108,105,99,101,115,46,77,105,110,58,32,101,109,112,116,121,32,108,105,115,116] }))) 20),
  ⟨none,.raw (Go.Op.panic (Go.Operand.tmp 8)) 0,none,[]⟩])
 .skip))
 (.seq (.reg [
 m1 9 0,
 o1 10 (.ixs (.t 9) (.c (.int .i64 0)) 1),
 o1 11 (.ld (.t 10) 1 false),
 m1 3 11])
 (.seq (.seq (.reg [
 o1 4 (.mv (.c (.int .i64 1)))])
 (.block 0 (.loop (.seq (.seq (.reg [
  m1 12 4,
  m1 13 0,
  o1 14 (.len (.t 13)),
  o1 15 (.bin .lss (.t 12) (.t 14))])
  (.cond (.t 15)
  .skip
  (.exit 0)))
  (.seq (.block 1 (.reg [
   m1 18 3,
   m1 19 0,
   m1 20 4,
   o1 21 (.ixs (.t 19) (.t 20) 1),
   o1 22 (.ld (.t 21) 1 false),
   o1 23 (.mm false [.t 18,.t 22]),
   m1 3 23]))
  (.reg [
  m1 16 4,
  o1 17 (.bin .add (.t 16) (.c (.int .i64 1))),
  m1 4 17]))))))
 (.seq (.reg [
 m1 24 3,
 m1 2 24])
 .ret)))))
def r71:List RV:=[.tmp 2]
theorem t71:Qt1 Tryz.prog 71 c71 r71 25:=Z4 Tryz.func71 rfl (by kernel_rfl) (by kernel_rfl) (by kernel_rfl) (by kernel_rfl)
end Go.Proofs.YtiigiflofnjilaaGreat
namespace Go.Azalai
structure Span where
 lo:Int
 hi:Int
deriving DecidableEq
structure Well where
 x:Int
 y:Int
 depth:Int
 yld:Span
 room:Int
 has:Span
 owner:Int
deriving DecidableEq
structure Gate where
 opens:Span
 shuts:Span
deriving DecidableEq
structure Leg where
 a:Int
 b:Int
 long:Span
 gates:List Gate
deriving DecidableEq
structure Land where
 wells:List Well
 legs:List Leg
deriving DecidableEq
structure Draw where
 well:Int
 day:Int
 water:Int
deriving DecidableEq
def inR (lo hi n:Int):Bool:=decide (lo<=n/\n<=hi)
def Z9 (lo hi:Int) (s:Span):Bool:=decide (lo<=s.lo/\s.lo<=s.hi/\s.hi<=hi)
def YD (w:Well):Bool :=
 inR (-10000000) 10000000 w.x && inR (-10000000) 10000000 w.y && inR 0 200 w.depth && Z9 0 10000000 w.yld && inR 0 1000000000 w.room && Z9 0 w.room w.has && inR 0 9999 w.owner
def Yy (next:Int):List Gate->Bool
 | []=>true
 | g :: r=>Z9 0 100000 g.opens && Z9 0 100000 g.shuts && inR next g.shuts.hi g.opens.lo && Yy (g.shuts.hi+1) r
def Wm (n:Int) (x:Leg):Bool :=
 inR 0 (n - 1) x.a && inR 0 (n - 1) x.b && x.a != x.b && Z9 1 1000000 x.long && decide (x.gates.length<=6) && Yy 0 x.gates
def ZM (l:Land):Bool :=
 inR 1 12 l.wells.length && decide (l.legs.length<=24) && l.wells.all YD && l.legs.all (Wm l.wells.length)
def Wd {α : Type} (g:α->Bool):List α->Nat->Int
 | [],_=>-1
 | x :: l,k=>if g x then k else Wd g l (k+1)
theorem ZeC {α : Type} (g:α->Bool):∀ (l:List α) (k:Nat),decide (Wd g l k ≥ 0)=l.any g
 | [],k=>by simp [Wd]
 | x :: l,k=>by
  simp only [Wd,List.any_cons]
  by_cases hg:g x=true
  . simp [hg]
  . simpa [hg] using ZeC g l (k+1)
def X4 (w:Well) (has:Span) (days:Int):Span:=⟨min w.room (has.lo+days * w.yld.lo),min w.room (has.hi+days * w.yld.hi)⟩
def X8 (n last:Int):List Draw->Bool
 | []=>true
 | x :: r=>inR 0 (n - 1) x.well && inR last 100000 x.day && inR 0 1000000000 x.water && X8 n x.day r
def W9 (w:Well) (well day:Int) (now:Span) (evening:Int) (i:Nat):List Draw->Span × Int × Int
 | []=>(X4 w now (day - 1 - evening),0,0)
 | x :: r =>
  if (x.well != well || decide (x.day ≥ day))=true then W9 w well day now evening (i+1) r
  else
   let f:=X4 w now (x.day - evening)
   if f.hi < x.water then (⟨0,0⟩,i,33) else W9 w well day ⟨max 0 (f.lo - x.water),f.hi - x.water⟩ x.day (i+1) r
def Xd (l:Land) (well:Int) (draws:List Draw) (day:Int):Span × Int × Int :=
 if ZM l=false then (⟨0,0⟩,0,30)
 else if (inR 0 (l.wells.length - 1) well && inR 0 100000 day)=false then (⟨0,0⟩,0,2)
 else if draws.length > 200 then (⟨0,0⟩,0,4)
 else if X8 l.wells.length 0 draws=false then (⟨0,0⟩,0,32)
 else match l.wells[well.toNat]? with
  | some w=>W9 w well day w.has (-1) 0 draws
  | none=>(⟨0,0⟩,0,0)
def Wo (l:Land):Prop:=l.wells.length<=1000/\l.legs.length<=1000/\∀ x ∈ l.legs,x.gates.length<=1000
def Zbg (l:Land):Bool:=decide (l.wells.length > 20) || decide (l.legs.length > 40) || l.legs.any fun x=>decide (x.gates.length > 20)
theorem ZeM {l:Land} (h:ZM l=true):∀ w ∈ l.wells,YD w=true:=by
 simp only [ZM,Bool.and_eq_true,List.all_eq_true] at h;exact h.1.2
theorem UT {l:Land} (h:ZM l=true):1<=l.wells.length/\l.wells.length<=12/\l.legs.length<=24:=by
 simp only [ZM,Bool.and_eq_true,inR,decide_eq_true_eq] at h;omega
theorem ZaV {n:Int}:∀ {l:List Draw} {last:Int},X8 n last l=true->0<=last->∀ x ∈ l,0<=x.day/\x.day<=100000/\0<=x.water/\x.water<=1000000000
 | [],_,_,_,x,h=>by simp at h
 | y :: l,last,h,h0,x,hx=>by
  simp only [X8,Bool.and_eq_true,inR,decide_eq_true_eq] at h
  rcases List.mem_cons.1 hx with rfl | hx
  . omega
  . exact ZaV h.2 (by omega) x hx
end Go.Azalai
namespace Go.Proofs.YtiigiflofnjilaaGreat
open Go Go.Sx Go.Azalai
def Zo (n:Int):List SV:=[I n]
def Zd (s:Span):List SV:=[I s.lo,I s.hi]
def Zg (g:Gate):List SV:=[I g.opens.lo,I g.opens.hi,I g.shuts.lo,I g.shuts.hi]
def Ze (w:Well):List SV:=[I w.x,I w.y,I w.depth,I w.yld.lo,I w.yld.hi,I w.room,I w.has.lo,I w.has.hi,I w.owner]
def Zm (x:Leg):List SV:=[I x.a,I x.b,I x.long.lo,I x.long.hi,.sl false 4 (x.gates.map Zg)]
def ZY (l:Land):List SV:=[.sl false 9 (l.wells.map Ze),.sl false 5 (l.legs.map Zm)]
def Z0 (d:Draw):List SV:=[I d.well,I d.day,I d.water]
theorem WF {α : Type} (g:α->Bool) (l:List α):decide (Wd g l 0 ≥ 0)=l.any g:=ZeC g l 0
theorem Zk2 (h:Nat) (caps:List SV) (hk:KFL caps) (g:Int->Bool) (l:List Int) (hg:∀ x ∈ l,Ct Tryz.prog h (I x :: caps) (B (g x))) (hl:l.length < 4611686018427387904) {c:Bool} :
 Ct Tryz.prog 141 [.sl c 1 (l.map Zo),.cl h caps] (I (Wd g l 0)):=by
 refine t141.1 ⟨by simp [KF,Za,KFL,Zo],hk,trivial⟩ (by simp [KF]) ?_
 dsimp only [c141,r141,go_sem,rA,rM,rS]
 refine Xf (fun k:Nat=>[(8,I k)]) (fun _=>[]) (fun k=>k<=l.length/\Wd g (l.drop k) k=Wd g l 0) (fun k=>l.length - k) 0 ⟨Nat.zero_le _,rfl⟩ ?_ ?_
 . (refine Zl ?_ ?_ ?_ rfl rfl<;>dsimp only [Zo,hk,id,go_sem,rA,rM,rS]<;>simp [Zo,hk,Za,Zf,KFR,KFL,KF,Zc,mtO,nbr])
 . intro k ⟨hk',hi⟩
   dsimp only [go_sem,rA,rM,rS]
   refine br ?_ ?_
   . intro hlt
     have hlt:k < l.length:=by simpa using hlt
     dsimp only [go_sem,rA,rM,rS]
     refine Zp k hlt rfl ?_
     dsimp only [Zo,go_sem,rA,rM,rS]
     refine call (hg l[k] (List.getElem_mem _)) ?_
     dsimp only [go_sem,rA,rM,rS]
     refine br ?_ ?_
     . intro hgx
       dsimp only [go_sem,rA,rM,rS]
       rw [<- hi,List.drop_eq_getElem_cons hlt]
       simp [Wd,hgx]
     . intro hgx
       dsimp only [go_sem,rA,rM,rS]
       refine ⟨k+1,⟨by omega,?_⟩,by omega,?_⟩
       . rw [<- hi,List.drop_eq_getElem_cons hlt];simp [Wd,hgx]
       . rw [Zi (by omega) (by omega)]
         (refine Zl ?_ ?_ ?_ rfl rfl<;>dsimp only [Zo,hk,id,go_sem,rA,rM,rS]<;>simp [Zo,hk,Za,Zf,KFR,KFL,KF,Zc,mtO,nbr])
   . intro hlt
     have hlt:k=l.length:=by simp at hlt;omega
     dsimp only [go_sem,rA,rM,rS]
     rw [<- hi,hlt];simp [Wd]
theorem ZxW (h:Nat) (caps:List SV) (hk:KFL caps) (g:Int->Bool) (l:List Int) (hg:∀ x ∈ l,Ct Tryz.prog h (I x :: caps) (B (g x))) (hl:l.length < 4611686018427387904) {c:Bool} :
 Ct Tryz.prog 98 [.sl c 1 (l.map Zo),.cl h caps] (B (l.any g)):=by
 refine t98.1 ⟨by simp [KF,Za,KFL,Zo],hk,trivial⟩ (by simp [KF]) ?_
 dsimp only [c98,r98,go_sem,rA,rM,rS]
 refine call (Zk2 h caps hk g l hg hl) ?_
 dsimp only [go_sem,rA,rM,rS]
 rw [WF]
theorem idx95 (h:Nat) (caps:List SV) (hk:KFL caps) (g:Well->Bool) (l:List Well) (hg:∀ x ∈ l,Ct Tryz.prog h (.agg (Ze x) :: caps) (B (g x))) (hl:l.length < 4611686018427387904) {c:Bool} :
 Ct Tryz.prog 161 [.sl c 9 (l.map Ze),.cl h caps] (I (Wd g l 0)):=by
 refine t161.1 ⟨by simp [KF,Za,KFL,Ze],hk,trivial⟩ (by simp [KF]) ?_
 dsimp only [c161,r161,go_sem,rA,rM,rS]
 refine Xf (fun k:Nat=>[(8,I k)]) (fun _=>[]) (fun k=>k<=l.length/\Wd g (l.drop k) k=Wd g l 0) (fun k=>l.length - k) 0 ⟨Nat.zero_le _,rfl⟩ ?_ ?_
 . (refine Zl ?_ ?_ ?_ rfl rfl<;>dsimp only [Ze,hk,id,go_sem,rA,rM,rS]<;>simp [Ze,hk,Za,Zf,KFR,KFL,KF,Zc,mtO,nbr])
 . intro k ⟨hk',hi⟩
   dsimp only [go_sem,rA,rM,rS]
   refine br ?_ ?_
   . intro hlt
     have hlt:k < l.length:=by simpa using hlt
     dsimp only [go_sem,rA,rM,rS]
     refine Zp k hlt rfl ?_
     dsimp only [Ze,go_sem,rA,rM,rS]
     refine call (hg l[k] (List.getElem_mem _)) ?_
     dsimp only [go_sem,rA,rM,rS]
     refine br ?_ ?_
     . intro hgx
       dsimp only [go_sem,rA,rM,rS]
       rw [<- hi,List.drop_eq_getElem_cons hlt]
       simp [Wd,hgx]
     . intro hgx
       dsimp only [go_sem,rA,rM,rS]
       refine ⟨k+1,⟨by omega,?_⟩,by omega,?_⟩
       . rw [<- hi,List.drop_eq_getElem_cons hlt];simp [Wd,hgx]
       . rw [Zi (by omega) (by omega)]
         (refine Zl ?_ ?_ ?_ rfl rfl<;>dsimp only [Ze,hk,id,go_sem,rA,rM,rS]<;>simp [Ze,hk,Za,Zf,KFR,KFL,KF,Zc,mtO,nbr])
   . intro hlt
     have hlt:k=l.length:=by simp at hlt;omega
     dsimp only [go_sem,rA,rM,rS]
     rw [<- hi,hlt];simp [Wd]
theorem con71 (h:Nat) (caps:List SV) (hk:KFL caps) (g:Well->Bool) (l:List Well) (hg:∀ x ∈ l,Ct Tryz.prog h (.agg (Ze x) :: caps) (B (g x))) (hl:l.length < 4611686018427387904) {c:Bool} :
 Ct Tryz.prog 129 [.sl c 9 (l.map Ze),.cl h caps] (B (l.any g)):=by
 refine t129.1 ⟨by simp [KF,Za,KFL,Ze],hk,trivial⟩ (by simp [KF]) ?_
 dsimp only [c129,r129,go_sem,rA,rM,rS]
 refine call (idx95 h caps hk g l hg hl) ?_
 dsimp only [go_sem,rA,rM,rS]
 rw [WF]
theorem idx96 (h:Nat) (caps:List SV) (hk:KFL caps) (g:Leg->Bool) (l:List Leg) (hg:∀ x ∈ l,Ct Tryz.prog h (.agg (Zm x) :: caps) (B (g x))) (hl:l.length < 4611686018427387904) {c:Bool} :
 Ct Tryz.prog 162 [.sl c 5 (l.map Zm),.cl h caps] (I (Wd g l 0)):=by
 refine t162.1 ⟨by simp [KF,Za,KFL,Zm,Zg],hk,trivial⟩ (by simp [KF]) ?_
 dsimp only [c162,r162,go_sem,rA,rM,rS]
 refine Xf (fun k:Nat=>[(8,I k)]) (fun _=>[]) (fun k=>k<=l.length/\Wd g (l.drop k) k=Wd g l 0) (fun k=>l.length - k) 0 ⟨Nat.zero_le _,rfl⟩ ?_ ?_
 . (refine Zl ?_ ?_ ?_ rfl rfl<;>dsimp only [Zm,Zg,hk,id,go_sem,rA,rM,rS]<;>simp [Zm,Zg,hk,Za,Zf,KFR,KFL,KF,Zc,mtO,nbr])
 . intro k ⟨hk',hi⟩
   dsimp only [go_sem,rA,rM,rS]
   refine br ?_ ?_
   . intro hlt
     have hlt:k < l.length:=by simpa using hlt
     dsimp only [go_sem,rA,rM,rS]
     refine Zp k hlt rfl ?_
     dsimp only [Zm,go_sem,rA,rM,rS]
     refine call (hg l[k] (List.getElem_mem _)) ?_
     dsimp only [go_sem,rA,rM,rS]
     refine br ?_ ?_
     . intro hgx
       dsimp only [go_sem,rA,rM,rS]
       rw [<- hi,List.drop_eq_getElem_cons hlt]
       simp [Wd,hgx]
     . intro hgx
       dsimp only [go_sem,rA,rM,rS]
       refine ⟨k+1,⟨by omega,?_⟩,by omega,?_⟩
       . rw [<- hi,List.drop_eq_getElem_cons hlt];simp [Wd,hgx]
       . rw [Zi (by omega) (by omega)]
         (refine Zl ?_ ?_ ?_ rfl rfl<;>dsimp only [Zm,Zg,hk,id,go_sem,rA,rM,rS]<;>simp [Zm,Zg,hk,Za,Zf,KFR,KFL,KF,Zc,mtO,nbr])
   . intro hlt
     have hlt:k=l.length:=by simp at hlt;omega
     dsimp only [go_sem,rA,rM,rS]
     rw [<- hi,hlt];simp [Wd]
theorem con74 (h:Nat) (caps:List SV) (hk:KFL caps) (g:Leg->Bool) (l:List Leg) (hg:∀ x ∈ l,Ct Tryz.prog h (.agg (Zm x) :: caps) (B (g x))) (hl:l.length < 4611686018427387904) {c:Bool} :
 Ct Tryz.prog 132 [.sl c 5 (l.map Zm),.cl h caps] (B (l.any g)):=by
 refine t132.1 ⟨by simp [KF,Za,KFL,Zm,Zg],hk,trivial⟩ (by simp [KF]) ?_
 dsimp only [c132,r132,go_sem,rA,rM,rS]
 refine call (idx96 h caps hk g l hg hl) ?_
 dsimp only [go_sem,rA,rM,rS]
 rw [WF]
theorem ZxT (h:Nat) (caps:List SV) (hk:KFL caps) (g:Span->Bool) (l:List Span) (hg:∀ x ∈ l,Ct Tryz.prog h (.agg (Zd x) :: caps) (B (g x))) (hl:l.length < 4611686018427387904) {c:Bool} :
 Ct Tryz.prog 143 [.sl c 2 (l.map Zd),.cl h caps] (I (Wd g l 0)):=by
 refine t143.1 ⟨by simp [KF,Za,KFL,Zd],hk,trivial⟩ (by simp [KF]) ?_
 dsimp only [c143,r143,go_sem,rA,rM,rS]
 refine Xf (fun k:Nat=>[(8,I k)]) (fun _=>[]) (fun k=>k<=l.length/\Wd g (l.drop k) k=Wd g l 0) (fun k=>l.length - k) 0 ⟨Nat.zero_le _,rfl⟩ ?_ ?_
 . (refine Zl ?_ ?_ ?_ rfl rfl<;>dsimp only [Zd,hk,id,go_sem,rA,rM,rS]<;>simp [Zd,hk,Za,Zf,KFR,KFL,KF,Zc,mtO,nbr])
 . intro k ⟨hk',hi⟩
   dsimp only [go_sem,rA,rM,rS]
   refine br ?_ ?_
   . intro hlt
     have hlt:k < l.length:=by simpa using hlt
     dsimp only [go_sem,rA,rM,rS]
     refine Zp k hlt rfl ?_
     dsimp only [Zd,go_sem,rA,rM,rS]
     refine call (hg l[k] (List.getElem_mem _)) ?_
     dsimp only [go_sem,rA,rM,rS]
     refine br ?_ ?_
     . intro hgx
       dsimp only [go_sem,rA,rM,rS]
       rw [<- hi,List.drop_eq_getElem_cons hlt]
       simp [Wd,hgx]
     . intro hgx
       dsimp only [go_sem,rA,rM,rS]
       refine ⟨k+1,⟨by omega,?_⟩,by omega,?_⟩
       . rw [<- hi,List.drop_eq_getElem_cons hlt];simp [Wd,hgx]
       . rw [Zi (by omega) (by omega)]
         (refine Zl ?_ ?_ ?_ rfl rfl<;>dsimp only [Zd,hk,id,go_sem,rA,rM,rS]<;>simp [Zd,hk,Za,Zf,KFR,KFL,KF,Zc,mtO,nbr])
   . intro hlt
     have hlt:k=l.length:=by simp at hlt;omega
     dsimp only [go_sem,rA,rM,rS]
     rw [<- hi,hlt];simp [Wd]
theorem Zro (h:Nat) (caps:List SV) (hk:KFL caps) (g:Span->Bool) (l:List Span) (hg:∀ x ∈ l,Ct Tryz.prog h (.agg (Zd x) :: caps) (B (g x))) (hl:l.length < 4611686018427387904) {c:Bool} :
 Ct Tryz.prog 102 [.sl c 2 (l.map Zd),.cl h caps] (B (l.any g)):=by
 refine t102.1 ⟨by simp [KF,Za,KFL,Zd],hk,trivial⟩ (by simp [KF]) ?_
 dsimp only [c102,r102,go_sem,rA,rM,rS]
 refine call (ZxT h caps hk g l hg hl) ?_
 dsimp only [go_sem,rA,rM,rS]
 rw [WF]
theorem XS (n lo hi:Int):Ct Tryz.prog 88 [I n,I lo,I hi] (B (inR lo hi n)):=by
 refine t88.1 (by simp [KFL,KF]) (by simp [KFL,KF]) ?_
 dsimp only [c88,r88,go_sem,rA,rM,rS]
 refine gb ?_;dsimp only [go_sem,rA,rM,rS]
 refine gb ?_;dsimp only [go_sem,rA,rM,rS]
 refine gb ?_;dsimp only [go_sem,rA,rM,rS]
 simp [inR]
theorem ZP (s:Span) (lo hi:Int):Ct Tryz.prog 137 [.agg (Zd s),I lo,I hi] (B (Z9 lo hi s)):=by
 refine t137.1 (by simp [Zd,KFL,KF]) (by simp [KFL,KF]) ?_
 dsimp only [c137,r137,Zd,go_sem,rA,rM,rS]
 refine call (XS _ _ _) ?_
 dsimp only [go_sem,rA,rM,rS]
 repeat (refine gb ?_;dsimp only [go_sem,rA,rM,rS])
 (simp only [Z9,inR,Option.some.injEq,SV.v.injEq,Value.bool.injEq]<;>grind)
theorem Zcy (lo hi x:Int):Ct Tryz.prog 121 [I x,.ps [I lo] 0,.ps [I hi] 0] (B (!inR lo hi x)):=by
 refine t121.1 (by simp [KFL,KF]) (by simp [KFL,KF]) ?_
 dsimp only [c121,r121,go_sem,rA,rM,rS]
 repeat (refine gb ?_;dsimp only [go_sem,rA,rM,rS])
 (simp only [inR,Option.some.injEq,SV.v.injEq,Value.bool.injEq]<;>grind)
theorem V8 (lo hi:Int) (l:List Int) (hl:l.length < 4611686018427387904) (c:Bool):Ct Tryz.prog 76 [I lo,I hi,.sl c 1 (l.map Zo)] (B (l.all (inR lo hi))):=by
 refine t76.1 (by simp [Za,Zo,KFL,KF]) (by simp [KFL,KF]) ?_
 dsimp only [c76,r76,go_sem,rA,rM,rS]
 refine Zdm (by simp [FLT]) (res:=B (l.any fun x=>!inR lo hi x)) ?_ ?_
 . dsimp only [go_sem,rA,rM,rS]
   exact ZxW 121 [.ps [I lo] 0,.ps [I hi] 0] (by simp [KFL,KF]) (fun x=>!inR lo hi x) l (fun x _=>Zcy lo hi x) hl
 . dsimp only [go_sem,rA,rM,rS]
   simp [List.all_eq_not_any_not]
theorem UU (lo hi a:Int) (c:Bool):Ct Tryz.prog 76 [I lo,I hi,.sl c 1 [[I a]]] (B (inR lo hi a)):=by
 have:=V8 lo hi [a] (by simp) c
 simpa [Zo] using this
theorem Zd1 (lo hi a b:Int) (c:Bool):Ct Tryz.prog 76 [I lo,I hi,.sl c 1 [[I a],[I b]]] (B (inR lo hi a && inR lo hi b)):=by
 have:=V8 lo hi [a,b] (by simp) c
 simpa [Zo] using this
theorem VR (lo hi:Int) (s:Span):Ct Tryz.prog 158 [.agg (Zd s),.ps [I lo] 0,.ps [I hi] 0] (B (!Z9 lo hi s)):=by
 refine t158.1 (by simp [Zd,KFL,KF]) (by simp [KFL,KF]) ?_
 dsimp only [c158,r158,Zd,go_sem,rA,rM,rS]
 repeat (first | (refine gb ?_;dsimp only [go_sem,rA,rM,rS]) | (refine call (Zd1 _ _ _ _ _) ?_;dsimp only [go_sem,rA,rM,rS]))
 (simp only [Z9,inR,Option.some.injEq,SV.v.injEq,Value.bool.injEq]<;>grind)
theorem Xm (lo hi:Int) (l:List Span) (hl:l.length < 4611686018427387904) (c:Bool):Ct Tryz.prog 120 [I lo,I hi,.sl c 2 (l.map Zd)] (B (l.all (Z9 lo hi))):=by
 refine t120.1 (by simp [Za,Zd,KFL,KF]) (by simp [KFL,KF]) ?_
 dsimp only [c120,r120,go_sem,rA,rM,rS]
 refine Zdm (by simp [FLT]) (res:=B (l.any fun x=>!Z9 lo hi x)) ?_ ?_
 . dsimp only [go_sem,rA,rM,rS]
   exact Zro 158 [.ps [I lo] 0,.ps [I hi] 0] (by simp [KFL,KF]) (fun x=>!Z9 lo hi x) l (fun x _=>VR lo hi x) hl
 . dsimp only [go_sem,rA,rM,rS]
   simp [List.all_eq_not_any_not]
theorem Y9 (lo hi:Int) (s:Span) (c:Bool):Ct Tryz.prog 120 [I lo,I hi,.sl c 2 [[I s.lo,I s.hi]]] (B (Z9 lo hi s)):=by
 have:=Xm lo hi [s] (by simp) c
 simpa [Zd] using this
theorem ZcV (lo hi:Int) (s t:Span) (c:Bool):Ct Tryz.prog 120 [I lo,I hi,.sl c 2 [[I s.lo,I s.hi],[I t.lo,I t.hi]]] (B (Z9 lo hi s && Z9 lo hi t)):=by
 have:=Xm lo hi [s,t] (by simp) c
 simpa [Zd] using this
theorem Zwk (w:Well):Ct Tryz.prog 131 [.agg (Ze w)] (B (YD w)):=by
 refine t131.1 (by simp [Ze,KFL,KF]) (by simp [KFL,KF]) ?_
 dsimp only [c131,r131,Ze,go_sem,rA,rM,rS]
 repeat (first | (refine gb ?_;dsimp only [go_sem,rA,rM,rS]) | (refine call (UU _ _ _ _) ?_;dsimp only [go_sem,rA,rM,rS]) | (refine call (Zd1 _ _ _ _ _) ?_;dsimp only [go_sem,rA,rM,rS]) | (refine call (Y9 _ _ w.yld _) ?_;dsimp only [go_sem,rA,rM,rS]) | (refine call (Y9 _ _ w.has _) ?_;dsimp only [go_sem,rA,rM,rS]))
 simp [YD,Bool.and_assoc]
theorem ZgD (x:Leg) (n:Int) (h0:0<=n) (h1:n<=1000) (hg:x.gates.length < 4611686018427387904):Ct Tryz.prog 134 [.agg (Zm x),I n] (B (Wm n x)):=by
 have hw:IntKind.i64.wrap (n - 1)=n - 1:=Zi (by omega) (by omega)
 refine t134.1 (by simp [Zm,Za,Zg,KFL,KF]) (by simp [KFL,KF]) ?_
 dsimp only [c134,r134,Zm,hw,go_sem,rA,rM,rS]
 simp only [hw]
 repeat (first | (refine gb ?_;dsimp only [go_sem,rA,rM,rS]) | (refine call (Zd1 _ _ _ _ _) ?_;dsimp only [go_sem,rA,rM,rS]) | (refine call (Y9 _ _ x.long _) ?_;dsimp only [go_sem,rA,rM,rS]))
 simp only [List.length_map]
 refine br ?_ ?_
 . intro h
   dsimp only [go_sem,rA,rM,rS]
   (simp only [Wm,Option.some.injEq,SV.v.injEq,Value.bool.injEq]<;>grind)
 . intro h
   dsimp only [go_sem,rA,rM,rS]
   have hh:Wm n x=Yy 0 x.gates:=by simp only [Wm];grind
   rw [hh]
   refine Xf (fun s:Nat × Int=>[(40,I s.1),(5,I s.2)]) (fun _=>[]) (fun s=>s.1<=x.gates.length/\Yy s.2 (x.gates.drop s.1)=Yy 0 x.gates) (fun s=>x.gates.length - s.1) (0,0) ⟨Nat.zero_le _,rfl⟩ ?_ ?_
   . (refine Zl ?_ ?_ ?_ rfl rfl<;>dsimp only [Zg,id,go_sem,rA,rM,rS]<;>simp [Zg,Za,Zf,KFR,KFL,KF,Zc,mtO,nbr])
   . rintro ⟨k,next⟩ ⟨hk,hi⟩
     dsimp only [go_sem,rA,rM,rS]
     refine br ?_ ?_
     . intro hlt
       have hlt:k < x.gates.length:=by simpa using hlt
       dsimp only [go_sem,rA,rM,rS]
       refine Zp k hlt rfl ?_
       dsimp only [Zg,go_sem,rA,rM,rS]
       repeat (first | (refine gb ?_;dsimp only [go_sem,rA,rM,rS]) | (refine call (ZcV _ _ x.gates[k].opens x.gates[k].shuts _) ?_;dsimp only [go_sem,rA,rM,rS]) | (refine call (UU _ _ _ _) ?_;dsimp only [go_sem,rA,rM,rS]))
       have hd:x.gates.drop k=x.gates[k] :: x.gates.drop (k+1):=List.drop_eq_getElem_cons hlt
       refine br ?_ ?_
       . intro hb
         dsimp only [go_sem,rA,rM,rS]
         rw [<- hi,hd]
         (simp only [Yy,Option.some.injEq,SV.v.injEq,Value.bool.injEq]<;>grind)
       . intro hb
         dsimp only [go_sem,rA,rM,rS]
         have hs:Z9 0 100000 x.gates[k].shuts=true:=by grind
         simp only [Z9,decide_eq_true_eq] at hs
         rw [Zi (n:=x.gates[k].shuts.hi+1) (by omega) (by omega),Zi (n:=(k:Int)+1) (by omega) (by omega)]
         refine ⟨(k+1,x.gates[k].shuts.hi+1),⟨hlt,?_⟩,by simp only;omega,?_⟩
         . rw [<- hi,hd];simp only [Yy];grind
         . (refine Zl ?_ ?_ ?_ rfl rfl<;>dsimp only [Zg,id,go_sem,rA,rM,rS]<;>simp [Zg,Za,Zf,KFR,KFL,KF,Zc,mtO,nbr])
     . intro hlt
       have hlt:k=x.gates.length:=by simp at hlt;omega
       dsimp only [go_sem,rA,rM,rS]
       rw [<- hi,hlt];simp [Yy]
theorem ZsH (l:Land) (x:Leg) (hs:Wo l) (hx:x ∈ l.legs):Ct Tryz.prog 133 [.agg (Zm x),.ps (ZY l) 0] (B (!Wm l.wells.length x)):=by
 have hg:=hs.2.2 x hx
 refine t133.1 (by simp [Zm,ZY,Ze,Zg,Za,KFL,KF]) (by simp [KFL,KF]) ?_
 dsimp only [c133,r133,Zm,ZY,go_sem,rA,rM,rS]
 simp only [List.length_map]
 refine call (ZgD x l.wells.length (by omega) (by have:=hs.1;omega) (by omega)) ?_
 dsimp only [go_sem,rA,rM,rS]
theorem ZnL (w:Well):Ct Tryz.prog 130 [.agg (Ze w)] (B (!YD w)):=by
 refine t130.1 (by simp [Ze,KFL,KF]) (by simp [KFL,KF]) ?_
 dsimp only [c130,r130,Ze,go_sem,rA,rM,rS]
 refine call (Zwk w) ?_
 dsimp only [go_sem,rA,rM,rS]
theorem Zc6 (l:Land) (hs:Wo l):Ct Tryz.prog 85 [.agg (ZY l)] (I (if ZM l=true then 0 else 30)):=by
 refine t85.1 (by simp [ZY,Ze,Zm,Zg,Za,KFL,KF]) (by simp [KFL,KF]) ?_
 dsimp only [c85,r85,ZY,go_sem,rA,rM,rS]
 refine call (con71 130 [] (by simp [KFL]) (fun w=>!YD w) l.wells (fun w _=>ZnL w) (by have:=hs.1;omega)) ?_
 dsimp only [go_sem,rA,rM,rS]
 refine Zdm (res:=B (l.legs.any fun x=>!Wm l.wells.length x)) (by simp [FLT]) ?_ ?_
 . dsimp only [go_sem,rA,rM,rS]
   exact con74 133 [.ps (ZY l) 0] (by simp [ZY,Ze,Zm,Zg,Za,KFL,KF]) (fun x=>!Wm l.wells.length x) l.legs (fun x hx=>ZsH l x hs hx) (by have:=hs.2.1;omega)
 dsimp only [go_sem,rA,rM,rS]
 repeat (first | (refine gb ?_;dsimp only [go_sem,rA,rM,rS]) | (refine call (UU _ _ _ _) ?_;dsimp only [go_sem,rA,rM,rS]))
 simp only [List.length_map]
 have key:ZM l = !(!inR 1 12 l.wells.length || decide ((l.legs.length:Int) > 24) || !(!l.wells.any fun w=>!YD w) || !(!l.legs.any fun x=>!Wm l.wells.length x)):=by
  simp only [ZM,List.all_eq_not_any_not];grind
 rw [key]
 refine br ?_ ?_
 . intro h
   dsimp only [go_sem,rA,rM,rS]
   rw [h];rfl
 . intro h
   dsimp only [go_sem,rA,rM,rS]
   rw [h];rfl
theorem Zew {w:Well} {s:Span} {n:Int} (hw:YD w=true) (h1:0<=s.lo) (h2:s.lo<=w.room) (h3:0<=s.hi) (h4:s.hi<=w.room) (h5:-200000<=n) (h6:n<=200000) :
 IntKind.i64.wrap (s.lo+IntKind.i64.wrap (n * w.yld.lo))=s.lo+n * w.yld.lo/\IntKind.i64.wrap (s.hi+IntKind.i64.wrap (n * w.yld.hi))=s.hi+n * w.yld.hi:=by
 simp only [YD,Z9,inR,Bool.and_eq_true,decide_eq_true_eq] at hw
 have key:∀ y:Int,0<=y->y<=10000000->-2000000000000<=n * y/\n * y<=2000000000000:=fun y a b=>by
  constructor
  . have:=Int.mul_le_mul_of_nonneg_right h5 a;omega
  . have:=Int.mul_le_mul_of_nonneg_right h6 a;omega
 have k1:=key w.yld.lo (by omega) (by omega)
 have k2:=key w.yld.hi (by omega) (by omega)
 rw [Zi (n:=n * w.yld.lo) (by omega) (by omega),Zi (n:=n * w.yld.hi) (by omega) (by omega),Zi (by omega) (by omega),Zi (by omega) (by omega)]
 exact ⟨rfl,rfl⟩
theorem ZkQ {w:Well} {s:Span} {n:Int} (hw:YD w=true) (h1:0<=s.lo) (h2:s.lo<=w.room) (h3:0<=s.hi) (h4:s.hi<=w.room) (h5:-200000<=n) (h6:n<=200000):-2000000000000<=(X4 w s n).lo:=by
 simp only [YD,Z9,inR,Bool.and_eq_true,decide_eq_true_eq] at hw
 have k1:-2000000000000<=n * w.yld.lo:=by
  have:=Int.mul_le_mul_of_nonneg_right h5 (show 0<=w.yld.lo by omega);omega
 simp only [X4];omega
theorem Zdu (w:Well) (s:Span) (n:Int) (hw:YD w=true) (h1:0<=s.lo) (h2:s.lo<=w.room) (h3:0<=s.hi) (h4:s.hi<=w.room) (h5:-200000<=n) (h6:n<=200000) :
 Ct Tryz.prog 86 [.agg (Ze w),.agg (Zd s),I n] (.agg (Zd (X4 w s n))):=by
 obtain ⟨k1,k2⟩:=Zew hw h1 h2 h3 h4 h5 h6
 refine t86.1 (by simp [Ze,Zd,KFL,KF]) (by simp [Zd,KFL,KF]) ?_
 dsimp only [c86,r86,Ze,Zd,go_sem,rA,rM,rS]
 simp only [k1,k2,X4]
def ZiE (r:Span × Int × Int):SV:=.tup [.agg (Zd r.1),I r.2.1,I r.2.2]
theorem ZoL {l:Land} {well:Int} (h:inR 0 (l.wells.length - 1) well=true):∃ (k:Nat) (hk:k < l.wells.length),well=(k:Int)/\l.wells[well.toNat]? = some l.wells[k]:=by
 simp only [inR,decide_eq_true_eq] at h
 refine ⟨well.toNat,by omega,by omega,?_⟩
 rw [List.getElem?_eq_getElem (by omega)]
theorem Zfi (l:Land) (hs:Wo l) (well day:Int) (draws:List Draw) (hd:draws.length<=1000) :
 Ct Tryz.prog 42 [.agg (ZY l),I well,.sl false 3 (draws.map Z0),I day] (ZiE (Xd l well draws day)):=by
 have hw1:IntKind.i64.wrap ((l.wells.length:Int) - 1)=(l.wells.length:Int) - 1:=Zi (by omega) (by have:=hs.1;omega)
 refine t42.1 (by simp [ZY,Ze,Zm,Zg,Z0,Za,KFL,KF]) (by simp [ZiE,Zd,KFL,KF]) ?_
 dsimp only [c42,r42,ZY,go_sem,rA,rM,rS]
 refine call (Zc6 l hs) ?_
 dsimp only [go_sem,rA,rM,rS]
 by_cases ho:ZM l=true
 case neg =>
  rw [if_neg ho]
  refine Zu rfl ?_
  dsimp only [go_sem,rA,rM,rS]
  simp [Xd,ho,ZiE,Zd]
 rw [if_pos ho]
 refine Zv rfl ?_
 dsimp only [go_sem,rA,rM,rS]
 simp only [List.length_map,hw1]
 repeat (first | (refine gb ?_;dsimp only [go_sem,rA,rM,rS]) | (refine call (UU _ _ _ _) ?_;dsimp only [go_sem,rA,rM,rS]))
 by_cases ha:(inR 0 (l.wells.length - 1) well && inR 0 100000 day)=true
 case neg =>
  refine Zu (by grind) ?_
  dsimp only [go_sem,rA,rM,rS]
  simp [Xd,ho,ZiE,Zd,ha]
 refine Zv (by grind) ?_
 dsimp only [go_sem,rA,rM,rS]
 by_cases hm:draws.length > 200
 case pos =>
  refine Zu (by simp;omega) ?_
  dsimp only [go_sem,rA,rM,rS]
  simp [Xd,ho,ZiE,Zd,ha,hm]
 refine Zv (by simp;omega) ?_
 dsimp only [go_sem,rA,rM,rS]
 refine Xf (fun s:Nat × Int=>[(50,I s.1),(12,I s.2)]) (fun _=>[]) (fun s=>s.1<=draws.length/\X8 l.wells.length s.2 (draws.drop s.1)=X8 l.wells.length 0 draws) (fun s=>draws.length - s.1) (0,0) ⟨Nat.zero_le _,rfl⟩ ?_ ?_
 . (refine Zl ?_ ?_ ?_ rfl rfl<;>dsimp only [Zg,Ze,Zm,Z0,id,go_sem,rA,rM,rS]<;>simp [Zg,Ze,Zm,Z0,Za,Zf,KFR,KFL,KF,Zc,mtO,nbr])
 . rintro ⟨k,last⟩ ⟨hk,hi⟩
   simp only at hk hi
   dsimp only [go_sem,rA,rM,rS]
   by_cases hlt:k < draws.length
   . refine Zu (by simpa using hlt) ?_
     dsimp only [go_sem,rA,rM,rS]
     refine Zp k hlt rfl ?_
     dsimp only [Z0,go_sem,rA,rM,rS]
     simp only [List.length_map,hw1]
     repeat (first | (refine gb ?_;dsimp only [go_sem,rA,rM,rS]) | (refine call (UU _ _ _ _) ?_;dsimp only [go_sem,rA,rM,rS]))
     have hdr:draws.drop k=draws[k] :: draws.drop (k+1):=List.drop_eq_getElem_cons hlt
     rw [hdr] at hi
     simp only [X8] at hi
     refine br ?_ ?_
     . intro h
       dsimp only [go_sem,rA,rM,rS]
       have:X8 l.wells.length 0 draws=false:=by rw [<- hi];grind
       simp [Xd,ho,ZiE,Zd,ha,hm,this]
     . intro h
       dsimp only [go_sem,rA,rM,rS]
       rw [Zi (n:=(k:Int)+1) (by omega) (by omega)]
       refine ⟨(k+1,draws[k].day),⟨hlt,?_⟩,by simp only;omega,?_⟩
       . simp only;grind
       . (refine Zl ?_ ?_ ?_ rfl rfl<;>dsimp only [Zg,Ze,Zm,Z0,id,go_sem,rA,rM,rS]<;>simp [Zg,Ze,Zm,Z0,Za,Zf,KFR,KFL,KF,Zc,mtO,nbr])
   . refine Zv (by simp;omega) ?_
     dsimp only [go_sem,rA,rM,rS]
     have hk':k=draws.length:=by omega
     subst hk'
     simp only [List.drop_length,X8] at hi
     obtain ⟨kw,hkw,rfl,hget⟩:=ZoL (Bool.and_eq_true_iff.1 ha).1
     refine Zp kw hkw rfl ?_
     dsimp only [Ze,go_sem,rA,rM,rS]
     have hwf:Xd l kw draws day=W9 l.wells[kw] kw day l.wells[kw].has (-1) 0 draws:=by
      simp only [Xd,ho,ha,hm,<- hi,hget];simp
     rw [hwf]
     have hok:=ZeM ho l.wells[kw] (List.getElem_mem _)
     have hmem:=ZaV hi.symm (Int.le_refl _)
     have hday:0<=day/\day<=100000:=by simp only [inR,Bool.and_eq_true,decide_eq_true_eq] at ha;omega
     have hroom:0<=l.wells[kw].has.lo/\l.wells[kw].has.lo<=l.wells[kw].room/\0<=l.wells[kw].has.hi/\l.wells[kw].has.hi<=l.wells[kw].room/\l.wells[kw].room<=1000000000:=by
      simp only [YD,Z9,inR,Bool.and_eq_true,decide_eq_true_eq] at hok;omega
     have hroom2:∀ x:Int,x<=l.wells[kw].room->x<=1000000000:=fun x h=>by omega
     refine Xf (fun s:Nat × Span × Int=>[(91,I s.1),(17,I s.2.2)]) (fun s=>[(3,.cells (Zd s.2.1) 27)])
      (fun s=>s.1<=draws.length/\W9 l.wells[kw] kw day s.2.1 s.2.2 s.1 (draws.drop s.1)=W9 l.wells[kw] kw day l.wells[kw].has (-1) 0 draws /\
       0<=s.2.1.lo/\s.2.1.lo<=l.wells[kw].room/\0<=s.2.1.hi/\s.2.1.hi<=l.wells[kw].room/\-1<=s.2.2/\s.2.2<=100000) (fun s=>draws.length - s.1) (0,l.wells[kw].has,-1)
      ⟨Nat.zero_le _,rfl,hroom.1,hroom.2.1,hroom.2.2.1,hroom.2.2.2.1,by simp,by simp⟩ ?_ ?_
     . (refine Zl ?_ ?_ ?_ rfl rfl<;>dsimp only [Zg,Ze,Zm,Z0,Zd,id,go_sem,rA,rM,rS]<;>simp [Zg,Ze,Zm,Z0,Zd,Za,Zf,KFR,KFL,KF,Zc,mtO,nbr])
     . rintro ⟨k,now,ev⟩ ⟨hk2,hi2,n1,n2,n3,n4,e1,e2⟩
       simp only at hk2 hi2 n1 n2 n3 n4 e1 e2
       dsimp only [Zd,go_sem,rA,rM,rS]
       by_cases hlt2:k < draws.length
       . refine Zu (by simpa using hlt2) ?_
         dsimp only [go_sem,rA,rM,rS]
         refine Zp k hlt2 rfl ?_
         dsimp only [Z0,go_sem,rA,rM,rS]
         repeat (first | (refine gb ?_;dsimp only [go_sem,rA,rM,rS]))
         have hx:=hmem draws[k] (List.getElem_mem _)
         have hdr:draws.drop k=draws[k] :: draws.drop (k+1):=List.drop_eq_getElem_cons hlt2
         rw [hdr] at hi2
         simp only [W9] at hi2
         by_cases hc:(draws[k].well != (kw:Int) || decide (draws[k].day ≥ day))=true
         . refine Zu hc ?_
           dsimp only [go_sem,rA,rM,rS]
           rw [if_pos hc] at hi2
           rw [Zi (n:=(k:Int)+1) (by omega) (by omega)]
           refine ⟨(k+1,now,ev),⟨hlt2,hi2,n1,n2,n3,n4,e1,e2⟩,by simp only;omega,?_⟩
           (refine Zl ?_ ?_ ?_ rfl rfl<;>dsimp only [Zg,Ze,Zm,Z0,Zd,id,go_sem,rA,rM,rS]<;>simp [Zg,Ze,Zm,Z0,Zd,Za,Zf,KFR,KFL,KF,Zc,mtO,nbr])
         . refine Zv (by simpa using hc) ?_
           rw [if_neg hc] at hi2
           dsimp only [go_sem,rA,rM,rS]
           rw [Zi (n:=draws[k].day - ev) (by omega) (by omega)]
           refine call (Zdu l.wells[kw] now (draws[k].day - ev) hok n1 n2 n3 n4 (by omega) (by omega)) ?_
           dsimp only [Zd,go_sem,rA,rM,rS]
           have hbig:-2000000000000<=(X4 l.wells[kw] now (draws[k].day - ev)).lo:=ZkQ hok n1 n2 n3 n4 (by omega) (by omega)
           have hf2:(X4 l.wells[kw] now (draws[k].day - ev)).hi<=l.wells[kw].room:=by simp only [X4];omega
           have hf1:(X4 l.wells[kw] now (draws[k].day - ev)).lo<=l.wells[kw].room:=by simp only [X4];omega
           generalize hF:X4 l.wells[kw] now (draws[k].day - ev)=F at *
           by_cases hdry:F.hi < draws[k].water
           . refine Zu (by simpa using hdry) ?_
             dsimp only [go_sem,rA,rM,rS]
             rw [if_pos hdry] at hi2
             rw [<- hi2];rfl
           . refine Zv (by simpa using hdry) ?_
             dsimp only [go_sem,rA,rM,rS]
             rw [if_neg hdry] at hi2
             rw [Zi (n:=F.lo - draws[k].water) (by omega) (by omega),Zi (n:=F.hi - draws[k].water) (by omega) (by omega),Zi (n:=(k:Int)+1) (by omega) (by omega)]
             refine ⟨(k+1,⟨max 0 (F.lo - draws[k].water),F.hi - draws[k].water⟩,draws[k].day),⟨hlt2,hi2,by simp only;omega,by simp only;omega,by simp only;omega,by simp only;omega,by simp only;omega,by simp only;omega⟩,by simp only;omega,?_⟩
             (refine Zl ?_ ?_ ?_ rfl rfl<;>dsimp only [Zg,Ze,Zm,Z0,Zd,id,go_sem,rA,rM,rS]<;>simp [Zg,Ze,Zm,Z0,Zd,Za,Zf,KFR,KFL,KF,Zc,mtO,nbr])
       . refine Zv (by simp;omega) ?_
         dsimp only [go_sem,rA,rM,rS]
         rw [Zi (n:=day - 1) (by omega) (by omega),Zi (n:=day - 1 - ev) (by omega) (by omega)]
         refine call (Zdu l.wells[kw] now (day - 1 - ev) hok n1 n2 n3 n4 (by omega) (by omega)) ?_
         dsimp only [Zd,go_sem,rA,rM,rS]
         have hk':k=draws.length:=by omega
         subst hk'
         simp only [List.drop_length,W9] at hi2
         rw [<- hi2];rfl
end Go.Proofs.YtiigiflofnjilaaGreat
namespace Go.Azalai
structure Breed where
 full:Int
 fed:Int
 rest:Span
 heat:Span
 toil:Span
 burn:Span
 rub:Span
 milk:Span
 heal:Int
 strong:Span
deriving DecidableEq
structure Camel where
 water:Span
 fat:Span
 sore:Span
 milks:Bool
deriving DecidableEq
structure March where
 hours:Int
 load:Int
 heat:Span
 grass:Span
 drinks:Span
deriving DecidableEq
def ZC (b:Breed):Bool :=
 inR 1 1000000 b.full && inR 1 1000000 b.fed && inR 0 1000 b.heal && Z9 0 1000000 b.strong && Z9 0 100000 b.rest && Z9 0 100000 b.heat && Z9 0 100000 b.toil && Z9 0 100000 b.burn && Z9 0 100000 b.rub && Z9 0 100000 b.milk
def Zx (b:Breed) (c:Camel):Bool:=Z9 0 b.full c.water && Z9 0 b.fed c.fat && Z9 0 1000 c.sore
def Yf (m:March):Bool:=inR 0 24 m.hours && inR 0 1000000 m.load && Z9 0 60 m.heat && Z9 0 1000000 m.grass && Z9 0 1000000 m.drinks
def Zwa (b:Breed):Int:=if ZC b=true then 0 else 10
def Zaa (b:Breed) (c:Camel):Int:=if ZC b=false then 10 else if Zx b c=false then 11 else 0
def upF (a b:Int):Int:=(a+b - 1).tdiv b
def Ub:Span:=⟨0,0⟩
def ZeF (b:Breed) (c:Camel):Span :=
 ⟨min 1000 (min ((2000 * c.water.lo).tdiv b.full) (min ((2000 * c.fat.lo).tdiv b.fed) (1000 - c.sore.hi))),min 1000 (min (upF (2000 * c.water.hi) b.full) (min (upF (2000 * c.fat.hi) b.fed) (1000 - c.sore.lo)))⟩
def Zr2 (b:Breed) (c:Camel):Span:=⟨(b.strong.lo * (ZeF b c).lo).tdiv 1000,upF (b.strong.hi * (ZeF b c).hi) 1000⟩
def Ys (m:March):Int:=m.hours * (100000+m.load)
def Vl (b:Breed) (milks:Bool) (m:March):Span :=
 ⟨b.rest.lo+b.heat.lo * max 0 (m.heat.lo - 20)+(b.toil.lo * Ys m).tdiv 100000+(if milks then b.milk.lo else 0),b.rest.hi+b.heat.hi * max 0 (m.heat.hi - 20)+upF (b.toil.hi * Ys m) 100000+(if milks then b.milk.hi else 0)⟩
def VG (b:Breed) (m:March):Span:=⟨(b.burn.lo * Ys m).tdiv 100000,upF (b.burn.hi * Ys m) 100000⟩
theorem Wa {a A d:Int} (h0:0<=a) (h1:a<=A) (hd:1<=d):0<=a.tdiv d/\a.tdiv d<=A :=
 ⟨Int.tdiv_nonneg h0 (by omega),Int.le_trans (Int.tdiv_le_self d h0) h1⟩
theorem Zkf {a A d:Int} (h0:0<=a) (h1:a<=A) (hd:1<=d):0<=upF a d/\upF a d<=A+d:=by
 have:=Wa (a:=a+d - 1) (A:=A+d) (d:=d) (by omega) (by omega) hd
 exact this
end Go.Azalai
namespace Go.Proofs.YtiigiflofnjilaaGreat.Cm
open Go Go.Sx Go.Azalai
def breedL (b:Breed):List SV:=[I b.full,I b.fed,I b.rest.lo,I b.rest.hi,I b.heat.lo,I b.heat.hi,I b.toil.lo,I b.toil.hi,I b.burn.lo,I b.burn.hi,I b.rub.lo,I b.rub.hi,I b.milk.lo,I b.milk.hi,I b.heal,I b.strong.lo,I b.strong.hi]
def camelL (c:Camel):List SV:=[I c.water.lo,I c.water.hi,I c.fat.lo,I c.fat.hi,I c.sore.lo,I c.sore.hi,B c.milks]
def Yr (b:Breed) (c:Camel):List SV:=[I b.full,I b.fed,I b.rest.lo,I b.rest.hi,I b.heat.lo,I b.heat.hi,I b.toil.lo,I b.toil.hi,I b.burn.lo,I b.burn.hi,I b.rub.lo,I b.rub.hi,I b.milk.lo,I b.milk.hi,I b.heal,I b.strong.lo,I b.strong.hi,I c.water.lo,I c.water.hi,I c.fat.lo,I c.fat.hi,I c.sore.lo,I c.sore.hi,B c.milks]
def Y2 (m:March):List SV:=[I m.hours,I m.load,I m.heat.lo,I m.heat.hi,I m.grass.lo,I m.grass.hi,I m.drinks.lo,I m.drinks.hi]
theorem WF {α : Type} (g:α->Bool) (l:List α):decide (Wd g l 0 ≥ 0)=l.any g:=ZeC g l 0
theorem Zk2 (h:Nat) (caps:List SV) (hk:KFL caps) (g:Int->Bool) (l:List Int) (hg:∀ x ∈ l,Ct Tryz.prog h (I x :: caps) (B (g x))) (hl:l.length < 4611686018427387904) {c:Bool} :
 Ct Tryz.prog 141 [.sl c 1 (l.map Zo),.cl h caps] (I (Wd g l 0)):=by
 refine t141.1 ⟨by simp [KF,Za,KFL,Zo],hk,trivial⟩ (by simp [KF]) ?_
 dsimp only [c141,r141,go_sem,rA,rM,rS]
 refine Xf (fun k:Nat=>[(8,I k)]) (fun _=>[]) (fun k=>k<=l.length/\Wd g (l.drop k) k=Wd g l 0) (fun k=>l.length - k) 0 ⟨Nat.zero_le _,rfl⟩ ?_ ?_
 . (refine Zl ?_ ?_ ?_ rfl rfl<;>dsimp only [Zo,hk,id,go_sem,rA,rM,rS]<;>simp [Zo,hk,Za,Zf,KFR,KFL,KF,Zc,mtO,nbr])
 . intro k ⟨hk',hi⟩
   dsimp only [go_sem,rA,rM,rS]
   refine br ?_ ?_
   . intro hlt
     have hlt:k < l.length:=by simpa using hlt
     dsimp only [go_sem,rA,rM,rS]
     refine Zp k hlt rfl ?_
     dsimp only [Zo,go_sem,rA,rM,rS]
     refine call (hg l[k] (List.getElem_mem _)) ?_
     dsimp only [go_sem,rA,rM,rS]
     refine br ?_ ?_
     . intro hgx
       dsimp only [go_sem,rA,rM,rS]
       rw [<- hi,List.drop_eq_getElem_cons hlt]
       simp [Wd,hgx]
     . intro hgx
       dsimp only [go_sem,rA,rM,rS]
       refine ⟨k+1,⟨by omega,?_⟩,by omega,?_⟩
       . rw [<- hi,List.drop_eq_getElem_cons hlt];simp [Wd,hgx]
       . rw [Zi (by omega) (by omega)]
         (refine Zl ?_ ?_ ?_ rfl rfl<;>dsimp only [Zo,hk,id,go_sem,rA,rM,rS]<;>simp [Zo,hk,Za,Zf,KFR,KFL,KF,Zc,mtO,nbr])
   . intro hlt
     have hlt:k=l.length:=by simp at hlt;omega
     dsimp only [go_sem,rA,rM,rS]
     rw [<- hi,hlt];simp [Wd]
theorem con91 (h:Nat) (caps:List SV) (hk:KFL caps) (g:Int->Bool) (l:List Int) (hg:∀ x ∈ l,Ct Tryz.prog h (I x :: caps) (B (g x))) (hl:l.length < 4611686018427387904) {c:Bool} :
 Ct Tryz.prog 98 [.sl c 1 (l.map Zo),.cl h caps] (B (l.any g)):=by
 refine t98.1 ⟨by simp [KF,Za,KFL,Zo],hk,trivial⟩ (by simp [KF]) ?_
 dsimp only [c98,r98,go_sem,rA,rM,rS]
 refine call (Zk2 h caps hk g l hg hl) ?_
 dsimp only [go_sem,rA,rM,rS]
 rw [WF]
theorem Zwv (h:Nat) (caps:List SV) (hk:KFL caps) (g:Span->Bool) (l:List Span) (hg:∀ x ∈ l,Ct Tryz.prog h (.agg (Zd x) :: caps) (B (g x))) (hl:l.length < 4611686018427387904) {c:Bool} :
 Ct Tryz.prog 143 [.sl c 2 (l.map Zd),.cl h caps] (I (Wd g l 0)):=by
 refine t143.1 ⟨by simp [KF,Za,KFL,Zd],hk,trivial⟩ (by simp [KF]) ?_
 dsimp only [c143,r143,go_sem,rA,rM,rS]
 refine Xf (fun k:Nat=>[(8,I k)]) (fun _=>[]) (fun k=>k<=l.length/\Wd g (l.drop k) k=Wd g l 0) (fun k=>l.length - k) 0 ⟨Nat.zero_le _,rfl⟩ ?_ ?_
 . (refine Zl ?_ ?_ ?_ rfl rfl<;>dsimp only [Zd,hk,id,go_sem,rA,rM,rS]<;>simp [Zd,hk,Za,Zf,KFR,KFL,KF,Zc,mtO,nbr])
 . intro k ⟨hk',hi⟩
   dsimp only [go_sem,rA,rM,rS]
   refine br ?_ ?_
   . intro hlt
     have hlt:k < l.length:=by simpa using hlt
     dsimp only [go_sem,rA,rM,rS]
     refine Zp k hlt rfl ?_
     dsimp only [Zd,go_sem,rA,rM,rS]
     refine call (hg l[k] (List.getElem_mem _)) ?_
     dsimp only [go_sem,rA,rM,rS]
     refine br ?_ ?_
     . intro hgx
       dsimp only [go_sem,rA,rM,rS]
       rw [<- hi,List.drop_eq_getElem_cons hlt]
       simp [Wd,hgx]
     . intro hgx
       dsimp only [go_sem,rA,rM,rS]
       refine ⟨k+1,⟨by omega,?_⟩,by omega,?_⟩
       . rw [<- hi,List.drop_eq_getElem_cons hlt];simp [Wd,hgx]
       . rw [Zi (by omega) (by omega)]
         (refine Zl ?_ ?_ ?_ rfl rfl<;>dsimp only [Zd,hk,id,go_sem,rA,rM,rS]<;>simp [Zd,hk,Za,Zf,KFR,KFL,KF,Zc,mtO,nbr])
   . intro hlt
     have hlt:k=l.length:=by simp at hlt;omega
     dsimp only [go_sem,rA,rM,rS]
     rw [<- hi,hlt];simp [Wd]
theorem con93 (h:Nat) (caps:List SV) (hk:KFL caps) (g:Span->Bool) (l:List Span) (hg:∀ x ∈ l,Ct Tryz.prog h (.agg (Zd x) :: caps) (B (g x))) (hl:l.length < 4611686018427387904) {c:Bool} :
 Ct Tryz.prog 102 [.sl c 2 (l.map Zd),.cl h caps] (B (l.any g)):=by
 refine t102.1 ⟨by simp [KF,Za,KFL,Zd],hk,trivial⟩ (by simp [KF]) ?_
 dsimp only [c102,r102,go_sem,rA,rM,rS]
 refine call (Zwv h caps hk g l hg hl) ?_
 dsimp only [go_sem,rA,rM,rS]
 rw [WF]
theorem XS (n lo hi:Int):Ct Tryz.prog 165 [I n,I lo,I hi] (B (inR lo hi n)):=by
 refine t165.1 (by simp [KFL,KF]) (by simp [KFL,KF]) ?_
 dsimp only [c165,r165,go_sem,rA,rM,rS]
 refine gb ?_;dsimp only [go_sem,rA,rM,rS]
 refine gb ?_;dsimp only [go_sem,rA,rM,rS]
 refine gb ?_;dsimp only [go_sem,rA,rM,rS]
 simp [inR]
theorem ZP (s:Span) (lo hi:Int):Ct Tryz.prog 166 [.agg (Zd s),I lo,I hi] (B (Z9 lo hi s)):=by
 refine t166.1 (by simp [Zd,KFL,KF]) (by simp [KFL,KF]) ?_
 dsimp only [c166,r166,Zd,go_sem,rA,rM,rS]
 refine call (XS _ _ _) ?_
 dsimp only [go_sem,rA,rM,rS]
 repeat (refine gb ?_;dsimp only [go_sem,rA,rM,rS])
 (simp only [Z9,inR,Option.some.injEq,SV.v.injEq,Value.bool.injEq]<;>grind)
theorem Zcy (lo hi x:Int):Ct Tryz.prog 160 [I x,.ps [I lo] 0,.ps [I hi] 0] (B (!inR lo hi x)):=by
 refine t160.1 (by simp [KFL,KF]) (by simp [KFL,KF]) ?_
 dsimp only [c160,r160,go_sem,rA,rM,rS]
 repeat (refine gb ?_;dsimp only [go_sem,rA,rM,rS])
 (simp only [inR,Option.some.injEq,SV.v.injEq,Value.bool.injEq]<;>grind)
theorem V8 (lo hi:Int) (l:List Int) (hl:l.length < 4611686018427387904) (c:Bool):Ct Tryz.prog 125 [I lo,I hi,.sl c 1 (l.map Zo)] (B (l.all (inR lo hi))):=by
 refine t125.1 (by simp [Za,Zo,KFL,KF]) (by simp [KFL,KF]) ?_
 dsimp only [c125,r125,go_sem,rA,rM,rS]
 refine Zdm (by simp [FLT]) (res:=B (l.any fun x=>!inR lo hi x)) ?_ ?_
 . dsimp only [go_sem,rA,rM,rS]
   exact con91 160 [.ps [I lo] 0,.ps [I hi] 0] (by simp [KFL,KF]) (fun x=>!inR lo hi x) l (fun x _=>Zcy lo hi x) hl
 . dsimp only [go_sem,rA,rM,rS]
   simp [List.all_eq_not_any_not]
theorem UU (lo hi a:Int) (c:Bool):Ct Tryz.prog 125 [I lo,I hi,.sl c 1 [[I a]]] (B (inR lo hi a)):=by
 have:=V8 lo hi [a] (by simp) c
 simpa [Zo] using this
theorem Zd1 (lo hi a b:Int) (c:Bool):Ct Tryz.prog 125 [I lo,I hi,.sl c 1 [[I a],[I b]]] (B (inR lo hi a && inR lo hi b)):=by
 have:=V8 lo hi [a,b] (by simp) c
 simpa [Zo] using this
theorem VR (lo hi:Int) (s:Span):Ct Tryz.prog 142 [.agg (Zd s),.ps [I lo] 0,.ps [I hi] 0] (B (!Z9 lo hi s)):=by
 refine t142.1 (by simp [Zd,KFL,KF]) (by simp [KFL,KF]) ?_
 dsimp only [c142,r142,Zd,go_sem,rA,rM,rS]
 repeat (first | (refine gb ?_;dsimp only [go_sem,rA,rM,rS]) | (refine call (Zd1 _ _ _ _ _) ?_;dsimp only [go_sem,rA,rM,rS]))
 (simp only [Z9,inR,Option.some.injEq,SV.v.injEq,Value.bool.injEq]<;>grind)
theorem Xm (lo hi:Int) (l:List Span) (hl:l.length < 4611686018427387904) (c:Bool):Ct Tryz.prog 101 [I lo,I hi,.sl c 2 (l.map Zd)] (B (l.all (Z9 lo hi))):=by
 refine t101.1 (by simp [Za,Zd,KFL,KF]) (by simp [KFL,KF]) ?_
 dsimp only [c101,r101,go_sem,rA,rM,rS]
 refine Zdm (by simp [FLT]) (res:=B (l.any fun x=>!Z9 lo hi x)) ?_ ?_
 . dsimp only [go_sem,rA,rM,rS]
   exact con93 142 [.ps [I lo] 0,.ps [I hi] 0] (by simp [KFL,KF]) (fun x=>!Z9 lo hi x) l (fun x _=>VR lo hi x) hl
 . dsimp only [go_sem,rA,rM,rS]
   simp [List.all_eq_not_any_not]
theorem Y9 (lo hi:Int) (s:Span) (c:Bool):Ct Tryz.prog 101 [I lo,I hi,.sl c 2 [[I s.lo,I s.hi]]] (B (Z9 lo hi s)):=by
 have:=Xm lo hi [s] (by simp) c
 simpa [Zd] using this
theorem ZcV (lo hi:Int) (s t:Span) (c:Bool):Ct Tryz.prog 101 [I lo,I hi,.sl c 2 [[I s.lo,I s.hi],[I t.lo,I t.hi]]] (B (Z9 lo hi s && Z9 lo hi t)):=by
 have:=Xm lo hi [s,t] (by simp) c
 simpa [Zd] using this
theorem ZnW (lo hi:Int) (a b c d e f:Span) (k:Bool):Ct Tryz.prog 101 [I lo,I hi,.sl k 2 [[I a.lo,I a.hi],[I b.lo,I b.hi],[I c.lo,I c.hi],[I d.lo,I d.hi],[I e.lo,I e.hi],[I f.lo,I f.hi]]]
 (B (Z9 lo hi a && (Z9 lo hi b && (Z9 lo hi c && (Z9 lo hi d && (Z9 lo hi e && Z9 lo hi f)))))):=by
 have:=Xm lo hi [a,b,c,d,e,f] (by simp) k
 simpa [Zd] using this
theorem ZcO (b:Breed):Ct Tryz.prog 100 [.agg (breedL b)] (I (Zwa b)):=by
 refine t100.1 (by simp [breedL,KFL,KF]) (by simp [KFL,KF]) ?_
 dsimp only [c100,r100,breedL,go_sem,rA,rM,rS]
 repeat (first | (refine gb ?_;dsimp only [go_sem,rA,rM,rS]) | (refine call (UU _ _ _ _) ?_;dsimp only [go_sem,rA,rM,rS]) | (refine call (Zd1 _ _ _ _ _) ?_;dsimp only [go_sem,rA,rM,rS]) | (refine call (ZnW _ _ b.rest b.heat b.toil b.burn b.rub b.milk _) ?_;dsimp only [go_sem,rA,rM,rS]) | (refine call (Y9 _ _ b.strong _) ?_;dsimp only [go_sem,rA,rM,rS]))
 refine br ?_ ?_
 . intro h
   dsimp only [go_sem,rA,rM,rS]
   have:ZC b=false:=by simp only [ZC];grind
   simp [Zwa,this]
 . intro h
   dsimp only [go_sem,rA,rM,rS]
   have:ZC b=true:=by simp only [ZC];grind
   simp [Zwa,this]
theorem ZkM (b:Breed):Ct Tryz.prog 138 [.agg (breedL b)] (B (ZC b)):=by
 refine t138.1 (by simp [breedL,KFL,KF]) (by simp [KFL,KF]) ?_
 dsimp only [c138,r138,breedL,go_sem,rA,rM,rS]
 repeat (first | (refine gb ?_;dsimp only [go_sem,rA,rM,rS]) | (refine call (XS _ _ _) ?_;dsimp only [go_sem,rA,rM,rS]) | (refine call (ZP b.strong _ _) ?_;dsimp only [go_sem,rA,rM,rS]))
 refine br ?_ ?_
 . intro h
   dsimp only [go_sem,rA,rM,rS]
   have:ZC b=false:=by simp only [ZC];grind
   simp [this]
 . intro h
   dsimp only [go_sem,rA,rM,rS]
   repeat (first | (refine gb ?_;dsimp only [go_sem,rA,rM,rS]) | (refine call (ZP b.rest _ _) ?_;dsimp only [go_sem,rA,rM,rS]) | (refine call (ZP b.heat _ _) ?_;dsimp only [go_sem,rA,rM,rS]) | (refine call (ZP b.toil _ _) ?_;dsimp only [go_sem,rA,rM,rS]) | (refine call (ZP b.burn _ _) ?_;dsimp only [go_sem,rA,rM,rS]) | (refine call (ZP b.rub _ _) ?_;dsimp only [go_sem,rA,rM,rS]) | (refine call (ZP b.milk _ _) ?_;dsimp only [go_sem,rA,rM,rS]))
   (simp only [ZC,Option.some.injEq,SV.v.injEq,Value.bool.injEq]<;>grind)
theorem checkCamel_ok (b:Breed) (c:Camel):Ct Tryz.prog 54 [.agg (breedL b),.agg (camelL c)] (I (Zaa b c)):=by
 refine t54.1 (by simp [breedL,camelL,KFL,KF]) (by simp [KFL,KF]) ?_
 dsimp only [c54,r54,breedL,camelL,go_sem,rA,rM,rS]
 refine call (ZcO b) ?_
 dsimp only [go_sem,rA,rM,rS]
 by_cases hb:ZC b=true
 case neg =>
  refine Zu (by simp [Zwa,hb]) ?_
  dsimp only [go_sem,rA,rM,rS]
  simp [Zwa,Zaa,hb]
 refine Zv (by simp [Zwa,hb]) ?_
 dsimp only [go_sem,rA,rM,rS]
 repeat (first | (refine gb ?_;dsimp only [go_sem,rA,rM,rS]) | (refine call (Y9 _ _ c.water _) ?_;dsimp only [go_sem,rA,rM,rS]) | (refine call (Y9 _ _ c.fat _) ?_;dsimp only [go_sem,rA,rM,rS]) | (refine call (Y9 _ _ c.sore _) ?_;dsimp only [go_sem,rA,rM,rS]))
 refine br ?_ ?_
 . intro h
   dsimp only [go_sem,rA,rM,rS]
   have:Zx b c=false:=by simp only [Zx];grind
   simp [Zaa,this,hb]
 . intro h
   dsimp only [go_sem,rA,rM,rS]
   have:Zx b c=true:=by simp only [Zx];grind
   simp [Zaa,this,hb]
theorem Zkq (b:Breed) (c:Camel):Ct Tryz.prog 139 [.agg (breedL b),.agg (camelL c)] (B (Zx b c)):=by
 refine t139.1 (by simp [breedL,camelL,KFL,KF]) (by simp [KFL,KF]) ?_
 dsimp only [c139,r139,breedL,camelL,go_sem,rA,rM,rS]
 repeat (first | (refine gb ?_;dsimp only [go_sem,rA,rM,rS]) | (refine call (ZP c.water _ _) ?_;dsimp only [go_sem,rA,rM,rS]) | (refine call (ZP c.fat _ _) ?_;dsimp only [go_sem,rA,rM,rS]) | (refine call (ZP c.sore _ _) ?_;dsimp only [go_sem,rA,rM,rS]))
 (simp only [Zx,Option.some.injEq,SV.v.injEq,Value.bool.injEq]<;>grind)
theorem checkCamelR_ok (b:Breed) (c:Camel):Ct Tryz.prog 95 [.agg (breedL b),.agg (camelL c)] (I (Zaa b c)):=by
 refine t95.1 (by simp [breedL,camelL,KFL,KF]) (by simp [KFL,KF]) ?_
 dsimp only [c95,r95,breedL,camelL,go_sem,rA,rM,rS]
 refine call (ZkM b) ?_
 dsimp only [go_sem,rA,rM,rS]
 by_cases hb:ZC b=true
 case neg =>
  refine Zu (by simp [hb]) ?_
  dsimp only [go_sem,rA,rM,rS]
  simp [Zaa,hb]
 refine Zv (by simp [hb]) ?_
 dsimp only [go_sem,rA,rM,rS]
 refine call (Zkq b c) ?_
 dsimp only [go_sem,rA,rM,rS]
 refine br ?_ ?_
 . intro h
   dsimp only [go_sem,rA,rM,rS]
   have:Zx b c=false:=by simpa using h
   simp [Zaa,this,hb]
 . intro h
   dsimp only [go_sem,rA,rM,rS]
   have:Zx b c=true:=by simpa using h
   simp [Zaa,this,hb]
theorem Zd5 (l:List March) (hl:l.length < 4611686018427387904) (c:Bool):Ct Tryz.prog 83 [.sl c 8 (l.map Y2)] (I (if l.all Yf=true then 0 else 12)):=by
 refine t83.1 (by simp [Y2,Za,KFL,KF]) (by simp [KFL,KF]) ?_
 dsimp only [c83,r83,go_sem,rA,rM,rS]
 refine Xf (fun k:Nat=>[(7,I k)]) (fun _=>[]) (fun k=>k<=l.length/\(l.drop k).all Yf=l.all Yf) (fun k=>l.length - k) 0 ⟨Nat.zero_le _,rfl⟩ ?_ ?_
 . (refine Zl ?_ ?_ ?_ rfl rfl<;>dsimp only [Y2,id,go_sem,rA,rM,rS]<;>simp [Y2,Za,Zf,KFR,KFL,KF,Zc,mtO,nbr])
 intro k ⟨hk,hi⟩
 dsimp only [go_sem,rA,rM,rS]
 by_cases hlt:k < l.length
 . refine Zu (by simpa using hlt) ?_
   dsimp only [go_sem,rA,rM,rS]
   refine Zp k hlt rfl ?_
   dsimp only [Y2,go_sem,rA,rM,rS]
   repeat (first | (refine gb ?_;dsimp only [go_sem,rA,rM,rS]) | (refine call (UU _ _ _ _) ?_;dsimp only [go_sem,rA,rM,rS]) | (refine call (Y9 _ _ l[k].heat _) ?_;dsimp only [go_sem,rA,rM,rS]) | (refine call (ZcV _ _ l[k].grass l[k].drinks _) ?_;dsimp only [go_sem,rA,rM,rS]))
   rw [List.drop_eq_getElem_cons hlt,List.all_cons] at hi
   refine br ?_ ?_
   . intro h
     dsimp only [go_sem,rA,rM,rS]
     have:Yf l[k]=false:=by simp only [Yf];grind
     rw [<- hi,this];rfl
   . intro h
     dsimp only [go_sem,rA,rM,rS]
     have:Yf l[k]=true:=by simp only [Yf];grind
     rw [this,Bool.true_and] at hi
     rw [Zi (n:=(k:Int)+1) (by omega) (by omega)]
     refine ⟨k+1,⟨hlt,hi⟩,by omega,?_⟩
     (refine Zl ?_ ?_ ?_ rfl rfl<;>dsimp only [Y2,id,go_sem,rA,rM,rS]<;>simp [Y2,Za,Zf,KFR,KFL,KF,Zc,mtO,nbr])
 . refine Zv (by simp;omega) ?_
   dsimp only [go_sem,rA,rM,rS]
   have hke:k=l.length:=by omega
   subst hke
   rw [List.drop_length] at hi
   rw [<- hi];rfl
theorem ZjB (m:March) (c:Bool):Ct Tryz.prog 83 [.sl c 8 [Y2 m]] (I (if Yf m=true then 0 else 12)):=by
 have:=Zd5 [m] (by simp) c
 simpa using this
end Go.Proofs.YtiigiflofnjilaaGreat.Cm
