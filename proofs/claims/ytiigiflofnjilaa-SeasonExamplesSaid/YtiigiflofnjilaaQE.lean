/- Walks and plain laws that lead to the given statement, part 5 of 8. -/
import Derived.Test.YtiigiflofnjilaaQD
import Derived.Test.YtiigiflofnjilaaProg
set_option maxRecDepth 100000
set_option maxHeartbeats 4000000
set_option linter.all false
open Nat renaming reduceAdd->rA,reduceMul->rM,reduceSub->rS,beq_refl->nbr
namespace Go.Sx
def m1 (d t:Nat):Ins:=⟨some d,.mv (.t t),none,[]⟩
def o1 (d:Nat) (i:SI):Ins:=⟨some d,i,none,[]⟩
attribute [go_sem] m1 o1
open Go
structure Qt1 (P:Program) (f:FuncId) (c:SC) (r:List RV) (N:Nat):Prop where
 h:∀ {args:List SV} {res:SV},KFL args->KF res->sx P Y0 0 c (st0 args N) (Zw7 r res)->(hA:Nat.ble args.length N=true:=by rfl)->Ct P f args res
theorem Yn {P:Program} {f:FuncId} {fn:Func} {c:SC} {r:List RV} {N:Nat} (hf:P.funcs[f]?=some fn) (hd:fn.body.isSome=true) (hb:YE P f=true) (hc:Xt P c (fn.body.getD .skip)=true) (hr:X8 P r fn.results.toList=true) (hN:fn.ntmps=N):Qt1 P f c r N:=⟨fun {args res} ka kr h hA=>by
 cases hq:fn.body with
 | none=>rw [hq] at hd;cases hd
 | some code=>rw [hq] at hc;exact Zm8 hf hq hb hc hr hN (Nat.le_of_ble_eq_true hA) ka kr h⟩
def zv0:List Value:=[.slice none 0 0,.slice none 0 0,.int .i64 0,.int .i64 0,.int .i64 0,.int .i64 0,.int .i64 0,.int .i64 0,.int .i64 0,.int .i64 0,.int .i64 0,.int .i64 0,.int .i64 0,.int .i64 0,.int .i64 0,.int .i64 0,.int .i64 0,.int .i64 0,.int .i64 0,.int .i64 0,.int .i64 0,.int .i64 0,.int .i64 0,.int .i64 0,.int .i64 0,.int .i64 0,.int .i64 0,.bool false,.int .i64 0,.int .i64 0,.int .i64 0,.int .i64 0,.int .i64 0,.int .i64 0,.int .i64 0,.int .i64 0,.slice none 0 0]
def zv1:List Value:=[.slice none 0 0,.slice none 0 0,.int .i64 0,.int .i64 0,.int .i64 0,.int .i64 0,.int .i64 0,.int .i64 0,.int .i64 0,.int .i64 0,.int .i64 0,.int .i64 0,.int .i64 0,.int .i64 0,.int .i64 0,.int .i64 0,.int .i64 0,.int .i64 0,.int .i64 0,.int .i64 0,.int .i64 0,.int .i64 0,.int .i64 0,.int .i64 0,.int .i64 0,.int .i64 0,.int .i64 0,.bool false,.int .i64 0,.int .i64 0,.int .i64 0,.int .i64 0,.int .i64 0,.int .i64 0,.int .i64 0,.int .i64 0,.slice none 0 0,.int .i64 0]
def zv2:List Value:=[.int .i64 0,.int .i64 0,.int .i64 0,.int .i64 0,.int .i64 0,.int .i64 0,.int .i64 0,.int .i64 0,.int .i64 0,.int .i64 0,.int .i64 0,.int .i64 0,.int .i64 0,.int .i64 0,.int .i64 0,.int .i64 0,.int .i64 0,.int .i64 0,.int .i64 0,.int .i64 0,.int .i64 0,.int .i64 0,.int .i64 0,.bool false]
def zv3:List Value:=[.int .i64 0,.int .i64 0,.int .i64 0,.int .i64 0,.int .i64 0,.int .i64 0,.bool false]
def zv4:List Value:=[.int .i64 0,.int .i64 0,.int .i64 0,.int .i64 0,.int .i64 0,.int .i64 0,.int .i64 0,.int .i64 0,.int .i64 0]
def zv5:List Value:=[.int .i64 0,.int .i64 0,.int .i64 0,.int .i64 0,.slice none 0 0,.slice none 0 0]
def zv6:List Value:=[.int .i64 0,.int .i64 0,.int .i64 0,.int .i64 0,.int .i64 0,.int .i64 0]
def zv7:List Value:=[.int .i64 0,.int .i64 0,.int .i64 0,.int .i64 0,.int .i64 0,.int .i64 0,.int .i64 0,.int .i64 0]
def zv8:List Value:=[.int .i64 0,.int .i64 0,.int .i64 0,.int .i64 0,.slice none 0 0]
attribute [go_sem] zv0 zv1 zv2 zv3 zv4 zv5 zv6 zv7 zv8
end Go.Sx
namespace Go.Proofs.Ytiigiflofnjilaa
open Go Go.Sx
def c12:SC:=(.seq (.reg [
 o1 1 (.box (.t 0) 0 38),
 o1 2 (.mv (.c (.int .i64 0)))])
 (.seq (.reg [
 o1 9 (.addo (.t 1) 0),
 o1 10 (.addo (.t 9) 0),
 o1 11 (.ld (.t 10) 1 false),
 o1 12 (.len (.t 11)),
 m1 3 12])
 (.seq (.reg [
 o1 14 (.addo (.t 1) 0),
 o1 15 (.ld (.t 14) 2 true),
 o1 16 (.addo (.t 1) 33),
 o1 17 (.ld (.t 16) 1 false),
 o1 18 (.addo (.t 1) 34),
 o1 19 (.ld (.t 18) 1 false),
 o1 20 (.addo (.t 1) 2),
 o1 21 (.ld (.t 20) 2 true),
 o1 22 (.call 26 [.t 15,.t 17,.t 19,.t 21]),
 m1 13 22,
 o1 23 (.ext (.t 13) 0),
 o1 24 (.ext (.t 13) 1),
 m1 4 23,
 m1 5 24])
 (.seq (.reg [
 o1 25 (.addo (.t 1) 28),
 o1 26 (.ld (.t 25) 1 false),
 o1 27 (.bsl 1 3 [.t 26]),
 o1 28 (.call 21 [.c (.int .i64 1),.c (.int .i64 30),.t 27]),
 m1 29 28,
 ⟨some 30,.addo (.t 1) 29,some (29,true),[]⟩,
 ⟨some 31,.ld (.t 30) 1 false,some (29,true),[]⟩,
 ⟨some 32,.bsl 1 3 [.t 31],some (29,true),[]⟩,
 ⟨some 33,.call 21 [.c (.int .i64 1),.c (.int .i64 24),.t 32],some (29,true),[]⟩,
 o1 34 (.pick (.t 29) (.t 33) (.c (.bool false))),
 m1 35 34,
 ⟨some 36,.addo (.t 1) 30,some (35,true),[]⟩,
 ⟨some 37,.ld (.t 36) 1 false,some (35,true),[]⟩,
 ⟨some 38,.bsl 1 3 [.t 37],some (35,true),[]⟩,
 ⟨some 39,.call 21 [.c (.int .i64 1),.c (.int .i64 1000000),.t 38],some (35,true),[]⟩,
 o1 40 (.pick (.t 35) (.t 39) (.c (.bool false))),
 m1 41 40,
 ⟨some 42,.addo (.t 1) 31,some (41,true),[]⟩,
 ⟨some 43,.ld (.t 42) 1 false,some (41,true),[]⟩,
 ⟨some 44,.addo (.t 1) 32,some (41,true),[]⟩,
 ⟨some 45,.ld (.t 44) 1 false,some (41,true),[]⟩,
 ⟨some 46,.bsl 1 3 [.t 43,.t 45],some (41,true),[]⟩,
 ⟨some 47,.call 21 [.c (.int .i64 0),.c (.int .i64 1000000),.t 46],some (41,true),[]⟩,
 o1 48 (.pick (.t 41) (.t 47) (.c (.bool false))),
 m1 49 48,
 ⟨some 50,.addo (.t 1) 35,some (49,true),[]⟩,
 ⟨some 51,.ld (.t 50) 1 false,some (49,true),[]⟩,
 ⟨some 52,.addo (.t 1) 34,some (49,true),[]⟩,
 ⟨some 53,.ld (.t 52) 1 false,some (49,true),[]⟩,
 ⟨some 54,.bsl 1 3 [.t 53],some (49,true),[]⟩,
 ⟨some 55,.call 21 [.c (.int .i64 0),.t 51,.t 54],some (49,true),[]⟩,
 o1 56 (.pick (.t 49) (.t 55) (.c (.bool false))),
 m1 57 56,
 ⟨some 58,.addo (.t 1) 35,some (57,true),[]⟩,
 ⟨some 59,.ld (.t 58) 1 false,some (57,true),[]⟩,
 ⟨some 60,.bin .leq (.t 59) (.c (.int .i64 100000)),some (57,true),[]⟩,
 o1 61 (.pick (.t 57) (.t 60) (.c (.bool false))),
 m1 6 61])
 (.seq (.seq (.reg [
 m1 62 5,
 o1 63 (.bin .neq (.t 62) (.c (.int .i64 0))),
 m1 64 63,
 ⟨some 65,.addo (.t 1) 4,some (64,false),[]⟩,
 ⟨some 66,.ld (.t 65) 17 true,some (64,false),[]⟩,
 ⟨some 67,.addo (.t 1) 21,some (64,false),[]⟩,
 ⟨some 68,.ld (.t 67) 7 true,some (64,false),[]⟩,
 ⟨some 69,.call 27 [.t 66,.t 68],some (64,false),[]⟩,
 ⟨some 70,.bin .neq (.t 69) (.c (.int .i64 0)),some (64,false),[]⟩,
 o1 71 (.pick (.t 64) (.c (.bool true)) (.t 70)),
 m1 72 71,
 ⟨some 73,.mv (.t 6),some (72,false),[]⟩,
 ⟨some 74,.un .not (.t 73),some (72,false),[]⟩,
 o1 75 (.pick (.t 72) (.c (.bool true)) (.t 74)),
 m1 76 75,
 ⟨some 77,.addo (.t 1) 36,some (76,false),[]⟩,
 ⟨some 78,.ld (.t 77) 1 false,some (76,false),[]⟩,
 ⟨some 79,.len (.t 78),some (76,false),[]⟩,
 ⟨some 80,.bsl 1 3 [.t 79],some (76,false),[]⟩,
 ⟨some 81,.call 21 [.c (.int .i64 1),.c (.int .i64 4),.t 80],some (76,false),[]⟩,
 ⟨some 82,.un .not (.t 81),some (76,false),[]⟩,
 o1 83 (.pick (.t 76) (.c (.bool true)) (.t 82))])
 (.cond (.t 83)
 (.seq (.reg [
  o1 2 (.mv (.c (.int .i64 90)))])
  .ret)
 .skip))
 (.seq (.seq (.reg [
 o1 84 (.addo (.t 1) 36),
 o1 85 (.ld (.t 84) 1 false),
 o1 86 (.len (.t 85)),
 o1 87 (.mv (.c (.int .i64 0)))])
 (.block 0 (.loop (.seq (.reg [
  o1 88 (.bin .lss (.t 87) (.t 86))])
  (.seq (.cond (.t 88)
  .skip
  (.exit 0))
  (.seq (.block 1 (.seq (.reg [
   o1 89 (.ixs (.t 85) (.t 87) 6),
   o1 90 (.ld (.t 89) 6 true),
   o1 8 (.alloc zv5 75),
   ⟨none,.st (.t 8) (.t 90) 6,none,[]⟩])
   (.seq (.reg [
   o1 91 (.addo (.t 8) 0),
   o1 92 (.ld (.t 91) 2 true),
   o1 93 (.bsl 2 31 [.t 92]),
   o1 94 (.call 28 [.c (.int .i64 0),.c (.int .i64 60),.t 93]),
   o1 95 (.un .not (.t 94)),
   m1 96 95,
   ⟨some 97,.addo (.t 8) 2,some (96,false),[]⟩,
   ⟨some 98,.ld (.t 97) 2 true,some (96,false),[]⟩,
   ⟨some 99,.bsl 2 31 [.t 98],some (96,false),[]⟩,
   ⟨some 100,.call 28 [.c (.int .i64 0),.c (.int .i64 1000000),.t 99],some (96,false),[]⟩,
   ⟨some 101,.un .not (.t 100),some (96,false),[]⟩,
   o1 102 (.pick (.t 96) (.c (.bool true)) (.t 101)),
   m1 103 102,
   ⟨some 104,.addo (.t 8) 4,some (103,false),[]⟩,
   ⟨some 105,.ld (.t 104) 1 false,some (103,false),[]⟩,
   ⟨some 106,.len (.t 105),some (103,false),[]⟩,
   ⟨some 107,.mv (.t 3),some (103,false),[]⟩,
   ⟨some 108,.bin .neq (.t 106) (.t 107),some (103,false),[]⟩,
   o1 109 (.pick (.t 103) (.c (.bool true)) (.t 108)),
   m1 110 109,
   ⟨some 111,.addo (.t 8) 4,some (110,false),[]⟩,
   ⟨some 112,.ld (.t 111) 1 false,some (110,false),[]⟩,
   ⟨some 113,.call 28 [.c (.int .i64 0),.c (.int .i64 10000000),.t 112],some (110,false),[]⟩,
   ⟨some 114,.un .not (.t 113),some (110,false),[]⟩,
   o1 115 (.pick (.t 110) (.c (.bool true)) (.t 114)),
   m1 116 115,
   ⟨some 117,.addo (.t 8) 5,some (116,false),[]⟩,
   ⟨some 118,.ld (.t 117) 1 false,some (116,false),[]⟩,
   ⟨some 119,.len (.t 118),some (116,false),[]⟩,
   ⟨some 120,.mv (.t 3),some (116,false),[]⟩,
   ⟨some 121,.bin .neq (.t 119) (.t 120),some (116,false),[]⟩,
   o1 122 (.pick (.t 116) (.c (.bool true)) (.t 121)),
   m1 123 122,
   ⟨some 124,.addo (.t 8) 5,some (123,false),[]⟩,
   ⟨some 125,.ld (.t 124) 1 false,some (123,false),[]⟩,
   ⟨some 126,.call 21 [.c (.int .i64 0),.c (.int .i64 1000000),.t 125],some (123,false),[]⟩,
   ⟨some 127,.un .not (.t 126),some (123,false),[]⟩,
   o1 128 (.pick (.t 123) (.c (.bool true)) (.t 127))])
   (.cond (.t 128)
   (.seq (.reg [
    o1 2 (.mv (.c (.int .i64 90)))])
    .ret)
   .skip))))
  (.reg [
  o1 129 (.bin .add (.t 87) (.c (.int .i64 1))),
  m1 87 129])))))))
 (.seq (.reg [
 o1 2 (.mv (.c (.int .i64 0)))])
 .ret)))))))
def r12:List RV:=[.tmp 2]
theorem t12:Qt1 Try.prog 12 c12 r12 130:=Yn Try.func12 rfl (by kernel_rfl) (by kernel_rfl) (by kernel_rfl) (by kernel_rfl)
def c15:SC:=(.seq (.reg [
 o1 2 (.box (.t 0) 0 42),
 o1 3 (.box (.t 1) 0 42),
 o1 4 (.mv (.c (.bool false)))])
 (.seq (.reg [
 o1 5 (.addo (.t 2) 1),
 o1 6 (.ld (.t 5) 1 false),
 o1 7 (.addo (.t 3) 1),
 o1 8 (.ld (.t 7) 1 false),
 o1 9 (.bin .eql (.t 6) (.t 8)),
 m1 10 9,
 ⟨some 11,.addo (.t 2) 2,some (10,true),[]⟩,
 ⟨some 12,.ld (.t 11) 1 false,some (10,true),[]⟩,
 ⟨some 13,.addo (.t 3) 2,some (10,true),[]⟩,
 ⟨some 14,.ld (.t 13) 1 false,some (10,true),[]⟩,
 ⟨some 15,.bin .eql (.t 12) (.t 14),some (10,true),[]⟩,
 o1 16 (.pick (.t 10) (.t 15) (.c (.bool false))),
 m1 17 16,
 ⟨some 18,.addo (.t 2) 0,some (17,true),[]⟩,
 ⟨some 19,.ld (.t 18) 1 false,some (17,true),[]⟩,
 ⟨some 20,.addo (.t 3) 0,some (17,true),[]⟩,
 ⟨some 21,.ld (.t 20) 1 false,some (17,true),[]⟩,
 ⟨some 22,.call 30 [.t 19,.t 21],some (17,true),[]⟩,
 o1 23 (.pick (.t 17) (.t 22) (.c (.bool false))),
 m1 4 23])
 .ret))
def r15:List RV:=[.tmp 4]
theorem t15:Qt1 Try.prog 15 c15 r15 24:=Yn Try.func15 rfl (by kernel_rfl) (by kernel_rfl) (by kernel_rfl) (by kernel_rfl)
def c16:SC:=(.seq (.reg [
 o1 2 (.box (.t 0) 0 38),
 o1 3 (.box (.t 1) 0 42),
 o1 4 (.mv (.c (.int .i64 0)))])
 (.seq (.seq (.reg [
 o1 8 (.ld (.t 2) 37 true),
 o1 9 (.call 12 [.t 8]),
 m1 5 9])
 (.seq (.reg [
 m1 10 5,
 o1 11 (.bin .neq (.t 10) (.c (.int .i64 0)))])
 (.cond (.t 11)
 (.seq (.reg [
  m1 12 5,
  m1 4 12])
  .ret)
 .skip)))
 (.seq (.seq (.reg [
 o1 14 (.ld (.t 2) 37 true),
 o1 15 (.addo (.t 3) 0),
 o1 16 (.ld (.t 15) 1 false),
 o1 17 (.call 19 [.t 14,.t 16]),
 m1 13 17,
 o1 18 (.ext (.t 13) 0),
 o1 19 (.ext (.t 13) 1),
 m1 6 18,
 m1 7 19])
 (.seq (.reg [
 m1 20 7,
 o1 21 (.un .not (.t 20)),
 m1 22 21,
 ⟨some 23,.addo (.t 2) 28,some (22,false),[]⟩,
 ⟨some 24,.ld (.t 23) 1 false,some (22,false),[]⟩,
 ⟨some 25,.addo (.t 3) 1,some (22,false),[]⟩,
 ⟨some 26,.ld (.t 25) 1 false,some (22,false),[]⟩,
 ⟨some 27,.bsl 1 3 [.t 26],some (22,false),[]⟩,
 ⟨some 28,.call 21 [.c (.int .i64 0),.t 24,.t 27],some (22,false),[]⟩,
 ⟨some 29,.un .not (.t 28),some (22,false),[]⟩,
 o1 30 (.pick (.t 22) (.c (.bool true)) (.t 29)),
 m1 31 30,
 ⟨some 32,.addo (.t 3) 2,some (31,false),[]⟩,
 ⟨some 33,.ld (.t 32) 1 false,some (31,false),[]⟩,
 ⟨some 34,.bsl 1 3 [.t 33],some (31,false),[]⟩,
 ⟨some 35,.call 21 [.c (.int .i64 0),.c (.int .i64 12),.t 34],some (31,false),[]⟩,
 ⟨some 36,.un .not (.t 35),some (31,false),[]⟩,
 o1 37 (.pick (.t 31) (.c (.bool true)) (.t 36))])
 (.cond (.t 37)
 (.seq (.reg [
  o1 4 (.mv (.c (.int .i64 91)))])
  .ret)
 .skip)))
 (.seq (.reg [
 o1 4 (.mv (.c (.int .i64 0)))])
 .ret))))
def r16:List RV:=[.tmp 4]
theorem t16:Qt1 Try.prog 16 c16 r16 38:=Yn Try.func16 rfl (by kernel_rfl) (by kernel_rfl) (by kernel_rfl) (by kernel_rfl)
def c21:SC:=(.seq (.reg [
 o1 3 (.box (.t 0) 0 3),
 o1 4 (.box (.t 1) 0 3),
 o1 6 (.mv (.c (.bool false)))])
 (.seq (.reg [
 m1 7 2,
 o1 8 (.mkf 36 [.t 3,.t 4]),
 o1 9 (.call 35 [.t 7,.t 8]),
 o1 10 (.un .not (.t 9)),
 m1 6 10])
 .ret))
def r21:List RV:=[.tmp 6]
theorem t21:Qt1 Try.prog 21 c21 r21 11:=Yn Try.func21 rfl (by kernel_rfl) (by kernel_rfl) (by kernel_rfl) (by kernel_rfl)
def c28:SC:=(.seq (.reg [
 o1 3 (.box (.t 0) 0 3),
 o1 4 (.box (.t 1) 0 3),
 o1 6 (.mv (.c (.bool false)))])
 (.seq (.reg [
 m1 7 2,
 o1 8 (.mkf 50 [.t 3,.t 4]),
 o1 9 (.call 49 [.t 7,.t 8]),
 o1 10 (.un .not (.t 9)),
 m1 6 10])
 .ret))
def r28:List RV:=[.tmp 6]
theorem t28:Qt1 Try.prog 28 c28 r28 11:=Yn Try.func28 rfl (by kernel_rfl) (by kernel_rfl) (by kernel_rfl) (by kernel_rfl)
def c19:SC:=(.seq (.reg [
 o1 2 (.box (.t 0) 0 38),
 o1 4 (.mv (.c (.int .i64 0))),
 o1 5 (.mv (.c (.bool false)))])
 (.seq (.reg [
 o1 10 (.raw (Go.Op.makeMap 100 Option.none) 100),
 o1 11 (.addo (.t 2) 33),
 o1 12 (.ld (.t 11) 1 false),
 ⟨none,.raw (Go.Op.insert 100 (Go.Operand.tmp 10) (Go.Operand.tmp 12) (Go.Operand.const (Go.Value.bool Bool.true))) 0,none,[]⟩,
 m1 13 10,
 m1 6 13])
 (.seq (.reg [
 o1 14 (.addo (.t 2) 33),
 o1 15 (.ld (.t 14) 1 false),
 m1 4 15])
 (.seq (.seq (.reg [
 m1 16 1,
 o1 17 (.len (.t 16)),
 o1 18 (.mv (.c (.int .i64 0)))])
 (.block 0 (.loop (.seq (.reg [
  o1 19 (.bin .lss (.t 18) (.t 17))])
  (.seq (.cond (.t 19)
  .skip
  (.exit 0))
  (.seq (.block 1 (.seq (.reg [
   o1 20 (.ixs (.t 16) (.t 18) 1),
   o1 21 (.ld (.t 20) 1 false),
   m1 8 21])
   (.seq (.seq (.reg [
   o1 22 (.addo (.t 2) 0),
   o1 23 (.addo (.t 22) 1),
   o1 24 (.ld (.t 23) 1 false),
   o1 25 (.len (.t 24)),
   o1 26 (.bin .sub (.t 25) (.c (.int .i64 1))),
   m1 27 8,
   o1 28 (.bsl 1 3 [.t 27]),
   o1 29 (.call 21 [.c (.int .i64 0),.t 26,.t 28]),
   o1 30 (.un .not (.t 29))])
   (.cond (.t 30)
   (.seq (.reg [
    o1 4 (.mv (.c (.int .i64 0))),
    o1 5 (.mv (.c (.bool false)))])
    .ret)
   .skip))
   (.seq (.reg [
   o1 31 (.addo (.t 2) 0),
   o1 32 (.addo (.t 31) 1),
   o1 33 (.ld (.t 32) 1 false),
   m1 34 8,
   o1 35 (.ixs (.t 33) (.t 34) 5),
   o1 36 (.ld (.t 35) 5 true),
   o1 9 (.alloc zv8 67),
   ⟨none,.st (.t 9) (.t 36) 5,none,[]⟩])
   (.seq (.seq (.reg [
   m1 37 4,
   o1 38 (.addo (.t 9) 0),
   o1 39 (.ld (.t 38) 1 false),
   o1 40 (.bin .neq (.t 37) (.t 39)),
   m1 41 40,
   ⟨some 42,.mv (.t 4),some (41,true),[]⟩,
   ⟨some 43,.addo (.t 9) 1,some (41,true),[]⟩,
   ⟨some 44,.ld (.t 43) 1 false,some (41,true),[]⟩,
   ⟨some 45,.bin .neq (.t 42) (.t 44),some (41,true),[]⟩,
   o1 46 (.pick (.t 41) (.t 45) (.c (.bool false)))])
   (.cond (.t 46)
   (.seq (.reg [
    o1 4 (.mv (.c (.int .i64 0))),
    o1 5 (.mv (.c (.bool false)))])
    .ret)
   .skip))
   (.seq (.reg [
   o1 47 (.addo (.t 9) 0),
   o1 48 (.ld (.t 47) 1 false),
   o1 49 (.addo (.t 9) 1),
   o1 50 (.ld (.t 49) 1 false),
   o1 51 (.bin .add (.t 48) (.t 50)),
   m1 52 4,
   o1 53 (.bin .sub (.t 51) (.t 52)),
   m1 4 53])
   (.seq (.seq (.reg [
   m1 54 6,
   m1 55 4,
   o1 56 (.raw (Go.Op.lookup 100 (Go.Operand.tmp 54) (Go.Operand.tmp 55) Bool.false) 4)])
   (.cond (.t 56)
   (.seq (.reg [
    o1 4 (.mv (.c (.int .i64 0))),
    o1 5 (.mv (.c (.bool false)))])
    .ret)
   .skip))
   (.reg [
   m1 57 6,
   m1 58 4,
   ⟨none,.raw (Go.Op.mapUpdate 100 (Go.Operand.tmp 57) (Go.Operand.tmp 58) (Go.Operand.const (Go.Value.bool Bool.true))) 0,none,[]⟩]))))))))
  (.reg [
  o1 59 (.bin .add (.t 18) (.c (.int .i64 1))),
  m1 18 59])))))))
 (.seq (.reg [
 m1 60 4,
 m1 4 60,
 o1 5 (.mv (.c (.bool true)))])
 .ret)))))
def r19:List RV:=[.tmp 4,.tmp 5]
theorem t19:Qt1 Try.prog 19 c19 r19 61:=Yn Try.func19 rfl (by kernel_rfl) (by kernel_rfl) (by kernel_rfl) (by kernel_rfl)
def c36:SC:=(.seq (.reg [
 o1 4 (.mv (.c (.bool false)))])
 (.seq (.reg [
 m1 5 0,
 o1 6 (.ld (.t 1) 1 false),
 o1 7 (.bin .lss (.t 5) (.t 6)),
 m1 8 7,
 ⟨some 9,.mv (.t 0),some (8,false),[]⟩,
 ⟨some 10,.ld (.t 2) 1 false,some (8,false),[]⟩,
 ⟨some 11,.bin .gtr (.t 9) (.t 10),some (8,false),[]⟩,
 o1 12 (.pick (.t 8) (.c (.bool true)) (.t 11)),
 m1 4 12])
 .ret))
def r36:List RV:=[.tmp 4]
theorem t36:Qt1 Try.prog 36 c36 r36 13:=Yn Try.func36 rfl (by kernel_rfl) (by kernel_rfl) (by kernel_rfl) (by kernel_rfl)
def c50:SC:=(.seq (.reg [
 o1 3 (.box (.t 0) 0 31),
 o1 4 (.mv (.c (.bool false)))])
 (.seq (.reg [
 o1 5 (.addo (.t 3) 0),
 o1 6 (.ld (.t 5) 1 false),
 o1 7 (.addo (.t 3) 1),
 o1 8 (.ld (.t 7) 1 false),
 o1 9 (.bin .gtr (.t 6) (.t 8)),
 m1 10 9,
 ⟨some 11,.ld (.t 1) 1 false,some (10,false),[]⟩,
 ⟨some 12,.ld (.t 2) 1 false,some (10,false),[]⟩,
 ⟨some 13,.addo (.t 3) 0,some (10,false),[]⟩,
 ⟨some 14,.ld (.t 13) 1 false,some (10,false),[]⟩,
 ⟨some 15,.addo (.t 3) 1,some (10,false),[]⟩,
 ⟨some 16,.ld (.t 15) 1 false,some (10,false),[]⟩,
 ⟨some 17,.bsl 1 3 [.t 14,.t 16],some (10,false),[]⟩,
 ⟨some 18,.call 21 [.t 11,.t 12,.t 17],some (10,false),[]⟩,
 ⟨some 19,.un .not (.t 18),some (10,false),[]⟩,
 o1 20 (.pick (.t 10) (.c (.bool true)) (.t 19)),
 m1 4 20])
 .ret))
def r50:List RV:=[.tmp 4]
theorem t50:Qt1 Try.prog 50 c50 r50 21:=Yn Try.func50 rfl (by kernel_rfl) (by kernel_rfl) (by kernel_rfl) (by kernel_rfl)
def c33:SC:=(.seq (.reg [
 m1 6 0,
 o1 7 (.un .not (.t 6))])
 (.cond (.t 7)
 (.reg [
  m1 8 1,
  m1 9 2,
  o1 10 (.build [.int .u8 0,.int .i64 0] [(0,1,.t 8),(1,1,.t 9)]),
  o1 11 (.raw (Go.Op.makeInterface 60 (Go.Operand.tmp 10)) 20),
  ⟨none,.raw (Go.Op.panic (Go.Operand.tmp 11)) 0,none,[]⟩])
 .skip))
def r33:List RV:=[]
theorem n33:Try.f33.ntmps=12:=by kernel_rfl
theorem b33:YE Try.prog 33=true:=by kernel_rfl
theorem ZuZ:Xt Try.prog c33 ((Try.f33.body).getD .skip)=true:=by kernel_rfl
theorem Zwo:X8 Try.prog r33 Try.f33.results.toList=true:=by kernel_rfl
theorem m33 {n0:Nat} {hp0:List (Nat × HB)} {args:List SV} {ZX:Ot->Prop} (hh:hpb n0 hp0) (hx:∀ o,ZX o->KX o.res/\KXP o.hp) (h:sx Try.prog Y0 n0 c33 ⟨enum 0 args,hp0,n0,12,[]⟩ (retM r33 fun o=>∃ o',ZX o'/\Zd8 n0 o o')) (hA:Nat.ble args.length 12=true:=by rfl):CtM Try.prog 33 hp0 n0 args ZX:=XE Try.func33 rfl b33 ZuZ Zwo n33 (Nat.le_of_ble_eq_true hA) hh hx h
def c34:SC:=(.seq (.reg [
 o1 4 (.box (.t 0) 0 63),
 o1 5 (.box (.t 1) 0 95),
 o1 6 (.box (.t 2) 0 3),
 o1 8 (.mv (.c (.slice none 0 0)))])
 (.seq (.seq (.reg [
 o1 17 (.ld (.t 5) 1 false),
 o1 18 (.len (.t 17)),
 o1 19 (.bin .eql (.t 18) (.c (.int .i64 0)))])
 (.cond (.t 19)
 (.seq (.reg [
  o1 21 (.addo (.t 4) 0),
  o1 22 (.addo (.t 21) 4),
  o1 23 (.ld (.t 22) 17 true),
  o1 24 (.addo (.t 4) 0),
  o1 25 (.addo (.t 24) 21),
  o1 26 (.ld (.t 25) 7 true),
  o1 27 (.call 52 [.t 23,.t 26]),
  m1 20 27,
  o1 28 (.ext (.t 20) 0),
  o1 29 (.ext (.t 20) 1),
  o1 9 (.alloc [.int .i64 0,.int .i64 0] 31),
  ⟨none,.st (.t 9) (.t 28) 2,none,[]⟩,
  m1 10 29])
  (.seq (.reg [
  o1 30 (.ld (.t 6) 1 false),
  o1 31 (.bin .eql (.t 30) (.c (.int .i64 0))),
  m1 32 31,
  ⟨some 33,.mv (.t 3),some (32,false),[]⟩,
  ⟨some 34,.addo (.t 4) 0,some (32,false),[]⟩,
  ⟨some 35,.addo (.t 34) 30,some (32,false),[]⟩,
  ⟨some 36,.ld (.t 35) 1 false,some (32,false),[]⟩,
  ⟨some 37,.bin .mul (.t 33) (.t 36),some (32,false),[]⟩,
  ⟨some 38,.addo (.t 9) 0,some (32,false),[]⟩,
  ⟨some 39,.ld (.t 38) 1 false,some (32,false),[]⟩,
  ⟨some 40,.bin .leq (.t 37) (.t 39),some (32,false),[]⟩,
  o1 41 (.pick (.t 32) (.c (.bool true)) (.t 40)),
  o1 42 (.callm 33 [.t 41,.c (.int .u8 2),.c (.int .i64 0)])])
  (.seq (.reg [
  o1 8 (.mv (.c (.slice none 0 0)))])
  .ret)))
 .skip))
 (.seq (.reg [
 o1 11 (.alloc [.slice none 0 0] 47)])
 (.seq (.seq (.reg [
 o1 43 (.ld (.t 6) 1 false),
 o1 44 (.bin .eql (.t 43) (.c (.int .i64 0)))])
 (.cond (.t 44)
 (.seq (.seq (.reg [
  o1 45 (.ld (.t 5) 1 false),
  o1 46 (.ld (.t 5) 1 false),
  o1 47 (.len (.t 46)),
  o1 48 (.bin .sub (.t 47) (.c (.int .i64 1))),
  o1 49 (.sub 6 (.t 45) none (some (.t 48))),
  o1 50 (.len (.t 49)),
  o1 51 (.mv (.c (.int .i64 0)))])
  (.block 0 (.loop (.seq (.reg [
   o1 52 (.bin .lss (.t 51) (.t 50))])
   (.seq (.cond (.t 52)
   .skip
   (.exit 0))
   (.seq (.block 1 (.seq (.reg [
    o1 53 (.ixs (.t 49) (.t 51) 6),
    o1 54 (.ld (.t 53) 6 true),
    o1 13 (.alloc zv6 120),
    ⟨none,.st (.t 13) (.t 54) 6,none,[]⟩])
    (.reg [
    o1 55 (.ld (.t 11) 1 false),
    o1 56 (.addo (.t 13) 1),
    o1 57 (.ld (.t 56) 1 false),
    o1 58 (.addo (.t 13) 4),
    o1 59 (.addo (.t 58) 0),
    o1 60 (.ld (.t 59) 1 false),
    o1 61 (.build [.int .i64 0,.int .i64 0,.int .i64 0] [(0,1,.t 57),(1,1,.t 60)]),
    o1 62 (.bsl 3 56 [.t 61]),
    o1 63 (.appm 3 24 56 (.t 55) (.t 62)),
    ⟨none,.st (.t 11) (.t 63) 1,none,[]⟩])))
   (.reg [
   o1 64 (.bin .add (.t 51) (.c (.int .i64 1))),
   m1 51 64])))))))
  (.seq (.reg [
  o1 65 (.ld (.t 11) 1 false),
  m1 8 65])
  .ret))
 .skip))
 (.seq (.seq (.reg [
 o1 66 (.ld (.t 4) 38 true),
 o1 67 (.ld (.t 5) 1 false),
 m1 68 3,
 o1 69 (.callm 53 [.t 66,.t 67,.t 68])])
 (.block 2 (.gh (.rfun (.t 69) [70,71] (.seq (.reg [
  m1 14 70])
  (.reg [
  o1 15 (.alloc zv3 35),
  ⟨none,.st (.t 15) (.t 71) 7,none,[]⟩]))
  (.block 3 (.seq (.seq (.reg [
   m1 72 14,
   o1 73 (.bin .add (.t 72) (.c (.int .i64 1))),
   o1 74 (.ld (.t 5) 1 false),
   o1 75 (.len (.t 74)),
   o1 76 (.bin .eql (.t 73) (.t 75))])
   (.cond (.t 76)
   (.exit 2)
   .skip))
   (.seq (.regd [0,1,2,3,4,5,6,7,8,9,10,11,12,13,14,15,16,17,18,19,20,21,22,23] [
   .op (o1 77 (.ld (.t 5) 1 false)),
   .op (m1 78 14),
   .op ⟨some 79,.ixs (.t 77) (.t 78) 6,none,[0,1]⟩,
   .op ⟨some 80,.addo (.t 79) 1,none,[2]⟩,
   .op ⟨some 81,.ld (.t 80) 1 false,none,[3]⟩,
   .op (o1 82 (.ld (.t 5) 1 false)),
   .op (m1 83 14),
   .op ⟨some 84,.ixs (.t 82) (.t 83) 6,none,[5,6]⟩,
   .op ⟨some 85,.addo (.t 84) 4,none,[7]⟩,
   .op ⟨some 86,.addo (.t 85) 0,none,[8]⟩,
   .op ⟨some 87,.ld (.t 86) 1 false,none,[9]⟩,
   .op (o1 88 (.ld (.t 6) 1 false)),
   .op (o1 89 (.addo (.t 4) 0)),
   .op ⟨some 90,.addo (.t 89) 4,none,[12]⟩,
   .op ⟨some 91,.addo (.t 90) 0,none,[13]⟩,
   .op ⟨some 92,.ld (.t 91) 1 false,none,[14]⟩,
   .op (o1 93 (.addo (.t 15) 0)),
   .op ⟨some 94,.addo (.t 93) 0,none,[16]⟩,
   .op ⟨some 95,.ld (.t 94) 1 false,none,[17]⟩,
   .op ⟨some 96,.bin .sub (.t 92) (.t 95),none,[15,18]⟩,
   .op ⟨some 97,.bin .mul (.t 88) (.t 96),none,[11,19]⟩,
   .op ⟨some 98,.build [.int .i64 0,.int .i64 0,.int .i64 0] [(0,1,.t 81),(1,1,.t 87),(2,1,.t 97)],none,[4,10,20]⟩] 1 1 [
   o1 16 (.alloc [.int .i64 0,.int .i64 0,.int .i64 0] 56),
   ⟨none,.st (.t 16) (.t 98) 3,none,[0,1,2,3,4,5,6,7,8,9,10,11,12,13,14,15,16,17,18,19,20,21,22]⟩])
   (.seq (.regd [0,1,2,3,4,5,6,7,8,9,10] [
   .op (o1 99 (.addo (.t 16) 2)),
   .op ⟨some 100,.ld (.t 99) 1 false,none,[0]⟩,
   .op (o1 101 (.ld (.t 4) 38 true)),
   .op (o1 102 (.ld (.t 5) 1 false)),
   .op (m1 103 14),
   .op ⟨some 104,.ixs (.t 102) (.t 103) 6,none,[3,4]⟩,
   .op ⟨some 105,.ld (.t 104) 6 true,none,[5]⟩,
   .op ⟨some 106,.call 44 [.t 101,.t 105],none,[2,6]⟩,
   .op ⟨some 107,.bin .leq (.t 100) (.t 106),none,[1,7]⟩,
   .op (m1 108 14)] 0 0 [
   ⟨some 109,.callm 33 [.t 107,.c (.int .u8 4),.t 108],none,[7,8,9]⟩])
   (.reg [
   o1 110 (.ld (.t 11) 1 false),
   o1 111 (.ld (.t 16) 3 true),
   o1 112 (.bsl 3 56 [.t 111]),
   o1 113 (.appm 3 24 56 (.t 110) (.t 112)),
   ⟨none,.st (.t 11) (.t 113) 1,none,[]⟩])))))))))
 (.seq (.reg [
 o1 114 (.ld (.t 11) 1 false),
 m1 8 114])
 .ret))))))
def r34:List RV:=[.tmp 8]
theorem n34:Try.f34.ntmps=115:=by kernel_rfl
theorem b34:YE Try.prog 34=true:=by kernel_rfl
theorem Zvm:Xt Try.prog c34 ((Try.f34.body).getD .skip)=true:=by kernel_rfl
theorem ZwK:X8 Try.prog r34 Try.f34.results.toList=true:=by kernel_rfl
theorem m34 {n0:Nat} {hp0:List (Nat × HB)} {args:List SV} {ZX:Ot->Prop} (hh:hpb n0 hp0) (hx:∀ o,ZX o->KX o.res/\KXP o.hp) (h:sx Try.prog Y0 n0 c34 ⟨enum 0 args,hp0,n0,115,[]⟩ (retM r34 fun o=>∃ o',ZX o'/\Zd8 n0 o o')) (hA:Nat.ble args.length 115=true:=by rfl):CtM Try.prog 34 hp0 n0 args ZX:=XE Try.func34 rfl b34 Zvm ZwK n34 (Nat.le_of_ble_eq_true hA) hh hx h
def c53:SC:=(.seq (.reg [
 o1 3 (.box (.t 0) 0 63),
 o1 4 (.box (.t 1) 0 95),
 o1 5 (.box (.t 2) 0 3),
 o1 6 (.mv (.c (.nilFunc)))])
 (.seq (.reg [
 o1 7 (.mkf 74 [.t 3,.t 4,.t 5]),
 m1 6 7])
 .ret))
def r53:List RV:=[.tmp 6]
theorem n53:Try.f53.ntmps=8:=by kernel_rfl
theorem b53:YE Try.prog 53=true:=by kernel_rfl
theorem ZwU:Xt Try.prog c53 ((Try.f53.body).getD .skip)=true:=by kernel_rfl
theorem Zwx:X8 Try.prog r53 Try.f53.results.toList=true:=by kernel_rfl
theorem m53 {n0:Nat} {hp0:List (Nat × HB)} {args:List SV} {ZX:Ot->Prop} (hh:hpb n0 hp0) (hx:∀ o,ZX o->KX o.res/\KXP o.hp) (h:sx Try.prog Y0 n0 c53 ⟨enum 0 args,hp0,n0,8,[]⟩ (retM r53 fun o=>∃ o',ZX o'/\Zd8 n0 o o')) (hA:Nat.ble args.length 8=true:=by rfl):CtM Try.prog 53 hp0 n0 args ZX:=XE Try.func53 rfl b53 ZwU Zwx n53 (Nat.le_of_ble_eq_true hA) hh hx h
def c64:SC:=(.seq (.reg [
 o1 1 (.box (.t 0) 0 63),
 o1 2 (.alloc zv5 75)])
 (.seq (.reg [
 o1 3 (.addo (.t 1) 0),
 o1 4 (.addo (.t 3) 36),
 o1 5 (.ld (.t 4) 1 false),
 o1 6 (.addo (.t 1) 37),
 o1 7 (.ld (.t 6) 1 false),
 o1 8 (.ixs (.t 5) (.t 7) 6),
 o1 9 (.ld (.t 8) 6 true),
 ⟨none,.st (.t 2) (.t 9) 6,none,[]⟩])
 .ret))
def r64:List RV:=[.cell 2 6 true]
theorem t64:Qt1 Try.prog 64 c64 r64 10:=Yn Try.func64 rfl (by kernel_rfl) (by kernel_rfl) (by kernel_rfl) (by kernel_rfl)
def c74:SC:=(.seq (.reg [
 o1 10 (.addo (.t 1) 0),
 o1 11 (.addo (.t 10) 21),
 o1 12 (.ld (.t 11) 7 true),
 o1 5 (.alloc zv3 35),
 ⟨none,.st (.t 5) (.t 12) 7,none,[]⟩])
 (.seq (.reg [
 o1 13 (.ld (.t 2) 1 false),
 o1 14 (.len (.t 13)),
 o1 15 (.mv (.c (.int .i64 0)))])
 (.block 0 (.loop (.seq (.reg [
  o1 16 (.bin .lss (.t 15) (.t 14))])
  (.seq (.cond (.t 16)
  .skip
  (.exit 0))
  (.seq (.block 1 (.seq (.reg [
   m1 17 15,
   o1 18 (.ixs (.t 13) (.t 15) 6),
   o1 19 (.ld (.t 18) 6 true),
   o1 7 (.alloc zv6 120),
   m1 6 17,
   ⟨none,.st (.t 7) (.t 19) 6,none,[]⟩])
   (.seq (.reg [
   o1 21 (.addo (.t 1) 0),
   o1 22 (.addo (.t 21) 0),
   o1 23 (.ld (.t 22) 2 true),
   o1 24 (.addo (.t 7) 0),
   o1 25 (.ld (.t 24) 1 false),
   o1 26 (.addo (.t 1) 0),
   o1 27 (.addo (.t 26) 2),
   o1 28 (.ld (.t 27) 2 true),
   o1 29 (.call 75 [.t 23,.t 25,.t 28]),
   m1 20 29,
   o1 30 (.ext (.t 20) 0),
   o1 31 (.ext (.t 20) 1),
   o1 8 (.alloc [.int .i64 0,.int .i64 0] 31),
   ⟨none,.st (.t 8) (.t 30) 2,none,[]⟩,
   m1 9 31])
   (.seq (.seq (.reg [
   o1 32 (.ld (.t 1) 38 true),
   m1 33 6,
   o1 34 (.ld (.t 5) 7 true),
   o1 35 (.ld (.t 8) 2 true),
   o1 36 (.ld (.t 3) 1 false),
   o1 37 (.callm 76 [.t 32,.t 33,.t 34,.t 35,.t 36]),
   ⟨none,.st (.t 5) (.t 37) 7,none,[]⟩])
   (.seq (.reg [
   m1 38 0,
   m1 39 6,
   o1 40 (.ld (.t 5) 7 true),
   o1 41 (.calvm (.t 38) [.t 39,.t 40]),
   o1 42 (.un .not (.t 41))])
   (.cond (.t 42)
   .ret
   .skip)))
   (.reg [
   o1 43 (.addo (.t 1) 0),
   o1 44 (.addo (.t 43) 4),
   o1 45 (.addo (.t 44) 0),
   o1 46 (.ld (.t 45) 1 false),
   o1 47 (.addo (.t 1) 0),
   o1 48 (.addo (.t 47) 4),
   o1 49 (.addo (.t 48) 0),
   o1 50 (.ld (.t 49) 1 false),
   o1 51 (.build [.int .i64 0,.int .i64 0] [(0,1,.t 46),(1,1,.t 50)]),
   o1 52 (.addo (.t 5) 0),
   ⟨none,.st (.t 52) (.t 51) 2,none,[]⟩])))))
  (.reg [
  o1 53 (.bin .add (.t 15) (.c (.int .i64 1))),
  m1 15 53]))))))))
def r74:List RV:=[]
theorem n74:Try.f74.ntmps=54:=by kernel_rfl
theorem b74:YE Try.prog 74=true:=by kernel_rfl
theorem Zv7:Xt Try.prog c74 ((Try.f74.body).getD .skip)=true:=by kernel_rfl
theorem ZwW:X8 Try.prog r74 Try.f74.results.toList=true:=by kernel_rfl
theorem y74 {Y:Hd} {n0:Nat} {hp0:List (Nat × HB)} {args:List SV} {ZX:Ot->Prop} (h:sx Try.prog Y n0 c74 ⟨enum 0 args,hp0,n0,54,[]⟩ (retM r74 ZX)) (hA:Nat.ble args.length 54=true:=by rfl):CtY Try.prog Y 74 hp0 n0 args ZX:=ZaD Try.func74 rfl Zv7 ZwW n74 (Nat.le_of_ble_eq_true hA) h
def c76:SC:=(.seq (.reg [
 o1 5 (.box (.t 0) 0 63),
 o1 7 (.box (.t 2) 0 35),
 o1 8 (.box (.t 3) 0 31),
 o1 10 (.alloc zv3 35)])
 (.seq (.regd [0,1,2,3,4,5,6,7,8,9,10,11,12,13,14,15,16] [
 .op (o1 19 (.addo (.t 5) 0)),
 .op ⟨some 20,.addo (.t 19) 29,none,[0]⟩,
 .op ⟨some 21,.ld (.t 20) 1 false,none,[1]⟩,
 .op (m1 22 4),
 .op (o1 23 (.addo (.t 5) 0)),
 .op ⟨some 24,.addo (.t 23) 30,none,[4]⟩,
 .op ⟨some 25,.ld (.t 24) 1 false,none,[5]⟩,
 .op ⟨some 26,.bin .mul (.t 22) (.t 25),none,[3,6]⟩,
 .op (o1 27 (.ld (.t 5) 38 true)),
 .op ⟨some 28,.call 64 [.t 27],none,[8]⟩,
 .op ⟨some 29,.fld (.t 28) 0 2 true,none,[9]⟩,
 .op (o1 30 (.ld (.t 5) 38 true)),
 .op ⟨some 31,.call 64 [.t 30],none,[9,11]⟩,
 .op ⟨some 32,.fld (.t 31) 2 2 true,none,[12]⟩,
 .op ⟨some 33,.build zv7 [(0,1,.t 21),(1,1,.t 26),(2,2,.t 29),(4,2,.t 32)],none,[2,7,10,13]⟩] 1 1 [
 o1 11 (.alloc zv7 160),
 ⟨none,.st (.t 11) (.t 33) 8,none,[0,1,2,3,4,5,6,7,8,9,10,11,12,13,14,15]⟩])
 (.seq (.reg [
 o1 12 (.alloc zv3 35)])
 (.seq (.seq (.reg [
 o1 34 (.addo (.t 8) 1),
 o1 35 (.ld (.t 34) 1 false),
 o1 36 (.mv (.c (.int .i64 0)))])
 (.block 0 (.loop (.seq (.reg [
  o1 37 (.bin .lss (.t 36) (.t 35))])
  (.seq (.cond (.t 37)
  .skip
  (.exit 0))
  (.seq (.block 1 (.seq (.reg [
   m1 38 36,
   m1 13 38])
   (.seq (.reg [
   o1 40 (.addo (.t 5) 0),
   o1 41 (.addo (.t 40) 4),
   o1 42 (.ld (.t 41) 17 true),
   o1 43 (.ld (.t 7) 7 true),
   o1 44 (.call 52 [.t 42,.t 43]),
   m1 39 44,
   o1 45 (.ext (.t 39) 0),
   o1 46 (.ext (.t 39) 1),
   o1 14 (.alloc [.int .i64 0,.int .i64 0] 31),
   ⟨none,.st (.t 14) (.t 45) 2,none,[]⟩,
   m1 15 46])
   (.seq (.reg [
   o1 47 (.addo (.t 11) 1),
   o1 48 (.ld (.t 47) 1 false),
   o1 49 (.addo (.t 14) 0),
   o1 50 (.ld (.t 49) 1 false),
   o1 51 (.bin .leq (.t 48) (.t 50)),
   m1 52 1,
   o1 53 (.callm 33 [.t 51,.c (.int .u8 2),.t 52])])
   (.seq (.reg [
   o1 55 (.addo (.t 5) 0),
   o1 56 (.addo (.t 55) 4),
   o1 57 (.ld (.t 56) 17 true),
   o1 58 (.ld (.t 7) 7 true),
   o1 59 (.ld (.t 11) 8 true),
   o1 60 (.call 90 [.t 57,.t 58,.t 59]),
   m1 54 60,
   o1 61 (.ext (.t 54) 0),
   o1 62 (.ext (.t 54) 1),
   o1 63 (.ext (.t 54) 2),
   o1 16 (.alloc zv3 35),
   ⟨none,.st (.t 16) (.t 61) 7,none,[]⟩,
   m1 17 62,
   m1 18 63])
   (.seq (.reg [
   m1 64 18,
   o1 65 (.bin .eql (.t 64) (.c (.int .i64 0))),
   m1 66 65,
   ⟨some 67,.mv (.t 17),some (66,true),[]⟩,
   ⟨some 68,.bin .eql (.t 67) (.c (.int .u8 0)),some (66,true),[]⟩,
   o1 69 (.pick (.t 66) (.t 68) (.c (.bool false))),
   m1 70 1,
   o1 71 (.callm 33 [.t 69,.c (.int .u8 3),.t 70])])
   (.seq (.reg [
   o1 72 (.ld (.t 16) 7 true),
   ⟨none,.st (.t 7) (.t 72) 7,none,[]⟩])
   (.block 2 (.seq (.reg [
    m1 74 13,
    o1 75 (.bin .add (.t 74) (.c (.int .i64 1))),
    o1 76 (.addo (.t 8) 0),
    o1 77 (.ld (.t 76) 1 false),
    o1 78 (.bin .eql (.t 75) (.t 77)),
    m1 73 78])
    (.cond (.t 73)
    (.reg [
     o1 79 (.ld (.t 7) 7 true),
     ⟨none,.st (.t 12) (.t 79) 7,none,[]⟩])
    (.seq (.reg [
     m1 81 13,
     o1 82 (.bin .add (.t 81) (.c (.int .i64 1))),
     o1 83 (.addo (.t 8) 0),
     o1 84 (.ld (.t 83) 1 false),
     o1 85 (.bin .gtr (.t 82) (.t 84)),
     m1 80 85])
     (.cond (.t 80)
     (.regd [0,1,2,3,4,5,6,7,8,9,10,11,12,13,14,15,16,17,18,19,20,21,22,23] [
      .op (o1 86 (.addo (.t 12) 0)),
      .op ⟨some 87,.ld (.t 86) 2 true,none,[0]⟩,
      .op (o1 88 (.addo (.t 7) 0)),
      .op ⟨some 89,.ld (.t 88) 2 true,none,[2]⟩,
      .op ⟨some 90,.bsl 2 31 [.t 89],none,[3]⟩,
      .op ⟨some 91,.call 91 [.t 87,.t 90],none,[1,4]⟩,
      .op (o1 92 (.addo (.t 12) 2)),
      .op ⟨some 93,.ld (.t 92) 2 true,none,[6]⟩,
      .op (o1 94 (.addo (.t 7) 2)),
      .op ⟨some 95,.ld (.t 94) 2 true,none,[8]⟩,
      .op ⟨some 96,.bsl 2 31 [.t 95],none,[9]⟩,
      .op ⟨some 97,.call 91 [.t 93,.t 96],none,[5,7,10]⟩,
      .op (o1 98 (.addo (.t 12) 4)),
      .op ⟨some 99,.ld (.t 98) 2 true,none,[12]⟩,
      .op (o1 100 (.addo (.t 7) 4)),
      .op ⟨some 101,.ld (.t 100) 2 true,none,[14]⟩,
      .op ⟨some 102,.bsl 2 31 [.t 101],none,[15]⟩,
      .op ⟨some 103,.call 91 [.t 99,.t 102],none,[11,13,16]⟩,
      .op ⟨some 104,.addo (.t 12) 0,none,[0,1,2,3,4,5,6,7,12,13]⟩] 0 1 [
      ⟨none,.st (.t 104) (.t 91) 2,none,[0,1,2,3,4,5,6,7,12,13,17,18]⟩,
      ⟨some 105,.addo (.t 12) 2,none,[0,1,2,3,4,5,6,7,8,9,10,11,12,13,18,19]⟩,
      ⟨none,.st (.t 105) (.t 97) 2,none,[0,1,2,3,4,5,6,7,8,9,10,11,12,13,18,19,20]⟩,
      ⟨some 106,.addo (.t 12) 4,none,[0,1,2,3,4,5,6,7,8,9,10,11,12,13,14,15,16,17,18,19,20,21]⟩,
      ⟨none,.st (.t 106) (.t 103) 2,none,[0,1,2,3,4,5,6,7,8,9,10,11,12,13,14,15,16,17,18,19,20,21,22]⟩])
     .skip))))))))))))
  (.reg [
  o1 107 (.bin .add (.t 36) (.c (.int .i64 1))),
  m1 36 107])))))))
 (.seq (.reg [
 o1 108 (.ld (.t 12) 7 true),
 ⟨none,.st (.t 10) (.t 108) 7,none,[]⟩])
 .ret)))))
def r76:List RV:=[.cell 10 7 true]
theorem n76:Try.f76.ntmps=109:=by kernel_rfl
theorem b76:YE Try.prog 76=true:=by kernel_rfl
theorem Zvg:Xt Try.prog c76 ((Try.f76.body).getD .skip)=true:=by kernel_rfl
theorem Zwi:X8 Try.prog r76 Try.f76.results.toList=true:=by kernel_rfl
theorem m76 {n0:Nat} {hp0:List (Nat × HB)} {args:List SV} {ZX:Ot->Prop} (hh:hpb n0 hp0) (hx:∀ o,ZX o->KX o.res/\KXP o.hp) (h:sx Try.prog Y0 n0 c76 ⟨enum 0 args,hp0,n0,109,[]⟩ (retM r76 fun o=>∃ o',ZX o'/\Zd8 n0 o o')) (hA:Nat.ble args.length 109=true:=by rfl):CtM Try.prog 76 hp0 n0 args ZX:=XE Try.func76 rfl b76 Zvg Zwi n76 (Nat.le_of_ble_eq_true hA) hh hx h
def c91:SC:=(.seq (.reg [
 o1 2 (.box (.t 0) 0 31),
 o1 4 (.alloc [.int .i64 0,.int .i64 0] 31)])
 (.seq (.seq (.reg [
 m1 7 1,
 o1 8 (.len (.t 7)),
 o1 9 (.mv (.c (.int .i64 0)))])
 (.block 0 (.loop (.seq (.reg [
  o1 10 (.bin .lss (.t 9) (.t 8))])
  (.seq (.cond (.t 10)
  .skip
  (.exit 0))
  (.seq (.block 1 (.seq (.reg [
   o1 11 (.ixs (.t 7) (.t 9) 2),
   o1 12 (.ld (.t 11) 2 true),
   o1 6 (.alloc [.int .i64 0,.int .i64 0] 31),
   ⟨none,.st (.t 6) (.t 12) 2,none,[]⟩])
   (.reg [
   o1 13 (.addo (.t 2) 0),
   o1 14 (.ld (.t 13) 1 false),
   o1 15 (.addo (.t 6) 0),
   o1 16 (.ld (.t 15) 1 false),
   o1 17 (.mm false [.t 14,.t 16]),
   o1 18 (.addo (.t 2) 1),
   o1 19 (.ld (.t 18) 1 false),
   o1 20 (.addo (.t 6) 1),
   o1 21 (.ld (.t 20) 1 false),
   o1 22 (.mm true [.t 19,.t 21]),
   o1 23 (.build [.int .i64 0,.int .i64 0] [(0,1,.t 17),(1,1,.t 22)]),
   ⟨none,.st (.t 2) (.t 23) 2,none,[]⟩])))
  (.reg [
  o1 24 (.bin .add (.t 9) (.c (.int .i64 1))),
  m1 9 24])))))))
 (.seq (.reg [
 o1 25 (.ld (.t 2) 2 true),
 ⟨none,.st (.t 4) (.t 25) 2,none,[]⟩])
 .ret)))
def r91:List RV:=[.cell 4 2 true]
theorem t91:Qt1 Try.prog 91 c91 r91 26:=Yn Try.func91 rfl (by kernel_rfl) (by kernel_rfl) (by kernel_rfl) (by kernel_rfl)
def c32:SC:=(.seq (.reg [
 o1 2 (.box (.t 0) 0 38),
 o1 4 (.mv (.c (.slice none 0 0))),
 o1 5 (.mv (.c (.bool false)))])
 (.seq (.reg [
 o1 10 (.addo (.t 2) 0),
 o1 11 (.ld (.t 10) 2 true),
 o1 12 (.addo (.t 2) 33),
 o1 13 (.ld (.t 12) 1 false),
 o1 14 (.addo (.t 2) 34),
 o1 15 (.ld (.t 14) 1 false),
 o1 16 (.addo (.t 2) 2),
 o1 17 (.ld (.t 16) 2 true),
 m1 18 1,
 o1 19 (.call 51 [.t 11,.t 13,.t 15,.t 17,.t 18]),
 m1 9 19,
 o1 20 (.ext (.t 9) 0),
 o1 21 (.ext (.t 9) 1),
 o1 22 (.ext (.t 9) 2),
 m1 6 20,
 m1 7 21,
 m1 8 22])
 (.seq (.regd [0,1,2,3,4,5,6,7,8,9,10,11,12,13,14,15,16,17,18,19,20,21,22] [
 .op (m1 23 6),
 .op (m1 24 8),
 .op ⟨some 25,.bin .eql (.t 24) (.c (.int .i64 0)),none,[1]⟩,
 .op ⟨some 26,.mv (.t 25),none,[2]⟩,
 .op ⟨some 27,.mv (.t 6),some (26,true),[3]⟩,
 .op ⟨some 28,.len (.t 27),some (26,true),[3,4]⟩,
 .op ⟨some 29,.bin .eql (.t 28) (.c (.int .i64 0)),some (26,true),[3,5]⟩,
 .op ⟨some 30,.mv (.t 29),some (26,true),[3,6]⟩,
 .op ⟨some 31,.mv (.t 6),some (30,false),[7]⟩,
 .op ⟨some 32,.mv (.t 6),some (30,false),[7]⟩,
 .op ⟨some 33,.len (.t 32),some (30,false),[7,9]⟩,
 .op ⟨some 34,.bin .sub (.t 33) (.c (.int .i64 1)),some (30,false),[7,10]⟩,
 .op ⟨some 35,.ixs (.t 31) (.t 34) 6,some (30,false),[7,8,11]⟩,
 .op ⟨some 36,.addo (.t 35) 4,some (30,false),[7,12]⟩,
 .op ⟨some 37,.addo (.t 36) 1,some (30,false),[7,13]⟩,
 .op ⟨some 38,.ld (.t 37) 1 false,some (30,false),[7,14]⟩,
 .op ⟨some 39,.addo (.t 2) 35,some (30,false),[7]⟩,
 .op ⟨some 40,.ld (.t 39) 1 false,some (30,false),[7,16]⟩,
 .op ⟨some 41,.bin .leq (.t 38) (.t 40),some (30,false),[7,15,17]⟩,
 .op ⟨some 42,.pick (.t 30) (.c (.bool true)) (.t 41),some (26,true),[3,7,18]⟩,
 .op ⟨some 43,.pick (.t 26) (.t 42) (.c (.bool false)),none,[3,19]⟩,
 .op ⟨some 4,.mv (.t 23),none,[0,7]⟩,
 .op ⟨some 5,.mv (.t 43),none,[0,1,2,3,4,5,6,7,8,9,10,11,12,13,14,15,16,17,18,19,20,21]⟩] 0 0 [
])
 .ret)))
def r32:List RV:=[.tmp 4,.tmp 5]
theorem t32:Qt1 Try.prog 32 c32 r32 44:=Yn Try.func32 rfl (by kernel_rfl) (by kernel_rfl) (by kernel_rfl) (by kernel_rfl)
def c17:FB:=(.seq (.reg [
 o1 2 (.box (.t 0) 0 63),
 o1 3 (.box (.t 1) 0 42),
 o1 4 (.alloc [.slice none 0 0] 47),
 o1 5 (.alloc [.int .u8 0,.int .i64 0] 60)])
 (.rcv [
 o1 8 (.mkf 31 [.t 4,.t 5])] (.t 8)
 (.tail (.seq (.reg [
 o1 10 (.addo (.t 2) 0),
 o1 11 (.ld (.t 10) 37 true),
 o1 12 (.addo (.t 3) 0),
 o1 13 (.ld (.t 12) 1 false),
 o1 14 (.call 32 [.t 11,.t 13]),
 m1 9 14,
 o1 15 (.ext (.t 9) 0),
 o1 16 (.ext (.t 9) 1),
 m1 6 15,
 m1 7 16])
 (.seq (.reg [
 m1 17 7,
 o1 18 (.callm 33 [.t 17,.c (.int .u8 1),.c (.int .i64 0)])])
 (.seq (.reg [
 o1 19 (.ld (.t 2) 38 true),
 m1 20 6,
 o1 21 (.addo (.t 3) 1),
 o1 22 (.ld (.t 21) 1 false),
 o1 23 (.addo (.t 3) 2),
 o1 24 (.ld (.t 23) 1 false),
 o1 25 (.callm 34 [.t 19,.t 20,.t 22,.t 24]),
 o1 26 (.build [.int .u8 0,.int .i64 0] []),
 ⟨none,.st (.t 4) (.t 25) 1,none,[]⟩,
 ⟨none,.st (.t 5) (.t 26) 2,none,[]⟩])
 .ret))))))
def r17:List RV:=[.cell 4 1 false,.cell 5 2 true]
theorem n17:Try.f17.ntmps=27:=by kernel_rfl
theorem b17:YE Try.prog 17=true:=by kernel_rfl
theorem Zvt:UI Try.prog c17 ((Try.f17.body).getD .skip)=true:=by kernel_rfl
theorem ZwO:X8 Try.prog r17 Try.f17.results.toList=true:=by kernel_rfl
theorem m17 {n0:Nat} {hp0:List (Nat × HB)} {args:List SV} {ZX:Ot->Prop} (hh:hpb n0 hp0) (hx:∀ o,ZX o->KX o.res/\KXP o.hp) (h:fx Try.prog n0 c17 ⟨enum 0 args,hp0,n0,27,[]⟩ (retM r17 fun o=>∃ o',ZX o'/\Zd8 n0 o o')) (hA:Nat.ble args.length 27=true:=by rfl):CtM Try.prog 17 hp0 n0 args ZX:=ZbE Try.func17 rfl b17 Zvt ZwO n17 (Nat.le_of_ble_eq_true hA) hh hx h
def c52:SC:=(.seq (.reg [
 o1 2 (.box (.t 0) 0 33),
 o1 3 (.box (.t 1) 0 35),
 o1 4 (.alloc [.int .i64 0,.int .i64 0] 31),
 o1 5 (.mv (.c (.int .i64 0)))])
 (.seq (.seq (.reg [
 o1 7 (.ld (.t 2) 17 true),
 o1 8 (.ld (.t 3) 7 true),
 o1 9 (.call 27 [.t 7,.t 8]),
 m1 6 9])
 (.seq (.reg [
 m1 10 6,
 o1 11 (.bin .neq (.t 10) (.c (.int .i64 0)))])
 (.cond (.t 11)
 (.seq (.reg [
  o1 12 (.build [.int .i64 0,.int .i64 0] []),
  m1 13 6,
  ⟨none,.st (.t 4) (.t 12) 2,none,[]⟩,
  m1 5 13])
  .ret)
 .skip)))
 (.seq (.reg [
 o1 14 (.ld (.t 2) 17 true),
 o1 15 (.ld (.t 3) 7 true),
 o1 16 (.build zv2 [(0,17,.t 14),(17,7,.t 15)]),
 o1 17 (.call 73 [.t 16]),
 ⟨none,.st (.t 4) (.t 17) 2,none,[]⟩,
 o1 5 (.mv (.c (.int .i64 0)))])
 .ret)))
def r52:List RV:=[.cell 4 2 true,.tmp 5]
theorem t52:Qt1 Try.prog 52 c52 r52 18:=Yn Try.func52 rfl (by kernel_rfl) (by kernel_rfl) (by kernel_rfl) (by kernel_rfl)
def c47:SC:=(.seq (.reg [
 o1 1 (.box (.t 0) 0 33),
 o1 2 (.mv (.c (.int .i64 0)))])
 (.seq (.seq (.reg [
 o1 3 (.addo (.t 1) 0),
 o1 4 (.ld (.t 3) 1 false),
 o1 5 (.addo (.t 1) 1),
 o1 6 (.ld (.t 5) 1 false),
 o1 7 (.bsl 1 3 [.t 4,.t 6]),
 o1 8 (.call 68 [.c (.int .i64 1),.c (.int .i64 1000000),.t 7]),
 o1 9 (.un .not (.t 8)),
 m1 10 9,
 ⟨some 11,.addo (.t 1) 2,some (10,false),[]⟩,
 ⟨some 12,.ld (.t 11) 2 true,some (10,false),[]⟩,
 ⟨some 13,.addo (.t 1) 4,some (10,false),[]⟩,
 ⟨some 14,.ld (.t 13) 2 true,some (10,false),[]⟩,
 ⟨some 15,.addo (.t 1) 6,some (10,false),[]⟩,
 ⟨some 16,.ld (.t 15) 2 true,some (10,false),[]⟩,
 ⟨some 17,.addo (.t 1) 8,some (10,false),[]⟩,
 ⟨some 18,.ld (.t 17) 2 true,some (10,false),[]⟩,
 ⟨some 19,.addo (.t 1) 10,some (10,false),[]⟩,
 ⟨some 20,.ld (.t 19) 2 true,some (10,false),[]⟩,
 ⟨some 21,.addo (.t 1) 12,some (10,false),[]⟩,
 ⟨some 22,.ld (.t 21) 2 true,some (10,false),[]⟩,
 ⟨some 23,.bsl 2 31 [.t 12,.t 14,.t 16,.t 18,.t 20,.t 22],some (10,false),[]⟩,
 ⟨some 24,.call 48 [.c (.int .i64 0),.c (.int .i64 100000),.t 23],some (10,false),[]⟩,
 ⟨some 25,.un .not (.t 24),some (10,false),[]⟩,
 o1 26 (.pick (.t 10) (.c (.bool true)) (.t 25)),
 m1 27 26,
 ⟨some 28,.addo (.t 1) 15,some (27,false),[]⟩,
 ⟨some 29,.ld (.t 28) 2 true,some (27,false),[]⟩,
 ⟨some 30,.bsl 2 31 [.t 29],some (27,false),[]⟩,
 ⟨some 31,.call 48 [.c (.int .i64 0),.c (.int .i64 1000000),.t 30],some (27,false),[]⟩,
 ⟨some 32,.un .not (.t 31),some (27,false),[]⟩,
 o1 33 (.pick (.t 27) (.c (.bool true)) (.t 32)),
 m1 34 33,
 ⟨some 35,.addo (.t 1) 14,some (34,false),[]⟩,
 ⟨some 36,.ld (.t 35) 1 false,some (34,false),[]⟩,
 ⟨some 37,.bsl 1 3 [.t 36],some (34,false),[]⟩,
 ⟨some 38,.call 68 [.c (.int .i64 0),.c (.int .i64 1000),.t 37],some (34,false),[]⟩,
 ⟨some 39,.un .not (.t 38),some (34,false),[]⟩,
 o1 40 (.pick (.t 34) (.c (.bool true)) (.t 39))])
 (.cond (.t 40)
 (.seq (.reg [
  o1 2 (.mv (.c (.int .i64 10)))])
  .ret)
 .skip))
 (.seq (.reg [
 o1 2 (.mv (.c (.int .i64 0)))])
 .ret)))
def r47:List RV:=[.tmp 2]
theorem t47:Qt1 Try.prog 47 c47 r47 41:=Yn Try.func47 rfl (by kernel_rfl) (by kernel_rfl) (by kernel_rfl) (by kernel_rfl)
def c27:SC:=(.seq (.reg [
 o1 2 (.box (.t 0) 0 33),
 o1 3 (.box (.t 1) 0 35),
 o1 4 (.mv (.c (.int .i64 0)))])
 (.seq (.seq (.reg [
 o1 6 (.ld (.t 2) 17 true),
 o1 7 (.call 47 [.t 6]),
 m1 5 7])
 (.seq (.reg [
 m1 8 5,
 o1 9 (.bin .neq (.t 8) (.c (.int .i64 0)))])
 (.cond (.t 9)
 (.seq (.reg [
  m1 10 5,
  m1 4 10])
  .ret)
 .skip)))
 (.seq (.seq (.reg [
 o1 11 (.addo (.t 2) 0),
 o1 12 (.ld (.t 11) 1 false),
 o1 13 (.addo (.t 3) 0),
 o1 14 (.ld (.t 13) 2 true),
 o1 15 (.bsl 2 31 [.t 14]),
 o1 16 (.call 48 [.c (.int .i64 0),.t 12,.t 15]),
 o1 17 (.un .not (.t 16)),
 m1 18 17,
 ⟨some 19,.addo (.t 2) 1,some (18,false),[]⟩,
 ⟨some 20,.ld (.t 19) 1 false,some (18,false),[]⟩,
 ⟨some 21,.addo (.t 3) 2,some (18,false),[]⟩,
 ⟨some 22,.ld (.t 21) 2 true,some (18,false),[]⟩,
 ⟨some 23,.bsl 2 31 [.t 22],some (18,false),[]⟩,
 ⟨some 24,.call 48 [.c (.int .i64 0),.t 20,.t 23],some (18,false),[]⟩,
 ⟨some 25,.un .not (.t 24),some (18,false),[]⟩,
 o1 26 (.pick (.t 18) (.c (.bool true)) (.t 25)),
 m1 27 26,
 ⟨some 28,.addo (.t 3) 4,some (27,false),[]⟩,
 ⟨some 29,.ld (.t 28) 2 true,some (27,false),[]⟩,
 ⟨some 30,.bsl 2 31 [.t 29],some (27,false),[]⟩,
 ⟨some 31,.call 48 [.c (.int .i64 0),.c (.int .i64 1000),.t 30],some (27,false),[]⟩,
 ⟨some 32,.un .not (.t 31),some (27,false),[]⟩,
 o1 33 (.pick (.t 27) (.c (.bool true)) (.t 32))])
 (.cond (.t 33)
 (.seq (.reg [
  o1 4 (.mv (.c (.int .i64 11)))])
  .ret)
 .skip))
 (.seq (.reg [
 o1 4 (.mv (.c (.int .i64 0)))])
 .ret))))
def r27:List RV:=[.tmp 4]
theorem t27:Qt1 Try.prog 27 c27 r27 34:=Yn Try.func27 rfl (by kernel_rfl) (by kernel_rfl) (by kernel_rfl) (by kernel_rfl)
def c88:SC:=(.seq (.reg [
 o1 1 (.box (.t 0) 0 146),
 o1 2 (.alloc [.int .i64 0,.int .i64 0] 31)])
 (.seq (.reg [
 o1 6 (.build [.int .i64 0,.int .i64 0] [(0,1,.c (.int .i64 1000)),(1,1,.c (.int .i64 1000))]),
 o1 3 (.alloc [.int .i64 0,.int .i64 0] 31),
 ⟨none,.st (.t 3) (.t 6) 2,none,[]⟩])
 (.seq (.seq (.regd [0,1,2,3,4,5,6,7,8,9,10,11,12,13,14,15,16,17,18,19,20,21] [
 .op (o1 7 (.addo (.t 1) 17)),
 .op ⟨some 8,.addo (.t 7) 0,none,[0]⟩,
 .op ⟨some 9,.ld (.t 8) 2 true,none,[1]⟩,
 .op (o1 10 (.addo (.t 1) 0)),
 .op ⟨some 11,.addo (.t 10) 0,none,[3]⟩,
 .op ⟨some 12,.ld (.t 11) 1 false,none,[4]⟩,
 .op (o1 13 (.bsl 1 3 [.c (.int .i64 2),.c (.int .i64 1000)])),
 .op ⟨some 14,.call 96 [.t 9,.t 12,.t 13],none,[2,5,6]⟩,
 .op (o1 15 (.addo (.t 1) 17)),
 .op ⟨some 16,.addo (.t 15) 2,none,[8]⟩,
 .op ⟨some 17,.ld (.t 16) 2 true,none,[9]⟩,
 .op (o1 18 (.addo (.t 1) 0)),
 .op ⟨some 19,.addo (.t 18) 1,none,[11]⟩,
 .op ⟨some 20,.ld (.t 19) 1 false,none,[12]⟩,
 .op (o1 21 (.bsl 1 3 [.c (.int .i64 2),.c (.int .i64 1000)])),
 .op ⟨some 22,.call 96 [.t 17,.t 20,.t 21],none,[7,10,13,14]⟩,
 .op (o1 23 (.addo (.t 1) 17)),
 .op ⟨some 24,.addo (.t 23) 4,none,[16]⟩,
 .op ⟨some 25,.ld (.t 24) 2 true,none,[17]⟩,
 .op ⟨some 26,.call 97 [.c (.int .i64 1000),.t 25],none,[15,18]⟩,
 .op ⟨some 27,.build zv6 [(0,2,.t 14),(2,2,.t 22),(4,2,.t 26)],none,[7,15,19]⟩,
 .op (o1 28 (.mv (.c (.int .i64 0))))] 0 0 [
])
 (.block 0 (.loop (.seq (.reg [
  o1 29 (.bin .lss (.t 28) (.c (.int .i64 3)))])
  (.seq (.cond (.t 29)
  .skip
  (.exit 0))
  (.seq (.block 1 (.seq (.reg [
   o1 30 (.idx (.t 27) (.t 28) 3 2 true),
   o1 5 (.alloc [.int .i64 0,.int .i64 0] 31),
   ⟨none,.st (.t 5) (.t 30) 2,none,[]⟩])
   (.reg [
   o1 31 (.addo (.t 3) 0),
   o1 32 (.ld (.t 31) 1 false),
   o1 33 (.addo (.t 5) 0),
   o1 34 (.ld (.t 33) 1 false),
   o1 35 (.mm false [.t 32,.t 34]),
   o1 36 (.addo (.t 3) 1),
   o1 37 (.ld (.t 36) 1 false),
   o1 38 (.addo (.t 5) 1),
   o1 39 (.ld (.t 38) 1 false),
   o1 40 (.mm false [.t 37,.t 39]),
   o1 41 (.build [.int .i64 0,.int .i64 0] [(0,1,.t 35),(1,1,.t 40)]),
   ⟨none,.st (.t 3) (.t 41) 2,none,[]⟩])))
  (.reg [
  o1 42 (.bin .add (.t 28) (.c (.int .i64 1))),
  m1 28 42])))))))
 (.seq (.reg [
 o1 43 (.ld (.t 3) 2 true),
 ⟨none,.st (.t 2) (.t 43) 2,none,[]⟩])
 .ret))))
def r88:List RV:=[.cell 2 2 true]
theorem t88:Qt1 Try.prog 88 c88 r88 44:=Yn Try.func88 rfl (by kernel_rfl) (by kernel_rfl) (by kernel_rfl) (by kernel_rfl)
def c73:SC:=(.seq (.reg [
 o1 1 (.box (.t 0) 0 146),
 o1 2 (.alloc [.int .i64 0,.int .i64 0] 31)])
 (.seq (.reg [
 o1 4 (.ld (.t 1) 24 true),
 o1 5 (.call 88 [.t 4]),
 o1 3 (.alloc [.int .i64 0,.int .i64 0] 31),
 ⟨none,.st (.t 3) (.t 5) 2,none,[]⟩])
 (.seq (.regd [0,1,2,3,4,5,6,7,8,9,10,11,12,13,14,15,16,17] [
 .op (o1 6 (.addo (.t 1) 0)),
 .op ⟨some 7,.addo (.t 6) 15,none,[0]⟩,
 .op ⟨some 8,.addo (.t 7) 0,none,[1]⟩,
 .op ⟨some 9,.ld (.t 8) 1 false,none,[2]⟩,
 .op (o1 10 (.addo (.t 3) 0)),
 .op ⟨some 11,.ld (.t 10) 1 false,none,[4]⟩,
 .op ⟨some 12,.bin .mul (.t 9) (.t 11),none,[3,5]⟩,
 .op ⟨some 13,.div .quo (.t 12) (.c (.int .i64 1000)),none,[6]⟩,
 .op (o1 14 (.addo (.t 1) 0)),
 .op ⟨some 15,.addo (.t 14) 15,none,[8]⟩,
 .op ⟨some 16,.addo (.t 15) 1,none,[9]⟩,
 .op ⟨some 17,.ld (.t 16) 1 false,none,[10]⟩,
 .op (o1 18 (.addo (.t 3) 1)),
 .op ⟨some 19,.ld (.t 18) 1 false,none,[12]⟩,
 .op ⟨some 20,.bin .mul (.t 17) (.t 19),none,[11,13]⟩,
 .op ⟨some 21,.call 89 [.t 20,.c (.int .i64 1000)],none,[14]⟩,
 .op ⟨some 22,.build [.int .i64 0,.int .i64 0] [(0,1,.t 13),(1,1,.t 21)],none,[7,15]⟩] 0 1 [
 ⟨none,.st (.t 2) (.t 22) 2,none,[0,1,2,3,4,5,6,7,8,9,10,11,12,13,14,15,16]⟩])
 .ret)))
def r73:List RV:=[.cell 2 2 true]
theorem t73:Qt1 Try.prog 73 c73 r73 23:=Yn Try.func73 rfl (by kernel_rfl) (by kernel_rfl) (by kernel_rfl) (by kernel_rfl)
def c98:SC:=(.seq (.reg [
 o1 2 (.mv (.c (.int .i64 0)))])
 (.seq (.seq (.reg [
 m1 5 0,
 o1 6 (.len (.t 5)),
 o1 7 (.mv (.c (.int .i64 0)))])
 (.block 0 (.loop (.seq (.reg [
  o1 8 (.bin .lss (.t 7) (.t 6))])
  (.seq (.cond (.t 8)
  .skip
  (.exit 0))
  (.seq (.block 1 (.seq (.reg [
   o1 9 (.ixs (.t 5) (.t 7) 8),
   o1 10 (.ld (.t 9) 8 true),
   o1 4 (.alloc zv7 160),
   ⟨none,.st (.t 4) (.t 10) 8,none,[]⟩])
   (.seq (.reg [
   o1 11 (.addo (.t 4) 0),
   o1 12 (.ld (.t 11) 1 false),
   o1 13 (.bsl 1 3 [.t 12]),
   o1 14 (.call 68 [.c (.int .i64 0),.c (.int .i64 24),.t 13]),
   o1 15 (.un .not (.t 14)),
   m1 16 15,
   ⟨some 17,.addo (.t 4) 1,some (16,false),[]⟩,
   ⟨some 18,.ld (.t 17) 1 false,some (16,false),[]⟩,
   ⟨some 19,.bsl 1 3 [.t 18],some (16,false),[]⟩,
   ⟨some 20,.call 68 [.c (.int .i64 0),.c (.int .i64 1000000),.t 19],some (16,false),[]⟩,
   ⟨some 21,.un .not (.t 20),some (16,false),[]⟩,
   o1 22 (.pick (.t 16) (.c (.bool true)) (.t 21)),
   m1 23 22,
   ⟨some 24,.addo (.t 4) 2,some (23,false),[]⟩,
   ⟨some 25,.ld (.t 24) 2 true,some (23,false),[]⟩,
   ⟨some 26,.bsl 2 31 [.t 25],some (23,false),[]⟩,
   ⟨some 27,.call 48 [.c (.int .i64 0),.c (.int .i64 60),.t 26],some (23,false),[]⟩,
   ⟨some 28,.un .not (.t 27),some (23,false),[]⟩,
   o1 29 (.pick (.t 23) (.c (.bool true)) (.t 28)),
   m1 30 29,
   ⟨some 31,.addo (.t 4) 4,some (30,false),[]⟩,
   ⟨some 32,.ld (.t 31) 2 true,some (30,false),[]⟩,
   ⟨some 33,.addo (.t 4) 6,some (30,false),[]⟩,
   ⟨some 34,.ld (.t 33) 2 true,some (30,false),[]⟩,
   ⟨some 35,.bsl 2 31 [.t 32,.t 34],some (30,false),[]⟩,
   ⟨some 36,.call 48 [.c (.int .i64 0),.c (.int .i64 1000000),.t 35],some (30,false),[]⟩,
   ⟨some 37,.un .not (.t 36),some (30,false),[]⟩,
   o1 38 (.pick (.t 30) (.c (.bool true)) (.t 37))])
   (.cond (.t 38)
   (.seq (.reg [
    o1 2 (.mv (.c (.int .i64 12)))])
    .ret)
   .skip))))
  (.reg [
  o1 39 (.bin .add (.t 7) (.c (.int .i64 1))),
  m1 7 39])))))))
 (.seq (.reg [
 o1 2 (.mv (.c (.int .i64 0)))])
 .ret)))
def r98:List RV:=[.tmp 2]
theorem t98:Qt1 Try.prog 98 c98 r98 40:=Yn Try.func98 rfl (by kernel_rfl) (by kernel_rfl) (by kernel_rfl) (by kernel_rfl)
def c100:SC:=(.seq (.reg [
 o1 3 (.box (.t 0) 0 33),
 o1 5 (.box (.t 2) 0 160),
 o1 6 (.alloc [.int .i64 0,.int .i64 0,.int .i64 0,.int .i64 0] 181)])
 (.seq (.reg [
 o1 10 (.addo (.t 5) 2),
 o1 11 (.addo (.t 10) 0),
 o1 12 (.ld (.t 11) 1 false),
 o1 13 (.bin .sub (.t 12) (.c (.int .i64 20))),
 o1 14 (.mm true [.c (.int .i64 0),.t 13]),
 o1 15 (.addo (.t 5) 2),
 o1 16 (.addo (.t 15) 1),
 o1 17 (.ld (.t 16) 1 false),
 o1 18 (.bin .sub (.t 17) (.c (.int .i64 20))),
 o1 19 (.mm true [.c (.int .i64 0),.t 18]),
 o1 20 (.build [.int .i64 0,.int .i64 0] [(0,1,.t 14),(1,1,.t 19)]),
 o1 7 (.alloc [.int .i64 0,.int .i64 0] 31),
 ⟨none,.st (.t 7) (.t 20) 2,none,[]⟩])
 (.seq (.reg [
 o1 21 (.addo (.t 5) 0),
 o1 22 (.ld (.t 21) 1 false),
 o1 23 (.addo (.t 5) 1),
 o1 24 (.ld (.t 23) 1 false),
 o1 25 (.bin .add (.c (.int .i64 100000)) (.t 24)),
 o1 26 (.bin .mul (.t 22) (.t 25)),
 m1 8 26])
 (.seq (.regd [0,1,2,3,4,5,6,7,8,9,10,11,12,13,14,15,16,17,18,19,20,21,22,23] [
 .op (o1 27 (.addo (.t 3) 2)),
 .op ⟨some 28,.ld (.t 27) 2 true,none,[0]⟩,
 .op (o1 29 (.addo (.t 3) 4)),
 .op ⟨some 30,.addo (.t 29) 0,none,[2]⟩,
 .op ⟨some 31,.ld (.t 30) 1 false,none,[3]⟩,
 .op (o1 32 (.addo (.t 7) 0)),
 .op ⟨some 33,.ld (.t 32) 1 false,none,[5]⟩,
 .op ⟨some 34,.bin .mul (.t 31) (.t 33),none,[4,6]⟩,
 .op (o1 35 (.addo (.t 3) 4)),
 .op ⟨some 36,.addo (.t 35) 1,none,[8]⟩,
 .op ⟨some 37,.ld (.t 36) 1 false,none,[9]⟩,
 .op (o1 38 (.addo (.t 7) 1)),
 .op ⟨some 39,.ld (.t 38) 1 false,none,[11]⟩,
 .op ⟨some 40,.bin .mul (.t 37) (.t 39),none,[10,12]⟩,
 .op ⟨some 41,.build [.int .i64 0,.int .i64 0] [(0,1,.t 34),(1,1,.t 40)],none,[7,13]⟩,
 .op (o1 42 (.addo (.t 3) 6)),
 .op ⟨some 43,.ld (.t 42) 2 true,none,[15]⟩,
 .op (m1 44 8),
 .op ⟨some 45,.bsl 1 3 [.t 44],none,[17]⟩,
 .op ⟨some 46,.call 96 [.t 43,.c (.int .i64 100000),.t 45],none,[16,18]⟩,
 .op ⟨some 47,.bsl 2 31 [.t 28,.t 41,.t 46],none,[1,14,19]⟩,
 .op ⟨some 48,.call 101 [.t 47],none,[19,20]⟩] 1 1 [
 o1 9 (.alloc [.int .i64 0,.int .i64 0] 31),
 ⟨none,.st (.t 9) (.t 48) 2,none,[0,1,2,3,4,5,6,7,8,9,10,11,12,13,14,15,16,17,18,19,20,21,22]⟩])
 (.seq (.seq (.reg [
 m1 49 1])
 (.cond (.t 49)
 (.reg [
  o1 50 (.ld (.t 9) 2 true),
  o1 51 (.addo (.t 3) 12),
  o1 52 (.ld (.t 51) 2 true),
  o1 53 (.bsl 2 31 [.t 50,.t 52]),
  o1 54 (.call 101 [.t 53]),
  ⟨none,.st (.t 9) (.t 54) 2,none,[]⟩])
 .skip))
 (.seq (.regd [0,1,2,3,4,5,6,7] [
 .op (o1 55 (.ld (.t 9) 2 true)),
 .op (o1 56 (.addo (.t 3) 8)),
 .op ⟨some 57,.ld (.t 56) 2 true,none,[1]⟩,
 .op (m1 58 8),
 .op ⟨some 59,.bsl 1 3 [.t 58],none,[3]⟩,
 .op ⟨some 60,.call 96 [.t 57,.c (.int .i64 100000),.t 59],none,[2,4]⟩,
 .op ⟨some 61,.build [.int .i64 0,.int .i64 0,.int .i64 0,.int .i64 0] [(0,2,.t 55),(2,2,.t 60)],none,[0,5]⟩] 0 1 [
 ⟨none,.st (.t 6) (.t 61) 4,none,[0,1,2,3,4,5,6]⟩])
 .ret))))))
def r100:List RV:=[.cell 6 4 true]
theorem t100:Qt1 Try.prog 100 c100 r100 62:=Yn Try.func100 rfl (by kernel_rfl) (by kernel_rfl) (by kernel_rfl) (by kernel_rfl)
def c68:SC:=(.seq (.reg [
 o1 3 (.box (.t 0) 0 3),
 o1 4 (.box (.t 1) 0 3),
 o1 6 (.mv (.c (.bool false)))])
 (.seq (.reg [
 m1 7 2,
 o1 8 (.mkf 87 [.t 3,.t 4]),
 o1 9 (.call 35 [.t 7,.t 8]),
 o1 10 (.un .not (.t 9)),
 m1 6 10])
 .ret))
def r68:List RV:=[.tmp 6]
theorem t68:Qt1 Try.prog 68 c68 r68 11:=Yn Try.func68 rfl (by kernel_rfl) (by kernel_rfl) (by kernel_rfl) (by kernel_rfl)
def c48:SC:=(.seq (.reg [
 o1 3 (.box (.t 0) 0 3),
 o1 4 (.box (.t 1) 0 3),
 o1 6 (.mv (.c (.bool false)))])
 (.seq (.reg [
 m1 7 2,
 o1 8 (.mkf 69 [.t 3,.t 4]),
 o1 9 (.call 49 [.t 7,.t 8]),
 o1 10 (.un .not (.t 9)),
 m1 6 10])
 .ret))
def r48:List RV:=[.tmp 6]
theorem t48:Qt1 Try.prog 48 c48 r48 11:=Yn Try.func48 rfl (by kernel_rfl) (by kernel_rfl) (by kernel_rfl) (by kernel_rfl)
def c101:SC:=(.seq (.reg [
 o1 2 (.alloc [.int .i64 0,.int .i64 0] 31)])
 (.seq (.reg [
 o1 3 (.alloc [.int .i64 0,.int .i64 0] 31)])
 (.seq (.seq (.reg [
 m1 6 0,
 o1 7 (.len (.t 6)),
 o1 8 (.mv (.c (.int .i64 0)))])
 (.block 0 (.loop (.seq (.reg [
  o1 9 (.bin .lss (.t 8) (.t 7))])
  (.seq (.cond (.t 9)
  .skip
  (.exit 0))
  (.seq (.block 1 (.seq (.reg [
   o1 10 (.ixs (.t 6) (.t 8) 2),
   o1 11 (.ld (.t 10) 2 true),
   o1 5 (.alloc [.int .i64 0,.int .i64 0] 31),
   ⟨none,.st (.t 5) (.t 11) 2,none,[]⟩])
   (.reg [
   o1 12 (.addo (.t 3) 0),
   o1 13 (.ld (.t 12) 1 false),
   o1 14 (.addo (.t 5) 0),
   o1 15 (.ld (.t 14) 1 false),
   o1 16 (.bin .add (.t 13) (.t 15)),
   o1 17 (.addo (.t 3) 1),
   o1 18 (.ld (.t 17) 1 false),
   o1 19 (.addo (.t 5) 1),
   o1 20 (.ld (.t 19) 1 false),
   o1 21 (.bin .add (.t 18) (.t 20)),
   o1 22 (.build [.int .i64 0,.int .i64 0] [(0,1,.t 16),(1,1,.t 21)]),
   ⟨none,.st (.t 3) (.t 22) 2,none,[]⟩])))
  (.reg [
  o1 23 (.bin .add (.t 8) (.c (.int .i64 1))),
  m1 8 23])))))))
 (.seq (.reg [
 o1 24 (.ld (.t 3) 2 true),
 ⟨none,.st (.t 2) (.t 24) 2,none,[]⟩])
 .ret))))
def r101:List RV:=[.cell 2 2 true]
theorem t101:Qt1 Try.prog 101 c101 r101 25:=Yn Try.func101 rfl (by kernel_rfl) (by kernel_rfl) (by kernel_rfl) (by kernel_rfl)
def c97:SC:=(.seq (.reg [
 o1 3 (.box (.t 1) 0 31),
 o1 4 (.alloc [.int .i64 0,.int .i64 0] 31)])
 (.seq (.reg [
 m1 5 0,
 o1 6 (.addo (.t 3) 1),
 o1 7 (.ld (.t 6) 1 false),
 o1 8 (.bin .sub (.t 5) (.t 7)),
 m1 9 0,
 o1 10 (.addo (.t 3) 0),
 o1 11 (.ld (.t 10) 1 false),
 o1 12 (.bin .sub (.t 9) (.t 11)),
 o1 13 (.build [.int .i64 0,.int .i64 0] [(0,1,.t 8),(1,1,.t 12)]),
 ⟨none,.st (.t 4) (.t 13) 2,none,[]⟩])
 .ret))
def r97:List RV:=[.cell 4 2 true]
theorem t97:Qt1 Try.prog 97 c97 r97 14:=Yn Try.func97 rfl (by kernel_rfl) (by kernel_rfl) (by kernel_rfl) (by kernel_rfl)
def c96:SC:=(.seq (.reg [
 o1 3 (.box (.t 0) 0 31),
 o1 6 (.alloc [.int .i64 0,.int .i64 0] 31)])
 (.seq (.seq (.reg [
 m1 9 2,
 o1 10 (.len (.t 9)),
 o1 11 (.mv (.c (.int .i64 0)))])
 (.block 0 (.loop (.seq (.reg [
  o1 12 (.bin .lss (.t 11) (.t 10))])
  (.seq (.cond (.t 12)
  .skip
  (.exit 0))
  (.seq (.block 1 (.seq (.reg [
   o1 13 (.ixs (.t 9) (.t 11) 1),
   o1 14 (.ld (.t 13) 1 false),
   m1 8 14])
   (.reg [
   o1 15 (.addo (.t 3) 0),
   o1 16 (.ld (.t 15) 1 false),
   m1 17 8,
   o1 18 (.bin .mul (.t 16) (.t 17)),
   o1 19 (.addo (.t 3) 1),
   o1 20 (.ld (.t 19) 1 false),
   m1 21 8,
   o1 22 (.bin .mul (.t 20) (.t 21)),
   o1 23 (.addo (.t 3) 0),
   ⟨none,.st (.t 23) (.t 18) 1,none,[]⟩,
   o1 24 (.addo (.t 3) 1),
   ⟨none,.st (.t 24) (.t 22) 1,none,[]⟩])))
  (.reg [
  o1 25 (.bin .add (.t 11) (.c (.int .i64 1))),
  m1 11 25])))))))
 (.seq (.regd [0,1,2,3,4,5,6,7,8,9] [
 .op (o1 26 (.addo (.t 3) 0)),
 .op ⟨some 27,.ld (.t 26) 1 false,none,[0]⟩,
 .op (m1 28 1),
 .op ⟨some 29,.div .quo (.t 27) (.t 28),none,[1,2]⟩,
 .op (o1 30 (.addo (.t 3) 1)),
 .op ⟨some 31,.ld (.t 30) 1 false,none,[4]⟩,
 .op (m1 32 1),
 .op ⟨some 33,.call 89 [.t 31,.t 32],none,[5,6]⟩,
 .op ⟨some 34,.build [.int .i64 0,.int .i64 0] [(0,1,.t 29),(1,1,.t 33)],none,[3,7]⟩] 0 1 [
 ⟨none,.st (.t 6) (.t 34) 2,none,[0,1,2,3,4,5,6,7,8]⟩])
 .ret)))
def r96:List RV:=[.cell 6 2 true]
theorem t96:Qt1 Try.prog 96 c96 r96 35:=Yn Try.func96 rfl (by kernel_rfl) (by kernel_rfl) (by kernel_rfl) (by kernel_rfl)
def c89:SC:=(.seq (.reg [
 o1 4 (.mv (.c (.int .i64 0)))])
 (.seq (.reg [
 m1 5 0,
 m1 6 1,
 o1 7 (.bin .add (.t 5) (.t 6)),
 o1 8 (.bin .sub (.t 7) (.c (.int .i64 1))),
 m1 9 1,
 o1 10 (.div .quo (.t 8) (.t 9)),
 m1 4 10])
 .ret))
def r89:List RV:=[.tmp 4]
theorem t89:Qt1 Try.prog 89 c89 r89 11:=Yn Try.func89 rfl (by kernel_rfl) (by kernel_rfl) (by kernel_rfl) (by kernel_rfl)
def c87:SC:=(.seq (.reg [
 o1 4 (.mv (.c (.bool false)))])
 (.seq (.reg [
 m1 5 0,
 o1 6 (.ld (.t 1) 1 false),
 o1 7 (.bin .lss (.t 5) (.t 6)),
 m1 8 7,
 ⟨some 9,.mv (.t 0),some (8,false),[]⟩,
 ⟨some 10,.ld (.t 2) 1 false,some (8,false),[]⟩,
 ⟨some 11,.bin .gtr (.t 9) (.t 10),some (8,false),[]⟩,
 o1 12 (.pick (.t 8) (.c (.bool true)) (.t 11)),
 m1 4 12])
 .ret))
def r87:List RV:=[.tmp 4]
theorem t87:Qt1 Try.prog 87 c87 r87 13:=Yn Try.func87 rfl (by kernel_rfl) (by kernel_rfl) (by kernel_rfl) (by kernel_rfl)
def c69:SC:=(.seq (.reg [
 o1 3 (.box (.t 0) 0 31),
 o1 4 (.mv (.c (.bool false)))])
 (.seq (.reg [
 o1 5 (.addo (.t 3) 0),
 o1 6 (.ld (.t 5) 1 false),
 o1 7 (.addo (.t 3) 1),
 o1 8 (.ld (.t 7) 1 false),
 o1 9 (.bin .gtr (.t 6) (.t 8)),
 m1 10 9,
 ⟨some 11,.ld (.t 1) 1 false,some (10,false),[]⟩,
 ⟨some 12,.ld (.t 2) 1 false,some (10,false),[]⟩,
 ⟨some 13,.addo (.t 3) 0,some (10,false),[]⟩,
 ⟨some 14,.ld (.t 13) 1 false,some (10,false),[]⟩,
 ⟨some 15,.addo (.t 3) 1,some (10,false),[]⟩,
 ⟨some 16,.ld (.t 15) 1 false,some (10,false),[]⟩,
 ⟨some 17,.bsl 1 3 [.t 14,.t 16],some (10,false),[]⟩,
 ⟨some 18,.call 68 [.t 11,.t 12,.t 17],some (10,false),[]⟩,
 ⟨some 19,.un .not (.t 18),some (10,false),[]⟩,
 o1 20 (.pick (.t 10) (.c (.bool true)) (.t 19)),
 m1 4 20])
 .ret))
def r69:List RV:=[.tmp 4]
theorem t69:Qt1 Try.prog 69 c69 r69 21:=Yn Try.func69 rfl (by kernel_rfl) (by kernel_rfl) (by kernel_rfl) (by kernel_rfl)
def c99:SC:=(.seq (.reg [
 o1 2 (.box (.t 0) 0 146),
 o1 3 (.box (.t 1) 0 160),
 o1 4 (.alloc zv2 146),
 o1 5 (.mv (.c (.int .u8 0)))])
 (.seq (.reg [
 o1 16 (.addo (.t 2) 17),
 o1 17 (.addo (.t 16) 0),
 o1 18 (.addo (.t 2) 17),
 o1 19 (.addo (.t 18) 2),
 o1 20 (.build [.pointer none,.pointer none] [(0,1,.t 17),(1,1,.t 19)]),
 o1 6 (.alloc [.pointer none,.pointer none] 180),
 ⟨none,.st (.t 6) (.t 20) 2,none,[]⟩])
 (.seq (.regd [0,1,2,3,4,5,6,7,8,9,10,11,12,13,14,15] [
 .op (o1 21 (.addo (.t 2) 0)),
 .op ⟨some 22,.addo (.t 21) 0,none,[0]⟩,
 .op ⟨some 23,.ld (.t 22) 1 false,none,[1]⟩,
 .op (o1 24 (.addo (.t 2) 0)),
 .op ⟨some 25,.addo (.t 24) 1,none,[3]⟩,
 .op ⟨some 26,.ld (.t 25) 1 false,none,[4]⟩,
 .op ⟨some 27,.build [.int .i64 0,.int .i64 0] [(0,1,.t 23),(1,1,.t 26)],none,[2,5]⟩,
 .op (o1 28 (.addo (.t 3) 6)),
 .op ⟨some 29,.ld (.t 28) 2 true,none,[7]⟩,
 .op (o1 30 (.addo (.t 3) 4)),
 .op ⟨some 31,.ld (.t 30) 2 true,none,[9]⟩,
 .op ⟨some 32,.build [.int .i64 0,.int .i64 0,.int .i64 0,.int .i64 0] [(0,2,.t 29),(2,2,.t 31)],none,[8,10]⟩] 2 2 [
 o1 7 (.alloc [.int .i64 0,.int .i64 0] 114),
 o1 8 (.alloc [.int .i64 0,.int .i64 0,.int .i64 0,.int .i64 0] 181),
 ⟨none,.st (.t 7) (.t 27) 2,none,[0,1,2,3,4,5,6,12,13]⟩,
 ⟨none,.st (.t 8) (.t 32) 4,none,[0,1,2,3,4,5,6,7,8,9,10,11,12,13,14]⟩])
 (.seq (.reg [
 o1 9 (.mv (.c (.int .u8 0)))])
 (.seq (.seq (.reg [
 o1 33 (.addo (.t 2) 0),
 o1 34 (.ld (.t 33) 17 true),
 o1 35 (.addo (.t 2) 17),
 o1 36 (.addo (.t 35) 6),
 o1 37 (.ld (.t 36) 1 false),
 o1 38 (.ld (.t 3) 8 true),
 o1 39 (.call 100 [.t 34,.t 37,.t 38]),
 o1 40 (.mv (.c (.int .i64 0)))])
 (.block 0 (.loop (.seq (.reg [
  o1 41 (.bin .lss (.t 40) (.c (.int .i64 2)))])
  (.seq (.cond (.t 41)
  .skip
  (.exit 0))
  (.seq (.block 1 (.seq (.reg [
   m1 42 40,
   o1 43 (.idx (.t 39) (.t 40) 2 2 true),
   o1 11 (.alloc [.int .i64 0,.int .i64 0] 31),
   m1 10 42,
   ⟨none,.st (.t 11) (.t 43) 2,none,[]⟩])
   (.seq (.reg [
   m1 44 10,
   o1 45 (.ixa (.t 6) (.t 44) 2 1),
   o1 46 (.ld (.t 45) 1 false),
   m1 12 46])
   (.seq (.block 2 (.seq (.regd [0,1,2,3,4,5,6,7] [
    .op (m1 48 12),
    .op ⟨some 49,.nilc (.t 48),none,[0]⟩,
    .op ⟨some 50,.addo (.t 49) 1,none,[1]⟩,
    .op ⟨some 51,.ld (.t 50) 1 false,none,[2]⟩,
    .op (o1 52 (.addo (.t 11) 0)),
    .op ⟨some 53,.ld (.t 52) 1 false,none,[4]⟩,
    .op ⟨some 54,.bin .lss (.t 51) (.t 53),none,[3,5]⟩,
    .op ⟨some 47,.mv (.t 54),none,[6]⟩] 0 0 [
])
 (.cond (.t 47)
 (.seq (.reg [
  o1 55 (.build zv2 []),
  ⟨none,.st (.t 4) (.t 55) 24,none,[]⟩,
  o1 5 (.mv (.c (.int .u8 2)))])
  .ret)
 (.seq (.regd [0,1,2,3,4,5,6,7] [
  .op (m1 57 12),
  .op ⟨some 58,.nilc (.t 57),none,[0]⟩,
  .op ⟨some 59,.addo (.t 58) 0,none,[1]⟩,
  .op ⟨some 60,.ld (.t 59) 1 false,none,[2]⟩,
  .op (o1 61 (.addo (.t 11) 1)),
  .op ⟨some 62,.ld (.t 61) 1 false,none,[4]⟩,
  .op ⟨some 63,.bin .lss (.t 60) (.t 62),none,[3,5]⟩,
  .op ⟨some 56,.mv (.t 63),none,[6]⟩] 0 0 [
])
 (.cond (.t 56)
 (.reg [
  o1 9 (.mv (.c (.int .u8 1)))])
 .skip)))))
 (.seq (.regd [0,1,2,3,4,5,6,7,8,9,10,11,12,13,14,15,16,17,18,19,20,21,22] [
 .op (m1 64 12),
 .op ⟨some 65,.nilc (.t 64),none,[0]⟩,
 .op ⟨some 66,.addo (.t 65) 0,none,[1]⟩,
 .op ⟨some 67,.ld (.t 66) 1 false,none,[2]⟩,
 .op (o1 68 (.addo (.t 11) 1)),
 .op ⟨some 69,.ld (.t 68) 1 false,none,[4]⟩,
 .op ⟨some 70,.bin .sub (.t 67) (.t 69),none,[3,5]⟩,
 .op ⟨some 71,.mm true [.c (.int .i64 0),.t 70],none,[6]⟩,
 .op (m1 72 12),
 .op ⟨some 73,.nilc (.t 72),none,[8]⟩,
 .op ⟨some 74,.addo (.t 73) 1,none,[9]⟩,
 .op ⟨some 75,.ld (.t 74) 1 false,none,[10]⟩,
 .op (o1 76 (.addo (.t 11) 0)),
 .op ⟨some 77,.ld (.t 76) 1 false,none,[12]⟩,
 .op ⟨some 78,.bin .sub (.t 75) (.t 77),none,[11,13]⟩,
 .op ⟨some 79,.build [.int .i64 0,.int .i64 0] [(0,1,.t 71),(1,1,.t 78)],none,[7,14]⟩,
 .op (m1 80 10),
 .op ⟨some 81,.ixa (.t 8) (.t 80) 2 2,none,[16]⟩,
 .op ⟨some 82,.ld (.t 81) 2 true,none,[17]⟩,
 .op ⟨some 83,.bsl 2 31 [.t 79,.t 82],none,[15,18]⟩,
 .op ⟨some 84,.call 101 [.t 83],none,[19]⟩] 1 1 [
 o1 13 (.alloc [.int .i64 0,.int .i64 0] 31),
 ⟨none,.st (.t 13) (.t 84) 2,none,[0,1,2,3,4,5,6,7,8,9,10,11,12,13,14,15,16,17,18,19,20,21]⟩])
 (.regd [0,1,2,3,4,5,6,7,8,9,10,11,12,13,14,15] [
 .op (m1 85 12),
 .op (m1 86 10),
 .op ⟨some 87,.ixa (.t 7) (.t 86) 2 1,none,[1]⟩,
 .op ⟨some 88,.ld (.t 87) 1 false,none,[2]⟩,
 .op (o1 89 (.addo (.t 13) 0)),
 .op ⟨some 90,.ld (.t 89) 1 false,none,[4]⟩,
 .op ⟨some 91,.mm false [.t 88,.t 90],none,[3,5]⟩,
 .op (m1 92 10),
 .op ⟨some 93,.ixa (.t 7) (.t 92) 2 1,none,[7]⟩,
 .op ⟨some 94,.ld (.t 93) 1 false,none,[8]⟩,
 .op (o1 95 (.addo (.t 13) 1)),
 .op ⟨some 96,.ld (.t 95) 1 false,none,[10]⟩,
 .op ⟨some 97,.mm false [.t 94,.t 96],none,[9,11]⟩,
 .op ⟨some 98,.build [.int .i64 0,.int .i64 0] [(0,1,.t 91),(1,1,.t 97)],none,[6,12]⟩,
 .op ⟨some 99,.nilc (.t 85),none,[0,1,2,3,4,5,6,7,8,9,10,11,12,13]⟩] 0 1 [
 ⟨none,.st (.t 99) (.t 98) 2,none,[0,1,2,3,4,5,6,7,8,9,10,11,12,13,14]⟩]))))))
 (.reg [
 o1 100 (.bin .add (.t 40) (.c (.int .i64 1))),
 m1 40 100])))))))
 (.seq (.reg [
 o1 101 (.addo (.t 2) 17),
 o1 102 (.addo (.t 101) 4),
 m1 14 102])
 (.seq (.seq (.reg [
 o1 103 (.addo (.t 3) 0),
 o1 104 (.ld (.t 103) 1 false),
 o1 105 (.bin .eql (.t 104) (.c (.int .i64 0)))])
 (.cond (.t 105)
 (.seq (.regd [0,1,2,3,4,5,6,7,8,9,10,11,12,13,14,15,16,17,18,19,20,21] [
  .op (m1 106 14),
  .op (m1 107 14),
  .op ⟨some 108,.nilc (.t 107),none,[1]⟩,
  .op ⟨some 109,.addo (.t 108) 0,none,[2]⟩,
  .op ⟨some 110,.ld (.t 109) 1 false,none,[3]⟩,
  .op (o1 111 (.addo (.t 2) 0)),
  .op ⟨some 112,.addo (.t 111) 14,none,[5]⟩,
  .op ⟨some 113,.ld (.t 112) 1 false,none,[6]⟩,
  .op ⟨some 114,.bin .sub (.t 110) (.t 113),none,[4,7]⟩,
  .op ⟨some 115,.mm true [.c (.int .i64 0),.t 114],none,[8]⟩,
  .op (m1 116 14),
  .op ⟨some 117,.nilc (.t 116),none,[10]⟩,
  .op ⟨some 118,.addo (.t 117) 1,none,[11]⟩,
  .op ⟨some 119,.ld (.t 118) 1 false,none,[12]⟩,
  .op (o1 120 (.addo (.t 2) 0)),
  .op ⟨some 121,.addo (.t 120) 14,none,[14]⟩,
  .op ⟨some 122,.ld (.t 121) 1 false,none,[15]⟩,
  .op ⟨some 123,.bin .sub (.t 119) (.t 122),none,[13,16]⟩,
  .op ⟨some 124,.mm true [.c (.int .i64 0),.t 123],none,[17]⟩,
  .op ⟨some 125,.build [.int .i64 0,.int .i64 0] [(0,1,.t 115),(1,1,.t 124)],none,[9,18]⟩,
  .op ⟨some 126,.nilc (.t 106),none,[0,1,2,3,4,5,6,7,8,9,10,11,12,13,14,15,16,17,18,19]⟩] 0 1 [
  ⟨none,.st (.t 126) (.t 125) 2,none,[0,1,2,3,4,5,6,7,8,9,10,11,12,13,14,15,16,17,18,19,20]⟩])
  (.seq (.reg [
  o1 127 (.ld (.t 2) 24 true),
  m1 128 9,
  ⟨none,.st (.t 4) (.t 127) 24,none,[]⟩,
  m1 5 128])
  .ret))
 .skip))
 (.seq (.regd [0,1,2,3,4,5,6,7,8,9,10,11,12,13,14,15] [
 .op (m1 129 14),
 .op ⟨some 130,.nilc (.t 129),none,[0]⟩,
 .op ⟨some 131,.ld (.t 130) 2 true,none,[1]⟩,
 .op (o1 132 (.addo (.t 2) 0)),
 .op ⟨some 133,.addo (.t 132) 10,none,[3]⟩,
 .op ⟨some 134,.ld (.t 133) 2 true,none,[4]⟩,
 .op (o1 135 (.addo (.t 3) 0)),
 .op ⟨some 136,.ld (.t 135) 1 false,none,[6]⟩,
 .op (o1 137 (.addo (.t 3) 1)),
 .op ⟨some 138,.ld (.t 137) 1 false,none,[8]⟩,
 .op ⟨some 139,.bsl 1 3 [.t 136,.t 138],none,[7,9]⟩,
 .op ⟨some 140,.call 96 [.t 134,.c (.int .i64 1000000),.t 139],none,[5,10]⟩,
 .op ⟨some 141,.bsl 2 31 [.t 131,.t 140],none,[2,11]⟩,
 .op ⟨some 142,.call 101 [.t 141],none,[11,12]⟩] 1 1 [
 o1 15 (.alloc [.int .i64 0,.int .i64 0] 31),
 ⟨none,.st (.t 15) (.t 142) 2,none,[0,1,2,3,4,5,6,7,8,9,10,11,12,13,14]⟩])
 (.seq (.reg [
 m1 143 14,
 o1 144 (.addo (.t 15) 0),
 o1 145 (.ld (.t 144) 1 false),
 o1 146 (.mm false [.c (.int .i64 1000),.t 145]),
 o1 147 (.addo (.t 15) 1),
 o1 148 (.ld (.t 147) 1 false),
 o1 149 (.mm false [.c (.int .i64 1000),.t 148]),
 o1 150 (.build [.int .i64 0,.int .i64 0] [(0,1,.t 146),(1,1,.t 149)]),
 o1 151 (.nilc (.t 143)),
 ⟨none,.st (.t 151) (.t 150) 2,none,[]⟩])
 (.seq (.reg [
 o1 152 (.ld (.t 2) 24 true),
 m1 153 9,
 ⟨none,.st (.t 4) (.t 152) 24,none,[]⟩,
 m1 5 153])
 .ret))))))))))
def r99:List RV:=[.cell 4 24 true,.tmp 5]
theorem t99:Qt1 Try.prog 99 c99 r99 154:=Yn Try.func99 rfl (by kernel_rfl) (by kernel_rfl) (by kernel_rfl) (by kernel_rfl)
def c90:SC:=(.seq (.reg [
 o1 3 (.box (.t 0) 0 33),
 o1 4 (.box (.t 1) 0 35),
 o1 5 (.box (.t 2) 0 160),
 o1 6 (.alloc zv3 35),
 o1 7 (.mv (.c (.int .u8 0))),
 o1 8 (.mv (.c (.int .i64 0)))])
 (.seq (.seq (.reg [
 o1 12 (.ld (.t 3) 17 true),
 o1 13 (.ld (.t 4) 7 true),
 o1 14 (.call 27 [.t 12,.t 13]),
 m1 9 14])
 (.seq (.reg [
 m1 15 9,
 o1 16 (.bin .neq (.t 15) (.c (.int .i64 0)))])
 (.cond (.t 16)
 (.seq (.reg [
  o1 17 (.ld (.t 6) 7 true),
  m1 18 9,
  ⟨none,.st (.t 6) (.t 17) 7,none,[]⟩,
  o1 7 (.mv (.c (.int .u8 0))),
  m1 8 18])
  .ret)
 .skip)))
 (.seq (.seq (.reg [
 o1 19 (.ld (.t 5) 8 true),
 o1 20 (.bsl 8 160 [.t 19]),
 o1 21 (.call 98 [.t 20]),
 m1 10 21])
 (.seq (.reg [
 m1 22 10,
 o1 23 (.bin .neq (.t 22) (.c (.int .i64 0)))])
 (.cond (.t 23)
 (.seq (.reg [
  o1 24 (.ld (.t 6) 7 true),
  m1 25 10,
  ⟨none,.st (.t 6) (.t 24) 7,none,[]⟩,
  o1 7 (.mv (.c (.int .u8 0))),
  m1 8 25])
  .ret)
 .skip)))
 (.seq (.reg [
 o1 27 (.ld (.t 3) 17 true),
 o1 28 (.ld (.t 4) 7 true),
 o1 29 (.build zv2 [(0,17,.t 27),(17,7,.t 28)]),
 o1 30 (.ld (.t 5) 8 true),
 o1 31 (.call 99 [.t 29,.t 30]),
 m1 26 31,
 o1 32 (.ext (.t 26) 0),
 o1 33 (.ext (.t 26) 1),
 o1 11 (.alloc zv2 146),
 ⟨none,.st (.t 11) (.t 32) 24,none,[]⟩,
 m1 7 33])
 (.seq (.seq (.reg [
 m1 34 7,
 o1 35 (.bin .eql (.t 34) (.c (.int .u8 2)))])
 (.cond (.t 35)
 (.seq (.reg [
  o1 36 (.ld (.t 6) 7 true),
  ⟨none,.st (.t 6) (.t 36) 7,none,[]⟩,
  o1 7 (.mv (.c (.int .u8 0))),
  o1 8 (.mv (.c (.int .i64 13)))])
  .ret)
 .skip))
 (.seq (.reg [
 o1 37 (.addo (.t 11) 17),
 o1 38 (.ld (.t 37) 7 true),
 m1 39 7,
 ⟨none,.st (.t 6) (.t 38) 7,none,[]⟩,
 m1 7 39,
 o1 8 (.mv (.c (.int .i64 0)))])
 .ret))))))
def r90:List RV:=[.cell 6 7 true,.tmp 7,.tmp 8]
theorem t90:Qt1 Try.prog 90 c90 r90 40:=Yn Try.func90 rfl (by kernel_rfl) (by kernel_rfl) (by kernel_rfl) (by kernel_rfl)
def c65:SC:=(.seq (.reg [
 o1 4 (.box (.t 0) 0 29),
 o1 8 (.alloc [.int .i64 0,.int .i64 0] 31),
 o1 9 (.mv (.c (.int .i64 0))),
 o1 10 (.mv (.c (.int .i64 0)))])
 (.seq (.seq (.reg [
 o1 20 (.ld (.t 4) 2 true),
 o1 21 (.call 55 [.t 20]),
 m1 11 21])
 (.block 0 (.seq (.reg [
  m1 23 11,
  o1 24 (.bin .neq (.t 23) (.c (.int .i64 0))),
  m1 22 24])
  (.cond (.t 22)
  (.seq (.reg [
   o1 25 (.ld (.t 8) 2 true),
   m1 26 11,
   ⟨none,.st (.t 8) (.t 25) 2,none,[]⟩,
   o1 9 (.mv (.c (.int .i64 0))),
   m1 10 26])
   .ret)
  (.seq (.reg [
   o1 28 (.addo (.t 4) 0),
   o1 29 (.ld (.t 28) 1 false),
   o1 30 (.len (.t 29)),
   o1 31 (.bin .sub (.t 30) (.c (.int .i64 1))),
   m1 32 1,
   o1 33 (.bsl 1 3 [.t 32]),
   o1 34 (.call 38 [.c (.int .i64 0),.t 31,.t 33]),
   o1 35 (.un .not (.t 34)),
   m1 36 35,
   ⟨some 37,.mv (.t 3),some (36,false),[]⟩,
   ⟨some 38,.bsl 1 3 [.t 37],some (36,false),[]⟩,
   ⟨some 39,.call 38 [.c (.int .i64 0),.c (.int .i64 100000),.t 38],some (36,false),[]⟩,
   ⟨some 40,.un .not (.t 39),some (36,false),[]⟩,
   o1 41 (.pick (.t 36) (.c (.bool true)) (.t 40)),
   m1 27 41])
   (.cond (.t 27)
   (.seq (.reg [
    o1 42 (.ld (.t 8) 2 true),
    ⟨none,.st (.t 8) (.t 42) 2,none,[]⟩,
    o1 9 (.mv (.c (.int .i64 0))),
    o1 10 (.mv (.c (.int .i64 2)))])
    .ret)
   (.seq (.reg [
    m1 44 2,
    o1 45 (.len (.t 44)),
    o1 46 (.bin .gtr (.t 45) (.c (.int .i64 200))),
    m1 43 46])
    (.cond (.t 43)
    (.seq (.reg [
     o1 47 (.ld (.t 8) 2 true),
     ⟨none,.st (.t 8) (.t 47) 2,none,[]⟩,
     o1 9 (.mv (.c (.int .i64 0))),
     o1 10 (.mv (.c (.int .i64 4)))])
     .ret)
    .skip))))))))
 (.seq (.reg [
 o1 12 (.mv (.c (.int .i64 0)))])
 (.seq (.seq (.reg [
 m1 48 2,
 o1 49 (.len (.t 48)),
 o1 50 (.mv (.c (.int .i64 0)))])
 (.block 1 (.loop (.seq (.reg [
  o1 51 (.bin .lss (.t 50) (.t 49))])
  (.seq (.cond (.t 51)
  .skip
  (.exit 1))
  (.seq (.block 2 (.seq (.reg [
   o1 52 (.ixs (.t 48) (.t 50) 3),
   o1 53 (.ld (.t 52) 3 true),
   o1 14 (.alloc [.int .i64 0,.int .i64 0,.int .i64 0] 56),
   ⟨none,.st (.t 14) (.t 53) 3,none,[]⟩])
   (.seq (.seq (.reg [
   o1 54 (.addo (.t 4) 0),
   o1 55 (.ld (.t 54) 1 false),
   o1 56 (.len (.t 55)),
   o1 57 (.bin .sub (.t 56) (.c (.int .i64 1))),
   o1 58 (.addo (.t 14) 0),
   o1 59 (.ld (.t 58) 1 false),
   o1 60 (.bsl 1 3 [.t 59]),
   o1 61 (.call 38 [.c (.int .i64 0),.t 57,.t 60]),
   o1 62 (.un .not (.t 61)),
   m1 63 62,
   ⟨some 64,.mv (.t 12),some (63,false),[]⟩,
   ⟨some 65,.addo (.t 14) 1,some (63,false),[]⟩,
   ⟨some 66,.ld (.t 65) 1 false,some (63,false),[]⟩,
   ⟨some 67,.bsl 1 3 [.t 66],some (63,false),[]⟩,
   ⟨some 68,.call 38 [.t 64,.c (.int .i64 100000),.t 67],some (63,false),[]⟩,
   ⟨some 69,.un .not (.t 68),some (63,false),[]⟩,
   o1 70 (.pick (.t 63) (.c (.bool true)) (.t 69)),
   m1 71 70,
   ⟨some 72,.addo (.t 14) 2,some (71,false),[]⟩,
   ⟨some 73,.ld (.t 72) 1 false,some (71,false),[]⟩,
   ⟨some 74,.bsl 1 3 [.t 73],some (71,false),[]⟩,
   ⟨some 75,.call 38 [.c (.int .i64 0),.c (.int .i64 1000000000),.t 74],some (71,false),[]⟩,
   ⟨some 76,.un .not (.t 75),some (71,false),[]⟩,
   o1 77 (.pick (.t 71) (.c (.bool true)) (.t 76))])
   (.cond (.t 77)
   (.seq (.reg [
    o1 78 (.ld (.t 8) 2 true),
    ⟨none,.st (.t 8) (.t 78) 2,none,[]⟩,
    o1 9 (.mv (.c (.int .i64 0))),
    o1 10 (.mv (.c (.int .i64 32)))])
    .ret)
   .skip))
   (.reg [
   o1 79 (.addo (.t 14) 1),
   o1 80 (.ld (.t 79) 1 false),
   m1 12 80]))))
  (.reg [
  o1 81 (.bin .add (.t 50) (.c (.int .i64 1))),
  m1 50 81])))))))
 (.seq (.reg [
 o1 82 (.addo (.t 4) 0),
 o1 83 (.ld (.t 82) 1 false),
 m1 84 1,
 o1 85 (.ixs (.t 83) (.t 84) 9),
 o1 86 (.ld (.t 85) 9 true),
 o1 15 (.alloc zv4 72),
 ⟨none,.st (.t 15) (.t 86) 9,none,[]⟩])
 (.seq (.reg [
 o1 87 (.addo (.t 15) 6),
 o1 88 (.ld (.t 87) 2 true),
 o1 16 (.alloc [.int .i64 0,.int .i64 0] 31),
 ⟨none,.st (.t 16) (.t 88) 2,none,[]⟩,
 o1 17 (.mv (.c (.int .i64 (-1))))])
 (.seq (.seq (.reg [
 m1 89 2,
 o1 90 (.len (.t 89)),
 o1 91 (.mv (.c (.int .i64 0)))])
 (.block 3 (.loop (.seq (.reg [
  o1 92 (.bin .lss (.t 91) (.t 90))])
  (.seq (.cond (.t 92)
  .skip
  (.exit 3))
  (.seq (.block 4 (.seq (.reg [
   m1 93 91,
   o1 94 (.ixs (.t 89) (.t 91) 3),
   o1 95 (.ld (.t 94) 3 true),
   o1 19 (.alloc [.int .i64 0,.int .i64 0,.int .i64 0] 56),
   m1 18 93,
   ⟨none,.st (.t 19) (.t 95) 3,none,[]⟩])
   (.seq (.seq (.reg [
   o1 96 (.addo (.t 19) 0),
   o1 97 (.ld (.t 96) 1 false),
   m1 98 1,
   o1 99 (.bin .neq (.t 97) (.t 98)),
   m1 100 99,
   ⟨some 101,.addo (.t 19) 1,some (100,false),[]⟩,
   ⟨some 102,.ld (.t 101) 1 false,some (100,false),[]⟩,
   ⟨some 103,.mv (.t 3),some (100,false),[]⟩,
   ⟨some 104,.bin .geq (.t 102) (.t 103),some (100,false),[]⟩,
   o1 105 (.pick (.t 100) (.c (.bool true)) (.t 104))])
   (.cond (.t 105)
   (.exit 4)
   .skip))
   (.seq (.reg [
   o1 106 (.ld (.t 15) 9 true),
   o1 107 (.ld (.t 16) 2 true),
   o1 108 (.addo (.t 19) 1),
   o1 109 (.ld (.t 108) 1 false),
   m1 110 17,
   o1 111 (.bin .sub (.t 109) (.t 110)),
   o1 112 (.call 84 [.t 106,.t 107,.t 111]),
   ⟨none,.st (.t 16) (.t 112) 2,none,[]⟩])
   (.seq (.reg [
   o1 113 (.addo (.t 19) 1),
   o1 114 (.ld (.t 113) 1 false),
   m1 17 114])
   (.seq (.seq (.reg [
   o1 115 (.addo (.t 16) 1),
   o1 116 (.ld (.t 115) 1 false),
   o1 117 (.addo (.t 19) 2),
   o1 118 (.ld (.t 117) 1 false),
   o1 119 (.bin .lss (.t 116) (.t 118))])
   (.cond (.t 119)
   (.seq (.reg [
    o1 120 (.ld (.t 8) 2 true),
    m1 121 18,
    ⟨none,.st (.t 8) (.t 120) 2,none,[]⟩,
    m1 9 121,
    o1 10 (.mv (.c (.int .i64 33)))])
    .ret)
   .skip))
   (.reg [
   o1 122 (.addo (.t 16) 0),
   o1 123 (.ld (.t 122) 1 false),
   o1 124 (.addo (.t 19) 2),
   o1 125 (.ld (.t 124) 1 false),
   o1 126 (.bin .sub (.t 123) (.t 125)),
   o1 127 (.mm true [.c (.int .i64 0),.t 126]),
   o1 128 (.addo (.t 16) 1),
   o1 129 (.ld (.t 128) 1 false),
   o1 130 (.addo (.t 19) 2),
   o1 131 (.ld (.t 130) 1 false),
   o1 132 (.bin .sub (.t 129) (.t 131)),
   o1 133 (.build [.int .i64 0,.int .i64 0] [(0,1,.t 127),(1,1,.t 132)]),
   ⟨none,.st (.t 16) (.t 133) 2,none,[]⟩])))))))
  (.reg [
  o1 134 (.bin .add (.t 91) (.c (.int .i64 1))),
  m1 91 134])))))))
 (.seq (.reg [
 o1 135 (.ld (.t 15) 9 true),
 o1 136 (.ld (.t 16) 2 true),
 m1 137 3,
 o1 138 (.bin .sub (.t 137) (.c (.int .i64 1))),
 m1 139 17,
 o1 140 (.bin .sub (.t 138) (.t 139)),
 o1 141 (.call 84 [.t 135,.t 136,.t 140]),
 ⟨none,.st (.t 8) (.t 141) 2,none,[]⟩,
 o1 9 (.mv (.c (.int .i64 0))),
 o1 10 (.mv (.c (.int .i64 0)))])
 .ret))))))))
def r65:List RV:=[.cell 8 2 true,.tmp 9,.tmp 10]
theorem t65:Qt1 Try.prog 65 c65 r65 142:=Yn Try.func65 rfl (by kernel_rfl) (by kernel_rfl) (by kernel_rfl) (by kernel_rfl)
def c55:SC:=(.seq (.reg [
 o1 1 (.box (.t 0) 0 29),
 o1 2 (.mv (.c (.int .i64 0)))])
 (.seq (.reg [
 o1 5 (.addo (.t 1) 0),
 o1 6 (.ld (.t 5) 1 false),
 o1 7 (.call 77 [.t 6,.f 78]),
 o1 8 (.un .not (.t 7)),
 m1 3 8])
 (.seq (.reg [
 o1 9 (.addo (.t 1) 1),
 o1 10 (.ld (.t 9) 1 false),
 o1 11 (.mkf 81 [.t 1]),
 o1 12 (.call 80 [.t 10,.t 11]),
 o1 13 (.un .not (.t 12)),
 m1 4 13])
 (.seq (.seq (.reg [
 o1 14 (.addo (.t 1) 0),
 o1 15 (.ld (.t 14) 1 false),
 o1 16 (.len (.t 15)),
 o1 17 (.bsl 1 3 [.t 16]),
 o1 18 (.call 38 [.c (.int .i64 1),.c (.int .i64 12),.t 17]),
 o1 19 (.un .not (.t 18)),
 m1 20 19,
 ⟨some 21,.addo (.t 1) 1,some (20,false),[]⟩,
 ⟨some 22,.ld (.t 21) 1 false,some (20,false),[]⟩,
 ⟨some 23,.len (.t 22),some (20,false),[]⟩,
 ⟨some 24,.bin .gtr (.t 23) (.c (.int .i64 24)),some (20,false),[]⟩,
 o1 25 (.pick (.t 20) (.c (.bool true)) (.t 24)),
 m1 26 25,
 ⟨some 27,.mv (.t 3),some (26,false),[]⟩,
 ⟨some 28,.un .not (.t 27),some (26,false),[]⟩,
 o1 29 (.pick (.t 26) (.c (.bool true)) (.t 28)),
 m1 30 29,
 ⟨some 31,.mv (.t 4),some (30,false),[]⟩,
 ⟨some 32,.un .not (.t 31),some (30,false),[]⟩,
 o1 33 (.pick (.t 30) (.c (.bool true)) (.t 32))])
 (.cond (.t 33)
 (.seq (.reg [
  o1 2 (.mv (.c (.int .i64 30)))])
  .ret)
 .skip))
 (.seq (.reg [
 o1 2 (.mv (.c (.int .i64 0)))])
 .ret)))))
def r55:List RV:=[.tmp 2]
theorem t55:Qt1 Try.prog 55 c55 r55 34:=Yn Try.func55 rfl (by kernel_rfl) (by kernel_rfl) (by kernel_rfl) (by kernel_rfl)
def c38:SC:=(.seq (.reg [
 o1 3 (.box (.t 0) 0 3),
 o1 4 (.box (.t 1) 0 3),
 o1 6 (.mv (.c (.bool false)))])
 (.seq (.reg [
 m1 7 2,
 o1 8 (.mkf 57 [.t 3,.t 4]),
 o1 9 (.call 35 [.t 7,.t 8]),
 o1 10 (.un .not (.t 9)),
 m1 6 10])
 .ret))
def r38:List RV:=[.tmp 6]
theorem t38:Qt1 Try.prog 38 c38 r38 11:=Yn Try.func38 rfl (by kernel_rfl) (by kernel_rfl) (by kernel_rfl) (by kernel_rfl)
def c84:SC:=(.seq (.reg [
 o1 3 (.box (.t 0) 0 72),
 o1 4 (.box (.t 1) 0 31),
 o1 6 (.alloc [.int .i64 0,.int .i64 0] 31)])
 (.seq (.reg [
 o1 7 (.addo (.t 3) 5),
 o1 8 (.ld (.t 7) 1 false),
 o1 9 (.addo (.t 4) 0),
 o1 10 (.ld (.t 9) 1 false),
 m1 11 2,
 o1 12 (.addo (.t 3) 3),
 o1 13 (.addo (.t 12) 0),
 o1 14 (.ld (.t 13) 1 false),
 o1 15 (.bin .mul (.t 11) (.t 14)),
 o1 16 (.bin .add (.t 10) (.t 15)),
 o1 17 (.mm false [.t 8,.t 16]),
 o1 18 (.addo (.t 3) 5),
 o1 19 (.ld (.t 18) 1 false),
 o1 20 (.addo (.t 4) 1),
 o1 21 (.ld (.t 20) 1 false),
 m1 22 2,
 o1 23 (.addo (.t 3) 3),
 o1 24 (.addo (.t 23) 1),
 o1 25 (.ld (.t 24) 1 false),
 o1 26 (.bin .mul (.t 22) (.t 25)),
 o1 27 (.bin .add (.t 21) (.t 26)),
 o1 28 (.mm false [.t 19,.t 27]),
 o1 29 (.build [.int .i64 0,.int .i64 0] [(0,1,.t 17),(1,1,.t 28)]),
 ⟨none,.st (.t 6) (.t 29) 2,none,[]⟩])
 .ret))
def r84:List RV:=[.cell 6 2 true]
theorem t84:Qt1 Try.prog 84 c84 r84 30:=Yn Try.func84 rfl (by kernel_rfl) (by kernel_rfl) (by kernel_rfl) (by kernel_rfl)
def c77:SC:=(.seq (.reg [
 o1 4 (.mv (.c (.bool false)))])
 (.seq (.reg [
 m1 5 0,
 m1 6 1,
 o1 7 (.call 92 [.t 5,.t 6]),
 o1 8 (.bin .geq (.t 7) (.c (.int .i64 0))),
 m1 4 8])
 .ret))
def r77:List RV:=[.tmp 4]
theorem t77:Qt1 Try.prog 77 c77 r77 9:=Yn Try.func77 rfl (by kernel_rfl) (by kernel_rfl) (by kernel_rfl) (by kernel_rfl)
def c78:SC:=(.seq (.reg [
 o1 1 (.box (.t 0) 0 72),
 o1 2 (.mv (.c (.bool false)))])
 (.seq (.reg [
 o1 3 (.ld (.t 1) 9 true),
 o1 4 (.call 79 [.t 3]),
 o1 5 (.un .not (.t 4)),
 m1 2 5])
 .ret))
def r78:List RV:=[.tmp 2]
theorem t78:Qt1 Try.prog 78 c78 r78 6:=Yn Try.func78 rfl (by kernel_rfl) (by kernel_rfl) (by kernel_rfl) (by kernel_rfl)
def c79:SC:=(.seq (.reg [
 o1 1 (.box (.t 0) 0 72),
 o1 2 (.mv (.c (.bool false)))])
 (.seq (.reg [
 o1 3 (.addo (.t 1) 0),
 o1 4 (.ld (.t 3) 1 false),
 o1 5 (.addo (.t 1) 1),
 o1 6 (.ld (.t 5) 1 false),
 o1 7 (.bsl 1 3 [.t 4,.t 6]),
 o1 8 (.call 38 [.c (.int .i64 (-10000000)),.c (.int .i64 10000000),.t 7]),
 m1 9 8,
 ⟨some 10,.addo (.t 1) 2,some (9,true),[]⟩,
 ⟨some 11,.ld (.t 10) 1 false,some (9,true),[]⟩,
 ⟨some 12,.bsl 1 3 [.t 11],some (9,true),[]⟩,
 ⟨some 13,.call 38 [.c (.int .i64 0),.c (.int .i64 200),.t 12],some (9,true),[]⟩,
 o1 14 (.pick (.t 9) (.t 13) (.c (.bool false))),
 m1 15 14,
 ⟨some 16,.addo (.t 1) 3,some (15,true),[]⟩,
 ⟨some 17,.ld (.t 16) 2 true,some (15,true),[]⟩,
 ⟨some 18,.bsl 2 31 [.t 17],some (15,true),[]⟩,
 ⟨some 19,.call 56 [.c (.int .i64 0),.c (.int .i64 10000000),.t 18],some (15,true),[]⟩,
 o1 20 (.pick (.t 15) (.t 19) (.c (.bool false))),
 m1 21 20,
 ⟨some 22,.addo (.t 1) 5,some (21,true),[]⟩,
 ⟨some 23,.ld (.t 22) 1 false,some (21,true),[]⟩,
 ⟨some 24,.bsl 1 3 [.t 23],some (21,true),[]⟩,
 ⟨some 25,.call 38 [.c (.int .i64 0),.c (.int .i64 1000000000),.t 24],some (21,true),[]⟩,
 o1 26 (.pick (.t 21) (.t 25) (.c (.bool false))),
 m1 27 26,
 ⟨some 28,.addo (.t 1) 5,some (27,true),[]⟩,
 ⟨some 29,.ld (.t 28) 1 false,some (27,true),[]⟩,
 ⟨some 30,.addo (.t 1) 6,some (27,true),[]⟩,
 ⟨some 31,.ld (.t 30) 2 true,some (27,true),[]⟩,
 ⟨some 32,.bsl 2 31 [.t 31],some (27,true),[]⟩,
 ⟨some 33,.call 56 [.c (.int .i64 0),.t 29,.t 32],some (27,true),[]⟩,
 o1 34 (.pick (.t 27) (.t 33) (.c (.bool false))),
 m1 35 34,
 ⟨some 36,.addo (.t 1) 8,some (35,true),[]⟩,
 ⟨some 37,.ld (.t 36) 1 false,some (35,true),[]⟩,
 ⟨some 38,.bsl 1 3 [.t 37],some (35,true),[]⟩,
 ⟨some 39,.call 38 [.c (.int .i64 0),.c (.int .i64 9999),.t 38],some (35,true),[]⟩,
 o1 40 (.pick (.t 35) (.t 39) (.c (.bool false))),
 m1 2 40])
 .ret))
def r79:List RV:=[.tmp 2]
theorem t79:Qt1 Try.prog 79 c79 r79 41:=Yn Try.func79 rfl (by kernel_rfl) (by kernel_rfl) (by kernel_rfl) (by kernel_rfl)
def c80:SC:=(.seq (.reg [
 o1 4 (.mv (.c (.bool false)))])
 (.seq (.reg [
 m1 5 0,
 m1 6 1,
 o1 7 (.call 93 [.t 5,.t 6]),
 o1 8 (.bin .geq (.t 7) (.c (.int .i64 0))),
 m1 4 8])
 .ret))
def r80:List RV:=[.tmp 4]
theorem t80:Qt1 Try.prog 80 c80 r80 9:=Yn Try.func80 rfl (by kernel_rfl) (by kernel_rfl) (by kernel_rfl) (by kernel_rfl)
def c81:SC:=(.seq (.reg [
 o1 2 (.box (.t 0) 0 67),
 o1 3 (.mv (.c (.bool false)))])
 (.seq (.reg [
 o1 4 (.ld (.t 2) 5 true),
 o1 5 (.addo (.t 1) 0),
 o1 6 (.ld (.t 5) 1 false),
 o1 7 (.len (.t 6)),
 o1 8 (.call 82 [.t 4,.t 7]),
 o1 9 (.un .not (.t 8)),
 m1 3 9])
 .ret))
def r81:List RV:=[.tmp 3]
theorem t81:Qt1 Try.prog 81 c81 r81 10:=Yn Try.func81 rfl (by kernel_rfl) (by kernel_rfl) (by kernel_rfl) (by kernel_rfl)
def c82:SC:=(.seq (.reg [
 o1 2 (.box (.t 0) 0 67),
 o1 4 (.mv (.c (.bool false)))])
 (.seq (.seq (.reg [
 m1 8 1,
 o1 9 (.bin .sub (.t 8) (.c (.int .i64 1))),
 o1 10 (.addo (.t 2) 0),
 o1 11 (.ld (.t 10) 1 false),
 o1 12 (.addo (.t 2) 1),
 o1 13 (.ld (.t 12) 1 false),
 o1 14 (.bsl 1 3 [.t 11,.t 13]),
 o1 15 (.call 38 [.c (.int .i64 0),.t 9,.t 14]),
 o1 16 (.un .not (.t 15)),
 m1 17 16,
 ⟨some 18,.addo (.t 2) 0,some (17,false),[]⟩,
 ⟨some 19,.ld (.t 18) 1 false,some (17,false),[]⟩,
 ⟨some 20,.addo (.t 2) 1,some (17,false),[]⟩,
 ⟨some 21,.ld (.t 20) 1 false,some (17,false),[]⟩,
 ⟨some 22,.bin .eql (.t 19) (.t 21),some (17,false),[]⟩,
 o1 23 (.pick (.t 17) (.c (.bool true)) (.t 22)),
 m1 24 23,
 ⟨some 25,.addo (.t 2) 2,some (24,false),[]⟩,
 ⟨some 26,.ld (.t 25) 2 true,some (24,false),[]⟩,
 ⟨some 27,.bsl 2 31 [.t 26],some (24,false),[]⟩,
 ⟨some 28,.call 56 [.c (.int .i64 1),.c (.int .i64 1000000),.t 27],some (24,false),[]⟩,
 ⟨some 29,.un .not (.t 28),some (24,false),[]⟩,
 o1 30 (.pick (.t 24) (.c (.bool true)) (.t 29)),
 m1 31 30,
 ⟨some 32,.addo (.t 2) 4,some (31,false),[]⟩,
 ⟨some 33,.ld (.t 32) 1 false,some (31,false),[]⟩,
 ⟨some 34,.len (.t 33),some (31,false),[]⟩,
 ⟨some 35,.bin .gtr (.t 34) (.c (.int .i64 6)),some (31,false),[]⟩,
 o1 36 (.pick (.t 31) (.c (.bool true)) (.t 35))])
 (.cond (.t 36)
 (.seq (.reg [
  o1 4 (.mv (.c (.bool false)))])
  .ret)
 .skip))
 (.seq (.reg [
 o1 5 (.mv (.c (.int .i64 0)))])
 (.seq (.seq (.reg [
 o1 37 (.addo (.t 2) 4),
 o1 38 (.ld (.t 37) 1 false),
 o1 39 (.len (.t 38)),
 o1 40 (.mv (.c (.int .i64 0)))])
 (.block 0 (.loop (.seq (.reg [
  o1 41 (.bin .lss (.t 40) (.t 39))])
  (.seq (.cond (.t 41)
  .skip
  (.exit 0))
  (.seq (.block 1 (.seq (.reg [
   o1 42 (.ixs (.t 38) (.t 40) 4),
   o1 43 (.ld (.t 42) 4 true),
   o1 7 (.alloc [.int .i64 0,.int .i64 0,.int .i64 0,.int .i64 0] 69),
   ⟨none,.st (.t 7) (.t 43) 4,none,[]⟩])
   (.seq (.seq (.reg [
   o1 44 (.addo (.t 7) 0),
   o1 45 (.ld (.t 44) 2 true),
   o1 46 (.addo (.t 7) 2),
   o1 47 (.ld (.t 46) 2 true),
   o1 48 (.bsl 2 31 [.t 45,.t 47]),
   o1 49 (.call 56 [.c (.int .i64 0),.c (.int .i64 100000),.t 48]),
   o1 50 (.un .not (.t 49)),
   m1 51 50,
   ⟨some 52,.mv (.t 5),some (51,false),[]⟩,
   ⟨some 53,.addo (.t 7) 2,some (51,false),[]⟩,
   ⟨some 54,.addo (.t 53) 1,some (51,false),[]⟩,
   ⟨some 55,.ld (.t 54) 1 false,some (51,false),[]⟩,
   ⟨some 56,.addo (.t 7) 0,some (51,false),[]⟩,
   ⟨some 57,.addo (.t 56) 0,some (51,false),[]⟩,
   ⟨some 58,.ld (.t 57) 1 false,some (51,false),[]⟩,
   ⟨some 59,.bsl 1 3 [.t 58],some (51,false),[]⟩,
   ⟨some 60,.call 38 [.t 52,.t 55,.t 59],some (51,false),[]⟩,
   ⟨some 61,.un .not (.t 60),some (51,false),[]⟩,
   o1 62 (.pick (.t 51) (.c (.bool true)) (.t 61))])
   (.cond (.t 62)
   (.seq (.reg [
    o1 4 (.mv (.c (.bool false)))])
    .ret)
   .skip))
   (.reg [
   o1 63 (.addo (.t 7) 2),
   o1 64 (.addo (.t 63) 1),
   o1 65 (.ld (.t 64) 1 false),
   o1 66 (.bin .add (.t 65) (.c (.int .i64 1))),
   m1 5 66]))))
  (.reg [
  o1 67 (.bin .add (.t 40) (.c (.int .i64 1))),
  m1 40 67])))))))
 (.seq (.reg [
 o1 4 (.mv (.c (.bool true)))])
 .ret)))))
def r82:List RV:=[.tmp 4]
theorem t82:Qt1 Try.prog 82 c82 r82 68:=Yn Try.func82 rfl (by kernel_rfl) (by kernel_rfl) (by kernel_rfl) (by kernel_rfl)
def c35:SC:=(.seq (.reg [
 o1 4 (.mv (.c (.bool false)))])
 (.seq (.reg [
 m1 5 0,
 m1 6 1,
 o1 7 (.call 54 [.t 5,.t 6]),
 o1 8 (.bin .geq (.t 7) (.c (.int .i64 0))),
 m1 4 8])
 .ret))
def r35:List RV:=[.tmp 4]
theorem t35:Qt1 Try.prog 35 c35 r35 9:=Yn Try.func35 rfl (by kernel_rfl) (by kernel_rfl) (by kernel_rfl) (by kernel_rfl)
def c57:SC:=(.seq (.reg [
 o1 4 (.mv (.c (.bool false)))])
 (.seq (.reg [
 m1 5 0,
 o1 6 (.ld (.t 1) 1 false),
 o1 7 (.bin .lss (.t 5) (.t 6)),
 m1 8 7,
 ⟨some 9,.mv (.t 0),some (8,false),[]⟩,
 ⟨some 10,.ld (.t 2) 1 false,some (8,false),[]⟩,
 ⟨some 11,.bin .gtr (.t 9) (.t 10),some (8,false),[]⟩,
 o1 12 (.pick (.t 8) (.c (.bool true)) (.t 11)),
 m1 4 12])
 .ret))
def r57:List RV:=[.tmp 4]
theorem t57:Qt1 Try.prog 57 c57 r57 13:=Yn Try.func57 rfl (by kernel_rfl) (by kernel_rfl) (by kernel_rfl) (by kernel_rfl)
def c56:SC:=(.seq (.reg [
 o1 3 (.box (.t 0) 0 3),
 o1 4 (.box (.t 1) 0 3),
 o1 6 (.mv (.c (.bool false)))])
 (.seq (.reg [
 m1 7 2,
 o1 8 (.mkf 83 [.t 3,.t 4]),
 o1 9 (.call 49 [.t 7,.t 8]),
 o1 10 (.un .not (.t 9)),
 m1 6 10])
 .ret))
def r56:List RV:=[.tmp 6]
theorem t56:Qt1 Try.prog 56 c56 r56 11:=Yn Try.func56 rfl (by kernel_rfl) (by kernel_rfl) (by kernel_rfl) (by kernel_rfl)
def c92:SC:=(.seq (.reg [
 o1 4 (.mv (.c (.int .i64 0)))])
 (.seq (.seq (.reg [
 m1 6 0,
 o1 7 (.len (.t 6)),
 o1 8 (.mv (.c (.int .i64 0)))])
 (.block 0 (.loop (.seq (.reg [
  o1 9 (.bin .lss (.t 8) (.t 7))])
  (.seq (.cond (.t 9)
  .skip
  (.exit 0))
  (.seq (.block 1 (.seq (.reg [
   m1 10 8,
   m1 5 10])
   (.seq (.reg [
   m1 11 1,
   m1 12 0,
   m1 13 5,
   o1 14 (.ixs (.t 12) (.t 13) 9),
   o1 15 (.ld (.t 14) 9 true),
   o1 16 (.calv (.t 11) [.t 15])])
   (.cond (.t 16)
   (.seq (.reg [
    m1 17 5,
    m1 4 17])
    .ret)
   .skip))))
  (.reg [
  o1 18 (.bin .add (.t 8) (.c (.int .i64 1))),
  m1 8 18])))))))
 (.seq (.reg [
 o1 4 (.mv (.c (.int .i64 (-1))))])
 .ret)))
def r92:List RV:=[.tmp 4]
theorem t92:Qt1 Try.prog 92 c92 r92 19:=Yn Try.func92 rfl (by kernel_rfl) (by kernel_rfl) (by kernel_rfl) (by kernel_rfl)
def c93:SC:=(.seq (.reg [
 o1 4 (.mv (.c (.int .i64 0)))])
 (.seq (.seq (.reg [
 m1 6 0,
 o1 7 (.len (.t 6)),
 o1 8 (.mv (.c (.int .i64 0)))])
 (.block 0 (.loop (.seq (.reg [
  o1 9 (.bin .lss (.t 8) (.t 7))])
  (.seq (.cond (.t 9)
  .skip
  (.exit 0))
  (.seq (.block 1 (.seq (.reg [
   m1 10 8,
   m1 5 10])
   (.seq (.reg [
   m1 11 1,
   m1 12 0,
   m1 13 5,
   o1 14 (.ixs (.t 12) (.t 13) 5),
   o1 15 (.ld (.t 14) 5 true),
   o1 16 (.calv (.t 11) [.t 15])])
   (.cond (.t 16)
   (.seq (.reg [
    m1 17 5,
    m1 4 17])
    .ret)
   .skip))))
  (.reg [
  o1 18 (.bin .add (.t 8) (.c (.int .i64 1))),
  m1 8 18])))))))
 (.seq (.reg [
 o1 4 (.mv (.c (.int .i64 (-1))))])
 .ret)))
def r93:List RV:=[.tmp 4]
theorem t93:Qt1 Try.prog 93 c93 r93 19:=Yn Try.func93 rfl (by kernel_rfl) (by kernel_rfl) (by kernel_rfl) (by kernel_rfl)
def c54:SC:=(.seq (.reg [
 o1 4 (.mv (.c (.int .i64 0)))])
 (.seq (.seq (.reg [
 m1 6 0,
 o1 7 (.len (.t 6)),
 o1 8 (.mv (.c (.int .i64 0)))])
 (.block 0 (.loop (.seq (.reg [
  o1 9 (.bin .lss (.t 8) (.t 7))])
  (.seq (.cond (.t 9)
  .skip
  (.exit 0))
  (.seq (.block 1 (.seq (.reg [
   m1 10 8,
   m1 5 10])
   (.seq (.reg [
   m1 11 1,
   m1 12 0,
   m1 13 5,
   o1 14 (.ixs (.t 12) (.t 13) 1),
   o1 15 (.ld (.t 14) 1 false),
   o1 16 (.calv (.t 11) [.t 15])])
   (.cond (.t 16)
   (.seq (.reg [
    m1 17 5,
    m1 4 17])
    .ret)
   .skip))))
  (.reg [
  o1 18 (.bin .add (.t 8) (.c (.int .i64 1))),
  m1 8 18])))))))
 (.seq (.reg [
 o1 4 (.mv (.c (.int .i64 (-1))))])
 .ret)))
def r54:List RV:=[.tmp 4]
theorem t54:Qt1 Try.prog 54 c54 r54 19:=Yn Try.func54 rfl (by kernel_rfl) (by kernel_rfl) (by kernel_rfl) (by kernel_rfl)
def c49:SC:=(.seq (.reg [
 o1 4 (.mv (.c (.bool false)))])
 (.seq (.reg [
 m1 5 0,
 m1 6 1,
 o1 7 (.call 70 [.t 5,.t 6]),
 o1 8 (.bin .geq (.t 7) (.c (.int .i64 0))),
 m1 4 8])
 .ret))
def r49:List RV:=[.tmp 4]
theorem t49:Qt1 Try.prog 49 c49 r49 9:=Yn Try.func49 rfl (by kernel_rfl) (by kernel_rfl) (by kernel_rfl) (by kernel_rfl)
def c83:SC:=(.seq (.reg [
 o1 3 (.box (.t 0) 0 31),
 o1 4 (.mv (.c (.bool false)))])
 (.seq (.reg [
 o1 5 (.addo (.t 3) 0),
 o1 6 (.ld (.t 5) 1 false),
 o1 7 (.addo (.t 3) 1),
 o1 8 (.ld (.t 7) 1 false),
 o1 9 (.bin .gtr (.t 6) (.t 8)),
 m1 10 9,
 ⟨some 11,.ld (.t 1) 1 false,some (10,false),[]⟩,
 ⟨some 12,.ld (.t 2) 1 false,some (10,false),[]⟩,
 ⟨some 13,.addo (.t 3) 0,some (10,false),[]⟩,
 ⟨some 14,.ld (.t 13) 1 false,some (10,false),[]⟩,
 ⟨some 15,.addo (.t 3) 1,some (10,false),[]⟩,
 ⟨some 16,.ld (.t 15) 1 false,some (10,false),[]⟩,
 ⟨some 17,.bsl 1 3 [.t 14,.t 16],some (10,false),[]⟩,
 ⟨some 18,.call 38 [.t 11,.t 12,.t 17],some (10,false),[]⟩,
 ⟨some 19,.un .not (.t 18),some (10,false),[]⟩,
 o1 20 (.pick (.t 10) (.c (.bool true)) (.t 19)),
 m1 4 20])
 .ret))
def r83:List RV:=[.tmp 4]
theorem t83:Qt1 Try.prog 83 c83 r83 21:=Yn Try.func83 rfl (by kernel_rfl) (by kernel_rfl) (by kernel_rfl) (by kernel_rfl)
def c70:SC:=(.seq (.reg [
 o1 4 (.mv (.c (.int .i64 0)))])
 (.seq (.seq (.reg [
 m1 6 0,
 o1 7 (.len (.t 6)),
 o1 8 (.mv (.c (.int .i64 0)))])
 (.block 0 (.loop (.seq (.reg [
  o1 9 (.bin .lss (.t 8) (.t 7))])
  (.seq (.cond (.t 9)
  .skip
  (.exit 0))
  (.seq (.block 1 (.seq (.reg [
   m1 10 8,
   m1 5 10])
   (.seq (.reg [
   m1 11 1,
   m1 12 0,
   m1 13 5,
   o1 14 (.ixs (.t 12) (.t 13) 2),
   o1 15 (.ld (.t 14) 2 true),
   o1 16 (.calv (.t 11) [.t 15])])
   (.cond (.t 16)
   (.seq (.reg [
    m1 17 5,
    m1 4 17])
    .ret)
   .skip))))
  (.reg [
  o1 18 (.bin .add (.t 8) (.c (.int .i64 1))),
  m1 8 18])))))))
 (.seq (.reg [
 o1 4 (.mv (.c (.int .i64 (-1))))])
 .ret)))
def r70:List RV:=[.tmp 4]
theorem t70:Qt1 Try.prog 70 c70 r70 19:=Yn Try.func70 rfl (by kernel_rfl) (by kernel_rfl) (by kernel_rfl) (by kernel_rfl)
def c75:SC:=(.seq (.reg [
 o1 3 (.box (.t 0) 0 29),
 o1 5 (.box (.t 2) 0 31),
 o1 6 (.alloc [.int .i64 0,.int .i64 0] 31),
 o1 7 (.mv (.c (.int .i64 0)))])
 (.seq (.reg [
 o1 11 (.ld (.t 3) 2 true),
 o1 12 (.ld (.t 5) 2 true),
 o1 13 (.call 37 [.t 11,.t 12]),
 m1 10 13,
 o1 14 (.ext (.t 10) 0),
 o1 15 (.ext (.t 10) 1),
 o1 8 (.alloc [.slice none 0 0,.slice none 0 0,.int .i64 0,.int .i64 0] 104),
 ⟨none,.st (.t 8) (.t 14) 4,none,[]⟩,
 m1 9 15])
 (.seq (.block 0 (.seq (.reg [
  m1 17 9,
  o1 18 (.bin .neq (.t 17) (.c (.int .i64 0))),
  m1 16 18])
  (.cond (.t 16)
  (.seq (.reg [
   o1 19 (.build [.int .i64 0,.int .i64 0] []),
   m1 20 9,
   ⟨none,.st (.t 6) (.t 19) 2,none,[]⟩,
   m1 7 20])
   .ret)
  (.seq (.reg [
   o1 22 (.addo (.t 3) 1),
   o1 23 (.ld (.t 22) 1 false),
   o1 24 (.len (.t 23)),
   o1 25 (.bin .sub (.t 24) (.c (.int .i64 1))),
   m1 26 1,
   o1 27 (.bsl 1 3 [.t 26]),
   o1 28 (.call 38 [.c (.int .i64 0),.t 25,.t 27]),
   o1 29 (.un .not (.t 28)),
   m1 21 29])
   (.cond (.t 21)
   (.seq (.reg [
    o1 30 (.build [.int .i64 0,.int .i64 0] []),
    ⟨none,.st (.t 6) (.t 30) 2,none,[]⟩,
    o1 7 (.mv (.c (.int .i64 2)))])
    .ret)
   .skip)))))
 (.seq (.reg [
 o1 31 (.ld (.t 8) 4 true),
 m1 32 1,
 o1 33 (.call 60 [.t 31,.t 32]),
 o1 34 (.call 72 [.t 33]),
 ⟨none,.st (.t 6) (.t 34) 2,none,[]⟩,
 o1 7 (.mv (.c (.int .i64 0)))])
 .ret))))
def r75:List RV:=[.cell 6 2 true,.tmp 7]
theorem t75:Qt1 Try.prog 75 c75 r75 35:=Yn Try.func75 rfl (by kernel_rfl) (by kernel_rfl) (by kernel_rfl) (by kernel_rfl)
def c37:SC:=(.seq (.reg [
 o1 2 (.box (.t 0) 0 29),
 o1 3 (.box (.t 1) 0 31),
 o1 4 (.alloc [.slice none 0 0,.slice none 0 0,.int .i64 0,.int .i64 0] 104),
 o1 5 (.mv (.c (.int .i64 0)))])
 (.seq (.seq (.reg [
 o1 7 (.ld (.t 2) 2 true),
 o1 8 (.call 55 [.t 7]),
 m1 6 8])
 (.seq (.reg [
 m1 9 6,
 o1 10 (.bin .neq (.t 9) (.c (.int .i64 0)))])
 (.cond (.t 10)
 (.seq (.reg [
  o1 11 (.build [.slice none 0 0,.slice none 0 0,.int .i64 0,.int .i64 0] []),
  m1 12 6,
  ⟨none,.st (.t 4) (.t 11) 4,none,[]⟩,
  m1 5 12])
  .ret)
 .skip)))
 (.seq (.seq (.reg [
 o1 13 (.ld (.t 3) 2 true),
 o1 14 (.bsl 2 31 [.t 13]),
 o1 15 (.call 56 [.c (.int .i64 1),.c (.int .i64 100000),.t 14]),
 o1 16 (.un .not (.t 15))])
 (.cond (.t 16)
 (.seq (.reg [
  o1 17 (.build [.slice none 0 0,.slice none 0 0,.int .i64 0,.int .i64 0] []),
  ⟨none,.st (.t 4) (.t 17) 4,none,[]⟩,
  o1 5 (.mv (.c (.int .i64 31)))])
  .ret)
 .skip))
 (.seq (.reg [
 o1 18 (.ld (.t 2) 2 true),
 o1 19 (.ld (.t 3) 2 true),
 o1 20 (.build [.slice none 0 0,.slice none 0 0,.int .i64 0,.int .i64 0] [(0,2,.t 18),(2,2,.t 19)]),
 ⟨none,.st (.t 4) (.t 20) 4,none,[]⟩,
 o1 5 (.mv (.c (.int .i64 0)))])
 .ret))))
def r37:List RV:=[.cell 4 4 true,.tmp 5]
theorem t37:Qt1 Try.prog 37 c37 r37 21:=Yn Try.func37 rfl (by kernel_rfl) (by kernel_rfl) (by kernel_rfl) (by kernel_rfl)
def c60:SC:=(.seq (.reg [
 o1 2 (.box (.t 0) 0 104),
 o1 4 (.alloc [.int .i64 0,.int .i64 0] 115)])
 (.seq (.reg [
 o1 6 (.addo (.t 2) 0),
 o1 7 (.addo (.t 6) 1),
 o1 8 (.ld (.t 7) 1 false),
 m1 9 1,
 o1 10 (.ixs (.t 8) (.t 9) 5),
 o1 11 (.addo (.t 10) 2),
 o1 12 (.ld (.t 11) 2 true),
 o1 5 (.alloc [.int .i64 0,.int .i64 0] 31),
 ⟨none,.st (.t 5) (.t 12) 2,none,[]⟩])
 (.seq (.regd [0,1,2,3,4,5,6,7,8,9,10,11,12,13,14,15,16,17,18,19,20,21,22,23] [
 .op (o1 13 (.addo (.t 5) 0)),
 .op ⟨some 14,.ld (.t 13) 1 false,none,[0]⟩,
 .op (o1 15 (.addo (.t 2) 2)),
 .op ⟨some 16,.addo (.t 15) 1,none,[2]⟩,
 .op ⟨some 17,.ld (.t 16) 1 false,none,[3]⟩,
 .op ⟨some 18,.bin .add (.t 14) (.t 17),none,[1,4]⟩,
 .op ⟨some 19,.bin .sub (.t 18) (.c (.int .i64 1)),none,[5]⟩,
 .op (o1 20 (.addo (.t 2) 2)),
 .op ⟨some 21,.addo (.t 20) 1,none,[7]⟩,
 .op ⟨some 22,.ld (.t 21) 1 false,none,[8]⟩,
 .op ⟨some 23,.div .quo (.t 19) (.t 22),none,[6,9]⟩,
 .op (o1 24 (.addo (.t 5) 1)),
 .op ⟨some 25,.ld (.t 24) 1 false,none,[11]⟩,
 .op (o1 26 (.addo (.t 2) 2)),
 .op ⟨some 27,.addo (.t 26) 0,none,[13]⟩,
 .op ⟨some 28,.ld (.t 27) 1 false,none,[14]⟩,
 .op ⟨some 29,.bin .add (.t 25) (.t 28),none,[12,15]⟩,
 .op ⟨some 30,.bin .sub (.t 29) (.c (.int .i64 1)),none,[16]⟩,
 .op (o1 31 (.addo (.t 2) 2)),
 .op ⟨some 32,.addo (.t 31) 0,none,[18]⟩,
 .op ⟨some 33,.ld (.t 32) 1 false,none,[19]⟩,
 .op ⟨some 34,.div .quo (.t 30) (.t 33),none,[17,20]⟩,
 .op ⟨some 35,.build [.int .i64 0,.int .i64 0] [(0,1,.t 23),(1,1,.t 34)],none,[10,21]⟩] 0 1 [
 ⟨none,.st (.t 4) (.t 35) 2,none,[0,1,2,3,4,5,6,7,8,9,10,11,12,13,14,15,16,17,18,19,20,21,22]⟩])
 .ret)))
def r60:List RV:=[.cell 4 2 true]
theorem t60:Qt1 Try.prog 60 c60 r60 36:=Yn Try.func60 rfl (by kernel_rfl) (by kernel_rfl) (by kernel_rfl) (by kernel_rfl)
def c72:SC:=(.seq (.reg [
 o1 1 (.box (.t 0) 0 115),
 o1 2 (.alloc [.int .i64 0,.int .i64 0] 31)])
 (.seq (.reg [
 o1 3 (.ixa (.t 1) (.c (.int .i64 0)) 2 1),
 o1 4 (.ld (.t 3) 1 false),
 o1 5 (.ixa (.t 1) (.c (.int .i64 1)) 2 1),
 o1 6 (.ld (.t 5) 1 false),
 o1 7 (.build [.int .i64 0,.int .i64 0] [(0,1,.t 4),(1,1,.t 6)]),
 ⟨none,.st (.t 2) (.t 7) 2,none,[]⟩])
 .ret))
def r72:List RV:=[.cell 2 2 true]
theorem t72:Qt1 Try.prog 72 c72 r72 8:=Yn Try.func72 rfl (by kernel_rfl) (by kernel_rfl) (by kernel_rfl) (by kernel_rfl)
def c59:SC:=(.seq (.reg [
 o1 3 (.box (.t 0) 0 104),
 o1 5 (.box (.t 2) 0 115),
 o1 6 (.alloc [.int .i64 0,.int .i64 0] 115)])
 (.seq (.reg [
 o1 15 (.ld (.t 3) 4 true),
 m1 16 1,
 o1 17 (.call 60 [.t 15,.t 16]),
 o1 7 (.alloc [.int .i64 0,.int .i64 0] 115),
 ⟨none,.st (.t 7) (.t 17) 2,none,[]⟩])
 (.seq (.reg [
 o1 18 (.build [.int .i64 0,.int .i64 0] [(0,1,.c (.int .i64 100001)),(1,1,.c (.int .i64 100001))]),
 o1 8 (.alloc [.int .i64 0,.int .i64 0] 115),
 ⟨none,.st (.t 8) (.t 18) 2,none,[]⟩])
 (.seq (.seq (.reg [
 o1 19 (.addo (.t 3) 0),
 o1 20 (.addo (.t 19) 1),
 o1 21 (.ld (.t 20) 1 false),
 m1 22 1,
 o1 23 (.ixs (.t 21) (.t 22) 5),
 o1 24 (.addo (.t 23) 4),
 o1 25 (.ld (.t 24) 1 false),
 o1 26 (.len (.t 25)),
 o1 27 (.mv (.c (.int .i64 0)))])
 (.block 0 (.loop (.seq (.reg [
  o1 28 (.bin .lss (.t 27) (.t 26))])
  (.seq (.cond (.t 28)
  .skip
  (.exit 0))
  (.seq (.block 1 (.seq (.reg [
   o1 29 (.ixs (.t 25) (.t 27) 4),
   o1 30 (.ld (.t 29) 4 true),
   o1 10 (.alloc [.int .i64 0,.int .i64 0,.int .i64 0,.int .i64 0] 69),
   ⟨none,.st (.t 10) (.t 30) 4,none,[]⟩])
   (.seq (.regd [0,1,2,3,4,5,6,7,8,9,10,11,12,13,14,15,16,17] [
   .op (o1 31 (.addo (.t 10) 0)),
   .op ⟨some 32,.addo (.t 31) 0,none,[0]⟩,
   .op ⟨some 33,.ld (.t 32) 1 false,none,[1]⟩,
   .op (o1 34 (.addo (.t 10) 0)),
   .op ⟨some 35,.addo (.t 34) 1,none,[3]⟩,
   .op ⟨some 36,.ld (.t 35) 1 false,none,[4]⟩,
   .op ⟨some 37,.build [.int .i64 0,.int .i64 0] [(0,1,.t 33),(1,1,.t 36)],none,[2,5]⟩,
   .op (o1 38 (.addo (.t 10) 2)),
   .op ⟨some 39,.addo (.t 38) 1,none,[7]⟩,
   .op ⟨some 40,.ld (.t 39) 1 false,none,[8]⟩,
   .op (o1 41 (.addo (.t 10) 2)),
   .op ⟨some 42,.addo (.t 41) 0,none,[10]⟩,
   .op ⟨some 43,.ld (.t 42) 1 false,none,[11]⟩,
   .op ⟨some 44,.build [.int .i64 0,.int .i64 0] [(0,1,.t 40),(1,1,.t 43)],none,[9,12]⟩] 2 2 [
   o1 11 (.alloc [.int .i64 0,.int .i64 0] 115),
   o1 12 (.alloc [.int .i64 0,.int .i64 0] 115),
   ⟨none,.st (.t 11) (.t 37) 2,none,[0,1,2,3,4,5,6,14,15]⟩,
   ⟨none,.st (.t 12) (.t 44) 2,none,[0,1,2,3,4,5,6,7,8,9,10,11,12,13,14,15,16]⟩])
   (.seq (.reg [
   o1 45 (.mv (.c (.int .i64 0)))])
   (.block 2 (.loop (.seq (.reg [
    o1 46 (.bin .lss (.t 45) (.c (.int .i64 2)))])
    (.seq (.cond (.t 46)
    .skip
    (.exit 2))
    (.seq (.block 3 (.seq (.reg [
     m1 47 45,
     m1 13 47])
     (.seq (.regd [0,1,2,3,4,5,6,7] [
     .op (m1 48 13),
     .op ⟨some 49,.ixa (.t 5) (.t 48) 2 1,none,[0]⟩,
     .op ⟨some 50,.ld (.t 49) 1 false,none,[1]⟩,
     .op (m1 51 13),
     .op ⟨some 52,.ixa (.t 11) (.t 51) 2 1,none,[3]⟩,
     .op ⟨some 53,.ld (.t 52) 1 false,none,[4]⟩,
     .op ⟨some 54,.mm true [.t 50,.t 53],none,[2,5]⟩,
     .op ⟨some 14,.mv (.t 54),none,[0,1,2,3,4,5,6]⟩] 0 0 [
])
 (.seq (.regd [0,1,2,3,4,5,6,7,8,9] [
 .op (m1 55 14),
 .op (m1 56 13),
 .op ⟨some 57,.ixa (.t 7) (.t 56) 2 1,none,[1]⟩,
 .op ⟨some 58,.ld (.t 57) 1 false,none,[2]⟩,
 .op ⟨some 59,.bin .add (.t 55) (.t 58),none,[0,3]⟩,
 .op ⟨some 60,.bin .sub (.t 59) (.c (.int .i64 1)),none,[4]⟩,
 .op (m1 61 13),
 .op ⟨some 62,.ixa (.t 12) (.t 61) 2 1,none,[6]⟩,
 .op ⟨some 63,.ld (.t 62) 1 false,none,[7]⟩,
 .op ⟨some 64,.bin .leq (.t 60) (.t 63),none,[5,8]⟩] 0 0 [
])
 (.cond (.t 64)
 (.reg [
  m1 65 13,
  m1 66 13,
  o1 67 (.ixa (.t 8) (.t 66) 2 1),
  o1 68 (.ld (.t 67) 1 false),
  m1 69 14,
  o1 70 (.bsl 1 3 [.t 68,.t 69]),
  o1 71 (.call 61 [.t 70]),
  o1 72 (.ixa (.t 8) (.t 65) 2 1),
  ⟨none,.st (.t 72) (.t 71) 1,none,[]⟩])
 .skip)))))
 (.reg [
 o1 73 (.bin .add (.t 45) (.c (.int .i64 1))),
 m1 45 73]))))))))))
 (.reg [
 o1 74 (.bin .add (.t 27) (.c (.int .i64 1))),
 m1 27 74])))))))
 (.seq (.reg [
 o1 75 (.ld (.t 8) 2 true),
 ⟨none,.st (.t 6) (.t 75) 2,none,[]⟩])
 .ret)))))
def r59:List RV:=[.cell 6 2 true]
theorem t59:Qt1 Try.prog 59 c59 r59 76:=Yn Try.func59 rfl (by kernel_rfl) (by kernel_rfl) (by kernel_rfl) (by kernel_rfl)
def c61:SC:=(.seq (.reg [
 o1 2 (.mv (.c (.int .i64 0)))])
 (.seq (.reg [
 m1 3 0,
 o1 4 (.bsl 1 3 [.c (.int .i64 100001)]),
 o1 5 (.app 1 8 3 (.t 3) (.t 4)),
 o1 6 (.call 29 [.t 5]),
 m1 2 6])
 .ret))
def r61:List RV:=[.tmp 2]
theorem t61:Qt1 Try.prog 61 c61 r61 7:=Yn Try.func61 rfl (by kernel_rfl) (by kernel_rfl) (by kernel_rfl) (by kernel_rfl)
def c29:SC:=(.seq (.reg [
 o1 2 (.mv (.c (.int .i64 0)))])
 (.seq (.seq (.reg [
 m1 5 0,
 o1 6 (.len (.t 5)),
 o1 7 (.bin .lss (.t 6) (.c (.int .i64 1)))])
 (.cond (.t 7)
 (.reg [
  o1 8 (.raw (Go.Op.makeInterface 9 (Go.Operand.const (Go.Value.string { data:=#[115,108,105,99,101,115,46,77,105,110,58,32,101,109,112,116,121,32,108,105,115,116] }))) 20),
  ⟨none,.raw (Go.Op.panic (Go.Operand.tmp 8)) 0,none,[]⟩])
 .skip))
 (.seq (.reg [
 m1 9 0,
 o1 10 (.ixs (.t 9) (.c (.int .i64 0)) 1),
 o1 11 (.ld (.t 10) 1 false),
 m1 3 11])
 (.seq (.seq (.reg [
 o1 4 (.mv (.c (.int .i64 1)))])
 (.block 0 (.loop (.seq (.seq (.reg [
  m1 12 4,
  m1 13 0,
  o1 14 (.len (.t 13)),
  o1 15 (.bin .lss (.t 12) (.t 14))])
  (.cond (.t 15)
  .skip
  (.exit 0)))
  (.seq (.block 1 (.reg [
   m1 18 3,
   m1 19 0,
   m1 20 4,
   o1 21 (.ixs (.t 19) (.t 20) 1),
   o1 22 (.ld (.t 21) 1 false),
   o1 23 (.mm false [.t 18,.t 22]),
   m1 3 23]))
  (.reg [
  m1 16 4,
  o1 17 (.bin .add (.t 16) (.c (.int .i64 1))),
  m1 4 17]))))))
 (.seq (.reg [
 m1 24 3,
 m1 2 24])
 .ret)))))
def r29:List RV:=[.tmp 2]
theorem t29:Qt1 Try.prog 29 c29 r29 25:=Yn Try.func29 rfl (by kernel_rfl) (by kernel_rfl) (by kernel_rfl) (by kernel_rfl)
end Go.Proofs.Ytiigiflofnjilaa
namespace Go.Azalai
structure Span where
 lo:Int
 hi:Int
deriving DecidableEq
structure Well where
 x:Int
 y:Int
 depth:Int
 yld:Span
 room:Int
 has:Span
 owner:Int
deriving DecidableEq
structure Gate where
 opens:Span
 shuts:Span
deriving DecidableEq
structure Leg where
 a:Int
 b:Int
 long:Span
 gates:List Gate
deriving DecidableEq
structure Land where
 wells:List Well
 legs:List Leg
deriving DecidableEq
structure Draw where
 well:Int
 day:Int
 water:Int
deriving DecidableEq
def inR (lo hi n:Int):Bool:=decide (lo<=n/\n<=hi)
def Yt (lo hi:Int) (s:Span):Bool:=decide (lo<=s.lo/\s.lo<=s.hi/\s.hi<=hi)
def XK (w:Well):Bool :=
 inR (-10000000) 10000000 w.x && inR (-10000000) 10000000 w.y && inR 0 200 w.depth && Yt 0 10000000 w.yld && inR 0 1000000000 w.room && Yt 0 w.room w.has && inR 0 9999 w.owner
def Y7 (next:Int):List Gate->Bool
 | []=>true
 | g :: r=>Yt 0 100000 g.opens && Yt 0 100000 g.shuts && inR next g.shuts.hi g.opens.lo && Y7 (g.shuts.hi+1) r
def Zba (n:Int) (x:Leg):Bool :=
 inR 0 (n - 1) x.a && inR 0 (n - 1) x.b && x.a != x.b && Yt 1 1000000 x.long && decide (x.gates.length<=6) && Y7 0 x.gates
def Yf (l:Land):Bool :=
 inR 1 12 l.wells.length && decide (l.legs.length<=24) && l.wells.all XK && l.legs.all (Zba l.wells.length)
def X5 {α : Type} (g:α->Bool):List α->Nat->Int
 | [],_=>-1
 | x :: l,k=>if g x then k else X5 g l (k+1)
theorem Zej {α : Type} (g:α->Bool):∀ (l:List α) (k:Nat),decide (X5 g l k ≥ 0)=l.any g
 | [],k=>by simp [X5]
 | x :: l,k=>by
  simp only [X5,List.any_cons]
  by_cases hg:g x=true
  . simp [hg]
  . simpa [hg] using Zej g l (k+1)
def XR (w:Well) (has:Span) (days:Int):Span:=⟨min w.room (has.lo+days * w.yld.lo),min w.room (has.hi+days * w.yld.hi)⟩
def Wv (n last:Int):List Draw->Bool
 | []=>true
 | x :: r=>inR 0 (n - 1) x.well && inR last 100000 x.day && inR 0 1000000000 x.water && Wv n x.day r
def Vk (w:Well) (well day:Int) (now:Span) (evening:Int) (i:Nat):List Draw->Span × Int × Int
 | []=>(XR w now (day - 1 - evening),0,0)
 | x :: r =>
  if (x.well != well || decide (x.day ≥ day))=true then Vk w well day now evening (i+1) r
  else
   let f:=XR w now (x.day - evening)
   if f.hi < x.water then (⟨0,0⟩,i,33) else Vk w well day ⟨max 0 (f.lo - x.water),f.hi - x.water⟩ x.day (i+1) r
def Wn (l:Land) (well:Int) (draws:List Draw) (day:Int):Span × Int × Int :=
 if Yf l=false then (⟨0,0⟩,0,30)
 else if (inR 0 (l.wells.length - 1) well && inR 0 100000 day)=false then (⟨0,0⟩,0,2)
 else if draws.length > 200 then (⟨0,0⟩,0,4)
 else if Wv l.wells.length 0 draws=false then (⟨0,0⟩,0,32)
 else match l.wells[well.toNat]? with
  | some w=>Vk w well day w.has (-1) 0 draws
  | none=>(⟨0,0⟩,0,0)
def Vg (l:Land):Prop:=l.wells.length<=1000/\l.legs.length<=1000/\∀ x ∈ l.legs,x.gates.length<=1000
def ZgZ (l:Land):Bool:=decide (l.wells.length > 20) || decide (l.legs.length > 40) || l.legs.any fun x=>decide (x.gates.length > 20)
theorem Zeh {l:Land} (h:Yf l=true):∀ w ∈ l.wells,XK w=true:=by
 simp only [Yf,Bool.and_eq_true,List.all_eq_true] at h;exact h.1.2
theorem Uo {l:Land} (h:Yf l=true):1<=l.wells.length/\l.wells.length<=12/\l.legs.length<=24:=by
 simp only [Yf,Bool.and_eq_true,inR,decide_eq_true_eq] at h;omega
theorem Zag {n:Int}:∀ {l:List Draw} {last:Int},Wv n last l=true->0<=last->∀ x ∈ l,0<=x.day/\x.day<=100000/\0<=x.water/\x.water<=1000000000
 | [],_,_,_,x,h=>by simp at h
 | y :: l,last,h,h0,x,hx=>by
  simp only [Wv,Bool.and_eq_true,inR,decide_eq_true_eq] at h
  rcases List.mem_cons.1 hx with rfl | hx
  . omega
  . exact Zag h.2 (by omega) x hx
end Go.Azalai
namespace Go.Proofs.Ytiigiflofnjilaa
open Go Go.Sx Go.Azalai
def Zp (n:Int):List SV:=[I n]
def Zd (s:Span):List SV:=[I s.lo,I s.hi]
def Zh (g:Gate):List SV:=[I g.opens.lo,I g.opens.hi,I g.shuts.lo,I g.shuts.hi]
def Zg (w:Well):List SV:=[I w.x,I w.y,I w.depth,I w.yld.lo,I w.yld.hi,I w.room,I w.has.lo,I w.has.hi,I w.owner]
def Zo (x:Leg):List SV:=[I x.a,I x.b,I x.long.lo,I x.long.hi,.sl false 4 (x.gates.map Zh)]
def YB (l:Land):List SV:=[.sl false 9 (l.wells.map Zg),.sl false 5 (l.legs.map Zo)]
def ZW (d:Draw):List SV:=[I d.well,I d.day,I d.water]
theorem Wq {α : Type} (g:α->Bool) (l:List α):decide (X5 g l 0 ≥ 0)=l.any g:=Zej g l 0
theorem Zj2 (h:Nat) (caps:List SV) (hk:KFL caps) (g:Int->Bool) (l:List Int) (hg:∀ x ∈ l,Ct Try.prog h (I x :: caps) (B (g x))) (hl:l.length < 4611686018427387904) {c:Bool} :
 Ct Try.prog 54 [.sl c 1 (l.map Zp),.cl h caps] (I (X5 g l 0)):=by
 refine t54.1 ⟨by simp [KF,Za,KFL,Zp],hk,trivial⟩ (by simp [KF]) ?_
 dsimp only [c54,r54,go_sem,rA,rM,rS]
 refine XO (fun k:Nat=>[(8,I k)]) (fun _=>[]) (fun k=>k<=l.length/\X5 g (l.drop k) k=X5 g l 0) (fun k=>l.length - k) 0 ⟨Nat.zero_le _,rfl⟩ ?_ ?_
 . (refine Zl ?_ ?_ ?_ rfl rfl<;>dsimp only [Zp,hk,id,go_sem,rA,rM,rS]<;>simp [Zp,hk,Za,Zf,KFR,KFL,KF,Zc,mtO,nbr])
 . intro k ⟨hk',hi⟩
   dsimp only [go_sem,rA,rM,rS]
   refine br ?_ ?_
   . intro hlt
     have hlt:k < l.length:=by simpa using hlt
     dsimp only [go_sem,rA,rM,rS]
     refine Zs k hlt rfl ?_
     dsimp only [Zp,go_sem,rA,rM,rS]
     refine call (hg l[k] (List.getElem_mem _)) ?_
     dsimp only [go_sem,rA,rM,rS]
     refine br ?_ ?_
     . intro hgx
       dsimp only [go_sem,rA,rM,rS]
       rw [<- hi,List.drop_eq_getElem_cons hlt]
       simp [X5,hgx]
     . intro hgx
       dsimp only [go_sem,rA,rM,rS]
       refine ⟨k+1,⟨by omega,?_⟩,by omega,?_⟩
       . rw [<- hi,List.drop_eq_getElem_cons hlt];simp [X5,hgx]
       . rw [Zi (by omega) (by omega)]
         (refine Zl ?_ ?_ ?_ rfl rfl<;>dsimp only [Zp,hk,id,go_sem,rA,rM,rS]<;>simp [Zp,hk,Za,Zf,KFR,KFL,KF,Zc,mtO,nbr])
   . intro hlt
     have hlt:k=l.length:=by simp at hlt;omega
     dsimp only [go_sem,rA,rM,rS]
     rw [<- hi,hlt];simp [X5]
theorem ZvN (h:Nat) (caps:List SV) (hk:KFL caps) (g:Int->Bool) (l:List Int) (hg:∀ x ∈ l,Ct Try.prog h (I x :: caps) (B (g x))) (hl:l.length < 4611686018427387904) {c:Bool} :
 Ct Try.prog 35 [.sl c 1 (l.map Zp),.cl h caps] (B (l.any g)):=by
 refine t35.1 ⟨by simp [KF,Za,KFL,Zp],hk,trivial⟩ (by simp [KF]) ?_
 dsimp only [c35,r35,go_sem,rA,rM,rS]
 refine call (Zj2 h caps hk g l hg hl) ?_
 dsimp only [go_sem,rA,rM,rS]
 rw [Wq]
theorem idx95 (h:Nat) (caps:List SV) (hk:KFL caps) (g:Well->Bool) (l:List Well) (hg:∀ x ∈ l,Ct Try.prog h (.agg (Zg x) :: caps) (B (g x))) (hl:l.length < 4611686018427387904) {c:Bool} :
 Ct Try.prog 92 [.sl c 9 (l.map Zg),.cl h caps] (I (X5 g l 0)):=by
 refine t92.1 ⟨by simp [KF,Za,KFL,Zg],hk,trivial⟩ (by simp [KF]) ?_
 dsimp only [c92,r92,go_sem,rA,rM,rS]
 refine XO (fun k:Nat=>[(8,I k)]) (fun _=>[]) (fun k=>k<=l.length/\X5 g (l.drop k) k=X5 g l 0) (fun k=>l.length - k) 0 ⟨Nat.zero_le _,rfl⟩ ?_ ?_
 . (refine Zl ?_ ?_ ?_ rfl rfl<;>dsimp only [Zg,hk,id,go_sem,rA,rM,rS]<;>simp [Zg,hk,Za,Zf,KFR,KFL,KF,Zc,mtO,nbr])
 . intro k ⟨hk',hi⟩
   dsimp only [go_sem,rA,rM,rS]
   refine br ?_ ?_
   . intro hlt
     have hlt:k < l.length:=by simpa using hlt
     dsimp only [go_sem,rA,rM,rS]
     refine Zs k hlt rfl ?_
     dsimp only [Zg,go_sem,rA,rM,rS]
     refine call (hg l[k] (List.getElem_mem _)) ?_
     dsimp only [go_sem,rA,rM,rS]
     refine br ?_ ?_
     . intro hgx
       dsimp only [go_sem,rA,rM,rS]
       rw [<- hi,List.drop_eq_getElem_cons hlt]
       simp [X5,hgx]
     . intro hgx
       dsimp only [go_sem,rA,rM,rS]
       refine ⟨k+1,⟨by omega,?_⟩,by omega,?_⟩
       . rw [<- hi,List.drop_eq_getElem_cons hlt];simp [X5,hgx]
       . rw [Zi (by omega) (by omega)]
         (refine Zl ?_ ?_ ?_ rfl rfl<;>dsimp only [Zg,hk,id,go_sem,rA,rM,rS]<;>simp [Zg,hk,Za,Zf,KFR,KFL,KF,Zc,mtO,nbr])
   . intro hlt
     have hlt:k=l.length:=by simp at hlt;omega
     dsimp only [go_sem,rA,rM,rS]
     rw [<- hi,hlt];simp [X5]
theorem con71 (h:Nat) (caps:List SV) (hk:KFL caps) (g:Well->Bool) (l:List Well) (hg:∀ x ∈ l,Ct Try.prog h (.agg (Zg x) :: caps) (B (g x))) (hl:l.length < 4611686018427387904) {c:Bool} :
 Ct Try.prog 77 [.sl c 9 (l.map Zg),.cl h caps] (B (l.any g)):=by
 refine t77.1 ⟨by simp [KF,Za,KFL,Zg],hk,trivial⟩ (by simp [KF]) ?_
 dsimp only [c77,r77,go_sem,rA,rM,rS]
 refine call (idx95 h caps hk g l hg hl) ?_
 dsimp only [go_sem,rA,rM,rS]
 rw [Wq]
theorem idx96 (h:Nat) (caps:List SV) (hk:KFL caps) (g:Leg->Bool) (l:List Leg) (hg:∀ x ∈ l,Ct Try.prog h (.agg (Zo x) :: caps) (B (g x))) (hl:l.length < 4611686018427387904) {c:Bool} :
 Ct Try.prog 93 [.sl c 5 (l.map Zo),.cl h caps] (I (X5 g l 0)):=by
 refine t93.1 ⟨by simp [KF,Za,KFL,Zo,Zh],hk,trivial⟩ (by simp [KF]) ?_
 dsimp only [c93,r93,go_sem,rA,rM,rS]
 refine XO (fun k:Nat=>[(8,I k)]) (fun _=>[]) (fun k=>k<=l.length/\X5 g (l.drop k) k=X5 g l 0) (fun k=>l.length - k) 0 ⟨Nat.zero_le _,rfl⟩ ?_ ?_
 . (refine Zl ?_ ?_ ?_ rfl rfl<;>dsimp only [Zo,Zh,hk,id,go_sem,rA,rM,rS]<;>simp [Zo,Zh,hk,Za,Zf,KFR,KFL,KF,Zc,mtO,nbr])
 . intro k ⟨hk',hi⟩
   dsimp only [go_sem,rA,rM,rS]
   refine br ?_ ?_
   . intro hlt
     have hlt:k < l.length:=by simpa using hlt
     dsimp only [go_sem,rA,rM,rS]
     refine Zs k hlt rfl ?_
     dsimp only [Zo,go_sem,rA,rM,rS]
     refine call (hg l[k] (List.getElem_mem _)) ?_
     dsimp only [go_sem,rA,rM,rS]
     refine br ?_ ?_
     . intro hgx
       dsimp only [go_sem,rA,rM,rS]
       rw [<- hi,List.drop_eq_getElem_cons hlt]
       simp [X5,hgx]
     . intro hgx
       dsimp only [go_sem,rA,rM,rS]
       refine ⟨k+1,⟨by omega,?_⟩,by omega,?_⟩
       . rw [<- hi,List.drop_eq_getElem_cons hlt];simp [X5,hgx]
       . rw [Zi (by omega) (by omega)]
         (refine Zl ?_ ?_ ?_ rfl rfl<;>dsimp only [Zo,Zh,hk,id,go_sem,rA,rM,rS]<;>simp [Zo,Zh,hk,Za,Zf,KFR,KFL,KF,Zc,mtO,nbr])
   . intro hlt
     have hlt:k=l.length:=by simp at hlt;omega
     dsimp only [go_sem,rA,rM,rS]
     rw [<- hi,hlt];simp [X5]
theorem con74 (h:Nat) (caps:List SV) (hk:KFL caps) (g:Leg->Bool) (l:List Leg) (hg:∀ x ∈ l,Ct Try.prog h (.agg (Zo x) :: caps) (B (g x))) (hl:l.length < 4611686018427387904) {c:Bool} :
 Ct Try.prog 80 [.sl c 5 (l.map Zo),.cl h caps] (B (l.any g)):=by
 refine t80.1 ⟨by simp [KF,Za,KFL,Zo,Zh],hk,trivial⟩ (by simp [KF]) ?_
 dsimp only [c80,r80,go_sem,rA,rM,rS]
 refine call (idx96 h caps hk g l hg hl) ?_
 dsimp only [go_sem,rA,rM,rS]
 rw [Wq]
theorem ZvC (h:Nat) (caps:List SV) (hk:KFL caps) (g:Span->Bool) (l:List Span) (hg:∀ x ∈ l,Ct Try.prog h (.agg (Zd x) :: caps) (B (g x))) (hl:l.length < 4611686018427387904) {c:Bool} :
 Ct Try.prog 70 [.sl c 2 (l.map Zd),.cl h caps] (I (X5 g l 0)):=by
 refine t70.1 ⟨by simp [KF,Za,KFL,Zd],hk,trivial⟩ (by simp [KF]) ?_
 dsimp only [c70,r70,go_sem,rA,rM,rS]
 refine XO (fun k:Nat=>[(8,I k)]) (fun _=>[]) (fun k=>k<=l.length/\X5 g (l.drop k) k=X5 g l 0) (fun k=>l.length - k) 0 ⟨Nat.zero_le _,rfl⟩ ?_ ?_
 . (refine Zl ?_ ?_ ?_ rfl rfl<;>dsimp only [Zd,hk,id,go_sem,rA,rM,rS]<;>simp [Zd,hk,Za,Zf,KFR,KFL,KF,Zc,mtO,nbr])
 . intro k ⟨hk',hi⟩
   dsimp only [go_sem,rA,rM,rS]
   refine br ?_ ?_
   . intro hlt
     have hlt:k < l.length:=by simpa using hlt
     dsimp only [go_sem,rA,rM,rS]
     refine Zs k hlt rfl ?_
     dsimp only [Zd,go_sem,rA,rM,rS]
     refine call (hg l[k] (List.getElem_mem _)) ?_
     dsimp only [go_sem,rA,rM,rS]
     refine br ?_ ?_
     . intro hgx
       dsimp only [go_sem,rA,rM,rS]
       rw [<- hi,List.drop_eq_getElem_cons hlt]
       simp [X5,hgx]
     . intro hgx
       dsimp only [go_sem,rA,rM,rS]
       refine ⟨k+1,⟨by omega,?_⟩,by omega,?_⟩
       . rw [<- hi,List.drop_eq_getElem_cons hlt];simp [X5,hgx]
       . rw [Zi (by omega) (by omega)]
         (refine Zl ?_ ?_ ?_ rfl rfl<;>dsimp only [Zd,hk,id,go_sem,rA,rM,rS]<;>simp [Zd,hk,Za,Zf,KFR,KFL,KF,Zc,mtO,nbr])
   . intro hlt
     have hlt:k=l.length:=by simp at hlt;omega
     dsimp only [go_sem,rA,rM,rS]
     rw [<- hi,hlt];simp [X5]
theorem Zp0 (h:Nat) (caps:List SV) (hk:KFL caps) (g:Span->Bool) (l:List Span) (hg:∀ x ∈ l,Ct Try.prog h (.agg (Zd x) :: caps) (B (g x))) (hl:l.length < 4611686018427387904) {c:Bool} :
 Ct Try.prog 49 [.sl c 2 (l.map Zd),.cl h caps] (B (l.any g)):=by
 refine t49.1 ⟨by simp [KF,Za,KFL,Zd],hk,trivial⟩ (by simp [KF]) ?_
 dsimp only [c49,r49,go_sem,rA,rM,rS]
 refine call (ZvC h caps hk g l hg hl) ?_
 dsimp only [go_sem,rA,rM,rS]
 rw [Wq]
theorem Zb2 (lo hi x:Int):Ct Try.prog 57 [I x,.ps [I lo] 0,.ps [I hi] 0] (B (!inR lo hi x)):=by
 refine t57.1 (by simp [KFL,KF]) (by simp [KFL,KF]) ?_
 dsimp only [c57,r57,go_sem,rA,rM,rS]
 repeat (refine gb ?_;dsimp only [go_sem,rA,rM,rS])
 (simp only [inR,Option.some.injEq,SV.v.injEq,Value.bool.injEq]<;>grind)
theorem V4 (lo hi:Int) (l:List Int) (hl:l.length < 4611686018427387904) (c:Bool):Ct Try.prog 38 [I lo,I hi,.sl c 1 (l.map Zp)] (B (l.all (inR lo hi))):=by
 refine t38.1 (by simp [Za,Zp,KFL,KF]) (by simp [KFL,KF]) ?_
 dsimp only [c38,r38,go_sem,rA,rM,rS]
 refine Zc5 (by simp [FLT]) (res:=B (l.any fun x=>!inR lo hi x)) ?_ ?_
 . dsimp only [go_sem,rA,rM,rS]
   exact ZvN 57 [.ps [I lo] 0,.ps [I hi] 0] (by simp [KFL,KF]) (fun x=>!inR lo hi x) l (fun x _=>Zb2 lo hi x) hl
 . dsimp only [go_sem,rA,rM,rS]
   simp [List.all_eq_not_any_not]
theorem Uf (lo hi a:Int) (c:Bool):Ct Try.prog 38 [I lo,I hi,.sl c 1 [[I a]]] (B (inR lo hi a)):=by
 have:=V4 lo hi [a] (by simp) c
 simpa [Zp] using this
theorem ZcF (lo hi a b:Int) (c:Bool):Ct Try.prog 38 [I lo,I hi,.sl c 1 [[I a],[I b]]] (B (inR lo hi a && inR lo hi b)):=by
 have:=V4 lo hi [a,b] (by simp) c
 simpa [Zp] using this
theorem VA (lo hi:Int) (s:Span):Ct Try.prog 83 [.agg (Zd s),.ps [I lo] 0,.ps [I hi] 0] (B (!Yt lo hi s)):=by
 refine t83.1 (by simp [Zd,KFL,KF]) (by simp [KFL,KF]) ?_
 dsimp only [c83,r83,Zd,go_sem,rA,rM,rS]
 repeat (first | (refine gb ?_;dsimp only [go_sem,rA,rM,rS]) | (refine call (ZcF _ _ _ _ _) ?_;dsimp only [go_sem,rA,rM,rS]))
 (simp only [Yt,inR,Option.some.injEq,SV.v.injEq,Value.bool.injEq]<;>grind)
theorem Y6 (lo hi:Int) (l:List Span) (hl:l.length < 4611686018427387904) (c:Bool):Ct Try.prog 56 [I lo,I hi,.sl c 2 (l.map Zd)] (B (l.all (Yt lo hi))):=by
 refine t56.1 (by simp [Za,Zd,KFL,KF]) (by simp [KFL,KF]) ?_
 dsimp only [c56,r56,go_sem,rA,rM,rS]
 refine Zc5 (by simp [FLT]) (res:=B (l.any fun x=>!Yt lo hi x)) ?_ ?_
 . dsimp only [go_sem,rA,rM,rS]
   exact Zp0 83 [.ps [I lo] 0,.ps [I hi] 0] (by simp [KFL,KF]) (fun x=>!Yt lo hi x) l (fun x _=>VA lo hi x) hl
 . dsimp only [go_sem,rA,rM,rS]
   simp [List.all_eq_not_any_not]
theorem YZ (lo hi:Int) (s:Span) (c:Bool):Ct Try.prog 56 [I lo,I hi,.sl c 2 [[I s.lo,I s.hi]]] (B (Yt lo hi s)):=by
 have:=Y6 lo hi [s] (by simp) c
 simpa [Zd] using this
theorem Zci (lo hi:Int) (s t:Span) (c:Bool):Ct Try.prog 56 [I lo,I hi,.sl c 2 [[I s.lo,I s.hi],[I t.lo,I t.hi]]] (B (Yt lo hi s && Yt lo hi t)):=by
 have:=Y6 lo hi [s,t] (by simp) c
 simpa [Zd] using this
theorem ZwS (w:Well):Ct Try.prog 79 [.agg (Zg w)] (B (XK w)):=by
 refine t79.1 (by simp [Zg,KFL,KF]) (by simp [KFL,KF]) ?_
 dsimp only [c79,r79,Zg,go_sem,rA,rM,rS]
 repeat (first | (refine gb ?_;dsimp only [go_sem,rA,rM,rS]) | (refine call (Uf _ _ _ _) ?_;dsimp only [go_sem,rA,rM,rS]) | (refine call (ZcF _ _ _ _ _) ?_;dsimp only [go_sem,rA,rM,rS]) | (refine call (YZ _ _ w.yld _) ?_;dsimp only [go_sem,rA,rM,rS]) | (refine call (YZ _ _ w.has _) ?_;dsimp only [go_sem,rA,rM,rS]))
 simp [XK,Bool.and_assoc]
theorem Zf8 (x:Leg) (n:Int) (h0:0<=n) (h1:n<=1000) (hg:x.gates.length < 4611686018427387904):Ct Try.prog 82 [.agg (Zo x),I n] (B (Zba n x)):=by
 have hw:IntKind.i64.wrap (n - 1)=n - 1:=Zi (by omega) (by omega)
 refine t82.1 (by simp [Zo,Za,Zh,KFL,KF]) (by simp [KFL,KF]) ?_
 dsimp only [c82,r82,Zo,hw,go_sem,rA,rM,rS]
 simp only [hw]
 repeat (first | (refine gb ?_;dsimp only [go_sem,rA,rM,rS]) | (refine call (ZcF _ _ _ _ _) ?_;dsimp only [go_sem,rA,rM,rS]) | (refine call (YZ _ _ x.long _) ?_;dsimp only [go_sem,rA,rM,rS]))
 simp only [List.length_map]
 refine br ?_ ?_
 . intro h
   dsimp only [go_sem,rA,rM,rS]
   (simp only [Zba,Option.some.injEq,SV.v.injEq,Value.bool.injEq]<;>grind)
 . intro h
   dsimp only [go_sem,rA,rM,rS]
   have hh:Zba n x=Y7 0 x.gates:=by simp only [Zba];grind
   rw [hh]
   refine XO (fun s:Nat × Int=>[(40,I s.1),(5,I s.2)]) (fun _=>[]) (fun s=>s.1<=x.gates.length/\Y7 s.2 (x.gates.drop s.1)=Y7 0 x.gates) (fun s=>x.gates.length - s.1) (0,0) ⟨Nat.zero_le _,rfl⟩ ?_ ?_
   . (refine Zl ?_ ?_ ?_ rfl rfl<;>dsimp only [Zh,id,go_sem,rA,rM,rS]<;>simp [Zh,Za,Zf,KFR,KFL,KF,Zc,mtO,nbr])
   . rintro ⟨k,next⟩ ⟨hk,hi⟩
     dsimp only [go_sem,rA,rM,rS]
     refine br ?_ ?_
     . intro hlt
       have hlt:k < x.gates.length:=by simpa using hlt
       dsimp only [go_sem,rA,rM,rS]
       refine Zs k hlt rfl ?_
       dsimp only [Zh,go_sem,rA,rM,rS]
       repeat (first | (refine gb ?_;dsimp only [go_sem,rA,rM,rS]) | (refine call (Zci _ _ x.gates[k].opens x.gates[k].shuts _) ?_;dsimp only [go_sem,rA,rM,rS]) | (refine call (Uf _ _ _ _) ?_;dsimp only [go_sem,rA,rM,rS]))
       have hd:x.gates.drop k=x.gates[k] :: x.gates.drop (k+1):=List.drop_eq_getElem_cons hlt
       refine br ?_ ?_
       . intro hb
         dsimp only [go_sem,rA,rM,rS]
         rw [<- hi,hd]
         (simp only [Y7,Option.some.injEq,SV.v.injEq,Value.bool.injEq]<;>grind)
       . intro hb
         dsimp only [go_sem,rA,rM,rS]
         have hs:Yt 0 100000 x.gates[k].shuts=true:=by grind
         simp only [Yt,decide_eq_true_eq] at hs
         rw [Zi (n:=x.gates[k].shuts.hi+1) (by omega) (by omega),Zi (n:=(k:Int)+1) (by omega) (by omega)]
         refine ⟨(k+1,x.gates[k].shuts.hi+1),⟨hlt,?_⟩,by simp only;omega,?_⟩
         . rw [<- hi,hd];simp only [Y7];grind
         . (refine Zl ?_ ?_ ?_ rfl rfl<;>dsimp only [Zh,id,go_sem,rA,rM,rS]<;>simp [Zh,Za,Zf,KFR,KFL,KF,Zc,mtO,nbr])
     . intro hlt
       have hlt:k=x.gates.length:=by simp at hlt;omega
       dsimp only [go_sem,rA,rM,rS]
       rw [<- hi,hlt];simp [Y7]
theorem ZtO (l:Land) (x:Leg) (hs:Vg l) (hx:x ∈ l.legs):Ct Try.prog 81 [.agg (Zo x),.ps (YB l) 0] (B (!Zba l.wells.length x)):=by
 have hg:=hs.2.2 x hx
 refine t81.1 (by simp [Zo,YB,Zg,Zh,Za,KFL,KF]) (by simp [KFL,KF]) ?_
 dsimp only [c81,r81,Zo,YB,go_sem,rA,rM,rS]
 simp only [List.length_map]
 refine call (Zf8 x l.wells.length (by omega) (by have:=hs.1;omega) (by omega)) ?_
 dsimp only [go_sem,rA,rM,rS]
theorem Zoo (w:Well):Ct Try.prog 78 [.agg (Zg w)] (B (!XK w)):=by
 refine t78.1 (by simp [Zg,KFL,KF]) (by simp [KFL,KF]) ?_
 dsimp only [c78,r78,Zg,go_sem,rA,rM,rS]
 refine call (ZwS w) ?_
 dsimp only [go_sem,rA,rM,rS]
theorem ZbW (l:Land) (hs:Vg l):Ct Try.prog 55 [.agg (YB l)] (I (if Yf l=true then 0 else 30)):=by
 refine t55.1 (by simp [YB,Zg,Zo,Zh,Za,KFL,KF]) (by simp [KFL,KF]) ?_
 dsimp only [c55,r55,YB,go_sem,rA,rM,rS]
 refine call (con71 78 [] (by simp [KFL]) (fun w=>!XK w) l.wells (fun w _=>Zoo w) (by have:=hs.1;omega)) ?_
 dsimp only [go_sem,rA,rM,rS]
 refine Zc5 (res:=B (l.legs.any fun x=>!Zba l.wells.length x)) (by simp [FLT]) ?_ ?_
 . dsimp only [go_sem,rA,rM,rS]
   exact con74 81 [.ps (YB l) 0] (by simp [YB,Zg,Zo,Zh,Za,KFL,KF]) (fun x=>!Zba l.wells.length x) l.legs (fun x hx=>ZtO l x hs hx) (by have:=hs.2.1;omega)
 dsimp only [go_sem,rA,rM,rS]
 repeat (first | (refine gb ?_;dsimp only [go_sem,rA,rM,rS]) | (refine call (Uf _ _ _ _) ?_;dsimp only [go_sem,rA,rM,rS]))
 simp only [List.length_map]
 have key:Yf l = !(!inR 1 12 l.wells.length || decide ((l.legs.length:Int) > 24) || !(!l.wells.any fun w=>!XK w) || !(!l.legs.any fun x=>!Zba l.wells.length x)):=by
  simp only [Yf,List.all_eq_not_any_not];grind
 rw [key]
 refine br ?_ ?_
 . intro h
   dsimp only [go_sem,rA,rM,rS]
   rw [h];rfl
 . intro h
   dsimp only [go_sem,rA,rM,rS]
   rw [h];rfl
theorem ZdW {w:Well} {s:Span} {n:Int} (hw:XK w=true) (h1:0<=s.lo) (h2:s.lo<=w.room) (h3:0<=s.hi) (h4:s.hi<=w.room) (h5:-200000<=n) (h6:n<=200000) :
 IntKind.i64.wrap (s.lo+IntKind.i64.wrap (n * w.yld.lo))=s.lo+n * w.yld.lo/\IntKind.i64.wrap (s.hi+IntKind.i64.wrap (n * w.yld.hi))=s.hi+n * w.yld.hi:=by
 simp only [XK,Yt,inR,Bool.and_eq_true,decide_eq_true_eq] at hw
 have key:∀ y:Int,0<=y->y<=10000000->-2000000000000<=n * y/\n * y<=2000000000000:=fun y a b=>by
  constructor
  . have:=Int.mul_le_mul_of_nonneg_right h5 a;omega
  . have:=Int.mul_le_mul_of_nonneg_right h6 a;omega
 have k1:=key w.yld.lo (by omega) (by omega)
 have k2:=key w.yld.hi (by omega) (by omega)
 rw [Zi (n:=n * w.yld.lo) (by omega) (by omega),Zi (n:=n * w.yld.hi) (by omega) (by omega),Zi (by omega) (by omega),Zi (by omega) (by omega)]
 exact ⟨rfl,rfl⟩
theorem Zi2 {w:Well} {s:Span} {n:Int} (hw:XK w=true) (h1:0<=s.lo) (h2:s.lo<=w.room) (h3:0<=s.hi) (h4:s.hi<=w.room) (h5:-200000<=n) (h6:n<=200000):-2000000000000<=(XR w s n).lo:=by
 simp only [XK,Yt,inR,Bool.and_eq_true,decide_eq_true_eq] at hw
 have k1:-2000000000000<=n * w.yld.lo:=by
  have:=Int.mul_le_mul_of_nonneg_right h5 (show 0<=w.yld.lo by omega);omega
 simp only [XR];omega
theorem ZcP (w:Well) (s:Span) (n:Int) (hw:XK w=true) (h1:0<=s.lo) (h2:s.lo<=w.room) (h3:0<=s.hi) (h4:s.hi<=w.room) (h5:-200000<=n) (h6:n<=200000) :
 Ct Try.prog 84 [.agg (Zg w),.agg (Zd s),I n] (.agg (Zd (XR w s n))):=by
 obtain ⟨k1,k2⟩:=ZdW hw h1 h2 h3 h4 h5 h6
 refine t84.1 (by simp [Zg,Zd,KFL,KF]) (by simp [Zd,KFL,KF]) ?_
 dsimp only [c84,r84,Zg,Zd,go_sem,rA,rM,rS]
 simp only [k1,k2,XR]
def Zl0 (r:Span × Int × Int):SV:=.tup [.agg (Zd r.1),I r.2.1,I r.2.2]
theorem ZoI {l:Land} {well:Int} (h:inR 0 (l.wells.length - 1) well=true):∃ (k:Nat) (hk:k < l.wells.length),well=(k:Int)/\l.wells[well.toNat]? = some l.wells[k]:=by
 simp only [inR,decide_eq_true_eq] at h
 refine ⟨well.toNat,by omega,by omega,?_⟩
 rw [List.getElem?_eq_getElem (by omega)]
theorem ZpD (l:Land) (hs:Vg l) (well day:Int) (draws:List Draw) (hd:draws.length<=1000) :
 Ct Try.prog 65 [.agg (YB l),I well,.sl false 3 (draws.map ZW),I day] (Zl0 (Wn l well draws day)):=by
 have hw1:IntKind.i64.wrap ((l.wells.length:Int) - 1)=(l.wells.length:Int) - 1:=Zi (by omega) (by have:=hs.1;omega)
 refine t65.1 (by simp [YB,Zg,Zo,Zh,ZW,Za,KFL,KF]) (by simp [Zl0,Zd,KFL,KF]) ?_
 dsimp only [c65,r65,YB,go_sem,rA,rM,rS]
 refine call (ZbW l hs) ?_
 dsimp only [go_sem,rA,rM,rS]
 by_cases ho:Yf l=true
 case neg =>
  rw [if_neg ho]
  refine Zt rfl ?_
  dsimp only [go_sem,rA,rM,rS]
  simp [Wn,ho,Zl0,Zd]
 rw [if_pos ho]
 refine Zv rfl ?_
 dsimp only [go_sem,rA,rM,rS]
 simp only [List.length_map,hw1]
 repeat (first | (refine gb ?_;dsimp only [go_sem,rA,rM,rS]) | (refine call (Uf _ _ _ _) ?_;dsimp only [go_sem,rA,rM,rS]))
 by_cases ha:(inR 0 (l.wells.length - 1) well && inR 0 100000 day)=true
 case neg =>
  refine Zt (by grind) ?_
  dsimp only [go_sem,rA,rM,rS]
  simp [Wn,ho,Zl0,Zd,ha]
 refine Zv (by grind) ?_
 dsimp only [go_sem,rA,rM,rS]
 by_cases hm:draws.length > 200
 case pos =>
  refine Zt (by simp;omega) ?_
  dsimp only [go_sem,rA,rM,rS]
  simp [Wn,ho,Zl0,Zd,ha,hm]
 refine Zv (by simp;omega) ?_
 dsimp only [go_sem,rA,rM,rS]
 refine XO (fun s:Nat × Int=>[(50,I s.1),(12,I s.2)]) (fun _=>[]) (fun s=>s.1<=draws.length/\Wv l.wells.length s.2 (draws.drop s.1)=Wv l.wells.length 0 draws) (fun s=>draws.length - s.1) (0,0) ⟨Nat.zero_le _,rfl⟩ ?_ ?_
 . (refine Zl ?_ ?_ ?_ rfl rfl<;>dsimp only [Zh,Zg,Zo,ZW,id,go_sem,rA,rM,rS]<;>simp [Zh,Zg,Zo,ZW,Za,Zf,KFR,KFL,KF,Zc,mtO,nbr])
 . rintro ⟨k,last⟩ ⟨hk,hi⟩
   simp only at hk hi
   dsimp only [go_sem,rA,rM,rS]
   by_cases hlt:k < draws.length
   . refine Zt (by simpa using hlt) ?_
     dsimp only [go_sem,rA,rM,rS]
     refine Zs k hlt rfl ?_
     dsimp only [ZW,go_sem,rA,rM,rS]
     simp only [List.length_map,hw1]
     repeat (first | (refine gb ?_;dsimp only [go_sem,rA,rM,rS]) | (refine call (Uf _ _ _ _) ?_;dsimp only [go_sem,rA,rM,rS]))
     have hdr:draws.drop k=draws[k] :: draws.drop (k+1):=List.drop_eq_getElem_cons hlt
     rw [hdr] at hi
     simp only [Wv] at hi
     refine br ?_ ?_
     . intro h
       dsimp only [go_sem,rA,rM,rS]
       have:Wv l.wells.length 0 draws=false:=by rw [<- hi];grind
       simp [Wn,ho,Zl0,Zd,ha,hm,this]
     . intro h
       dsimp only [go_sem,rA,rM,rS]
       rw [Zi (n:=(k:Int)+1) (by omega) (by omega)]
       refine ⟨(k+1,draws[k].day),⟨hlt,?_⟩,by simp only;omega,?_⟩
       . simp only;grind
       . (refine Zl ?_ ?_ ?_ rfl rfl<;>dsimp only [Zh,Zg,Zo,ZW,id,go_sem,rA,rM,rS]<;>simp [Zh,Zg,Zo,ZW,Za,Zf,KFR,KFL,KF,Zc,mtO,nbr])
   . refine Zv (by simp;omega) ?_
     dsimp only [go_sem,rA,rM,rS]
     have hk':k=draws.length:=by omega
     subst hk'
     simp only [List.drop_length,Wv] at hi
     obtain ⟨kw,hkw,rfl,hget⟩:=ZoI (Bool.and_eq_true_iff.1 ha).1
     refine Zs kw hkw rfl ?_
     dsimp only [Zg,go_sem,rA,rM,rS]
     have hwf:Wn l kw draws day=Vk l.wells[kw] kw day l.wells[kw].has (-1) 0 draws:=by
      simp only [Wn,ho,ha,hm,<- hi,hget];simp
     rw [hwf]
     have hok:=Zeh ho l.wells[kw] (List.getElem_mem _)
     have hmem:=Zag hi.symm (Int.le_refl _)
     have hday:0<=day/\day<=100000:=by simp only [inR,Bool.and_eq_true,decide_eq_true_eq] at ha;omega
     have hroom:0<=l.wells[kw].has.lo/\l.wells[kw].has.lo<=l.wells[kw].room/\0<=l.wells[kw].has.hi/\l.wells[kw].has.hi<=l.wells[kw].room/\l.wells[kw].room<=1000000000:=by
      simp only [XK,Yt,inR,Bool.and_eq_true,decide_eq_true_eq] at hok;omega
     have hroom2:∀ x:Int,x<=l.wells[kw].room->x<=1000000000:=fun x h=>by omega
     refine XO (fun s:Nat × Span × Int=>[(91,I s.1),(17,I s.2.2)]) (fun s=>[(3,.cells (Zd s.2.1) 31)])
      (fun s=>s.1<=draws.length/\Vk l.wells[kw] kw day s.2.1 s.2.2 s.1 (draws.drop s.1)=Vk l.wells[kw] kw day l.wells[kw].has (-1) 0 draws /\
       0<=s.2.1.lo/\s.2.1.lo<=l.wells[kw].room/\0<=s.2.1.hi/\s.2.1.hi<=l.wells[kw].room/\-1<=s.2.2/\s.2.2<=100000) (fun s=>draws.length - s.1) (0,l.wells[kw].has,-1)
      ⟨Nat.zero_le _,rfl,hroom.1,hroom.2.1,hroom.2.2.1,hroom.2.2.2.1,by simp,by simp⟩ ?_ ?_
     . (refine Zl ?_ ?_ ?_ rfl rfl<;>dsimp only [Zh,Zg,Zo,ZW,Zd,id,go_sem,rA,rM,rS]<;>simp [Zh,Zg,Zo,ZW,Zd,Za,Zf,KFR,KFL,KF,Zc,mtO,nbr])
     . rintro ⟨k,now,ev⟩ ⟨hk2,hi2,n1,n2,n3,n4,e1,e2⟩
       simp only at hk2 hi2 n1 n2 n3 n4 e1 e2
       dsimp only [Zd,go_sem,rA,rM,rS]
       by_cases hlt2:k < draws.length
       . refine Zt (by simpa using hlt2) ?_
         dsimp only [go_sem,rA,rM,rS]
         refine Zs k hlt2 rfl ?_
         dsimp only [ZW,go_sem,rA,rM,rS]
         repeat (first | (refine gb ?_;dsimp only [go_sem,rA,rM,rS]))
         have hx:=hmem draws[k] (List.getElem_mem _)
         have hdr:draws.drop k=draws[k] :: draws.drop (k+1):=List.drop_eq_getElem_cons hlt2
         rw [hdr] at hi2
         simp only [Vk] at hi2
         by_cases hc:(draws[k].well != (kw:Int) || decide (draws[k].day ≥ day))=true
         . refine Zt hc ?_
           dsimp only [go_sem,rA,rM,rS]
           rw [if_pos hc] at hi2
           rw [Zi (n:=(k:Int)+1) (by omega) (by omega)]
           refine ⟨(k+1,now,ev),⟨hlt2,hi2,n1,n2,n3,n4,e1,e2⟩,by simp only;omega,?_⟩
           (refine Zl ?_ ?_ ?_ rfl rfl<;>dsimp only [Zh,Zg,Zo,ZW,Zd,id,go_sem,rA,rM,rS]<;>simp [Zh,Zg,Zo,ZW,Zd,Za,Zf,KFR,KFL,KF,Zc,mtO,nbr])
         . refine Zv (by simpa using hc) ?_
           rw [if_neg hc] at hi2
           dsimp only [go_sem,rA,rM,rS]
           rw [Zi (n:=draws[k].day - ev) (by omega) (by omega)]
           refine call (ZcP l.wells[kw] now (draws[k].day - ev) hok n1 n2 n3 n4 (by omega) (by omega)) ?_
           dsimp only [Zd,go_sem,rA,rM,rS]
           have hbig:-2000000000000<=(XR l.wells[kw] now (draws[k].day - ev)).lo:=Zi2 hok n1 n2 n3 n4 (by omega) (by omega)
           have hf2:(XR l.wells[kw] now (draws[k].day - ev)).hi<=l.wells[kw].room:=by simp only [XR];omega
           have hf1:(XR l.wells[kw] now (draws[k].day - ev)).lo<=l.wells[kw].room:=by simp only [XR];omega
           generalize hF:XR l.wells[kw] now (draws[k].day - ev)=F at *
           by_cases hdry:F.hi < draws[k].water
           . refine Zt (by simpa using hdry) ?_
             dsimp only [go_sem,rA,rM,rS]
             rw [if_pos hdry] at hi2
             rw [<- hi2];rfl
           . refine Zv (by simpa using hdry) ?_
             dsimp only [go_sem,rA,rM,rS]
             rw [if_neg hdry] at hi2
             rw [Zi (n:=F.lo - draws[k].water) (by omega) (by omega),Zi (n:=F.hi - draws[k].water) (by omega) (by omega),Zi (n:=(k:Int)+1) (by omega) (by omega)]
             refine ⟨(k+1,⟨max 0 (F.lo - draws[k].water),F.hi - draws[k].water⟩,draws[k].day),⟨hlt2,hi2,by simp only;omega,by simp only;omega,by simp only;omega,by simp only;omega,by simp only;omega,by simp only;omega⟩,by simp only;omega,?_⟩
             (refine Zl ?_ ?_ ?_ rfl rfl<;>dsimp only [Zh,Zg,Zo,ZW,Zd,id,go_sem,rA,rM,rS]<;>simp [Zh,Zg,Zo,ZW,Zd,Za,Zf,KFR,KFL,KF,Zc,mtO,nbr])
       . refine Zv (by simp;omega) ?_
         dsimp only [go_sem,rA,rM,rS]
         rw [Zi (n:=day - 1) (by omega) (by omega),Zi (n:=day - 1 - ev) (by omega) (by omega)]
         refine call (ZcP l.wells[kw] now (day - 1 - ev) hok n1 n2 n3 n4 (by omega) (by omega)) ?_
         dsimp only [Zd,go_sem,rA,rM,rS]
         have hk':k=draws.length:=by omega
         subst hk'
         simp only [List.drop_length,Vk] at hi2
         rw [<- hi2];rfl
end Go.Proofs.Ytiigiflofnjilaa
namespace Go.Azalai
structure Breed where
 full:Int
 fed:Int
 rest:Span
 heat:Span
 toil:Span
 burn:Span
 rub:Span
 milk:Span
 heal:Int
 strong:Span
deriving DecidableEq
structure Camel where
 water:Span
 fat:Span
 sore:Span
 milks:Bool
deriving DecidableEq
structure March where
 hours:Int
 load:Int
 heat:Span
 grass:Span
 drinks:Span
deriving DecidableEq
def ZG (b:Breed):Bool :=
 inR 1 1000000 b.full && inR 1 1000000 b.fed && inR 0 1000 b.heal && Yt 0 1000000 b.strong && Yt 0 100000 b.rest && Yt 0 100000 b.heat && Yt 0 100000 b.toil && Yt 0 100000 b.burn && Yt 0 100000 b.rub && Yt 0 100000 b.milk
def ZB (b:Breed) (c:Camel):Bool:=Yt 0 b.full c.water && Yt 0 b.fed c.fat && Yt 0 1000 c.sore
def Yd (m:March):Bool:=inR 0 24 m.hours && inR 0 1000000 m.load && Yt 0 60 m.heat && Yt 0 1000000 m.grass && Yt 0 1000000 m.drinks
def ZuG (b:Breed):Int:=if ZG b=true then 0 else 10
def ZcA (b:Breed) (c:Camel):Int:=if ZG b=false then 10 else if ZB b c=false then 11 else 0
def upF (a b:Int):Int:=(a+b - 1).tdiv b
def UK:Span:=⟨0,0⟩
def ZdK (b:Breed) (c:Camel):Span :=
 ⟨min 1000 (min ((2000 * c.water.lo).tdiv b.full) (min ((2000 * c.fat.lo).tdiv b.fed) (1000 - c.sore.hi))),min 1000 (min (upF (2000 * c.water.hi) b.full) (min (upF (2000 * c.fat.hi) b.fed) (1000 - c.sore.lo)))⟩
def Zwl (b:Breed) (c:Camel):Span:=⟨(b.strong.lo * (ZdK b c).lo).tdiv 1000,upF (b.strong.hi * (ZdK b c).hi) 1000⟩
def Yp (m:March):Int:=m.hours * (100000+m.load)
def WS (b:Breed) (milks:Bool) (m:March):Span :=
 ⟨b.rest.lo+b.heat.lo * max 0 (m.heat.lo - 20)+(b.toil.lo * Yp m).tdiv 100000+(if milks then b.milk.lo else 0),b.rest.hi+b.heat.hi * max 0 (m.heat.hi - 20)+upF (b.toil.hi * Yp m) 100000+(if milks then b.milk.hi else 0)⟩
def Vj (b:Breed) (m:March):Span:=⟨(b.burn.lo * Yp m).tdiv 100000,upF (b.burn.hi * Yp m) 100000⟩
theorem XZ {a A d:Int} (h0:0<=a) (h1:a<=A) (hd:1<=d):0<=a.tdiv d/\a.tdiv d<=A :=
 ⟨Int.tdiv_nonneg h0 (by omega),Int.le_trans (Int.tdiv_le_self d h0) h1⟩
theorem ZiG {a A d:Int} (h0:0<=a) (h1:a<=A) (hd:1<=d):0<=upF a d/\upF a d<=A+d:=by
 have:=XZ (a:=a+d - 1) (A:=A+d) (d:=d) (by omega) (by omega) hd
 exact this
end Go.Azalai
namespace Go.Proofs.Ytiigiflofnjilaa.Cm
open Go Go.Sx Go.Azalai
def XH (b:Breed):List SV:=[I b.full,I b.fed,I b.rest.lo,I b.rest.hi,I b.heat.lo,I b.heat.hi,I b.toil.lo,I b.toil.hi,I b.burn.lo,I b.burn.hi,I b.rub.lo,I b.rub.hi,I b.milk.lo,I b.milk.hi,I b.heal,I b.strong.lo,I b.strong.hi]
def camelL (c:Camel):List SV:=[I c.water.lo,I c.water.hi,I c.fat.lo,I c.fat.hi,I c.sore.lo,I c.sore.hi,B c.milks]
def Yo (b:Breed) (c:Camel):List SV:=[I b.full,I b.fed,I b.rest.lo,I b.rest.hi,I b.heat.lo,I b.heat.hi,I b.toil.lo,I b.toil.hi,I b.burn.lo,I b.burn.hi,I b.rub.lo,I b.rub.hi,I b.milk.lo,I b.milk.hi,I b.heal,I b.strong.lo,I b.strong.hi,I c.water.lo,I c.water.hi,I c.fat.lo,I c.fat.hi,I c.sore.lo,I c.sore.hi,B c.milks]
def YQ (m:March):List SV:=[I m.hours,I m.load,I m.heat.lo,I m.heat.hi,I m.grass.lo,I m.grass.hi,I m.drinks.lo,I m.drinks.hi]
theorem Wq {α : Type} (g:α->Bool) (l:List α):decide (X5 g l 0 ≥ 0)=l.any g:=Zej g l 0
theorem Zj2 (h:Nat) (caps:List SV) (hk:KFL caps) (g:Int->Bool) (l:List Int) (hg:∀ x ∈ l,Ct Try.prog h (I x :: caps) (B (g x))) (hl:l.length < 4611686018427387904) {c:Bool} :
 Ct Try.prog 54 [.sl c 1 (l.map Zp),.cl h caps] (I (X5 g l 0)):=by
 refine t54.1 ⟨by simp [KF,Za,KFL,Zp],hk,trivial⟩ (by simp [KF]) ?_
 dsimp only [c54,r54,go_sem,rA,rM,rS]
 refine XO (fun k:Nat=>[(8,I k)]) (fun _=>[]) (fun k=>k<=l.length/\X5 g (l.drop k) k=X5 g l 0) (fun k=>l.length - k) 0 ⟨Nat.zero_le _,rfl⟩ ?_ ?_
 . (refine Zl ?_ ?_ ?_ rfl rfl<;>dsimp only [Zp,hk,id,go_sem,rA,rM,rS]<;>simp [Zp,hk,Za,Zf,KFR,KFL,KF,Zc,mtO,nbr])
 . intro k ⟨hk',hi⟩
   dsimp only [go_sem,rA,rM,rS]
   refine br ?_ ?_
   . intro hlt
     have hlt:k < l.length:=by simpa using hlt
     dsimp only [go_sem,rA,rM,rS]
     refine Zs k hlt rfl ?_
     dsimp only [Zp,go_sem,rA,rM,rS]
     refine call (hg l[k] (List.getElem_mem _)) ?_
     dsimp only [go_sem,rA,rM,rS]
     refine br ?_ ?_
     . intro hgx
       dsimp only [go_sem,rA,rM,rS]
       rw [<- hi,List.drop_eq_getElem_cons hlt]
       simp [X5,hgx]
     . intro hgx
       dsimp only [go_sem,rA,rM,rS]
       refine ⟨k+1,⟨by omega,?_⟩,by omega,?_⟩
       . rw [<- hi,List.drop_eq_getElem_cons hlt];simp [X5,hgx]
       . rw [Zi (by omega) (by omega)]
         (refine Zl ?_ ?_ ?_ rfl rfl<;>dsimp only [Zp,hk,id,go_sem,rA,rM,rS]<;>simp [Zp,hk,Za,Zf,KFR,KFL,KF,Zc,mtO,nbr])
   . intro hlt
     have hlt:k=l.length:=by simp at hlt;omega
     dsimp only [go_sem,rA,rM,rS]
     rw [<- hi,hlt];simp [X5]
theorem con91 (h:Nat) (caps:List SV) (hk:KFL caps) (g:Int->Bool) (l:List Int) (hg:∀ x ∈ l,Ct Try.prog h (I x :: caps) (B (g x))) (hl:l.length < 4611686018427387904) {c:Bool} :
 Ct Try.prog 35 [.sl c 1 (l.map Zp),.cl h caps] (B (l.any g)):=by
 refine t35.1 ⟨by simp [KF,Za,KFL,Zp],hk,trivial⟩ (by simp [KF]) ?_
 dsimp only [c35,r35,go_sem,rA,rM,rS]
 refine call (Zj2 h caps hk g l hg hl) ?_
 dsimp only [go_sem,rA,rM,rS]
 rw [Wq]
theorem ZvU (h:Nat) (caps:List SV) (hk:KFL caps) (g:Span->Bool) (l:List Span) (hg:∀ x ∈ l,Ct Try.prog h (.agg (Zd x) :: caps) (B (g x))) (hl:l.length < 4611686018427387904) {c:Bool} :
 Ct Try.prog 70 [.sl c 2 (l.map Zd),.cl h caps] (I (X5 g l 0)):=by
 refine t70.1 ⟨by simp [KF,Za,KFL,Zd],hk,trivial⟩ (by simp [KF]) ?_
 dsimp only [c70,r70,go_sem,rA,rM,rS]
 refine XO (fun k:Nat=>[(8,I k)]) (fun _=>[]) (fun k=>k<=l.length/\X5 g (l.drop k) k=X5 g l 0) (fun k=>l.length - k) 0 ⟨Nat.zero_le _,rfl⟩ ?_ ?_
 . (refine Zl ?_ ?_ ?_ rfl rfl<;>dsimp only [Zd,hk,id,go_sem,rA,rM,rS]<;>simp [Zd,hk,Za,Zf,KFR,KFL,KF,Zc,mtO,nbr])
 . intro k ⟨hk',hi⟩
   dsimp only [go_sem,rA,rM,rS]
   refine br ?_ ?_
   . intro hlt
     have hlt:k < l.length:=by simpa using hlt
     dsimp only [go_sem,rA,rM,rS]
     refine Zs k hlt rfl ?_
     dsimp only [Zd,go_sem,rA,rM,rS]
     refine call (hg l[k] (List.getElem_mem _)) ?_
     dsimp only [go_sem,rA,rM,rS]
     refine br ?_ ?_
     . intro hgx
       dsimp only [go_sem,rA,rM,rS]
       rw [<- hi,List.drop_eq_getElem_cons hlt]
       simp [X5,hgx]
     . intro hgx
       dsimp only [go_sem,rA,rM,rS]
       refine ⟨k+1,⟨by omega,?_⟩,by omega,?_⟩
       . rw [<- hi,List.drop_eq_getElem_cons hlt];simp [X5,hgx]
       . rw [Zi (by omega) (by omega)]
         (refine Zl ?_ ?_ ?_ rfl rfl<;>dsimp only [Zd,hk,id,go_sem,rA,rM,rS]<;>simp [Zd,hk,Za,Zf,KFR,KFL,KF,Zc,mtO,nbr])
   . intro hlt
     have hlt:k=l.length:=by simp at hlt;omega
     dsimp only [go_sem,rA,rM,rS]
     rw [<- hi,hlt];simp [X5]
theorem con93 (h:Nat) (caps:List SV) (hk:KFL caps) (g:Span->Bool) (l:List Span) (hg:∀ x ∈ l,Ct Try.prog h (.agg (Zd x) :: caps) (B (g x))) (hl:l.length < 4611686018427387904) {c:Bool} :
 Ct Try.prog 49 [.sl c 2 (l.map Zd),.cl h caps] (B (l.any g)):=by
 refine t49.1 ⟨by simp [KF,Za,KFL,Zd],hk,trivial⟩ (by simp [KF]) ?_
 dsimp only [c49,r49,go_sem,rA,rM,rS]
 refine call (ZvU h caps hk g l hg hl) ?_
 dsimp only [go_sem,rA,rM,rS]
 rw [Wq]
theorem Zb2 (lo hi x:Int):Ct Try.prog 87 [I x,.ps [I lo] 0,.ps [I hi] 0] (B (!inR lo hi x)):=by
 refine t87.1 (by simp [KFL,KF]) (by simp [KFL,KF]) ?_
 dsimp only [c87,r87,go_sem,rA,rM,rS]
 repeat (refine gb ?_;dsimp only [go_sem,rA,rM,rS])
 (simp only [inR,Option.some.injEq,SV.v.injEq,Value.bool.injEq]<;>grind)
theorem V4 (lo hi:Int) (l:List Int) (hl:l.length < 4611686018427387904) (c:Bool):Ct Try.prog 68 [I lo,I hi,.sl c 1 (l.map Zp)] (B (l.all (inR lo hi))):=by
 refine t68.1 (by simp [Za,Zp,KFL,KF]) (by simp [KFL,KF]) ?_
 dsimp only [c68,r68,go_sem,rA,rM,rS]
 refine Zc5 (by simp [FLT]) (res:=B (l.any fun x=>!inR lo hi x)) ?_ ?_
 . dsimp only [go_sem,rA,rM,rS]
   exact con91 87 [.ps [I lo] 0,.ps [I hi] 0] (by simp [KFL,KF]) (fun x=>!inR lo hi x) l (fun x _=>Zb2 lo hi x) hl
 . dsimp only [go_sem,rA,rM,rS]
   simp [List.all_eq_not_any_not]
theorem Uf (lo hi a:Int) (c:Bool):Ct Try.prog 68 [I lo,I hi,.sl c 1 [[I a]]] (B (inR lo hi a)):=by
 have:=V4 lo hi [a] (by simp) c
 simpa [Zp] using this
theorem ZcF (lo hi a b:Int) (c:Bool):Ct Try.prog 68 [I lo,I hi,.sl c 1 [[I a],[I b]]] (B (inR lo hi a && inR lo hi b)):=by
 have:=V4 lo hi [a,b] (by simp) c
 simpa [Zp] using this
theorem VA (lo hi:Int) (s:Span):Ct Try.prog 69 [.agg (Zd s),.ps [I lo] 0,.ps [I hi] 0] (B (!Yt lo hi s)):=by
 refine t69.1 (by simp [Zd,KFL,KF]) (by simp [KFL,KF]) ?_
 dsimp only [c69,r69,Zd,go_sem,rA,rM,rS]
 repeat (first | (refine gb ?_;dsimp only [go_sem,rA,rM,rS]) | (refine call (ZcF _ _ _ _ _) ?_;dsimp only [go_sem,rA,rM,rS]))
 (simp only [Yt,inR,Option.some.injEq,SV.v.injEq,Value.bool.injEq]<;>grind)
theorem Y6 (lo hi:Int) (l:List Span) (hl:l.length < 4611686018427387904) (c:Bool):Ct Try.prog 48 [I lo,I hi,.sl c 2 (l.map Zd)] (B (l.all (Yt lo hi))):=by
 refine t48.1 (by simp [Za,Zd,KFL,KF]) (by simp [KFL,KF]) ?_
 dsimp only [c48,r48,go_sem,rA,rM,rS]
 refine Zc5 (by simp [FLT]) (res:=B (l.any fun x=>!Yt lo hi x)) ?_ ?_
 . dsimp only [go_sem,rA,rM,rS]
   exact con93 69 [.ps [I lo] 0,.ps [I hi] 0] (by simp [KFL,KF]) (fun x=>!Yt lo hi x) l (fun x _=>VA lo hi x) hl
 . dsimp only [go_sem,rA,rM,rS]
   simp [List.all_eq_not_any_not]
theorem YZ (lo hi:Int) (s:Span) (c:Bool):Ct Try.prog 48 [I lo,I hi,.sl c 2 [[I s.lo,I s.hi]]] (B (Yt lo hi s)):=by
 have:=Y6 lo hi [s] (by simp) c
 simpa [Zd] using this
theorem Zci (lo hi:Int) (s t:Span) (c:Bool):Ct Try.prog 48 [I lo,I hi,.sl c 2 [[I s.lo,I s.hi],[I t.lo,I t.hi]]] (B (Yt lo hi s && Yt lo hi t)):=by
 have:=Y6 lo hi [s,t] (by simp) c
 simpa [Zd] using this
theorem Zk6 (lo hi:Int) (a b c d e f:Span) (k:Bool):Ct Try.prog 48 [I lo,I hi,.sl k 2 [[I a.lo,I a.hi],[I b.lo,I b.hi],[I c.lo,I c.hi],[I d.lo,I d.hi],[I e.lo,I e.hi],[I f.lo,I f.hi]]]
 (B (Yt lo hi a && (Yt lo hi b && (Yt lo hi c && (Yt lo hi d && (Yt lo hi e && Yt lo hi f)))))):=by
 have:=Y6 lo hi [a,b,c,d,e,f] (by simp) k
 simpa [Zd] using this
theorem Zb8 (b:Breed):Ct Try.prog 47 [.agg (XH b)] (I (ZuG b)):=by
 refine t47.1 (by simp [XH,KFL,KF]) (by simp [KFL,KF]) ?_
 dsimp only [c47,r47,XH,go_sem,rA,rM,rS]
 repeat (first | (refine gb ?_;dsimp only [go_sem,rA,rM,rS]) | (refine call (Uf _ _ _ _) ?_;dsimp only [go_sem,rA,rM,rS]) | (refine call (ZcF _ _ _ _ _) ?_;dsimp only [go_sem,rA,rM,rS]) | (refine call (Zk6 _ _ b.rest b.heat b.toil b.burn b.rub b.milk _) ?_;dsimp only [go_sem,rA,rM,rS]) | (refine call (YZ _ _ b.strong _) ?_;dsimp only [go_sem,rA,rM,rS]))
 refine br ?_ ?_
 . intro h
   dsimp only [go_sem,rA,rM,rS]
   have:ZG b=false:=by simp only [ZG];grind
   simp [ZuG,this]
 . intro h
   dsimp only [go_sem,rA,rM,rS]
   have:ZG b=true:=by simp only [ZG];grind
   simp [ZuG,this]
theorem checkCamel_ok (b:Breed) (c:Camel):Ct Try.prog 27 [.agg (XH b),.agg (camelL c)] (I (ZcA b c)):=by
 refine t27.1 (by simp [XH,camelL,KFL,KF]) (by simp [KFL,KF]) ?_
 dsimp only [c27,r27,XH,camelL,go_sem,rA,rM,rS]
 refine call (Zb8 b) ?_
 dsimp only [go_sem,rA,rM,rS]
 by_cases hb:ZG b=true
 case neg =>
  refine Zt (by simp [ZuG,hb]) ?_
  dsimp only [go_sem,rA,rM,rS]
  simp [ZuG,ZcA,hb]
 refine Zv (by simp [ZuG,hb]) ?_
 dsimp only [go_sem,rA,rM,rS]
 repeat (first | (refine gb ?_;dsimp only [go_sem,rA,rM,rS]) | (refine call (YZ _ _ c.water _) ?_;dsimp only [go_sem,rA,rM,rS]) | (refine call (YZ _ _ c.fat _) ?_;dsimp only [go_sem,rA,rM,rS]) | (refine call (YZ _ _ c.sore _) ?_;dsimp only [go_sem,rA,rM,rS]))
 refine br ?_ ?_
 . intro h
   dsimp only [go_sem,rA,rM,rS]
   have:ZB b c=false:=by simp only [ZB];grind
   simp [ZcA,this,hb]
 . intro h
   dsimp only [go_sem,rA,rM,rS]
   have:ZB b c=true:=by simp only [ZB];grind
   simp [ZcA,this,hb]
theorem Zda (l:List March) (hl:l.length < 4611686018427387904) (c:Bool):Ct Try.prog 98 [.sl c 8 (l.map YQ)] (I (if l.all Yd=true then 0 else 12)):=by
 refine t98.1 (by simp [YQ,Za,KFL,KF]) (by simp [KFL,KF]) ?_
 dsimp only [c98,r98,go_sem,rA,rM,rS]
 refine XO (fun k:Nat=>[(7,I k)]) (fun _=>[]) (fun k=>k<=l.length/\(l.drop k).all Yd=l.all Yd) (fun k=>l.length - k) 0 ⟨Nat.zero_le _,rfl⟩ ?_ ?_
 . (refine Zl ?_ ?_ ?_ rfl rfl<;>dsimp only [YQ,id,go_sem,rA,rM,rS]<;>simp [YQ,Za,Zf,KFR,KFL,KF,Zc,mtO,nbr])
 intro k ⟨hk,hi⟩
 dsimp only [go_sem,rA,rM,rS]
 by_cases hlt:k < l.length
 . refine Zt (by simpa using hlt) ?_
   dsimp only [go_sem,rA,rM,rS]
   refine Zs k hlt rfl ?_
   dsimp only [YQ,go_sem,rA,rM,rS]
   repeat (first | (refine gb ?_;dsimp only [go_sem,rA,rM,rS]) | (refine call (Uf _ _ _ _) ?_;dsimp only [go_sem,rA,rM,rS]) | (refine call (YZ _ _ l[k].heat _) ?_;dsimp only [go_sem,rA,rM,rS]) | (refine call (Zci _ _ l[k].grass l[k].drinks _) ?_;dsimp only [go_sem,rA,rM,rS]))
   rw [List.drop_eq_getElem_cons hlt,List.all_cons] at hi
   refine br ?_ ?_
   . intro h
     dsimp only [go_sem,rA,rM,rS]
     have:Yd l[k]=false:=by simp only [Yd];grind
     rw [<- hi,this];rfl
   . intro h
     dsimp only [go_sem,rA,rM,rS]
     have:Yd l[k]=true:=by simp only [Yd];grind
     rw [this,Bool.true_and] at hi
     rw [Zi (n:=(k:Int)+1) (by omega) (by omega)]
     refine ⟨k+1,⟨hlt,hi⟩,by omega,?_⟩
     (refine Zl ?_ ?_ ?_ rfl rfl<;>dsimp only [YQ,id,go_sem,rA,rM,rS]<;>simp [YQ,Za,Zf,KFR,KFL,KF,Zc,mtO,nbr])
 . refine Zv (by simp;omega) ?_
   dsimp only [go_sem,rA,rM,rS]
   have hke:k=l.length:=by omega
   subst hke
   rw [List.drop_length] at hi
   rw [<- hi];rfl
theorem Zja (m:March) (c:Bool):Ct Try.prog 98 [.sl c 8 [YQ m]] (I (if Yd m=true then 0 else 12)):=by
 have:=Zda [m] (by simp) c
 simpa using this
theorem ZqR {a b A:Int} (h0:0<=a) (h1:a<=A) (hA:A<=1000000000000000) (hb:1<=b) (hb2:b<=1000000000) :
 IntKind.i64.wrap (a+b)=a+b/\IntKind.i64.wrap (a+b - 1)=a+b - 1/\IntKind.i64.wrap ((a+b - 1).tdiv b)=upF a b:=by
 have:=ZiG h0 h1 hb
 refine ⟨Zi (by omega) (by omega),Zi (by omega) (by omega),?_⟩
 unfold upF at *
 exact Zi (by omega) (by omega)
theorem Zea (a b:Int) (h0:0<=a) (h1:a<=1000000000000000) (hb:1<=b) (hb2:b<=1000000000):Ct Try.prog 89 [I a,I b] (I (upF a b)):=by
 obtain ⟨q1,q2,q3⟩:=ZqR h0 h1 (Int.le_refl _) hb hb2
 refine t89.1 (by simp [KFL,KF]) (by simp [KFL,KF]) ?_
 dsimp only [c89,r89,go_sem,rA,rM,rS]
 simp only [q1,q2]
 refine Zqw (by omega) ?_
 dsimp only [go_sem,rA,rM,rS]
 rw [q3]
def scl (s:Span) (b n:Int):Span:=⟨(s.lo * n).tdiv b,upF (s.hi * n) b⟩
theorem ZdB (s:Span) (b n A:Int) (c:Bool) (h1:0<=s.lo) (h2:s.lo<=s.hi) (h3:0<=n) (h4:s.hi * n<=100000000000000) (hb:1<=b) (hb2:b<=1000000000) :
 Ct Try.prog 96 [.agg (Zd s),I b,.sl c 1 [[I n]]] (.agg (Zd (scl s b n))):=by
 have k1:0<=s.lo * n:=Int.mul_nonneg h1 h3
 have k2:s.lo * n<=s.hi * n:=Int.mul_le_mul_of_nonneg_right h2 h3
 refine t96.1 (by simp [Zd,KFR,KFL,KF]) (by simp [Zd,KFL,KF]) ?_
 dsimp only [c96,r96,Zd,go_sem,rA,rM,rS]
 refine Y4 2 ?_
 dsimp only [Zb,go_sem,rA,rM,rS]
 refine Zt (by decide) ?_
 dsimp only [Zb,go_sem,rA,rM,rS]
 refine ixs 0 [I n] rfl rfl ?_
 dsimp only [Zb,go_sem,rA,rM,rS]
 refine Zv (by decide) ?_
 dsimp only [go_sem,rA,rM,rS]
 rw [Zi (n:=s.lo * n) (by omega) (by omega),Zi (n:=s.hi * n) (by omega) (by omega)]
 refine Zqw (by omega) ?_
 dsimp only [go_sem,rA,rM,rS]
 refine call (Zea _ _ (by omega) (by omega) hb hb2) ?_
 dsimp only [go_sem,rA,rM,rS]
 have:=XZ k1 (Int.le_trans k2 h4) hb
 rw [Zi (n:=(s.lo * n).tdiv b) (by omega) (by omega)]
 rfl
theorem Uh (s:Span) (b n m A:Int) (c:Bool) (h1:0<=s.lo) (h2:s.lo<=s.hi) (h3:0<=n) (h3':0<=m) (h4:s.hi * n<=100000000000000) (h5:s.hi * n * m<=100000000000000) (hb:1<=b) (hb2:b<=1000000000) :
 Ct Try.prog 96 [.agg (Zd s),I b,.sl c 1 [[I n],[I m]]] (.agg (Zd ⟨(s.lo * n * m).tdiv b,upF (s.hi * n * m) b⟩)):=by
 have k1:0<=s.lo * n:=Int.mul_nonneg h1 h3
 have k2:s.lo * n<=s.hi * n:=Int.mul_le_mul_of_nonneg_right h2 h3
 have k3:0<=s.lo * n * m:=Int.mul_nonneg k1 h3'
 have k4:s.lo * n * m<=s.hi * n * m:=Int.mul_le_mul_of_nonneg_right k2 h3'
 refine t96.1 (by simp [Zd,KFR,KFL,KF]) (by simp [Zd,KFL,KF]) ?_
 dsimp only [c96,r96,Zd,go_sem,rA,rM,rS]
 refine Y4 3 ?_
 dsimp only [Zb,go_sem,rA,rM,rS]
 refine Zt (by decide) ?_
 dsimp only [Zb,go_sem,rA,rM,rS]
 refine ixs 0 [I n] rfl rfl ?_
 dsimp only [Zb,go_sem,rA,rM,rS]
 refine Zt (by decide) ?_
 dsimp only [Zb,go_sem,rA,rM,rS]
 refine ixs 1 [I m] rfl rfl ?_
 dsimp only [Zb,go_sem,rA,rM,rS]
 refine Zv (by decide) ?_
 dsimp only [go_sem,rA,rM,rS]
 rw [Zi (n:=s.lo * n) (by omega) (by omega),Zi (n:=s.hi * n) (by omega) (by omega),Zi (n:=s.lo * n * m) (by omega) (by omega),Zi (n:=s.hi * n * m) (by omega) (by omega)]
 refine Zqw (by omega) ?_
 dsimp only [go_sem,rA,rM,rS]
 refine call (Zea _ _ (by omega) (by omega) hb hb2) ?_
 dsimp only [go_sem,rA,rM,rS]
 have:=XZ k3 (Int.le_trans k4 h5) hb
 rw [Zi (n:=(s.lo * n * m).tdiv b) (by omega) (by omega)]
def bdS (A:Int) (s:Span):Prop:=0<=s.lo/\s.lo<=A/\0<=s.hi/\s.hi<=A
theorem Vy (s t:Span) (c:Bool) (h1:bdS 1000000000000000 s) (h2:bdS 1000000000000000 t):Ct Try.prog 101 [.sl c 2 [[I s.lo,I s.hi],[I t.lo,I t.hi]]] (.agg (Zd ⟨s.lo+t.lo,s.hi+t.hi⟩)):=by
 unfold bdS at h1 h2
 refine t101.1 (by simp [KFR,KFL,KF]) (by simp [Zd,KFL,KF]) ?_
 dsimp only [c101,r101,Zd,go_sem,rA,rM,rS]
 refine Y4 3 ?_
 dsimp only [Zb,go_sem,rA,rM,rS]
 refine Zt (by decide) ?_
 dsimp only [Zb,go_sem,rA,rM,rS]
 refine ixs 0 [I s.lo,I s.hi] rfl rfl ?_
 dsimp only [Zb,go_sem,rA,rM,rS]
 refine Zt (by decide) ?_
 dsimp only [Zb,go_sem,rA,rM,rS]
 refine ixs 1 [I t.lo,I t.hi] rfl rfl ?_
 dsimp only [Zb,go_sem,rA,rM,rS]
 refine Zv (by decide) ?_
 dsimp only [go_sem,rA,rM,rS]
 simp only [Int.zero_add]
 rw [Zi (n:=s.lo) (by omega) (by omega),Zi (n:=s.hi) (by omega) (by omega),Zi (n:=s.lo+t.lo) (by omega) (by omega),Zi (n:=s.hi+t.hi) (by omega) (by omega)]
theorem plus3 (s t u:Span) (c:Bool) (h1:bdS 1000000000000000 s) (h2:bdS 1000000000000000 t) (h3:bdS 1000000000000000 u):Ct Try.prog 101 [.sl c 2 [[I s.lo,I s.hi],[I t.lo,I t.hi],[I u.lo,I u.hi]]] (.agg (Zd ⟨s.lo+t.lo+u.lo,s.hi+t.hi+u.hi⟩)):=by
 unfold bdS at h1 h2 h3
 refine t101.1 (by simp [KFR,KFL,KF]) (by simp [Zd,KFL,KF]) ?_
 dsimp only [c101,r101,Zd,go_sem,rA,rM,rS]
 refine Y4 4 ?_
 dsimp only [Zb,go_sem,rA,rM,rS]
 refine Zt (by decide) ?_
 dsimp only [Zb,go_sem,rA,rM,rS]
 refine ixs 0 [I s.lo,I s.hi] rfl rfl ?_
 dsimp only [Zb,go_sem,rA,rM,rS]
 refine Zt (by decide) ?_
 dsimp only [Zb,go_sem,rA,rM,rS]
 refine ixs 1 [I t.lo,I t.hi] rfl rfl ?_
 dsimp only [Zb,go_sem,rA,rM,rS]
 refine Zt (by decide) ?_
 dsimp only [Zb,go_sem,rA,rM,rS]
 refine ixs 2 [I u.lo,I u.hi] rfl rfl ?_
 dsimp only [Zb,go_sem,rA,rM,rS]
 refine Zv (by decide) ?_
 dsimp only [go_sem,rA,rM,rS]
 simp only [Int.zero_add]
 rw [Zi (n:=s.lo) (by omega) (by omega),Zi (n:=s.hi) (by omega) (by omega),Zi (n:=s.lo+t.lo) (by omega) (by omega),Zi (n:=s.hi+t.hi) (by omega) (by omega),Zi (n:=s.lo+t.lo+u.lo) (by omega) (by omega),Zi (n:=s.hi+t.hi+u.hi) (by omega) (by omega)]
theorem ZtM (n:Int) (s:Span) (h1:0<=n) (h2:n<=1000000) (h3:bdS 1000000 s):Ct Try.prog 97 [I n,.agg (Zd s)] (.agg (Zd ⟨n - s.hi,n - s.lo⟩)):=by
 unfold bdS at h3
 refine t97.1 (by simp [Zd,KFL,KF]) (by simp [Zd,KFL,KF]) ?_
 dsimp only [c97,r97,Zd,go_sem,rA,rM,rS]
 rw [Zi (n:=n - s.hi) (by omega) (by omega),Zi (n:=n - s.lo) (by omega) (by omega)]
theorem breed_bd {b:Breed} (h:ZG b=true):1<=b.full/\b.full<=1000000/\1<=b.fed/\b.fed<=1000000/\0<=b.heal/\b.heal<=1000/\(0<=b.strong.lo/\b.strong.lo<=b.strong.hi/\b.strong.hi<=1000000)/\(0<=b.rest.lo/\b.rest.lo<=b.rest.hi/\b.rest.hi<=100000) /\
 (0<=b.heat.lo/\b.heat.lo<=b.heat.hi/\b.heat.hi<=100000)/\(0<=b.toil.lo/\b.toil.lo<=b.toil.hi/\b.toil.hi<=100000)/\(0<=b.burn.lo/\b.burn.lo<=b.burn.hi/\b.burn.hi<=100000)/\(0<=b.rub.lo/\b.rub.lo<=b.rub.hi/\b.rub.hi<=100000)/\(0<=b.milk.lo/\b.milk.lo<=b.milk.hi/\b.milk.hi<=100000):=by
 simp only [ZG,Yt,inR,Bool.and_eq_true,decide_eq_true_eq] at h;omega
theorem camel_bd {b:Breed} {c:Camel} (hb:ZG b=true) (h:ZB b c=true):(0<=c.water.lo/\c.water.lo<=c.water.hi/\c.water.hi<=b.full)/\(0<=c.fat.lo/\c.fat.lo<=c.fat.hi/\c.fat.hi<=b.fed)/\(0<=c.sore.lo/\c.sore.lo<=c.sore.hi/\c.sore.hi<=1000):=by
 simp only [ZB,Yt,Bool.and_eq_true,decide_eq_true_eq] at h;omega
theorem march_bd {m:March} (h:Yd m=true):0<=m.hours/\m.hours<=24/\0<=m.load/\m.load<=1000000/\(0<=m.heat.lo/\m.heat.lo<=m.heat.hi/\m.heat.hi<=60)/\(0<=m.grass.lo/\m.grass.lo<=m.grass.hi/\m.grass.hi<=1000000)/\(0<=m.drinks.lo/\m.drinks.lo<=m.drinks.hi/\m.drinks.hi<=1000000):=by
 simp only [Yd,Yt,inR,Bool.and_eq_true,decide_eq_true_eq] at h;omega
theorem Zwj (b:Breed) (c:Camel) (hb:ZG b=true) (hc:ZB b c=true):Ct Try.prog 88 [.agg (Yo b c)] (.agg (Zd (ZdK b c))):=by
 obtain ⟨b1,b2,b3,b4,_⟩:=breed_bd hb
 obtain ⟨⟨w1,w2,w3⟩,⟨f1,f2,f3⟩,⟨s1,s2,s3⟩⟩:=camel_bd hb hc
 refine t88.1 (by simp [Yo,KFL,KF]) (by simp [Zd,KFL,KF]) ?_
 dsimp only [c88,r88,Yo,go_sem,rA,rM,rS]
 refine call (Uh c.water b.full 2 1000 0 true w1 w2 (by omega) (by omega) (by omega) (by omega) b1 (by omega)) ?_
 dsimp only [Zd,go_sem,rA,rM,rS]
 refine call (Uh c.fat b.fed 2 1000 0 true f1 f2 (by omega) (by omega) (by omega) (by omega) b3 (by omega)) ?_
 dsimp only [Zd,go_sem,rA,rM,rS]
 refine call (ZtM 1000 c.sore (by omega) (by omega) ⟨by omega,by omega,by omega,by omega⟩) ?_
 dsimp only [Zd,go_sem,rA,rM,rS]
 refine Y4 4 ?_
 dsimp only [Zb,go_sem,rA,rM,rS]
 refine Zt (by decide) ?_
 dsimp only [Zb,go_sem,rA,rM,rS]
 refine ixa 0 rfl (by decide) ?_
 dsimp only [Zb,go_sem,rA,rM,rS]
 refine Zt (by decide) ?_
 dsimp only [Zb,go_sem,rA,rM,rS]
 refine ixa 1 rfl (by decide) ?_
 dsimp only [Zb,go_sem,rA,rM,rS]
 refine Zt (by decide) ?_
 dsimp only [Zb,go_sem,rA,rM,rS]
 refine ixa 2 rfl (by decide) ?_
 dsimp only [Zb,go_sem,rA,rM,rS]
 refine Zv (by decide) ?_
 dsimp only [go_sem,rA,rM,rS]
 have e1:c.water.lo * 2 * 1000=2000 * c.water.lo:=by omega
 have e2:c.water.hi * 2 * 1000=2000 * c.water.hi:=by omega
 have e3:c.fat.lo * 2 * 1000=2000 * c.fat.lo:=by omega
 have e4:c.fat.hi * 2 * 1000=2000 * c.fat.hi:=by omega
 simp only [e1,e2,e3,e4,ZdK,Int.min_assoc]
theorem Zvx {b:Breed} {c:Camel} (hb:ZG b=true) (hc:ZB b c=true):0<=(ZdK b c).lo/\(ZdK b c).lo<=1000/\0<=(ZdK b c).hi/\(ZdK b c).hi<=1000:=by
 obtain ⟨b1,b2,b3,b4,_⟩:=breed_bd hb
 obtain ⟨⟨w1,w2,w3⟩,⟨f1,f2,f3⟩,⟨s1,s2,s3⟩⟩:=camel_bd hb hc
 have d1:=XZ (a:=2000 * c.water.lo) (A:=2000000000) (d:=b.full) (by omega) (by omega) b1
 have d2:=XZ (a:=2000 * c.fat.lo) (A:=2000000000) (d:=b.fed) (by omega) (by omega) b3
 have d3:=ZiG (a:=2000 * c.water.hi) (A:=2000000000) (d:=b.full) (by omega) (by omega) b1
 have d4:=ZiG (a:=2000 * c.fat.hi) (A:=2000000000) (d:=b.fed) (by omega) (by omega) b3
 simp only [ZdK];omega
theorem Zwq (b:Breed) (c:Camel) (hb:ZG b=true) (hc:ZB b c=true):Ct Try.prog 73 [.agg (Yo b c)] (.agg (Zd (Zwl b c))):=by
 obtain ⟨b1,b2,b3,b4,_,_,⟨g1,g2,g3⟩,_⟩:=breed_bd hb
 obtain ⟨q1,q2,q3,q4⟩:=Zvx hb hc
 have k1:=VZ (a:=b.strong.lo) (A:=1000000) (b:=(ZdK b c).lo) (B:=1000) (by omega) (by omega) q1 q2
 have k2:=VZ (a:=b.strong.hi) (A:=1000000) (b:=(ZdK b c).hi) (B:=1000) (by omega) (by omega) q3 q4
 refine t73.1 (by simp [Yo,KFL,KF]) (by simp [Zd,KFL,KF]) ?_
 dsimp only [c73,r73,Yo,go_sem,rA,rM,rS]
 refine call (Zwj b c hb hc) ?_
 dsimp only [Zd,go_sem,rA,rM,rS]
 rw [Zi (n:=b.strong.lo * (ZdK b c).lo) (by omega) (by omega)]
 refine Zqw (by omega) ?_
 dsimp only [go_sem,rA,rM,rS]
 rw [Zi (n:=b.strong.hi * (ZdK b c).hi) (by omega) (by omega)]
 refine call (Zea _ _ (by omega) (by omega) (by omega) (by omega)) ?_
 dsimp only [go_sem,rA,rM,rS]
 have d1:=XZ (a:=b.strong.lo * (ZdK b c).lo) (d:=1000) k1.1 k1.2 (by omega)
 rw [Zi (n:=(b.strong.lo * (ZdK b c).lo).tdiv 1000) (by omega) (by omega)]
 rfl
def sres (b:Breed) (c:Camel) (s:Span):SV:=.tup [.agg (Zd (if ZcA b c=0 then s else UK)),I (ZcA b c)]
theorem errC_0 {b:Breed} {c:Camel}:ZcA b c=0↔ZG b=true/\ZB b c=true:=by
 simp only [ZcA];cases ZG b<;>cases ZB b c<;>simp
theorem carries_ok (b:Breed) (c:Camel):Ct Try.prog 52 [.agg (XH b),.agg (camelL c)] (sres b c (Zwl b c)):=by
 refine t52.1 (by simp [XH,camelL,KFL,KF]) (by simp [sres,Zd,KFL,KF]) ?_
 dsimp only [c52,r52,XH,camelL,go_sem,rA,rM,rS]
 refine call (checkCamel_ok b c) ?_
 dsimp only [go_sem,rA,rM,rS]
 by_cases h:ZcA b c=0
 case neg =>
  refine Zt (by simpa using h) ?_
  dsimp only [sres,Zd,go_sem,rA,rM,rS]
  rw [if_neg h];rfl
 refine Zv (by simpa using h) ?_
 obtain ⟨hb,hc⟩:=errC_0.1 h
 dsimp only [go_sem,rA,rM,rS]
 refine call (Zwq b c hb hc) ?_
 dsimp only [Zd,sres,go_sem,rA,rM,rS]
 rw [if_pos h,h]
theorem work_bd {m:March} (h:Yd m=true):0<=Yp m/\Yp m<=26400000:=by
 obtain ⟨h1,h2,h3,h4,_⟩:=march_bd h
 have:=VZ (a:=m.hours) (A:=24) (b:=100000+m.load) (B:=1100000) h1 h2 (by omega) (by omega)
 exact this
theorem toil_bd {m:March} {x:Int} (h:Yd m=true) (h0:0<=x) (h1:x<=100000):0<=x * Yp m/\x * Yp m<=2640000000000:=by
 obtain ⟨w1,w2⟩:=work_bd h
 exact VZ h0 h1 w1 w2
theorem heat_bd {x y:Int} (h0:0<=x) (h1:x<=100000) (h2:0<=y) (h3:y<=60):0<=x * max 0 (y - 20)/\x * max 0 (y - 20)<=4000000 :=
 VZ h0 h1 (B:=40) (by omega) (by omega)
theorem Zj3 (b:Breed) (k:Bool) (m:March) (hb:ZG b=true) (hm:Yd m=true):Ct Try.prog 100 [.agg (XH b),B k,.agg (YQ m)] (.agg [I (WS b k m).lo,I (WS b k m).hi,I (Vj b m).lo,I (Vj b m).hi]):=by
 obtain ⟨_,_,_,_,_,_,_,⟨r1,r2,r3⟩,⟨a1,a2,a3⟩,⟨t1,t2,t3⟩,⟨u1,u2,u3⟩,_,⟨k1,k2,k3⟩⟩:=breed_bd hb
 obtain ⟨m1,m2,m3,m4,⟨g1,g2,g3⟩,_⟩:=march_bd hm
 have w0:=work_bd hm
 have e1:=heat_bd (x:=b.heat.lo) (y:=m.heat.lo) (by omega) (by omega) (by omega) (by omega)
 have e2:=heat_bd (x:=b.heat.hi) (y:=m.heat.hi) (by omega) (by omega) (by omega) (by omega)
 have f1:=toil_bd (x:=b.toil.lo) hm (by omega) (by omega)
 have f2:=toil_bd (x:=b.toil.hi) hm (by omega) (by omega)
 have f3:=toil_bd (x:=b.burn.lo) hm (by omega) (by omega)
 have f4:=toil_bd (x:=b.burn.hi) hm (by omega) (by omega)
 have d1:=XZ f1.1 f1.2 (d:=100000) (by omega)
 have d2:=ZiG f2.1 f2.2 (d:=100000) (by omega)
 have hw:IntKind.i64.wrap (m.hours * IntKind.i64.wrap (100000+m.load))=Yp m:=by
  rw [Zi (n:=100000+m.load) (by omega) (by omega)]
  unfold Yp at *
  exact Zi (by omega) (by omega)
 refine t100.1 (by simp [XH,YQ,KFL,KF]) (by simp [KFL,KF]) ?_
 dsimp only [c100,r100,XH,YQ,go_sem,rA,rM,rS]
 rw [hw,Zi (n:=m.heat.lo - 20) (by omega) (by omega),Zi (n:=m.heat.hi - 20) (by omega) (by omega),Zi (n:=b.heat.lo * max 0 (m.heat.lo - 20)) (by omega) (by omega),Zi (n:=b.heat.hi * max 0 (m.heat.hi - 20)) (by omega) (by omega)]
 refine call (ZdB b.toil 100000 (Yp m) 0 true t1 t2 w0.1 (by omega) (by omega) (by omega)) ?_
 dsimp only [Zd,go_sem,rA,rM,rS]
 refine call (plus3 b.rest ⟨b.heat.lo * max 0 (m.heat.lo - 20),b.heat.hi * max 0 (m.heat.hi - 20)⟩ (scl b.toil 100000 (Yp m)) true ⟨by omega,by omega,by omega,by omega⟩ ⟨e1.1,by simp only;omega,e2.1,by simp only;omega⟩
  ⟨d1.1,by simp only [scl];omega,d2.1,by simp only [scl];omega⟩) ?_
 dsimp only [Zd,go_sem,rA,rM,rS]
 refine br ?_ ?_
 . intro hk
   dsimp only [go_sem,rA,rM,rS]
   refine call (Vy ⟨b.rest.lo+b.heat.lo * max 0 (m.heat.lo - 20)+(scl b.toil 100000 (Yp m)).lo,b.rest.hi+b.heat.hi * max 0 (m.heat.hi - 20)+(scl b.toil 100000 (Yp m)).hi⟩ b.milk true
    ⟨by simp only [scl];omega,by simp only [scl];omega,by simp only [scl];omega,by simp only [scl];omega⟩ ⟨by omega,by omega,by omega,by omega⟩) ?_
   dsimp only [Zd,go_sem,rA,rM,rS]
   refine call (ZdB b.burn 100000 (Yp m) 0 true u1 u2 w0.1 (by omega) (by omega) (by omega)) ?_
   dsimp only [Zd,go_sem,rA,rM,rS]
   simp only [WS,Vj,hk,scl,if_true]
 . intro hk
   dsimp only [go_sem,rA,rM,rS]
   refine call (ZdB b.burn 100000 (Yp m) 0 true u1 u2 w0.1 (by omega) (by omega) (by omega)) ?_
   dsimp only [Zd,go_sem,rA,rM,rS]
   simp only [WS,Vj,hk,scl,Bool.false_eq_true,if_false,Int.add_zero]
end Go.Proofs.Ytiigiflofnjilaa.Cm
namespace Go.Azalai
end Go.Azalai
namespace Go.Proofs.Ytiigiflofnjilaa.Cm
open Go Go.Sx Go.Azalai
end Go.Proofs.Ytiigiflofnjilaa.Cm
namespace Go.Azalai
def Xa:Camel:=⟨⟨0,0⟩,⟨0,0⟩,⟨0,0⟩,false⟩
def Zbh (most:Int) (has cost gets:Span):Span:=⟨min most (max 0 (has.lo - cost.hi)+gets.lo),min most (has.hi - cost.lo+gets.hi)⟩
def Zbs (b:Breed) (s:Span) (m:March):Span :=
 if m.hours=0 then ⟨max 0 (s.lo - b.heal),max 0 (s.hi - b.heal)⟩
 else ⟨min 1000 (s.lo+(b.rub.lo * (m.hours * m.load)).tdiv 1000000),min 1000 (s.hi+upF (b.rub.hi * (m.hours * m.load)) 1000000)⟩
def YJ (b:Breed) (c:Camel) (m:March):Camel × Int :=
 let w:=WS b c.milks m
 let f:=Vj b m
 if c.water.hi < w.lo\/c.fat.hi < f.lo then (Xa,2)
 else (⟨Zbh b.full c.water w m.drinks,Zbh b.fed c.fat f m.grass,Zbs b c.sore m,c.milks⟩,if c.water.lo ≥ w.hi/\c.fat.lo ≥ f.hi then 0 else 1)
theorem Zcr {b:Breed} {k:Bool} {m:March} (hb:ZG b=true) (hm:Yd m=true):0<=(WS b k m).lo/\(WS b k m).lo<=1000000000/\0<=(WS b k m).hi/\(WS b k m).hi<=1000000000:=by
 have h:=Go.Proofs.Ytiigiflofnjilaa.Cm.breed_bd hb
 have h2:=Go.Proofs.Ytiigiflofnjilaa.Cm.march_bd hm
 have q1:=Go.Proofs.Ytiigiflofnjilaa.Cm.toil_bd (x:=b.toil.lo) hm (by omega) (by omega)
 have q2:=Go.Proofs.Ytiigiflofnjilaa.Cm.toil_bd (x:=b.toil.hi) hm (by omega) (by omega)
 have q3:=Go.Proofs.Ytiigiflofnjilaa.Cm.heat_bd (x:=b.heat.lo) (y:=m.heat.lo) (by omega) (by omega) (by omega) (by omega)
 have q4:=Go.Proofs.Ytiigiflofnjilaa.Cm.heat_bd (x:=b.heat.hi) (y:=m.heat.hi) (by omega) (by omega) (by omega) (by omega)
 have r1:0<=(b.toil.lo * Yp m).tdiv 100000/\(b.toil.lo * Yp m).tdiv 100000<=26400000:=by
  rw [Int.tdiv_eq_ediv_of_nonneg q1.1];omega
 have r2:0<=upF (b.toil.hi * Yp m) 100000/\upF (b.toil.hi * Yp m) 100000<=26400001:=by
  unfold upF;rw [Int.tdiv_eq_ediv_of_nonneg (by omega)];omega
 simp only [WS]
 cases k<;>simp<;>omega
theorem Zch {b:Breed} {m:March} (hb:ZG b=true) (hm:Yd m=true):0<=(Vj b m).lo/\(Vj b m).lo<=1000000000/\0<=(Vj b m).hi/\(Vj b m).hi<=1000000000:=by
 have h:=Go.Proofs.Ytiigiflofnjilaa.Cm.breed_bd hb
 have q1:=Go.Proofs.Ytiigiflofnjilaa.Cm.toil_bd (x:=b.burn.lo) hm (by omega) (by omega)
 have q2:=Go.Proofs.Ytiigiflofnjilaa.Cm.toil_bd (x:=b.burn.hi) hm (by omega) (by omega)
 have r1:0<=(b.burn.lo * Yp m).tdiv 100000/\(b.burn.lo * Yp m).tdiv 100000<=26400000:=by
  rw [Int.tdiv_eq_ediv_of_nonneg q1.1];omega
 have r2:0<=upF (b.burn.hi * Yp m) 100000/\upF (b.burn.hi * Yp m) 100000<=26400001:=by
  unfold upF;rw [Int.tdiv_eq_ediv_of_nonneg (by omega)];omega
 simp only [Vj]
 omega
end Go.Azalai
namespace Go.Proofs.Ytiigiflofnjilaa.Cm
open Go Go.Sx Go.Azalai
theorem ZwL (b:Breed) (c:Camel) (m:March) (hb:ZG b=true) (hc:ZB b c=true) (hm:Yd m=true) (hd:(YJ b c m).2≠2) :
 Ct Try.prog 99 [.agg (Yo b c),.agg (YQ m)] (.tup [.agg (Yo b (YJ b c m).1),.v (.int .u8 (YJ b c m).2)]):=by
 have h1:=breed_bd hb
 have h2:=camel_bd hb hc
 have h3:=march_bd hm
 have w1:=Zcr (k:=c.milks) hb hm
 have w2:=Zch hb hm
 have k0:=VZ (a:=m.hours) (b:=m.load) (A:=24) (B:=1000000) (by omega) (by omega) (by omega) (by omega)
 have k1:=VZ (a:=b.rub.lo) (b:=m.hours * m.load) (A:=100000) (B:=24000000) (by omega) (by omega) (by omega) (by omega)
 have k2:=VZ (a:=b.rub.hi) (b:=m.hours * m.load) (A:=100000) (B:=24000000) (by omega) (by omega) (by omega) (by omega)
 have k3:=XZ k1.1 k1.2 (d:=1000000) (by omega)
 have k4:=ZiG k2.1 k2.2 (d:=1000000) (by omega)
 refine t99.1 (by simp [Yo,YQ,KFL,KF]) (by simp [Yo,KFL,KF]) ?_
 dsimp only [c99,r99,Yo,YQ,go_sem,rA,rM,rS]
 refine call (Zj3 b c.milks m hb hm) ?_
 dsimp only [go_sem,rA,rM,rS]
 generalize hW:WS b c.milks m=W at w1
 generalize hF:Vj b m=F at w2
 have hd':W.lo<=c.water.hi/\F.lo<=c.fat.hi:=by
  by_cases h:c.water.hi < W.lo\/c.fat.hi < F.lo
  . exact absurd (by simp only [YJ,hW,hF,if_pos h]) hd
  . omega
 clear hd
 have k5:=VZ (a:=b.rub.hi) (b:=m.hours) (A:=100000) (B:=24) (by omega) (by omega) (by omega) (by omega)
 have k6:b.rub.hi * m.hours * m.load<=100000000000000:=by rw [Int.mul_assoc];omega
 have hd0:¬ (c.water.hi < W.lo\/c.fat.hi < F.lo):=by omega
 by_cases hp:c.water.lo < W.hi<;>by_cases hq:c.fat.lo < F.hi
 . refine Y4 3 ?_
   dsimp only [Zb,go_sem,rA,rM,rS]
   refine Zt (by decide) ?_
   dsimp only [Zb,go_sem,rA,rM,rS]
   repeat (first | (refine ixa 0 rfl (by decide) ?_;dsimp only [Zb,go_sem,rA,rM,rS]) | (refine Zv (by simp;omega) ?_;dsimp only [Zb,go_sem,rA,rM,rS]) | (refine Zt (by simp;omega) ?_;dsimp only [Zb,go_sem,rA,rM,rS]))
   simp (disch:=omega) only [Zi]
   refine call (Vy ⟨max 0 (c.water.lo - W.hi),c.water.hi - W.lo⟩ m.drinks _ (by unfold bdS;simp only;omega) (by unfold bdS;omega)) ?_
   dsimp only [Zb,Zd,go_sem,rA,rM,rS]
   repeat (first | (refine ixa 0 rfl (by decide) ?_;dsimp only [Zb,go_sem,rA,rM,rS]) | (refine Zv (by simp;omega) ?_;dsimp only [Zb,go_sem,rA,rM,rS]) | (refine Zt (by simp;omega) ?_;dsimp only [Zb,go_sem,rA,rM,rS]))
   simp (disch:=omega) only [Zi]
   refine Zt (by decide) ?_
   dsimp only [Zb,go_sem,rA,rM,rS]
   repeat (first | (refine ixa 1 rfl (by decide) ?_;dsimp only [Zb,go_sem,rA,rM,rS]) | (refine Zv (by simp;omega) ?_;dsimp only [Zb,go_sem,rA,rM,rS]) | (refine Zt (by simp;omega) ?_;dsimp only [Zb,go_sem,rA,rM,rS]))
   simp (disch:=omega) only [Zi]
   refine call (Vy ⟨max 0 (c.fat.lo - F.hi),c.fat.hi - F.lo⟩ m.grass _ (by unfold bdS;simp only;omega) (by unfold bdS;omega)) ?_
   dsimp only [Zb,Zd,go_sem,rA,rM,rS]
   repeat (first | (refine ixa 1 rfl (by decide) ?_;dsimp only [Zb,go_sem,rA,rM,rS]) | (refine Zv (by simp;omega) ?_;dsimp only [Zb,go_sem,rA,rM,rS]) | (refine Zt (by simp;omega) ?_;dsimp only [Zb,go_sem,rA,rM,rS]))
   refine Zv (by decide) ?_
   dsimp only [go_sem,rA,rM,rS]
   have e:(if c.water.lo ≥ W.hi/\c.fat.lo ≥ F.hi then (0:Int) else 1)=1:=if_neg (by omega)
   by_cases hz:m.hours=0
   . refine Zt (by simpa using hz) ?_
     dsimp only [go_sem,rA,rM,rS]
     simp (disch:=omega) only [Zi]
     simp only [YJ,hW,hF,if_neg hd0,Zbh,Zbs,Yo,e,if_pos hz]
   . refine Zv (by simpa using hz) ?_
     dsimp only [go_sem,rA,rM,rS]
     refine call (Uh b.rub 1000000 m.hours m.load 0 _ (by omega) (by omega) (by omega) (by omega) (by omega) k6 (by omega) (by omega)) ?_
     dsimp only [Zd,go_sem,rA,rM,rS]
     simp only [Int.mul_assoc]
     refine call (Vy c.sore ⟨(b.rub.lo * (m.hours * m.load)).tdiv 1000000,upF (b.rub.hi * (m.hours * m.load)) 1000000⟩ _ (by unfold bdS;omega) (by unfold bdS;simp only;omega)) ?_
     dsimp only [Zd,go_sem,rA,rM,rS]
     simp only [YJ,hW,hF,if_neg hd0,Zbh,Zbs,Yo,e,if_neg hz]
 . refine Y4 3 ?_
   dsimp only [Zb,go_sem,rA,rM,rS]
   refine Zt (by decide) ?_
   dsimp only [Zb,go_sem,rA,rM,rS]
   repeat (first | (refine ixa 0 rfl (by decide) ?_;dsimp only [Zb,go_sem,rA,rM,rS]) | (refine Zv (by simp;omega) ?_;dsimp only [Zb,go_sem,rA,rM,rS]) | (refine Zt (by simp;omega) ?_;dsimp only [Zb,go_sem,rA,rM,rS]))
   simp (disch:=omega) only [Zi]
   refine call (Vy ⟨max 0 (c.water.lo - W.hi),c.water.hi - W.lo⟩ m.drinks _ (by unfold bdS;simp only;omega) (by unfold bdS;omega)) ?_
   dsimp only [Zb,Zd,go_sem,rA,rM,rS]
   repeat (first | (refine ixa 0 rfl (by decide) ?_;dsimp only [Zb,go_sem,rA,rM,rS]) | (refine Zv (by simp;omega) ?_;dsimp only [Zb,go_sem,rA,rM,rS]) | (refine Zt (by simp;omega) ?_;dsimp only [Zb,go_sem,rA,rM,rS]))
   simp (disch:=omega) only [Zi]
   refine Zt (by decide) ?_
   dsimp only [Zb,go_sem,rA,rM,rS]
   repeat (first | (refine ixa 1 rfl (by decide) ?_;dsimp only [Zb,go_sem,rA,rM,rS]) | (refine Zv (by simp;omega) ?_;dsimp only [Zb,go_sem,rA,rM,rS]) | (refine Zt (by simp;omega) ?_;dsimp only [Zb,go_sem,rA,rM,rS]))
   simp (disch:=omega) only [Zi]
   refine call (Vy ⟨max 0 (c.fat.lo - F.hi),c.fat.hi - F.lo⟩ m.grass _ (by unfold bdS;simp only;omega) (by unfold bdS;omega)) ?_
   dsimp only [Zb,Zd,go_sem,rA,rM,rS]
   repeat (first | (refine ixa 1 rfl (by decide) ?_;dsimp only [Zb,go_sem,rA,rM,rS]) | (refine Zv (by simp;omega) ?_;dsimp only [Zb,go_sem,rA,rM,rS]) | (refine Zt (by simp;omega) ?_;dsimp only [Zb,go_sem,rA,rM,rS]))
   refine Zv (by decide) ?_
   dsimp only [go_sem,rA,rM,rS]
   have e:(if c.water.lo ≥ W.hi/\c.fat.lo ≥ F.hi then (0:Int) else 1)=1:=if_neg (by omega)
   by_cases hz:m.hours=0
   . refine Zt (by simpa using hz) ?_
     dsimp only [go_sem,rA,rM,rS]
     simp (disch:=omega) only [Zi]
     simp only [YJ,hW,hF,if_neg hd0,Zbh,Zbs,Yo,e,if_pos hz]
   . refine Zv (by simpa using hz) ?_
     dsimp only [go_sem,rA,rM,rS]
     refine call (Uh b.rub 1000000 m.hours m.load 0 _ (by omega) (by omega) (by omega) (by omega) (by omega) k6 (by omega) (by omega)) ?_
     dsimp only [Zd,go_sem,rA,rM,rS]
     simp only [Int.mul_assoc]
     refine call (Vy c.sore ⟨(b.rub.lo * (m.hours * m.load)).tdiv 1000000,upF (b.rub.hi * (m.hours * m.load)) 1000000⟩ _ (by unfold bdS;omega) (by unfold bdS;simp only;omega)) ?_
     dsimp only [Zd,go_sem,rA,rM,rS]
     simp only [YJ,hW,hF,if_neg hd0,Zbh,Zbs,Yo,e,if_neg hz]
 . refine Y4 3 ?_
   dsimp only [Zb,go_sem,rA,rM,rS]
   refine Zt (by decide) ?_
   dsimp only [Zb,go_sem,rA,rM,rS]
   repeat (first | (refine ixa 0 rfl (by decide) ?_;dsimp only [Zb,go_sem,rA,rM,rS]) | (refine Zv (by simp;omega) ?_;dsimp only [Zb,go_sem,rA,rM,rS]) | (refine Zt (by simp;omega) ?_;dsimp only [Zb,go_sem,rA,rM,rS]))
   simp (disch:=omega) only [Zi]
   refine call (Vy ⟨max 0 (c.water.lo - W.hi),c.water.hi - W.lo⟩ m.drinks _ (by unfold bdS;simp only;omega) (by unfold bdS;omega)) ?_
   dsimp only [Zb,Zd,go_sem,rA,rM,rS]
   repeat (first | (refine ixa 0 rfl (by decide) ?_;dsimp only [Zb,go_sem,rA,rM,rS]) | (refine Zv (by simp;omega) ?_;dsimp only [Zb,go_sem,rA,rM,rS]) | (refine Zt (by simp;omega) ?_;dsimp only [Zb,go_sem,rA,rM,rS]))
   simp (disch:=omega) only [Zi]
   refine Zt (by decide) ?_
   dsimp only [Zb,go_sem,rA,rM,rS]
   repeat (first | (refine ixa 1 rfl (by decide) ?_;dsimp only [Zb,go_sem,rA,rM,rS]) | (refine Zv (by simp;omega) ?_;dsimp only [Zb,go_sem,rA,rM,rS]) | (refine Zt (by simp;omega) ?_;dsimp only [Zb,go_sem,rA,rM,rS]))
   simp (disch:=omega) only [Zi]
   refine call (Vy ⟨max 0 (c.fat.lo - F.hi),c.fat.hi - F.lo⟩ m.grass _ (by unfold bdS;simp only;omega) (by unfold bdS;omega)) ?_
   dsimp only [Zb,Zd,go_sem,rA,rM,rS]
   repeat (first | (refine ixa 1 rfl (by decide) ?_;dsimp only [Zb,go_sem,rA,rM,rS]) | (refine Zv (by simp;omega) ?_;dsimp only [Zb,go_sem,rA,rM,rS]) | (refine Zt (by simp;omega) ?_;dsimp only [Zb,go_sem,rA,rM,rS]))
   refine Zv (by decide) ?_
   dsimp only [go_sem,rA,rM,rS]
   have e:(if c.water.lo ≥ W.hi/\c.fat.lo ≥ F.hi then (0:Int) else 1)=1:=if_neg (by omega)
   by_cases hz:m.hours=0
   . refine Zt (by simpa using hz) ?_
     dsimp only [go_sem,rA,rM,rS]
     simp (disch:=omega) only [Zi]
     simp only [YJ,hW,hF,if_neg hd0,Zbh,Zbs,Yo,e,if_pos hz]
   . refine Zv (by simpa using hz) ?_
     dsimp only [go_sem,rA,rM,rS]
     refine call (Uh b.rub 1000000 m.hours m.load 0 _ (by omega) (by omega) (by omega) (by omega) (by omega) k6 (by omega) (by omega)) ?_
     dsimp only [Zd,go_sem,rA,rM,rS]
     simp only [Int.mul_assoc]
     refine call (Vy c.sore ⟨(b.rub.lo * (m.hours * m.load)).tdiv 1000000,upF (b.rub.hi * (m.hours * m.load)) 1000000⟩ _ (by unfold bdS;omega) (by unfold bdS;simp only;omega)) ?_
     dsimp only [Zd,go_sem,rA,rM,rS]
     simp only [YJ,hW,hF,if_neg hd0,Zbh,Zbs,Yo,e,if_neg hz]
 . refine Y4 3 ?_
   dsimp only [Zb,go_sem,rA,rM,rS]
   refine Zt (by decide) ?_
   dsimp only [Zb,go_sem,rA,rM,rS]
   repeat (first | (refine ixa 0 rfl (by decide) ?_;dsimp only [Zb,go_sem,rA,rM,rS]) | (refine Zv (by simp;omega) ?_;dsimp only [Zb,go_sem,rA,rM,rS]) | (refine Zt (by simp;omega) ?_;dsimp only [Zb,go_sem,rA,rM,rS]))
   simp (disch:=omega) only [Zi]
   refine call (Vy ⟨max 0 (c.water.lo - W.hi),c.water.hi - W.lo⟩ m.drinks _ (by unfold bdS;simp only;omega) (by unfold bdS;omega)) ?_
   dsimp only [Zb,Zd,go_sem,rA,rM,rS]
   repeat (first | (refine ixa 0 rfl (by decide) ?_;dsimp only [Zb,go_sem,rA,rM,rS]) | (refine Zv (by simp;omega) ?_;dsimp only [Zb,go_sem,rA,rM,rS]) | (refine Zt (by simp;omega) ?_;dsimp only [Zb,go_sem,rA,rM,rS]))
   simp (disch:=omega) only [Zi]
   refine Zt (by decide) ?_
   dsimp only [Zb,go_sem,rA,rM,rS]
   repeat (first | (refine ixa 1 rfl (by decide) ?_;dsimp only [Zb,go_sem,rA,rM,rS]) | (refine Zv (by simp;omega) ?_;dsimp only [Zb,go_sem,rA,rM,rS]) | (refine Zt (by simp;omega) ?_;dsimp only [Zb,go_sem,rA,rM,rS]))
   simp (disch:=omega) only [Zi]
   refine call (Vy ⟨max 0 (c.fat.lo - F.hi),c.fat.hi - F.lo⟩ m.grass _ (by unfold bdS;simp only;omega) (by unfold bdS;omega)) ?_
   dsimp only [Zb,Zd,go_sem,rA,rM,rS]
   repeat (first | (refine ixa 1 rfl (by decide) ?_;dsimp only [Zb,go_sem,rA,rM,rS]) | (refine Zv (by simp;omega) ?_;dsimp only [Zb,go_sem,rA,rM,rS]) | (refine Zt (by simp;omega) ?_;dsimp only [Zb,go_sem,rA,rM,rS]))
   refine Zv (by decide) ?_
   dsimp only [go_sem,rA,rM,rS]
   have e:(if c.water.lo ≥ W.hi/\c.fat.lo ≥ F.hi then (0:Int) else 1)=0:=if_pos (by omega)
   by_cases hz:m.hours=0
   . refine Zt (by simpa using hz) ?_
     dsimp only [go_sem,rA,rM,rS]
     simp (disch:=omega) only [Zi]
     simp only [YJ,hW,hF,if_neg hd0,Zbh,Zbs,Yo,e,if_pos hz]
   . refine Zv (by simpa using hz) ?_
     dsimp only [go_sem,rA,rM,rS]
     refine call (Uh b.rub 1000000 m.hours m.load 0 _ (by omega) (by omega) (by omega) (by omega) (by omega) k6 (by omega) (by omega)) ?_
     dsimp only [Zd,go_sem,rA,rM,rS]
     simp only [Int.mul_assoc]
     refine call (Vy c.sore ⟨(b.rub.lo * (m.hours * m.load)).tdiv 1000000,upF (b.rub.hi * (m.hours * m.load)) 1000000⟩ _ (by unfold bdS;omega) (by unfold bdS;simp only;omega)) ?_
     dsimp only [Zd,go_sem,rA,rM,rS]
     simp only [YJ,hW,hF,if_neg hd0,Zbh,Zbs,Yo,e,if_neg hz]
end Go.Proofs.Ytiigiflofnjilaa.Cm
namespace Go.Azalai
theorem ZdD {x y d:Int} (hd:1<=d) (h0:0<=x) (h:x<=y):x.tdiv d<=upF y d:=by
 unfold upF
 rw [Int.tdiv_eq_ediv_of_nonneg h0,Int.tdiv_eq_ediv_of_nonneg (by omega)]
 exact Int.ediv_le_ediv (by omega) (by omega)
theorem Zne {b:Breed} {k:Bool} {m:March} (hb:ZG b=true) (hm:Yd m=true):(WS b k m).lo<=(WS b k m).hi:=by
 have h:=Go.Proofs.Ytiigiflofnjilaa.Cm.breed_bd hb
 have h2:=Go.Proofs.Ytiigiflofnjilaa.Cm.march_bd hm
 have hw:=Go.Proofs.Ytiigiflofnjilaa.Cm.work_bd hm
 have q1:(b.toil.lo * Yp m).tdiv 100000<=upF (b.toil.hi * Yp m) 100000:=ZdD (by omega) (Int.mul_nonneg (by omega) hw.1) (Int.mul_le_mul_of_nonneg_right (by omega) hw.1)
 have q2:b.heat.lo * max 0 (m.heat.lo - 20)<=b.heat.hi * max 0 (m.heat.hi - 20):=Int.mul_le_mul (by omega) (by omega) (by omega) (by omega)
 simp only [WS]
 cases k<;>simp<;>omega
theorem Znm {b:Breed} {m:March} (hb:ZG b=true) (hm:Yd m=true):(Vj b m).lo<=(Vj b m).hi:=by
 have h:=Go.Proofs.Ytiigiflofnjilaa.Cm.breed_bd hb
 have hw:=Go.Proofs.Ytiigiflofnjilaa.Cm.work_bd hm
 exact ZdD (by omega) (Int.mul_nonneg (by omega) hw.1) (Int.mul_le_mul_of_nonneg_right (by omega) hw.1)
theorem after_ok {b:Breed} {c:Camel} {m:March} (hb:ZG b=true) (hc:ZB b c=true) (hm:Yd m=true) (hd:(YJ b c m).2≠2):ZB b (YJ b c m).1=true:=by
 have h1:=Go.Proofs.Ytiigiflofnjilaa.Cm.breed_bd hb
 have h2:=Go.Proofs.Ytiigiflofnjilaa.Cm.camel_bd hb hc
 have h3:=Go.Proofs.Ytiigiflofnjilaa.Cm.march_bd hm
 have w1:=Zcr (k:=c.milks) hb hm
 have w2:=Zch hb hm
 have hlo:(WS b c.milks m).lo<=(WS b c.milks m).hi:=Zne hb hm
 have hlf:(Vj b m).lo<=(Vj b m).hi:=Znm hb hm
 have hr:(b.rub.lo * (m.hours * m.load)).tdiv 1000000<=upF (b.rub.hi * (m.hours * m.load)) 1000000 :=
  ZdD (by omega) (Int.mul_nonneg (by omega) (Int.mul_nonneg (by omega) (by omega))) (Int.mul_le_mul_of_nonneg_right (by omega) (Int.mul_nonneg (by omega) (by omega)))
 have hr0:0<=(b.rub.lo * (m.hours * m.load)).tdiv 1000000 :=
  Int.tdiv_nonneg (Int.mul_nonneg (by omega) (Int.mul_nonneg (by omega) (by omega))) (by omega)
 unfold YJ at hd ⊢
 simp only at hd ⊢
 split at hd
 . exact absurd rfl hd
 . rename_i h
   rw [if_neg h]
   simp only [ZB,Yt,Zbh,Zbs,Bool.and_eq_true,decide_eq_true_eq]
   by_cases hz:m.hours=0
   . simp only [if_pos hz,Bool.and_eq_true,decide_eq_true_eq]
     refine ⟨⟨decide_eq_true ⟨by omega,by omega,by omega⟩,decide_eq_true ⟨by omega,by omega,by omega⟩⟩,by omega,by omega,by omega⟩
   . simp only [if_neg hz,Bool.and_eq_true,decide_eq_true_eq]
     refine ⟨⟨decide_eq_true ⟨by omega,by omega,by omega⟩,decide_eq_true ⟨by omega,by omega,by omega⟩⟩,by omega,by omega,by omega⟩
end Go.Azalai
namespace Go.Proofs.Ytiigiflofnjilaa.Cm
open Go Go.Sx Go.Azalai
end Go.Proofs.Ytiigiflofnjilaa.Cm
namespace Go.Azalai
end Go.Azalai
namespace Go.Proofs.Ytiigiflofnjilaa.Cm
open Go Go.Sx Go.Azalai
theorem ZnY (b:Breed) (c:Camel) (m:March) (hb:ZG b=true) (hc:ZB b c=true) (hm:Yd m=true) (hd:(YJ b c m).2=2) :
 Ct Try.prog 99 [.agg (Yo b c),.agg (YQ m)] (.tup [.agg (Yo ⟨0,0,⟨0,0⟩,⟨0,0⟩,⟨0,0⟩,⟨0,0⟩,⟨0,0⟩,⟨0,0⟩,0,⟨0,0⟩⟩ Xa),.v (.int .u8 2)]):=by
 have h1:=breed_bd hb
 have h2:=camel_bd hb hc
 have h3:=march_bd hm
 have w1:=Zcr (k:=c.milks) hb hm
 have w2:=Zch hb hm
 refine t99.1 (by simp [Yo,YQ,KFL,KF]) (by simp [Yo,Xa,KFL,KF]) ?_
 dsimp only [c99,r99,Yo,YQ,go_sem,rA,rM,rS]
 refine call (Zj3 b c.milks m hb hm) ?_
 dsimp only [go_sem,rA,rM,rS]
 generalize hW:WS b c.milks m=W at w1
 generalize hF:Vj b m=F at w2
 have hd':c.water.hi < W.lo\/c.fat.hi < F.lo:=by
  by_cases h:c.water.hi < W.lo\/c.fat.hi < F.lo
  . exact h
  . simp only [YJ,hW,hF,if_neg h] at hd
    split at hd<;>cases hd
 by_cases hw:c.water.hi < W.lo
 . refine Y4 3 ?_
   dsimp only [Zb,go_sem,rA,rM,rS]
   refine Zt (by decide) ?_
   dsimp only [Zb,go_sem,rA,rM,rS]
   repeat (first | (refine ixa 0 rfl (by decide) ?_;dsimp only [Zb,go_sem,rA,rM,rS]) | (refine Zt (by simp;omega) ?_;dsimp only [Zb,Xa,go_sem,rA,rM,rS]))
 . have hf:c.fat.hi < F.lo:=by omega
   by_cases hp:c.water.lo < W.hi
   . refine Y4 3 ?_
     dsimp only [Zb,go_sem,rA,rM,rS]
     refine Zt (by decide) ?_
     dsimp only [Zb,go_sem,rA,rM,rS]
     repeat (first | (refine ixa 0 rfl (by decide) ?_;dsimp only [Zb,go_sem,rA,rM,rS]) | (refine Zv (by simp;omega) ?_;dsimp only [Zb,go_sem,rA,rM,rS]) | (refine Zt (by simp;omega) ?_;dsimp only [Zb,go_sem,rA,rM,rS]))
     simp (disch:=omega) only [Zi]
     refine call (Vy ⟨max 0 (c.water.lo - W.hi),c.water.hi - W.lo⟩ m.drinks _ (by unfold bdS;simp only;omega) (by unfold bdS;omega)) ?_
     dsimp only [Zb,Zd,go_sem,rA,rM,rS]
     repeat (first | (refine ixa 0 rfl (by decide) ?_;dsimp only [Zb,go_sem,rA,rM,rS]) | (refine Zv (by simp;omega) ?_;dsimp only [Zb,go_sem,rA,rM,rS]) | (refine Zt (by simp;omega) ?_;dsimp only [Zb,go_sem,rA,rM,rS]))
     simp (disch:=omega) only [Zi]
     refine Zt (by decide) ?_
     dsimp only [Zb,go_sem,rA,rM,rS]
     repeat (first | (refine ixa 1 rfl (by decide) ?_;dsimp only [Zb,go_sem,rA,rM,rS]) | (refine Zt (by simp;omega) ?_;dsimp only [Zb,Xa,go_sem,rA,rM,rS]))
   . refine Y4 3 ?_
     dsimp only [Zb,go_sem,rA,rM,rS]
     refine Zt (by decide) ?_
     dsimp only [Zb,go_sem,rA,rM,rS]
     repeat (first | (refine ixa 0 rfl (by decide) ?_;dsimp only [Zb,go_sem,rA,rM,rS]) | (refine Zv (by simp;omega) ?_;dsimp only [Zb,go_sem,rA,rM,rS]) | (refine Zt (by simp;omega) ?_;dsimp only [Zb,go_sem,rA,rM,rS]))
     simp (disch:=omega) only [Zi]
     refine call (Vy ⟨max 0 (c.water.lo - W.hi),c.water.hi - W.lo⟩ m.drinks _ (by unfold bdS;simp only;omega) (by unfold bdS;omega)) ?_
     dsimp only [Zb,Zd,go_sem,rA,rM,rS]
     repeat (first | (refine ixa 0 rfl (by decide) ?_;dsimp only [Zb,go_sem,rA,rM,rS]) | (refine Zv (by simp;omega) ?_;dsimp only [Zb,go_sem,rA,rM,rS]) | (refine Zt (by simp;omega) ?_;dsimp only [Zb,go_sem,rA,rM,rS]))
     simp (disch:=omega) only [Zi]
     refine Zt (by decide) ?_
     dsimp only [Zb,go_sem,rA,rM,rS]
     repeat (first | (refine ixa 1 rfl (by decide) ?_;dsimp only [Zb,go_sem,rA,rM,rS]) | (refine Zt (by simp;omega) ?_;dsimp only [Zb,Xa,go_sem,rA,rM,rS]))
end Go.Proofs.Ytiigiflofnjilaa.Cm
namespace Go.Azalai
def Xo (b:Breed) (c:Camel) (m:March):Camel × Int × Int :=
 if ZcA b c≠0 then (Xa,0,ZcA b c) else if Yd m=false then (Xa,0,12) else if (YJ b c m).2=2 then (Xa,0,13) else ((YJ b c m).1,(YJ b c m).2,0)
end Go.Azalai
namespace Go.Proofs.Ytiigiflofnjilaa.Cm
open Go Go.Sx Go.Azalai
def U8 (n:Int):SV:=.v (.int .u8 n)
theorem after1_ok (b:Breed) (c:Camel) (m:March):Ct Try.prog 90 [.agg (XH b),.agg (camelL c),.agg (YQ m)] (.tup [.agg (camelL (Xo b c m).1),U8 (Xo b c m).2.1,I (Xo b c m).2.2]):=by
 refine t90.1 (by simp [XH,camelL,YQ,KFL,KF]) (by simp [camelL,U8,KFL,KF]) ?_
 dsimp only [c90,r90,XH,camelL,YQ,go_sem,rA,rM,rS]
 refine call (checkCamel_ok b c) ?_
 dsimp only [go_sem,rA,rM,rS]
 by_cases h0:ZcA b c=0
 case neg =>
  refine Zt (by simpa using h0) ?_
  dsimp only [go_sem,rA,rM,rS]
  simp [Xo,h0,Xa,U8,camelL]
 refine Zv (by simpa using h0) ?_
 dsimp only [go_sem,rA,rM,rS]
 obtain ⟨hb,hc⟩:=errC_0.1 h0
 refine call (Zja m true) ?_
 dsimp only [go_sem,rA,rM,rS]
 by_cases hm:Yd m=true
 case neg =>
  refine Zt (by simp [hm]) ?_
  dsimp only [go_sem,rA,rM,rS]
  simp [Xo,h0,hm,Xa,U8,camelL]
 refine Zv (by simp [hm]) ?_
 dsimp only [go_sem,rA,rM,rS]
 by_cases hd:(YJ b c m).2=2
 . refine call (ZnY b c m hb hc hm hd) ?_
   dsimp only [Yo,Xa,go_sem,rA,rM,rS]
   refine Zt (by decide) ?_
   dsimp only [go_sem,rA,rM,rS]
   simp [Xo,h0,hm,hd,Xa,U8,camelL]
 refine call (ZwL b c m hb hc hm hd) ?_
 dsimp only [Yo,go_sem,rA,rM,rS]
 refine Zv (by simpa using hd) ?_
 dsimp only [go_sem,rA,rM,rS]
 simp [Xo,h0,hm,hd,U8,camelL]
end Go.Proofs.Ytiigiflofnjilaa.Cm
namespace Go.Proofs.Ytiigiflofnjilaa
open Go Go.Sx Go.Azalai
end Go.Proofs.Ytiigiflofnjilaa
namespace Go.Azalai
def Z2 (p:Span):Bool:=Yt 1 100000 p
def UU (l:Land) (p:Span):Int:=if Yf l=false then 30 else if Z2 p=false then 31 else 0
def Zby (x:Leg) (p:Span):Span:=⟨(x.long.lo+p.hi - 1).tdiv p.hi,(x.long.hi+p.lo - 1).tdiv p.lo⟩
def UW (n day:Int) (o s:Gate->Int):List Gate->Int
 | []=>100001
 | g :: r=>if max day (o g)+n - 1<=s g then max day (o g) else UW n day o s r
def Zcz (n day:Int) (o s:Gate->Int) (acc:Int):List Gate->Int
 | []=>acc
 | g :: r=>Zcz n day o s (if max day (o g)+n - 1<=s g then min (min acc (max day (o g))) 100001 else acc) r
def ZuI (x:Leg) (p:Span) (day:Int):Int:=UW (Zby x p).lo day (·.opens.lo) (·.shuts.hi) x.gates
def Zq2 (x:Leg) (p:Span) (day:Int):Int:=UW (Zby x p).hi day (·.opens.hi) (·.shuts.lo) x.gates
def XP (l:Land) (leg:Int) (p:Span):Span × Int :=
 if UU l p≠0 then (⟨0,0⟩,UU l p)
 else if inR 0 (l.legs.length - 1) leg=false then (⟨0,0⟩,2)
 else match l.legs[leg.toNat]? with
  | some x=>(Zby x p,0)
  | none=>(⟨0,0⟩,0)
structure GoodLeg (x:Leg):Prop where
 l1:1<=x.long.lo
 l2:x.long.lo<=x.long.hi
 l3:x.long.hi<=1000000
 g1:x.gates.length<=6
 g2:Y7 0 x.gates=true
theorem Xz {l:Land} (h:Yf l=true):∀ x ∈ l.legs,GoodLeg x:=by
 simp only [Yf,Bool.and_eq_true,List.all_eq_true] at h
 intro x hx
 have:=h.2 x hx
 simp only [Zba,Yt,Bool.and_eq_true,decide_eq_true_eq] at this
 exact ⟨by omega,by omega,by omega,by omega,this.2⟩
theorem Y8:∀ {l:List Gate} {next:Int},Y7 next l=true->0<=next->∀ g ∈ l,0<=g.opens.lo/\g.opens.lo<=g.opens.hi/\g.opens.hi<=100000/\0<=g.shuts.lo/\g.shuts.lo<=g.shuts.hi/\g.shuts.hi<=100000/\next<=g.opens.lo
 | [],_,_,_,g,hg=>by simp at hg
 | x :: l,next,h,h0,g,hg=>by
  simp only [Y7,Yt,inR,Bool.and_eq_true,decide_eq_true_eq] at h
  rcases List.mem_cons.1 hg with rfl | hg
  . omega
  . have:=Y8 h.2 (by omega) g hg;omega
theorem Zcm {n day:Int} {o s:Gate->Int} (hn:1<=n) (ho:∀ g,(0<=g.opens.lo/\g.opens.lo<=g.opens.hi/\g.opens.hi<=100000/\0<=g.shuts.lo/\g.shuts.lo<=g.shuts.hi/\g.shuts.hi<=100000)->g.opens.lo<=o g/\s g<=g.shuts.hi) :
 ∀ {l:List Gate} {next acc:Int},Y7 next l=true->0<=next->acc<=100001->Zcz n day o s acc l=min acc (UW n day o s l)
 | [],next,acc,_,_,ha=>by simp only [Zcz,UW];omega
 | x :: l,next,acc,h,h0,ha=>by
  have hm:=Y8 h h0 x (by simp)
  simp only [Y7,Yt,inR,Bool.and_eq_true,decide_eq_true_eq] at h
  have h1:=ho x ⟨hm.1,hm.2.1,hm.2.2.1,hm.2.2.2.1,hm.2.2.2.2.1,hm.2.2.2.2.2.1⟩
  have hrest:∀ (l:List Gate),(∀ g ∈ l,x.shuts.hi+1<=o g)->x.shuts.hi+1<=UW n day o s l:=fun l=>by
   induction l with
   | nil=>intro _;simp only [UW];omega
   | cons g l ih=>intro hg;simp only [UW];have:=hg g (by simp);have:=ih (fun g' h'=>hg g' (by simp [h']));split<;>omega
  have hr:=hrest l (fun g hg=>by
   have q:=Y8 h.2 (by omega) g hg
   have:=ho g ⟨q.1,q.2.1,q.2.2.1,q.2.2.2.1,q.2.2.2.2.1,q.2.2.2.2.2.1⟩
   omega)
  simp only [Zcz,UW]
  rw [Zcm hn ho h.2 (by omega) (by split<;>omega)]
  repeat' split
  all_goals first | rfl | omega
theorem day_bd {x:Leg} {p:Span} (h:GoodLeg x) (hp:Z2 p=true):1<=(Zby x p).lo/\(Zby x p).lo<=1000000/\1<=(Zby x p).hi/\(Zby x p).hi<=1000000:=by
 simp only [Z2,Yt,decide_eq_true_eq] at hp
 obtain ⟨p1,p2,p3⟩:=hp
 obtain ⟨h1,h2,h3,_,_⟩:=h
 simp only [Zby]
 have key:∀ a b:Int,1<=a->a<=1000000->1<=b->1<=(a+b - 1).tdiv b/\(a+b - 1).tdiv b<=1000000:=fun a b ha ha2 hb=>by
  rw [Int.tdiv_eq_ediv_of_nonneg (by omega)]
  constructor
  . exact Int.le_ediv_of_mul_le (by omega) (by omega)
  . refine Int.le_of_lt_add_one (Int.ediv_lt_of_lt_mul (by omega) ?_)
    have:1 * a<=b * a:=Int.mul_le_mul_of_nonneg_right hb (by omega)
    have e:(1000000+1) * b=b * 1000000+b:=by rw [Int.add_mul];omega
    have:b * a<=b * 1000000:=Int.mul_le_mul_of_nonneg_left ha2 (by omega)
    rw [e]
    have:=Int.mul_le_mul_of_nonneg_left ha2 (show (0:Int)<=b - 1 by omega)
    have q:(b - 1) * a=b * a - a:=by rw [Int.sub_mul];omega
    have q2:(b - 1) * 1000000=b * 1000000 - 1000000:=by rw [Int.sub_mul];omega
    omega
 exact ⟨(key _ _ h1 (by omega) (by omega)).1,(key _ _ h1 (by omega) (by omega)).2,(key _ _ (by omega) h3 p1).1,(key _ _ (by omega) h3 p1).2⟩
end Go.Azalai
namespace Go.Proofs.Ytiigiflofnjilaa
open Go Go.Sx Go.Azalai
def sres (r:Span × Int):SV:=.tup [.agg (Zd r.1),I r.2]
theorem Zrc {l:Land} {leg:Int} (h:inR 0 (l.legs.length - 1) leg=true):∃ (k:Nat) (hk:k < l.legs.length),leg=(k:Int)/\l.legs[leg.toNat]? = some l.legs[k]:=by
 simp only [inR,decide_eq_true_eq] at h
 refine ⟨leg.toNat,by omega,by omega,?_⟩
 rw [List.getElem?_eq_getElem (by omega)]
theorem ask0 {l:Land} {p:Span} (h:UU l p=0):Yf l=true/\Z2 p=true:=by
 unfold UU at h
 cases h1:Yf l<;>cases h2:Z2 p<;>simp_all
end Go.Proofs.Ytiigiflofnjilaa
